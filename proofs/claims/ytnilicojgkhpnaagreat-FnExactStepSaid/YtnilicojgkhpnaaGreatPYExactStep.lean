/-
  Plain laws. Nothing here is a claim.
-/
import Derived.Test.YtnilicojgkhpnaaGreatVZ
import Derived.Test.YtnilicojgkhpnaaGreatOpenV
import Derived.Test.YtnilicojgkhpnaaGreatG1
import Derived.Test.YtnilicojgkhpnaaGreatG2
import Derived.Test.YtnilicojgkhpnaaGreatG3
import Derived.Test.YtnilicojgkhpnaaGreatG4
import Derived.Test.YtnilicojgkhpnaaGreatG5
import Derived.Test.YtnilicojgkhpnaaGreatG6
import Derived.Test.YtnilicojgkhpnaaGreatG7
import Derived.Test.YtnilicojgkhpnaaGreatG8
import Derived.Test.YtnilicojgkhpnaaGreatG9
import Derived.Test.YtnilicojgkhpnaaGreatG10
import Derived.Test.YtnilicojgkhpnaaGreatG11
import Derived.Test.YtnilicojgkhpnaaGreatGX
namespace Go.Proofs.YtnilicojgkhpnaaGreat
set_option linter.defProp false
open Go.RowKit
set_option linter.unusedVariables false
set_option linter.unusedSimpArgs false
set_option maxRecDepth 100000
def aK{n:Int}(C:-9223372036854775808<=n:=by omega)(D:n<9223372036854775808:=by omega):W6 n=n:=by
 exact(IntKind.wrap_i64 n).trans (by omega)
def X6{α β:Type}{step:α -> ah (α⊕β)}(I:α -> Prop)(m:α -> Nat)(Q:β -> Prop)
  (h:∀x,I x -> (∃y,step x=some (.inl y)/\I y/\m y<m x) \/ ∃z,step x=some (.inr z)/\Q z):
  ∀(n:Nat) (x:α),I x -> m x<n -> ∃z,iter step n x=some z/\Q z
 |0,x,_,E=>by omega
 | n+1,x,L,E=>by
  unfold iter;rcases h x L with ⟨y,C,D,O⟩|⟨z,C,D⟩
  ·rw[C];exact X6 I m Q h n y D (by omega)
  ·simp_all
def ak{α β:Type}(x:α)(f:α->ah β):(some x).bind f=f x:=rfl
def fe{α β T:Type}{step:α -> ah (α⊕β)}(l:aa T)(q:T -> Bool)(S:Nat -> α)(D z:β)(fuel:Nat)(L:∀ k (h:k<l.length),step (S k)=some (bif q l[k]then .inl (S (k+1))else .inr D))(O:step (S l.length)=some (.inr z))(C:l.length<fuel):
  iter step fuel (S 0)=some (bif l.all q then z else D):=by
 have key:∀ (n i fuel:Nat),i+n=l.length -> n<fuel -> iter step fuel (S i)=some (bif (l.drop i).all q then z else D):=by
  intro n
  induction n with
  | zero=>
   intro i fuel hi C
   match fuel,C with
   | f+1,_=>
    have:i=l.length:=by omega
    subst this;unfold iter;simp_all
  | succ n U=>
   intro i fuel hi C
   match fuel,C with
   | f+1,C=>
    have E:i<l.length:=by omega
    unfold iter;rw[L i E,List.drop_eq_getElem_cons E,List.all_cons];cases q l[i]with
    |true=>grind
    |false=>rfl
 exact key l.length 0 fuel (by omega) C
def cm{α β:Type}{step:α -> ah (α⊕β)}(n:Nat)(S:Nat -> α)(z:β)(fuel:Nat)(E:∀ k,k<n -> step (S k)=some (.inl (S (k+1))))(D:step (S n)=some (.inr z))(C:n<fuel):iter step fuel (S 0)=some z:=by
 have key:∀ (m i fuel),i+m=n -> m<fuel -> iter step fuel (S i)=some z:=by
  intro m
  induction m with
  | zero=>
   intro i fuel hi C
   match fuel,C with
   | f+1,_=>
    have:i=n:=by omega
    subst this;unfold iter;rw[D]
  | succ m L=>
   intro i fuel hi C
   match fuel,C with
   | f+1,C=>
    unfold iter
    grind
 simp_all
def azj{α β:Type}{step:α -> ah (α⊕β)}(n:Nat)(I:Nat -> α -> Prop)(Q:β -> Prop){x:α}(fuel:Nat)(E:I 0 x)(O:∀ k,k<n -> ∀ x,I k x -> (∃ y,step x=some (.inl y)/\I (k+1) y) \/ ∃ z,step x=some (.inr z)/\Q z)(L:∀ x,I n x -> ∃ z,step x=some (.inr z)/\Q z)(C:n<fuel):∃ z,iter step fuel x=some z/\Q z:=by
 have key:∀ (m i fuel:Nat) (x:α),i+m=n -> m<fuel -> I i x -> ∃ z,iter step fuel x=some z/\Q z:=by
  intro m
  induction m with
  | zero=>
   intro i fuel x hi C D
   match fuel,C with
   | f+1,_=>
    have:i=n:=by omega
    subst this;have⟨z,T,U⟩:=L x D;unfold iter;simp_all
  | succ m Y=>
   intro i fuel x hi C D
   match fuel,C with
   | f+1,C=>
    unfold iter
    grind
 exact key n 0 fuel x (by omega) C E
def upto{α:Type}(f:α->α)(l:aa α)(i:Nat):aa α:=(l.take i).map f++l.drop i
def zm{α:Type}(f:α->α)(l:aa α)(i:Nat):(upto f l i).length=l.length:=by
 simp[upto];omega
def Rw{α:Type}(f:α->α)(l:aa α):upto f l 0=l:=by simp[upto]
def E1{α:Type}(f:α->α)(l:aa α):upto f l l.length=l.map f:=by simp[upto]
def E2{α:Type}(f:α -> α)(l:aa α)(i:Nat)(h:i<l.length)(C:i<(upto f l i).length):(upto f l i)[i]=l[i]:=by
 simp[upto]
 grind
def E3{α:Type}(f:α -> α)(l:aa α)(i:Nat)(h:i<l.length):(upto f l i).set i (f l[i])=upto f l (i+1):=by
 have C:min i l.length=i:=by omega
 have e:=List.drop_eq_getElem_cons h;simp only[upto];rw[List.set_append_right _ _ (by simp;omega),e,List.take_succ_eq_append_getElem h];simp only[List.map_append,List.map_cons,List.map_nil,List.length_map,List.length_take,C,Nat.sub_self,List.set_cons_zero,List.append_assoc,List.cons_append,List.nil_append]
def jF{x y:Int}(h:¬ x=y):(x==y)=false:=by simp[h]
def eU{x y:Int}(h:¬ x=y):(x != y)=true:=by simp[h]
def cM{n:Nat}(h:n<1073741824:=by omega):bD n=true:=decide_eq_true h
def bq{i:Nat}(h:i<4611686018427387904:=by omega):W6 ((i:Int)+1)=((i+1:Nat):Int):=by
 rw[aK];simp
def bF{n:Nat}(h:n<1073741824:=by omega):n<aQ:=by unfold aQ;omega
def aI(x a b:Int):Bool:=decide (a<=x)&&decide (x<=b)
def bA{x a b:Int}:aI x a b=true ↔ a<=x/\x<=b:=by simp[aI]
def c9(x a b:Int):bX x a b=some (aI x a b):=by
 unfold bX aI;by_cases h:a<=x<;>simp[h]
def dP(x a b:Int):ck x a b=some (aI x a b):=c9 x a b
def cq(g:aP):Bool:=aI g.cg 1 2&&aI g.ay 1 4&&aI g.rows 2 16&&aI g.aO 1 8
def wO(g:aP):qO g=some (cq g):=by
 unfold qO cq;simp[c9]
 grind
def E4(g:aP):wu g=some (cq g):=by
 unfold wu cq;simp[dP]
 grind
def eK{g:aP}(h:cq g=true):1<=g.cg/\g.cg<=2/\1<=g.ay/\g.ay<=4/\2<=g.rows/\g.rows<=16/\1<=g.aO/\g.aO<=8:=by
 simp only[cq,aI,Bool.and_eq_true,decide_eq_true_eq]at h;omega
def aT(g:aP):Int:=bif cq g then g.cg*g.ay else 0
def eM(g:aP):0 <= aT g/\aT g <= 8:=by
 unfold aT;cases h:cq g with
 |false=>simp
 | true=>
  have⟨C,D,E,L,_⟩:=eK h;simp;rcases(by omega:g.cg=1 \/ g.cg=2)with e|e<;>rw[e]<;>omega
def ajg{g:aP}(h:cq g=true):1 <= aT g:=by
 have⟨C,D,E,L,_⟩:=eK h;simp[aT,h,cond_true];rcases(by omega:g.cg=1 \/ g.cg=2)with e|e<;>rw[e]<;>omega
def mJ(g:aP):mI g=some (aT g):=by
 have C:=eM g;unfold mI;rw[wO,ak];unfold aT at C ⊢;cases h:cq g with
 |false=>rfl
 | true=>
  rw[h]at C;simp at C;simp;rw[aK]
def qQ(g:aP):oD g=some (aT g):=by
 have C:=eM g;unfold oD;rw[E4,ak];unfold aT at C ⊢;cases h:cq g with
 |false=>rfl
 | true=>
  rw[h]at C;simp at C;simp;rw[aK]
def fD(g:aP):Int:=bif cq g then aT g*g.rows else 0
def eN(g:aP):Int:=bif cq g then aT g*g.rows*g.aO else 0
def Rx{a b A B:Int}(D:0<=a)(E:a<=A)(C:0<=b)(L:b<=B):0<=a*b/\a*b<=A*B:=
 ⟨Int.mul_nonneg D C,Int.le_trans (Int.mul_le_mul_of_nonneg_right E C) (Int.mul_le_mul_of_nonneg_left L (by omega))⟩
def oJ(g:aP):0 <= fD g/\fD g <= 128:=by
 unfold fD;cases h:cq g with
 |false=>simp
 | true=>
  have⟨_,_,_,_,D,C,_⟩:=eK h;have:=eM g;exact Rx this.1 this.2 (by omega) C
def mK(g:aP):0 <= eN g/\eN g <= 1024:=by
 have C:=oJ g;unfold eN fD at *
 cases h:cq g with
 |false=>simp
 | true=>
  rw[h]at C;have⟨_,_,_,_,E,L,O,D⟩:=eK h;exact Rx C.1 C.2 (by omega) D
def Le(g:aP):uz g=some (eN g):=by
 have C:=mK g;have D:=oJ g;unfold uz;rw[mJ,ak];unfold eN fD at *
 cases h:cq g with
 |false=>simp only[aT,h,cond_false,Int.zero_mul];rw[show W6 0=0 from rfl,Int.zero_mul];rfl
 | true=>
  rw[h]at C D;simp only[cond_true]at C D;simp only[cond_true];rw[aK (n:=aT g*g.rows),aK]
def Lg(g:aP):sq g=some (eN g):=by
 have C:=mK g;have D:=oJ g;unfold sq;rw[E4,ak,qQ,ak];unfold eN fD at *
 cases h:cq g with
 |false=>rfl
 | true=>
  rw[h]at C D;simp at C D;simp;rw[aK (n:=aT g*g.rows),aK]
def ey(g:aP)(a:aF):Bool:=cq g&&aI a.au 0 (aT g-1)&&aI a.row 0 (g.rows-1)&&aI a.bG 0 (g.aO-1)
def qR{g:aP}{a:aF}(h:ey g a=true):cq g=true/\0 <= a.au/\a.au<aT g/\0 <= a.row/\a.row<g.rows/\0 <= a.bG/\a.bG<g.aO:=by
 simp[ey,aI,Bool.and_eq_true,decide_eq_true_eq]at h
 grind
def Cf{g:aP}{a:aF}(h:cq g=true)(C:0 <= a.au)(D:a.au<aT g)(E:0 <= a.row)(L:a.row<g.rows)(O:0 <= a.bG)(T:a.bG<g.aO):ey g a=true:=by
 simp[ey,aI,Bool.and_eq_true,decide_eq_true_eq]
 grind
def X7(g:aP)(a:aF):BP g a=some (ey g a):=by
 unfold BP ey;simp[wO,mJ,c9,ak];have C:=eM g;cases h:cq g with
 |false=>rfl
 | true=>
  have⟨_,_,_,_,D,E,L,O⟩:=eK h;rw[aK,aK,aK]
  grind
def X8(g:aP)(a:aF):Bm g a=some (ey g a):=by
 unfold Bm ey;simp only[qQ,dP,ak];have C:=eM g;rw[aK];cases h:cq g with
 | false=>
  have:aI a.au 0 (aT g-1)=false:=by
   simp[aT,h,aI]
   grind
  simp_all
 | true=>
  have⟨_,_,_,_,D,E,L,O⟩:=eK h;rw[aK,aK]
  grind
def uE{b n r R:Int}(C:0 <= b)(D:b<n)(E:0 <= r)(L:r<R):0 <= b*R/\0 <= b*R+r/\b*R+r<n*R:=by
 have O:0 <= b*R:=Int.mul_nonneg C (by omega);have T:(b+1)*R <= n*R:=Int.mul_le_mul_of_nonneg_right (by omega) (by omega)
 grind
def oK(g:aP)(a:aF):Int:=bif ey g a then (a.au*g.rows+a.row)*g.aO+a.bG else -1
def X9{g:aP}{a:aF}(h:ey g a=true):0 <= oK g a/\oK g a<eN g/\0 <= a.au*g.rows/\0 <= a.au*g.rows+a.row/\a.au*g.rows+a.row<fD g/\0 <= (a.au*g.rows+a.row)*g.aO:=by
 have⟨C,D,E,L,O,T,U⟩:=qR h;have⟨r0,Y,Z⟩:=uE D E L O;have⟨l0,l1,l2⟩:=uE Y Z T U;simp[oK,h,eN,fD,C,cond_true];omega
def Ya(g:aP)(a:aF):Kd g a=some (oK g a):=by
 unfold Kd;rw[X7,ak];cases h:ey g a with
 |false=>simp[oK,h]
 | true=>
  have C:=X9 h;have E:=mK g;have L:=oJ g;have⟨D,O,T,U,Y,Z,b6⟩:=qR h;have⟨_,_,_,_,g5,g6,g7,g8⟩:=eK D;simp only[oK,h,cond_true]at C ⊢;simp only[Bool.not_true,cond_false];rw[aK (n:=a.au*g.rows),aK (n:=a.au*g.rows+a.row),aK (n:=(a.au*g.rows+a.row)*g.aO),aK]
def azk(g:aP)(a:aF):Pa g a=some (oK g a):=by
 unfold Pa;rw[X8,ak];cases h:ey g a with
 |false=>simp[oK,h]
 | true=>
  have C:=X9 h;have E:=mK g;have L:=oJ g;have⟨D,O,T,U,Y,Z,b6⟩:=qR h;have⟨_,_,_,_,g5,g6,g7,g8⟩:=eK D;simp only[oK,h,cond_true]at C ⊢;simp only[Bool.not_true,cond_false];rw[aK (n:=a.au*g.rows),aK (n:=a.au*g.rows+a.row),aK (n:=(a.au*g.rows+a.row)*g.aO),aK]
def uF{α β:Type}{step:α -> ah (α⊕β)}(S:Nat -> α){z:β}:∀ (n i fuel:Nat),(∀ k,i <= k -> k<i+n -> step (S k)=some (.inl (S (k+1)))) -> step (S (i+n))=some (.inr z) -> n<fuel -> iter step fuel (S i)=some z
 | 0,i,fuel,_,C,D=>by
  match fuel,D with
  |f+1,_=>unfold iter;rw[Nat.add_zero]at C;rw[C]
 | n+1,i,fuel,E,C,D=>by
  match fuel,D with
  | f+1,D=>
   unfold iter;rw[E i (Nat.le_refl _) (by omega)];exact uF S n _ f (λk L O=>E k (by omega) (by omega)) (by rw[show i+1+n=i+(n+1) by omega];exact C) (by omega)
def zn{i:Nat}(h:i<4611686018427387904:=by omega):W6 ((i:Int)+1)=((i+1:Nat):Int):=by
 rw[aK];simp
def azl(x a b:Int):bX x a b=some (decide (a <= x)&&decide (x <= b)):=by
 unfold bX
 grind
def ajh{x a b:Int}(h:a<=x)(C:x<=b):bX x a b=some true:=by
 rw[azl,decide_eq_true h,decide_eq_true C];rfl
def azm{x a b:Int}(h:a<=x)(C:x<=b):ck x a b=some true:=ajh h C
def opens:Nat->aa cC->aa Int
 |_,[]=>[]
 |i,b::bs=>bif b.open_ then (i:Int)::opens (i+1) bs else opens (i+1) bs
def Yb(i:Nat)(a b:aa cC):opens i (a++b)=opens i a++opens (i+a.length) b:=by
 induction a generalizing i with
 |nil=>simp[opens]
 | cons x a C=>
  simp[List.cons_append,opens]
  grind
def Ry(i:Nat)(l:aa cC):(opens i l).length <= l.length:=by
 induction l generalizing i with
 |nil=>simp[opens]
 | cons x a C=>
  have:=C (i+1);simp[opens]
  grind
def pS{α:Type}{l:aa α}{i:Nat}(h:i<l.length):l.take (i+1)=l.take i++[l[i]]:=by
 rw[List.take_succ_eq_append_getElem h]
def Rz(r:bV)(h:r.ay.length<1073741823):yY r=some (opens 0 r.ay):=by
 unfold yY aW;have e:=uF (step:=Es) (λi=>(((),r.ay,(r.ay.length:Int),(i:Int),()),(opens 0 (r.ay.take i),()))) (z:=.inl (((),()),(opens 0 r.ay,()))) r.ay.length 0 aQ (λk _ C=>?_) ?_ (by unfold aQ;omega)
 ·have e:iter Es aQ (((),r.ay,r.ay.length,0,()),(([]),()))=_:=e;simp_all
 ·have C:k<r.ay.length:=by omega
  unfold Es aq xG xI;dsimp only;have D:decide ((k:Int)<(r.ay.length:Int))=true:=decide_eq_true (by omega);have E:0 <= (k:Int)/\(k:Int).toNat<r.ay.length:=⟨by omega,by simpa using C⟩
  have L:=Ry 0 (r.ay.take k);rw[List.length_take]at L;have O:bD ((opens 0 (r.ay.take k)).length+([(k:Int)]:aa Int).length)=true:=by
   unfold bD;simp;omega
  rw[D,cond_true,dif_pos E,zn,pS C,Yb];simp only[Int.toNat_natCast,opens,List.length_take,Nat.zero_add,Nat.min_eq_left (Nat.le_of_lt C)];cases r.ay[k].open_ with
  |true=>grind
  |false=>grind
 ·rw[Nat.zero_add];unfold Es aq xG xI;simp_all
def gmT:Nat:=116196760129267793630862849262464326346044543732748708940920453221664288556434379745879494961270582141731748813355742142288220638766218855867759359510984593843506004200114943278699875244065120512813025380665946106619127097398772031257643617143689515450995722003729973585221105779229319991106539050771048038400
def gm(a b:Nat):Nat:=(gmT / 2 ^ (4*(16*a+b))) % 16
def pwT:Nat:=44684875893970114885940500792407720993
def pw(n:Nat):Nat:=(pwT / 2 ^ (4*n)) % 16
def gX(f:Nat->Bool):Bool:=(List.range 16).all f
def fE{f:Nat->Bool}(h:gX f=true){a:Nat}(C:a<16):f a=true:=by
 have:=List.all_eq_true.1 h a (List.mem_range.2 C);exact this
def fz(a b:Nat):gm a b<16:=Nat.mod_lt _ (by decide)
def sC(n:Nat):pw n<16:=Nat.mod_lt _ (by decide)
def azn:(gX λa=>gX λb=>ig (Int.ofNat a) (Int.ofNat b)==some (Int.ofNat (gm a b)))=true:=by kernel_rfl
def azo:((List.range 31).all λn=>JU 2 (Int.ofNat n)==some (Int.ofNat (pw n)))=true:=by kernel_rfl
def aji:(gX λa=>gX λb=>decide (bits .xor .i64 (Int.ofNat a) (Int.ofNat b)=Int.ofNat (a ^^^ b))&&Nat.blt (a ^^^ b) 16)=true:=by kernel_rfl
def azp:(gX λa=>gX λb=>gX λc=>Nat.beq (gm (a ^^^ b) c) (gm a c ^^^ gm b c))=true:=by kernel_rfl
def ajj:(gX λa=>Nat.beq (gm a 1) a&&Nat.beq (gm 0 a) 0)=true:=by kernel_rfl
def azq:(gX λC=>gX λs1=>gX λs2=>
  (λy z=>(λx=>Nat.beq (gm x 1 ^^^ (gm y 1 ^^^ (gm z 1 ^^^ C))) 0&&Nat.beq (gm x 1 ^^^ (gm y 2 ^^^ (gm z 4 ^^^ s1))) 0&&Nat.beq (gm x 1 ^^^ (gm y 4 ^^^ (gm z 3 ^^^ s2))) 0) (C ^^^ y ^^^ z))
   (gm (gm 2 (C ^^^ s1) ^^^ gm 5 (C ^^^ s2)) 13) (gm (gm 3 (C ^^^ s2) ^^^ gm 5 (C ^^^ s1)) 13))=true:=by kernel_rfl
def azr:BV 4=some 13:=by kernel_rfl
def Cg{a b:Nat}(C:a<16)(D:b<16):ig (a:Int) (b:Int)=some (gm a b:Int):=by
 have h:=fE (fE azn C) D;exact eq_of_beq h
def azs{n:Nat}(h:n<31):JU 2 (n:Int)=some (pw n:Int):=eq_of_beq (List.all_eq_true.1 azo n (List.mem_range.2 h))
def pT{a b:Nat}(C:a<16)(D:b<16):bits .xor .i64 (a:Int) (b:Int)=((a ^^^ b:Nat):Int):=by
 have h:=fE (fE aji C) D;simp_all
def jY{a b:Nat}(C:a<16)(D:b<16):a ^^^ b<16:=by
 have h:=fE (fE aji C) D;simp_all
def azt{a b c:Nat}(C:a<16)(D:b<16)(E:c<16):gm (a ^^^ b) c=gm a c ^^^ gm b c:=Nat.eq_of_beq_eq_true (fE (fE (fE azp C) D) E)
def azu{a:Nat}(C:a<16):gm a 1=a:=by
 have h:=fE ajj C;rw[Bool.and_eq_true]at h;exact Nat.eq_of_beq_eq_true h.1
def RB{a:Nat}(C:a<16):gm 0 a=0:=by
 have h:=fE ajj C;rw[Bool.and_eq_true]at h;exact Nat.eq_of_beq_eq_true h.2
abbrev bf (w:aa Nat):aa Int:=w.map λ(n:Nat)=>(n:Int)
def c8(w:aa Nat):Prop:=∀x∈w,x<16
def fY(w:aa Nat):(bf w).length=w.length:=by simp[bf]
def sD{w:aa Nat}{k:Nat}(h:k<(bf w).length):(bf w)[k]=((w.getD k 0:Nat):Int):=by grind
def c8.get{w:aa Nat}(h:c8 w)(k:Nat):w.getD k 0<16:=by
 by_cases C:k<w.length
 ·simp[List.getD_eq_getElem?_getD,List.getElem?_eq_getElem C];exact h _ (List.getElem_mem C)
 ·simp_all
def Yc{w:aa Nat}(E:c8 w)(T:w.length<1000)(n:Int):uB (bf w) n=some ((w.length:Int)==n):=by
 unfold uB br;have e:=uF (step:=yZ) (λi=>((bf w,n,bf w,((bf w).length),i,()),())) (z:=.inr (.inl ((bf w,n,()),()))) w.length 0 aQ (λk _ C=>?_) ?_ (by unfold aQ;omega)
 ·simp_all
 ·have C:k<(bf w).length:=by rw[fY];omega
  unfold yZ aq aM xG xI;dsimp only;have L:decide ((k:Int)<((bf w).length:Int))=true:=decide_eq_true (by omega);have D:0 <= (k:Int)/\(k:Int).toNat<(bf w).length:=⟨by omega,by simpa using C⟩
  rw[L,cond_true,dif_pos D];have O:(bf w)[(k:Int).toNat]'D.2=((w.getD k 0:Nat):Int):=sD C;rw[O];have:=E.get k;unfold BO;rw[ajh (by omega) (by omega),ak,ak,zn];rfl
 ·unfold yZ aq aM xG xI;simp_all
def bL(w:aa Nat)(j:Nat):Nat->Nat
 |0=>0
 |i+1=>bL w j i ^^^ gm (w.getD i 0) (pw (i*j))
def pU(w:aa Nat)(j:Nat):∀ i,bL w j i<16
 |0=>Nat.zero_lt_succ _
 |i+1=>jY (pU w j i) (fz _ _)
def azv{w:aa Nat}(O:c8 w)(hl:w.length=11)(j:Nat)(hj:j<3)(a b:Int)(o:aa Int)(T:j<o.length)(U:o.set j 0=o):
  iter BU aQ ((bf w,(),(j:Int),a,b,bf w,((bf w).length:Int),(0:Int),()),(o,()))=some (.inl ((bf w,(),a,b,()),(o.set j (bL w j 11:Int),()))):=by
 have e:=uF (step:=BU) (λi=>((bf w,(),(j:Int),a,b,bf w,((bf w).length:Int),(i:Int),()),(o.set j (bL w j i:Int),()))) (z:=.inl ((bf w,(),a,b,()),(o.set j (bL w j 11:Int),()))) 11 0 aQ (λk _ D=>?_) ?_ (by unfold aQ;omega)
 ·have e:iter BU aQ ((bf w,(),(j:Int),a,b,bf w,((bf w).length:Int),(0:Int),()),(o.set j 0,()))=_:=e;rw[U]at e;exact e
 ·have D:k<(bf w).length:=by rw[fY];omega
  unfold BU aq xG xI xL;dsimp only;have E:decide ((k:Int)<((bf w).length:Int))=true:=decide_eq_true (by omega);have L:0<=(k:Int)/\(k:Int).toNat<(bf w).length:=⟨by omega,by simpa using D⟩
  have C:0<=(j:Int)/\(j:Int).toNat<(o.set j (bL w j k:Int)).length:=⟨by omega,by simpa using T⟩
  have Y:(bf w)[(k:Int).toNat]'L.2=((w.getD k 0:Nat):Int):=sD D;have Z:(o.set j (bL w j k:Int))[(j:Int).toNat]'C.2=(bL w j k:Int):=List.getElem_set_self _;rw[E,cond_true,dif_pos L,dif_pos C,dif_pos C.2,Y,Z];have hkj:k*j<=20:=Nat.le_trans (Nat.mul_le_mul (show k<=10 by omega) (show j<=2 by omega)) (by decide);have c6:W6 ((k:Int)*(j:Int))=((k*j:Nat):Int):=by
   rw[<-Int.natCast_mul,aK]
  rw[c6,azs (by omega),ak,Cg (O.get k) (sC _),ak,dif_pos C,dif_pos C.2,pT (pU _ _ _) (fz _ _),zn];have c7:(o.set j (bL w j k:Int)).set (j:Int).toNat ((bL w j k ^^^ gm (w.getD k 0) (pw (k*j)):Nat):Int)=o.set j (bL w j (k+1):Int):=List.set_set ..;rw[c7]
 ·unfold BU aq xG xI xL;dsimp only;have E:decide (((0+11:Nat):Int)<((bf w).length:Int))=false:=decide_eq_false (by rw[fY];omega);rw[E,cond_false]
def qS(w:aa Nat):Nat->aa Int
 |0=>[0,0,0]
 |1=>[(bL w 0 11:Int),0,0]
 |2=>[(bL w 0 11:Int),(bL w 1 11:Int),0]
 |_=>[(bL w 0 11:Int),(bL w 1 11:Int),(bL w 2 11:Int)]
def Yd{w:aa Nat}(D:c8 w)(E:w.length=11):zd (bf w)=some [(bL w 0 11:Int),(bL w 1 11:Int),(bL w 2 11:Int)]:=by
 unfold zd aW;have c0:((w.length:Int)==(11:Int))=true:=by rw[E];rfl
 rw[Yc D (by omega),c0,ak];have e:=uF (step:=EH) (λj=>((bf w,(),(3:Int),(j:Int),()),(qS w j,()))) (z:=.inl (((),()),(qS w 3,()))) 3 0 aQ (λk _ O=>?_) ?_ (by unfold aQ;omega)
 ·have e:iter EH aQ ((bf w,(),((List.replicate (3:Int).toNat (0:Int)).length:Int),(0:Int),()),(List.replicate (3:Int).toNat (0:Int),()))=_:=e;rw[show (!true)=false from rfl,cond_false,if_pos (by decide),e];rfl
 ·unfold EH aq xG aW;dsimp only;have L:decide ((k:Int)<(3:Int))=true:=decide_eq_true (by omega);have C:qS w k=(qS w k).set k 0/\k<(qS w k).length/\(qS w k).set k (bL w k 11:Int)=qS w (k+1):=by
   have:k=0\/k=1\/k=2:=by omega
   rcases this with rfl|rfl|rfl
   ·exact⟨rfl,by simp[qS],rfl⟩
   ·exact⟨rfl,by simp[qS],rfl⟩
   ·exact⟨rfl,by simp[qS],rfl⟩
  rw[L,cond_true,azv D E k (by omega) (3:Int) (k:Int) (qS w k) C.2.1 C.1.symm,C.2.2];show some (Sum.inl ((bf w,(),(3:Int),W6 ((k:Int)+1),()),(qS w (k+1),())))=_;rw[zn]
 ·unfold EH aq xG aW;dsimp only;rfl
def azw{w:aa Nat}(C:c8 w)(D:w.length=11):Qa (bf w)=some (Nat.beq (bL w 0 11) 0&&(Nat.beq (bL w 1 11) 0&&Nat.beq (bL w 2 11) 0)):=by
 unfold Qa xL;rw[Yd C D,ak];generalize bL w 0 11=a;generalize bL w 1 11=b;generalize bL w 2 11=c;have q:∀ n:Nat,((n:Int)==(0:Int))=Nat.beq n 0:=by
  intro n;cases n with
  |zero=>rfl
  |succ n=>rfl
 show (bif ((a:Int)==(0:Int))then (bif ((b:Int)==(0:Int))then some ((c:Int)==(0:Int))else some false)else some false)=_
 grind
def azx(C D E:Nat)(L:C<16)(O:D<16)(T:E<16):
  (λy z=>(λx=>(gm x 1 ^^^ (gm y 1 ^^^ (gm z 1 ^^^ C)))=0/\(gm x 1 ^^^ (gm y 2 ^^^ (gm z 4 ^^^ D)))=0/\(gm x 1 ^^^ (gm y 4 ^^^ (gm z 3 ^^^ E)))=0) (C ^^^ y ^^^ z))
   (gm (gm 2 (C ^^^ D) ^^^ gm 5 (C ^^^ E)) 13) (gm (gm 3 (C ^^^ E) ^^^ gm 5 (C ^^^ D)) 13):=by
 have h:=fE (fE (fE azq L) O) T;simp_all
def azy{d:aa Nat}(Z:c8 d)(Y:d.length=8):∃ w,Kj (bf d)=some (bf w)/\w.length=11/\c8 w/\w.drop 3=d/\bL w 0 11=0/\bL w 1 11=0/\bL w 2 11=0:=by
 have hz:c8 (0 :: 0 :: 0 :: d):=by
  intro x hx;simp only[List.mem_cons]at hx;rcases hx with rfl|rfl|rfl|hx
  ·decide
  ·decide
  ·decide
  ·exact Z x hx
 have key:∀ j x y z,j<3->x<16->y<16->z<16->bL (x :: y :: z :: d) j 11=gm x (pw (0*j)) ^^^ (gm y (pw (1*j)) ^^^ (gm z (pw (2*j)) ^^^ bL (0 :: 0 :: 0 :: d) j 11)):=by
  intro j x y z hj hx hy hz;simp only[bL,List.getD_cons_zero,List.getD_cons_succ,Nat.xor_assoc,Nat.zero_xor,RB (sC _)]
 have e0:∀ C E L:Nat,C<16->E<16->L<16->zd (bf (0 :: 0 :: 0 :: d))=some [(C:Int),(E:Int),(L:Int)]->
   Kj (bf d)=some (bf ((C ^^^ gm (gm 2 (C ^^^ E) ^^^ gm 5 (C ^^^ L)) 13 ^^^ gm (gm 3 (C ^^^ L) ^^^ gm 5 (C ^^^ E)) 13)::gm (gm 2 (C ^^^ E) ^^^ gm 5 (C ^^^ L)) 13::gm (gm 3 (C ^^^ L) ^^^ gm 5 (C ^^^ E)) 13::d)):=by
  intro C E L D T U hs;unfold Kj xL;have c0:((d.length:Int)==(8:Int))=true:=by rw[Y];rfl
  have c1:bD ((List.replicate (3:Int).toNat (0:Int)).length+(bf d).length)=true:=by
   rw[fY,Y];rfl
  rw[Yc Z (by omega),ak,c0,show (!true)=false from rfl,cond_false,if_pos (by decide),c1,cond_true];have e1:zd (List.replicate (3:Int).toNat (0:Int)++bf d)=some [(C:Int),(E:Int),(L:Int)]:=hs;rw[e1,ak];show (BV (4:Int)).bind (λgD=>(ig (2:Int) (bits .xor .i64 (C:Int) (E:Int))).bind λjq=>(ig (5:Int) (bits .xor .i64 (C:Int) (L:Int))).bind λfT=>(ig (bits .xor .i64 jq fT) gD).bind λiV=>(ig (3:Int) (bits .xor .i64 (C:Int) (L:Int))).bind λiW=>(ig (5:Int) (bits .xor .i64 (C:Int) (E:Int))).bind λpR=>(ig (bits .xor .i64 iW pR) gD).bind λoE=>some (bits .xor .i64 (bits .xor .i64 (C:Int) iV) oE::iV::oE::bf d))=_;have m2:∀b:Nat,b<16->ig (2:Int) (b:Int)=some (gm 2 b:Int):=λb O=>Cg (a:=2) (by decide) O
  have m3:∀b:Nat,b<16->ig (3:Int) (b:Int)=some (gm 3 b:Int):=λb O=>Cg (a:=3) (by decide) O
  have m5:∀b:Nat,b<16->ig (5:Int) (b:Int)=some (gm 5 b:Int):=λb O=>Cg (a:=5) (by decide) O
  have E5:∀b:Nat,b<16->ig (b:Int) (13:Int)=some (gm b 13:Int):=λb O=>Cg (b:=13) O (by decide)
  rw[azr,ak,pT D T,pT D U,m2 _ (jY D T),ak,m5 _ (jY D U),ak,pT (fz _ _) (fz _ _),E5 _ (jY (fz _ _) (fz _ _)),ak,m3 _ (jY D U),ak,m5 _ (jY D T),ak,pT (fz _ _) (fz _ _),E5 _ (jY (fz _ _) (fz _ _)),ak,pT D (fz _ _),pT (jY D (fz _ _)) (fz _ _)];rfl
 have D:=pU (0::0::0::d) 0 11;have T:=pU (0::0::0::d) 1 11;have U:=pU (0::0::0::d) 2 11;have e1:=e0 _ _ _ D T U (Yd hz (by simp[Y]));have f:=azx _ _ _ D T U;dsimp only at f;refine⟨_,e1,by simp[Y],?_,rfl,?_,?_,?_⟩
 ·intro x hx;simp only[List.mem_cons]at hx;rcases hx with rfl | rfl | rfl | hx
  ·exact jY (jY D (fz _ _)) (fz _ _)
  ·exact fz _ _
  ·exact fz _ _
  ·exact Z x hx
 ·rw[key 0 _ _ _ (by decide) (jY (jY D (fz _ _)) (fz _ _)) (fz _ _) (fz _ _)];exact f.1
 ·rw[key 1 _ _ _ (by decide) (jY (jY D (fz _ _)) (fz _ _)) (fz _ _) (fz _ _)];exact f.2.1
 ·rw[key 2 _ _ _ (by decide) (jY (jY D (fz _ _)) (fz _ _)) (fz _ _) (fz _ _)];exact f.2.2
def ajk{w:aa Nat}(C:c8 w){k e:Nat}(D:e<16)(L:k<w.length)(j:Nat):∀ i,bL (w.set k (w.getD k 0 ^^^ e)) j i=if i <= k then bL w j i else bL w j i ^^^ gm e (pw (k*j))
 |0=>by rw[if_pos (Nat.zero_le _)];rfl
 | i+1=>by
  have O:=ajk C D L j i;have T:(w.set k (w.getD k 0 ^^^ e)).getD i 0=if i=k then w.getD k 0 ^^^ e else w.getD i 0:=by
   grind
  show bL _ j i ^^^ gm _ (pw (i*j))=_;rw[O,T];by_cases U:i<k
  ·rw[if_pos (by omega),if_neg (by omega),if_pos (by omega)];rfl
  ·by_cases E:i=k
   ·subst E;rw[if_pos (Nat.le_refl _),if_pos rfl,if_neg (by omega),azt (C.get _) D (sC _),<- Nat.xor_assoc];rfl
   ·rw[if_neg (by omega),if_neg E,if_neg (by omega)];show _=bL w j i ^^^ gm _ _ ^^^ gm e _
    grind
def c8.set{w:aa Nat}(h:c8 w){k v:Nat}(D:v<16):c8 (w.set k v):=by
 intro x C;rcases List.mem_or_eq_of_mem_set C with C|rfl
 ·exact h x C
 ·exact D
def ivT:Nat:=9460475325918865680
def iv(a:Nat):Nat:=(ivT / 2 ^ (4*a)) % 16
def azz(a:Nat):iv a<16:=Nat.mod_lt _ (by decide)
def azA:(gX λa=>Nat.beq a 0 ||BV (Int.ofNat a)==some (Int.ofNat (iv a)))=true:=by kernel_rfl
def mL:aa Nat:=[8,14,7,1]
def azB:((List.range 8).all λm=>gX λf=>(List.range 3).all λj=>
  Nat.beq (gm (gm 8 f) (pw (m*j)) ^^^ (gm (gm 14 f) (pw ((m+1)*j)) ^^^ (gm (gm 7 f) (pw ((m+2)*j)) ^^^ gm f (pw ((m+3)*j))))) 0)=true:=by kernel_rfl
def azC:(gX λa=>gX λb=>sv (Int.ofNat a) (Int.ofNat b)==some (Int.ofNat (gm a b)))=true:=by kernel_rfl
def Lh{a b:Nat}(C:a<16)(D:b<16):sv (a:Int) (b:Int)=some (gm a b:Int):=by
 have h:=fE (fE azC C) D;exact eq_of_beq h
def ajl(W:aa Int):iter WZ aQ (((),(),(1:Int),()),(W,([(1:Int),(1:Int)]:aa Int),()))=some (.inl (((),(),()),(W,bf mL,()))):=by kernel_rfl
def ajm{w:aa Nat}(E:c8 w)(T:w.length<1000)(n:Int):sr (bf w) n=some ((w.length:Int)==n):=by
 unfold sr br;have e:=uF (step:=yH) (λi=>((bf w,n,i,()),())) (z:=.inr (.inl ((bf w,n,()),()))) w.length 0 aQ (λk _ C=>?_) ?_ (by unfold aQ;omega)
 ·simp_all
 ·have C:k<(bf w).length:=by rw[fY];omega
  unfold yH aq aM xG xI;dsimp only;have L:decide ((k:Int)<((bf w).length:Int))=true:=decide_eq_true (by omega);have D:0 <= (k:Int)/\(k:Int).toNat<(bf w).length:=⟨by omega,by simpa using C⟩
  rw[L,cond_true,dif_pos D];have O:(bf w)[(k:Int).toNat]'D.2=((w.getD k 0:Nat):Int):=sD C;rw[O];have:=E.get k;unfold Bk;rw[azm (by omega) (by omega),ak,ak,zn];rfl
 ·unfold yH aq aM xG xI;simp_all
def sE(k:Nat):Nat:=mL.getD k 0
def azD(k:Nat):sE k<16:=by
 have:c8 mL:=by
  intro x C;simp[mL,List.mem_cons,List.not_mem_nil,or_false]at C;omega
 exact this.get k
def jr(r:aa Nat)(m f:Nat):Nat->aa Nat
 |0=>r
 |k+1=>(jr r m f k).set (m+k) ((jr r m f k).getD (m+k) 0 ^^^ gm (sE k) f)
def Li(r:aa Nat)(m f:Nat):∀ k,(jr r m f k).length=r.length
 |0=>rfl
 |k+1=>by show (List.set _ _ _).length=_;rw[List.length_set,Li]
def Lj{r:aa Nat}(C:c8 r)(m f:Nat):∀ k,c8 (jr r m f k)
 |0=>C
 |k+1=>(Lj C m f k).set (jY ((Lj C m f k).get _) (fz _ _))
def RC(w:aa Nat)(k v:Nat):(bf w).set k (v:Int)=bf (w.set k v):=(List.map_set ..).symm
def azE{r:aa Nat}(T:c8 r)(U:r.length=11){m f:Nat}(hm:m<8)(Y:f<16)(W:aa Int):
  iter DZ aQ (((),(),(),((m+3:Nat):Int),(f:Int),(0:Int),()),(W,bf mL,bf r,()))=some (.inl (((),(),(),((m+3:Nat):Int),()),(W,bf mL,bf (jr r m f 4),()))):=by
 have e:=uF (step:=DZ) (λk=>(((),(),(),((m+3:Nat):Int),(f:Int),(k:Int),()),(W,bf mL,bf (jr r m f k),()))) (z:=.inl (((),(),(),((m+3:Nat):Int),()),(W,bf mL,bf (jr r m f 4),()))) 4 0 aQ (λk _ hk=>?_) ?_ (by unfold aQ;omega)
 ·exact e
 ·unfold DZ aq xG xL;dsimp only;have D:decide ((k:Int)<((bf mL).length:Int))=true:=decide_eq_true (by show (k:Int)<4;omega);have Z:W6 (W6 (((m+3:Nat):Int)-3)+(k:Int))=((m+k:Nat):Int):=by
   rw[aK (n:=((m+3:Nat):Int)-3),aK];omega
  have L:m+k<(bf (jr r m f k)).length:=by rw[fY,Li,U];omega
  have C:0<=((m+k:Nat):Int)/\((m+k:Nat):Int).toNat<(bf (jr r m f k)).length:=⟨by omega,L⟩
  have O:k<(bf mL).length:=by show k<4;omega
  have E:0<=(k:Int)/\(k:Int).toNat<(bf mL).length:=⟨by omega,O⟩
  have c5:(bf (jr r m f k))[((m+k:Nat):Int).toNat]'C.2=(((jr r m f k).getD (m+k) 0:Nat):Int):=sD L;have c6:(bf mL)[(k:Int).toNat]'E.2=((sE k:Nat):Int):=sD O;rw[D,cond_true];simp only[Z];rw[dif_pos C,dif_pos C.2];rw[dif_pos E,dif_pos E.2,c6,Lh (azD k) Y,ak,dif_pos C,dif_pos C.2,c5,pT ((Lj T m f k).get _) (fz _ _),zn];have c7:(bf (jr r m f k)).set ((m+k:Nat):Int).toNat (((jr r m f k).getD (m+k) 0 ^^^ gm (sE k) f:Nat):Int)=bf (jr r m f (k+1)):=RC _ _ _;rw[c7]
 ·unfold DZ aq xG xL;dsimp only;have D:decide (((0+4:Nat):Int)<((bf mL).length:Int))=false:=rfl;rw[D,cond_false]
def out(r:aa Nat):Nat->aa Nat
 |0=>r
 |t+1=>jr (out r t) (7-t) ((out r t).getD (10-t) 0) 4
def Ch(r:aa Nat):∀ t,(out r t).length=r.length
 |0=>rfl
 |t+1=>by show (jr _ _ _ _).length=_;rw[Li,Ch]
def Ci{r:aa Nat}(C:c8 r):∀ t,c8 (out r t)
 |0=>C
 |t+1=>Lj (Ci C t) _ _ _
def ajn{r:aa Nat}(D:c8 r)(E:r.length=11)(W:aa Int):
  iter D0 aQ (((),(),(),(10:Int),()),(W,bf mL,bf r,()))=some (.inl (((),(),()),(W,bf (out r 8),()))):=by
 have e:=uF (step:=D0) (λt=>(((),(),(),(10:Int)-(t:Int),()),(W,bf mL,bf (out r t),()))) (z:=.inl (((),(),()),(W,bf (out r 8),()))) 8 0 aQ (λt _ U=>?_) ?_ (by unfold aQ;omega)
 ·exact e
 ·unfold D0 aq xG aW xL;dsimp only;have hi:(10:Int)-(t:Int)=((7-t+3:Nat):Int):=by omega
  have O:decide ((10:Int)-(t:Int) >= 3)=true:=decide_eq_true (by omega);have L:7-t+3<(bf (out r t)).length:=by rw[fY,Ch,E];omega
  have C:0<=((7-t+3:Nat):Int)/\((7-t+3:Nat):Int).toNat<(bf (out r t)).length:=⟨by omega,L⟩
  have T:(bf (out r t))[((7-t+3:Nat):Int).toNat]'C.2=(((out r t).getD (10-t) 0:Nat):Int):=(sD L).trans (by rw[show 7-t+3=10-t by omega]);rw[O,cond_true];simp only[hi];rw[dif_pos C,dif_pos C.2,T,azE (Ci D t) (by rw[Ch,E]) (by omega) ((Ci D t).get _)];show some (Sum.inl (((),(),(),W6 (((7-t+3:Nat):Int)-1),()),(W,bf mL,bf (out r (t+1)),())))=_;rw[aK,show ((7-t+3:Nat):Int)-1=10-((t+1:Nat):Int) by omega]
 ·unfold D0 aq xG aW xL;dsimp only;rfl
def azF:(gX λa=>Nat.beq (gm 1 a) a)=true:=by kernel_rfl
def ajo{a:Nat}(C:a<16):gm 1 a=a:=Nat.eq_of_beq_eq_true (fE azF C)
def ajp{r:aa Nat}(C:c8 r)(E:r.length=11){k e:Nat}(D:e<16)(L:k<11)(j:Nat):bL (r.set k (r.getD k 0 ^^^ e)) j 11=bL r j 11 ^^^ gm e (pw (k*j)):=by
 rw[ajk C D (by omega) j 11,if_neg (by omega)]
def azG{r:aa Nat}(D:c8 r)(E:r.length=11){m f j:Nat}(L:m<8)(C:f<16)(O:j<3):bL (jr r m f 4) j 11=bL r j 11:=by
 have st:∀ k,k<4 -> bL (jr r m f (k+1)) j 11=bL _ j 11 ^^^ gm _ _:=λk U=>
  ajp (Lj D m f k) (by rw[Li,E]) (fz _ _) (by omega) j
 have h:=List.all_eq_true.1 (fE (List.all_eq_true.1 azB m (List.mem_range.2 L)) C) j (List.mem_range.2 O);have h:gm (gm (sE 0) f) (pw ((m+0)*j)) ^^^ (gm (gm (sE 1) f) (pw ((m+1)*j)) ^^^ (gm (gm (sE 2) f) (pw ((m+2)*j)) ^^^ gm (gm (sE 3) f) (pw ((m+3)*j))))=0:=by
  have T:gm (sE 3) f=f:=ajo C;rw[T];exact Nat.eq_of_beq_eq_true h
 rw[st 3 (by decide),st 2 (by decide),st 1 (by decide),st 0 (by decide),Nat.xor_assoc,Nat.xor_assoc,Nat.xor_assoc,h,Nat.xor_zero];rfl
def ajq{r:aa Nat}(C:c8 r)(D:r.length=11){j:Nat}(E:j<3):∀ t,t<=8->bL (out r t) j 11=bL r j 11
 |0,_=>rfl
 |t+1,L=>(azG (Ci C t) (by rw[Ch,D]) (by omega) ((Ci C t).get _) E).trans (ajq C D E t (by omega))
def ajr(r:aa Nat)(k v n:Nat):(r.set k v).getD n 0=if n=k/\k<r.length then v else r.getD n 0:=by grind
def Ye(r:aa Nat)(m f:Nat):∀ k n,m+k<=n->(jr r m f k).getD n 0=r.getD n 0
 |0,n,_=>rfl
 | k+1,n,h=>by
  show (List.set _ _ _).getD n 0=_;rw[ajr,if_neg (by omega),Ye r m f k n (by omega)]
def azH{r:aa Nat}{m f:Nat}(h:m+3<r.length):(jr r m f 4).getD (m+3) 0=r.getD (m+3) 0 ^^^ gm (sE 3) f:=by
 show (List.set _ _ _).getD _ 0=_;rw[ajr,if_pos ⟨rfl,by rw[Li];exact h⟩,Ye r m f 3 _ (Nat.le_refl _)]
def ajs{r:aa Nat}(C:c8 r)(E:r.length=11):∀ t,t <= 8 -> ∀ n,10-t<n -> n<11 -> (out r t).getD n 0=0
 |0,_,n,h,D=>by omega
 | t+1,O,n,h,D=>by
  show (jr _ _ _ 4).getD n 0=0;by_cases L:n=10-t
  ·have e:n=7-t+3:=by omega
   subst e;rw[azH (by rw[Ch];omega),<- L];have:gm (sE 3) _=(out r t).getD (7-t+3) 0:=ajo ((Ci C t).get _);simp_all
  ·rw[Ye _ _ _ 4 n (by omega)];exact ajs C E t (by omega) n (by omega) D
def oL(w r:aa Nat):Nat->aa Nat
 |0=>w
 |k+1=>(oL w r k).set k (r.getD k 0)
def Yf(w r:aa Nat):∀ k,(oL w r k).length=w.length
 |0=>rfl
 |k+1=>by show (List.set _ _ _).length=_;rw[List.length_set,Yf]
def ajt{w r:aa Nat}(Y:w.length=11)(Z:r.length=11):
  iter Iq aQ (((),(),(0:Int),()),(bf w,bf r,()))=some (.inl (((),()),(bf (oL w r 3),()))):=by
 have e:=uF (step:=Iq) (λi=>(((),(),i,()),(bf (oL w r i),bf r,()))) (z:=.inl (((),()),(bf (oL w r 3),()))) 3 0 aQ (λk _ hk=>?_) ?_ (by unfold aQ;omega)
 ·exact e
 ·unfold Iq aq xG xL;dsimp only;have L:decide ((k:Int)<(3:Int))=true:=decide_eq_true (by omega);have D:k<(bf r).length:=by rw[fY];omega
  have O:k<(bf (oL w r k)).length:=by rw[fY,Yf];omega
  have C:0 <= (k:Int)/\(k:Int).toNat<(bf r).length:=⟨by omega,D⟩
  have E:0 <= (k:Int)/\(k:Int).toNat<(bf (oL w r k)).length:=⟨by omega,O⟩
  have T:(bf r)[(k:Int).toNat]'C.2=((r.getD k 0:Nat):Int):=sD D;rw[L,cond_true,dif_pos C,dif_pos C.2,T,dif_pos E,dif_pos E.2,zn];have U:(bf (oL w r k)).set (k:Int).toNat ((r.getD k 0:Nat):Int)=bf (oL w r (k+1)):=RC _ _ _;rw[U]
 ·rfl
def azI{d:aa Nat}(U:c8 d)(E:d.length=8):∃ w,yK (bf d)=some (bf w)/\w.length=11/\c8 w/\bL w 0 11=0/\bL w 1 11=0/\bL w 2 11=0:=by
 have D:c8 (0 :: 0 :: 0 :: d):=by
  intro x hx;simp only[List.mem_cons]at hx;rcases hx with rfl|rfl|rfl|hx
  ·decide
  ·decide
  ·decide
  ·exact U x hx
 have C:(0::0::0::d).length=11:=by simp[E]
 have Y:yK (bf d)=some (bf (oL (0 :: 0 :: 0 :: d) (out (0 :: 0 :: 0 :: d) 8) 3)):=by
  unfold yK xA aW xZ;have c0:((d.length:Int)==(8:Int))=true:=by rw[E];rfl
  have Z:bD ((List.replicate (3:Int).toNat (0:Int)).length+(bf d).length)=true:=by
   rw[fY,E];rfl
  have c2:bD (([]:aa Int).length+(bf (0 :: 0 :: 0 :: d)).length)=true:=by
   rw[fY,C];rfl
  have c3:W6 (((bf (0 :: 0 :: 0 :: d)).length:Int)-(1:Int))=10:=by
   rw[fY,C];rfl
  have eW:List.replicate (3:Int).toNat (0:Int)++bf d=bf (0::0::0::d):=rfl;rw[ajm U (by omega),ak,c0,show (!true)=false from rfl,cond_false,if_pos (by decide),Z,cond_true,eW,ajl,ak,Sum.elim_inl];dsimp only;rw[List.nil_append,c2,cond_true,c3,ajn D C,ak,Sum.elim_inl];dsimp only;rw[ajt C (by rw[Ch,C]),ak,Sum.elim_inl]
 have L:=Ci D 8;have O:∀ j,j<3->bL (oL (0 :: 0 :: 0 :: d) (out (0 :: 0 :: 0 :: d) 8) 3) j 11=0:=by
  intro j hj;have T:=ajq D C hj 8 (Nat.le_refl _);have z:=ajs D C 8 (Nat.le_refl _);revert T z;generalize out (0 :: 0 :: 0 :: d) 8=r;intro T z;have h2:bL (oL (0 :: 0 :: 0 :: d) r 3) j 11=gm (r.getD 0 0) (pw (0*j)) ^^^ (gm (r.getD 1 0) (pw (1*j)) ^^^ (gm (r.getD 2 0) (pw (2*j)) ^^^ bL (0 :: 0 :: 0 :: d) j 11)):=by
   show bL (r.getD 0 0::r.getD 1 0::r.getD 2 0::d) j 11=_;simp only[bL,List.getD_cons_zero,List.getD_cons_succ,Nat.xor_assoc,Nat.zero_xor,RB (sC _)]
  have h3:bL r j 11=gm (r.getD 0 0) (pw (0*j)) ^^^ (gm (r.getD 1 0) (pw (1*j)) ^^^ gm (r.getD 2 0) (pw (2*j))):=by
   simp only[bL,z 3 (by decide) (by decide),z 4 (by decide) (by decide),z 5 (by decide) (by decide),z 6 (by decide) (by decide),z 7 (by decide) (by decide),z 8 (by decide) (by decide),z 9 (by decide) (by decide),z 10 (by decide) (by decide),Nat.xor_assoc,Nat.zero_xor,Nat.xor_zero,RB (sC _)]
  rw[h2,<-T,h3,<-Nat.xor_assoc (gm (r.getD 1 0) _) (gm (r.getD 2 0) _),<-Nat.xor_assoc (gm (r.getD 0 0) _),Nat.xor_self]
 refine⟨_,Y,by rw[Yf,C],?_,O 0 (by decide),O 1 (by decide),O 2 (by decide)⟩;exact((D.set (L.get _)).set (L.get _)).set (L.get _)
def uG(s:Int):Bool:=aI s 0 15
def pV(l:aa Int)(n:Int):Bool:=l.all uG&&decide ((l.length:Int)=n)
def aju(l:aa Int)(n:Int)(C:l.length<1073741824):uB l n=some (pV l n):=by
 unfold uB pV br;have e:=fe (step:=yZ) l uG (λi=>((l,n,l,l.length,i,()),())) _ (.inr (.inl ((l,n,()),()))) aQ (λk h=>by
  unfold yZ BO aq aM xG xI;simp (disch:=omega) [h,bq,c9,uG];cases aI l[k] 0 15<;>rfl) (by unfold yZ aq aM xG xI;simp) (bF C)
 rw[Int.natCast_zero]at e;rw[e];cases l.all uG<;>simp;rfl
def Lk(l:aa Int)(n:Int)(C:l.length<1073741824):sr l n=some (pV l n):=by
 unfold sr pV br;have e:=fe (step:=yH) l uG (λi=>((l,n,i,()),())) _ (.inr (.inl ((l,n,()),()))) aQ (λk h=>by
  unfold yH Bk aq aM xG xI;simp (disch:=omega) [h,bq,dP,uG];cases aI l[k] 0 15<;>rfl) (by unfold yH aq aM xG xI;simp) (bF C)
 rw[Int.natCast_zero]at e;rw[e];cases l.all uG<;>simp;rfl
def Sy(l:aa Int):Prop:=l.length=11/\∀s∈l,0<=s/\s<=15
def Sy.ok{l:aa Int}(h:Sy l):pV l 11=true:=by
 simp[pV,Bool.and_eq_true,List.all_eq_true,uG,bA];exact⟨λx C=>h.2 x C,by rw[h.1];rfl⟩
def Sy.of{l:aa Int}(h:pV l 11=true):Sy l:=by
 simp[pV,Bool.and_eq_true,List.all_eq_true,decide_eq_true_eq,uG,bA]at h;exact⟨by omega,h.1⟩
def ajv{a b:Int}(E:0 <= a/\a <= 15)(L:0 <= b/\b <= 15):0 <= bits .xor .i64 a b/\bits .xor .i64 a b <= 15/\bits .xor .i64 (bits .xor .i64 a b) b=a:=by
 obtain⟨x,rfl⟩:=Int.eq_ofNat_of_zero_le E.1;obtain⟨y,rfl⟩:=Int.eq_ofNat_of_zero_le L.1;have D:x<16:=by omega
 have C:y<16:=by omega
 have:=jY D C;rw[pT D C];rw[pT this C]
 grind
def Sy.set{l:aa Int}(h:Sy l){k:Nat}{v:Int}(D:0<=v/\v<=15):Sy (l.set k v):=by
 refine⟨by simp[h.1],λs C=>?_⟩
 rcases List.mem_or_eq_of_mem_set C with C|rfl
 ·exact h.2 s C
 ·exact D
def Sy.get{l:aa Int}(h:Sy l){k:Nat}(C:k<l.length):0<=l[k]/\l[k]<=15:=h.2 _ (List.getElem_mem C)
structure ef (g:aP) (B:Int) (a:cF):Prop where
 cells:(a.cells.length:Int)=eN g
 syms:∀c∈a.cells,Sy c.symbols
 bh:(a.bh.length:Int)=fD g
 aZ:(a.aZ.length:Int)=fD g
 Cj:∀x∈a.bh,0<=x/\x<=B
 gM:∀x∈a.aZ,0<=x/\x<=100000
def azJ(c:bC)(h:c.symbols.length<1073741824):PT c=some c:=by
 unfold PT xA xZ;simp[bD,h]
def azK(c:bC)(h:c.symbols.length<1073741824):N9 c=some c:=by
 unfold N9 xA xZ;simp[bD,h]
def ajw(a:cF)(T:a.cells.length<1073741823)(C:a.bh.length<1073741824)(D:a.aZ.length<1073741824)(E:∀ c∈a.cells,c.symbols.length<1073741824):Ei a=some a:=by
 unfold Ei xA aW xZ;have e:=cm (step:=Jm) a.cells.length (λi=>(((),(),a.cells,(a.cells.length:Int),(i:Int),()),(((),(),(),()),((),(),(),()),([]:aa bC),([]:aa Int),([]:aa Int),a.cells.take i,(([]:aa Int)++a.bh),(([]:aa Int)++a.aZ),())))
  (.inl (((),(),()),(((),(),(),()),((),(),(),()),([]:aa bC),([]:aa Int),([]:aa Int),a.cells,(([]:aa Int)++a.bh),(([]:aa Int)++a.aZ),()))) aQ (λk h=>by
  unfold Jm aq xG xI;have L:min k a.cells.length=k:=by omega
  have O:bD (k+1)=true:=cM;simp (disch:=omega) [h,bq,azJ _ (E _ (List.getElem_mem h)),L,O]) (by unfold Jm aq xG xI;simp) (bF)
 rw[Int.natCast_zero,List.take_zero]at e;rw[e];simp[bD,C,D]
def azL(a:cF)(T:a.cells.length<1073741823)(C:a.bh.length<1073741824)(D:a.aZ.length<1073741824)(E:∀ c∈a.cells,c.symbols.length<1073741824):Oa a=some a:=by
 unfold Oa xA aW xZ;have e:=cm (step:=HD) a.cells.length (λi=>(((),(),(),(i:Int),()),((a.cells,a.bh,a.aZ,()),((),(),(),()),((),(),(),()),([]:aa bC),([]:aa Int),([]:aa Int),a.cells.take i,(([]:aa Int)++a.bh),(([]:aa Int)++a.aZ),())))
  (.inl (((),(),()),(((),(),(),()),((),(),(),()),([]:aa bC),([]:aa Int),([]:aa Int),a.cells,(([]:aa Int)++a.bh),(([]:aa Int)++a.aZ),()))) aQ (λk h=>by
  unfold HD aq xG xI;have L:min k a.cells.length=k:=by omega
  have O:bD (k+1)=true:=cM;simp (disch:=omega) [h,bq,azK _ (E _ (List.getElem_mem h)),L,O]) (by unfold HD aq xG xI;simp) (bF)
 rw[Int.natCast_zero,List.take_zero]at e;rw[e];simp[bD,C,D]
def ef.lens{g:aP}{B:Int}{a:cF}(h:ef g B a):a.cells.length<1073741823/\a.bh.length<1073741824/\a.aZ.length<1073741824/\∀ c∈a.cells,c.symbols.length<1073741824:=by
 have D:=h.cells;have E:=h.bh;have L:=h.aZ;have O:=mK g;have T:=oJ g;exact⟨by omega,by omega,by omega,λc C=>by rw[(h.syms c C).1];omega⟩
def ef.copy{g:aP}{B:Int}{a:cF}(h:ef g B a):Ei a=some a:=
 let ⟨C,D,E,L⟩:=h.lens;ajw a C D E L
def zo(c:bC):Bool:=pV c.symbols 11
def qT(p:Int×Int):Bool:=aI p.1 0 100000&&aI p.2 0 100000
def kK(g:aP)(a:cF):Bool:=cq g&&(decide ((a.cells.length:Int)=eN g)&&(decide ((a.bh.length:Int)=fD g)&&(decide ((a.aZ.length:Int)=fD g)&&(a.cells.all zo&&(a.bh.zip a.aZ).all qT))))
def ajx(g:aP)(a:cF)(L:∀ c∈a.cells,c.symbols.length<1073741824):Eu g a=some (kK g a):=by
 unfold Eu kK br;rw[mJ,ak,wO,ak,Le];cases O:cq g with
 |false=>rfl
 | true=>
  have Z:=mK g;have b2:=oJ g;have er:aT g*g.rows=fD g:=by simp[fD,O]
  simp only[Bool.not_true,cond_false,ak,Bool.true_and,er];rw[aK];by_cases C:(a.cells.length:Int)=eN g
  ·by_cases D:(a.bh.length:Int)=fD g
   ·by_cases E:(a.aZ.length:Int)=fD g
    ·have T:a.bh.length=a.aZ.length:=by omega
     have l1:=fe (step:=JA) a.cells zo (λi=>(((),a.cells,(a.cells.length:Int),(i:Int),()),((a.cells,a.bh,a.aZ,()),()))) (.inl ((false,()),())) (.inr (.inl (((),()),((a.cells,a.bh,a.aZ,()),())))) aQ (λk h=>by
      unfold JA aq aM xG xI;simp (disch:=omega) [h,bq,aju _ 11 (L _ (List.getElem_mem h)),zo];cases pV a.cells[k].symbols 11<;>rfl) (by unfold JA aq aM xG xI;simp) (bF)
     have l2:=fe (step:=JB) (a.bh.zip a.aZ) qT (λi=>(((),(a.bh.length:Int),(i:Int),()),((a.cells,a.bh,a.aZ,()),()))) (.inl ((false,()),())) (.inr (.inl ((),()))) aQ (λk h=>by
      have U:k<a.bh.length:=by simp at h;omega
      have Y:k<a.aZ.length:=by omega
      unfold JB aq aM xG xI;simp (disch:=omega) [U,Y,bq,c9,qT];cases aI a.bh[k] 0 100000<;>cases aI a.aZ[k] 0 100000<;>rfl) (by unfold JB aq aM xG xI;simp[T]) (bF (by simp;omega))
     rw[Int.natCast_zero]at l1 l2;simp only[C,D,E,bne_self_eq_false,cond_false,decide_true,Bool.true_and];rw[<-C,l1];cases h1:a.cells.all zo with
     |false=>simp
     | true=>
      simp only[cond_true,Option.bind_some,Sum.elim_inr,Sum.elim_inl];rw[l2];cases (a.bh.zip a.aZ).all qT<;>simp
    ·simp[C,D,eU E,E]
   ·simp[C,eU D,D]
  ·simp[eU C,C]
def ef.ok{g:aP}{B:Int}{a:cF}(h:ef g B a)(E:cq g=true)(hB:B <= 100000):Eu g a=some true:=by
 rw[ajx g a (λc C=>by rw[(h.syms c C).1];omega)];have L:=h.cells;have O:=h.bh;have T:=h.aZ;have U:a.cells.all zo=true:=List.all_eq_true.2 λc C=>(h.syms c C).ok
 have Y:(a.bh.zip _).all qT=true:=List.all_eq_true.2 λp Z=>by
  obtain⟨x,y⟩:=p;have D:=List.of_mem_zip Z;have a1:=h.Cj x D.1;have a2:=h.gM y D.2;simp[qT,Bool.and_eq_true,bA];omega
 simp[kK,E,L,O,T,U,Y]
def qU(g:aP):(⟨g.cg,g.ay,g.rows,g.aO⟩:aP)=g:=rfl
def kL(n x:Int):Int:=if 100000<x+n then 100000 else x+n
def Yg(l:aa Int)(h:∀ s∈l,0 <= s/\s <= 15):bf (l.map Int.toNat)=l/\c8 (l.map Int.toNat):=by
 constructor
 ·induction l with
  |nil=>rfl
  | cons x l C=>
   have D:=h x (.head _);have:=C λs E=>h s (.tail _ E)
   grind
 ·intro x D
  grind
def Ll{w:aa Nat}(D:c8 w)(E:w.length=11):Sy (bf w):=by
 refine⟨by rw[fY,E],λs C=>?_⟩
 simp at C;obtain⟨x,L,rfl⟩:=C;have:=D x L;omega
def Sy.mem{l:aa bC}(h:∀c∈l,Sy c.symbols){k:Nat}(C:k<l.length):Sy l[k].symbols:=h _ (List.getElem_mem C)
def Sy.bO{l:aa bC}(h:∀c∈l,Sy c.symbols){k:Nat}{d:bC}(C:Sy d.symbols):∀c∈l.set k d,Sy c.symbols:=by grind
def Ln{l:aa Int}{B C:Int}(h:∀x∈l,B <= x/\x <= C){k:Nat}{v:Int}(D:B <= v/\v <= C):∀x∈l.set k v,B <= x/\x <= C:=by grind
def wP(l:gR)(a:cF)(i:Nat):Bool:=decide (a.bh.getD i 0 > l.bh) ||decide (a.aZ.getD i 0 > l.aZ)
def azM(g:aP)(l:gR)(a:cF)(i:Nat)(C:i<a.bh.length)(D:i<a.aZ.length):Eb g l a (i:Int)=some (wP l a i):=by
 unfold Eb wP xI
 grind
def azN{l:aa Int}{B C:Int}(h:∀ x∈l,B<=x/\x<=C)(k:Nat)(D:B<=0/\0<=C):B<=l.getD k 0/\l.getD k 0<=C:=by
 rw[List.getD_eq_getElem?_getD];cases E:l[k]? with
 |none=>exact D
 |some x=>exact h x (List.mem_of_getElem? E)
def ajy{x:Int}(h:0<=x/\x<=100000){n:Int}(C:0<=n):0<=kL n x/\kL n x<=100000:=by
 unfold kL;split<;>omega
def nP(k:Nat)(h:aa Int):aa Int:=h.set k (kL 1 (h.getD k 0))
def Lo(k:Nat)(h:aa Int):(nP k h).length=h.length:=by simp[nP]
def RD{k:Nat}{h:aa Int}(C:∀ x∈h,0<=x/\x<=100000):∀ x∈nP k h,0<=x/\x<=100000:=
 Ln C (ajy (azN C k ⟨by omega,by omega⟩) (by omega))
def Yh{k:Nat}{h:aa Int}(C:k<h.length):nP k h=h.set k (kL 1 h[k]):=by
 unfold nP;rw[List.getD_eq_getElem?_getD,List.getElem?_eq_getElem C];rfl
def zp(row:Int)(i:Nat)(h:aa Int):aa Int:=bif decide (0<row)then nP (i-1) (h.set i 0)else h.set i 0
def uH(R row:Int)(i:Nat)(h:aa Int):aa Int:=bif decide (row<R-1)then nP (i+1) (zp row i h)else zp row i h
def azO(row:Int)(i:Nat)(h:aa Int):(zp row i h).length=h.length:=by
 unfold zp;cases decide (0<row)<;>simp[Lo]
def azP(R row:Int)(i:Nat)(h:aa Int):(uH R row i h).length=h.length:=by
 unfold uH;cases decide (row<R-1)<;>simp[Lo,azO]
def azQ{row:Int}{i:Nat}{h:aa Int}(D:∀ x∈h,0<=x/\x<=100000):∀ x∈zp row i h,0<=x/\x<=100000:=by
 have C:=Ln D (k:=i) (v:=0) ⟨by omega,by omega⟩;unfold zp;cases decide (0<row)
 ·exact C
 ·exact RD C
def azR{R row:Int}{i:Nat}{h:aa Int}(D:∀ x∈h,0<=x/\x<=100000):∀ x∈uH R row i h,0<=x/\x<=100000:=by
 have C:=azQ (row:=row) (i:=i) D;unfold uH;cases decide (row<R-1)
 ·exact C
 ·exact RD C
def Gv{C:Type}(P:C->Prop)(o:ah C):Prop:=∃y,o=some y/\P y
def Gv.pure{C:Type}{P:C->Prop}{y:C}(h:P y):Gv P (some y):=⟨y,rfl,h⟩
def Gv.bind{α C:Type}{Q:α->Prop}{P:C->Prop}{f:ah α}{g:α->ah C}(h:Gv Q f)(D:∀ y,Q y->Gv P (g y)):Gv P (f.bind g):=by
 obtain⟨y,rfl,E⟩:=h;exact D y E
def azS(x a b:Int):Gv (λy=>y=aI x a b) (ck x a b):=⟨_,dP x a b,rfl⟩
def azT(k:Int):Gv (λy=>y=(aI k 1 5,k==1,(k==2 || k==3))) (O0 k):=by
 refine Gv.bind (azS _ _ _) (λ_ h=>?_)
 subst h;cases h:k==2<;>exact Gv.pure (by simp)
def Lp(y:Int):0<=bits .and .i64 y 15/\bits .and .i64 y 15<=15:=by
 have e:bits .and .i64 y 15=IntKind.wrap .i64 ((BitVec.ofInt 64 y &&& BitVec.ofInt 64 15).toNat:Int):=rfl;have h:(BitVec.ofInt 64 y &&& BitVec.ofInt 64 15).toNat<=15:=by
  rw[BitVec.toNat_and];exact Nat.le_trans Nat.and_le_right (by decide)
 rw[e,IntKind.wrap_i64];omega
def mM(t:cI):aa Int:=[t.iG,t.rp,t.fO,t.kS,t.iH,t.iI,t.kT,t.kU,t.hD,t.wr,t.kV,t.kW,t.n6,t.kX,t.lY,t.xp,t.xs]
def wQ(x:Int):Bool:=aI x 1 64
def gN(t:cI):Bool:=(mM t).all wQ&&(decide (t.iG<=t.fO)&&(decide (t.kS<=t.iH)&&(decide (t.kT<=t.kU)&&decide (t.kV<=t.kW))))
def Lq(t:cI):Eo t=some (gN t):=by
 unfold Eo gN br;change (iter En aQ (((),(),((mM t).length:Int),(0:Int),()),(t,mM t,()))).bind _=_;have C:(mM t).length=17:=rfl;generalize mM t=l at *
 have e:=fe (step:=En) l wQ (λi=>(((),(),(l.length:Int),(i:Int),()),(t,l,()))) _ (.inr (.inl (((),()),(t,())))) aQ (λk h=>by
  unfold En aq aM xG xL;simp (disch:=omega) [h,bq,c9,wQ];cases aI l[k] 1 64<;>rfl) (by unfold En aq aM xG xL;simp) (bF)
 rw[Int.natCast_zero]at e;rw[e];cases l.all wQ<;>simp
 grind
def RE(t:cI):Bh t=some (gN t):=by
 unfold Bh gN WO br;rw[ak];change (iter DN aQ (((),(),(0:Int),()),(t,mM t,()))).bind _=_;have C:(mM t).length=17:=rfl;generalize mM t=l at *
 have e:=fe (step:=DN) l wQ (λi=>(((),(),(i:Int),()),(t,l,()))) (.inl ((false,()),())) (.inr (.inl (((),()),(t,())))) aQ (λk h=>by
  unfold DN aq aM xG xL;simp (disch:=omega) [h,bq,dP,wQ];cases aI l[k] 1 64<;>rfl) (by unfold DN aq aM xG xL;simp) (bF)
 rw[Int.natCast_zero]at e;rw[e];cases l.all wQ<;>simp
 grind
def azU(t:cI):HJ t=wF t:=by
 unfold HJ wF;rw[Lq,RE]
def azV(t:cI):∃ y,wF t=some y:=by
 unfold wF;rw[Lq];cases gN t<;>exact⟨_,rfl⟩
def Lr(R i:Nat):Int:=((i % R:Nat):Int)
def jZ(n R:Nat):aa Int:=(List.range n).map (Lr R)
def Yi(n R:Nat):(jZ n R).length=n:=by simp[jZ]
def azW(n R:Nat):jZ (n+1) R=jZ n R++[Lr R n]:=by simp[jZ,List.range_succ]
def iX(g:aP)(n:Int):Bool:=cq g&&(aI n 0 2&&decide (2<=g.rows-n))
def zq(g:aP)(n:Int):eg×Bool:=bif iX g n then (⟨n,jZ ((aT g).toNat*(g.rows-n).toNat) (g.rows-n).toNat⟩,true)else (⟨0,[]⟩,false)
def RG{g:aP}{n:Int}(h:iX g n=true):cq g=true/\0 <= n/\n <= 2/\2 <= g.rows-n/\g.rows <= 16:=by
 simp[iX,Bool.and_eq_true,bA,decide_eq_true_eq]at h;have⟨C,⟨D,E⟩,L⟩:=h;have:=eK C;simp_all
def ajz(g:aP)(n:Int):HI g n=some (zq g n):=by
 unfold HI zq aW;rw[E4,ak];cases D:cq g with
 |false=>simp[iX,D]
 | true=>
  simp only[Bool.not_true,cond_false,dP,ak];cases E:aI n 0 2 with
  |false=>simp[iX,E]
  | true=>
   have n8:=bA.1 E;have gb:=eK D;simp only[Bool.not_true,cond_false];rw[aK];by_cases O:g.rows-n<2
   ·have:decide (2<=g.rows-n)=false:=decide_eq_false (by omega);rw[decide_eq_true O,cond_true];simp[iX,this]
   ·have Y:iX g n=true:=by simp[iX,D,E];omega
    rw[decide_eq_false O,cond_false,Y,cond_true];have Z:=eM g;obtain⟨C,L⟩:=Int.eq_ofNat_of_zero_le Z.1;obtain⟨R,T⟩:=Int.eq_ofNat_of_zero_le (show 0<=g.rows-n by omega);have hm:C*R<=8*16:=Nat.mul_le_mul (by omega) (by omega);have hmul:W6 ((C:Int)*(R:Int))=((C*R:Nat):Int):=by
     rw[<-Int.natCast_mul];exact aK
    have U:W6 (g.rows-n)=(R:Int):=by rw[T];exact aK
    have e:=cm (step:=HH) (C*R) (λi=>((n,(),(),(),(i:Int),()),((g.cg,g.ay,g.rows,g.aO,()),((0:Int),(),()),(n,(),()),([]:aa Int),jZ i R,())))
     (.inl (((),(),()),(((0:Int),(),()),(n,(),()),([]:aa Int),jZ (C*R) R,()))) aQ (λk h=>by
     unfold HH aq xG;have ho:bD ((jZ k R).length+1)=true:=cM (by rw[Yi];omega);have ht:(k:Int).tmod (R:Int)=Lr R k:=by unfold Lr;exact(Int.ofNat_tmod k R).symm
     dsimp only;rw[qU,qQ,ak,U,L,hmul,decide_eq_true (by omega),cond_true,if_neg (by omega),ht];simp only[List.length_cons,List.length_nil,Nat.zero_add];rw[ho,cond_true,bq,azW]) (by
     unfold HH aq xG;dsimp only;rw[qU,qQ,ak,U,L,hmul,decide_eq_false (by omega),cond_false]) (bF)
    rw[Int.natCast_zero]at e
    refine(congrArg (λo=>Option.bind o _) e).trans ?_
    rw[L,T];rfl
def azX(b R:Nat)(C:0<R)(j:Nat)(D:j <= R):jZ (b*R+j) R=jZ (b*R) R++(List.range j).map (λi:Nat=>(i:Int)):=by
 unfold jZ;rw[List.range_add,List.map_append,List.map_map];congr 1
 refine List.map_congr_left λi hi=>?_
 have hi:=List.mem_range.1 hi;simp only[Function.comp,Lr];rw[Nat.mul_comm,Nat.mul_add_mod,Nat.mod_eq_of_lt (by omega)]
def ajA(g:aP)(n:Int):Jq g n=some (zq g n):=by
 unfold Jq zq aW;rw[wO,ak];cases C:cq g with
 |false=>simp[iX,C]
 | true=>
  simp only[Bool.not_true,cond_false,c9,ak];cases D:aI n 0 2 with
  |false=>simp[iX,D]
  | true=>
   have n8:=bA.1 D;have gb:=eK C;simp only[Bool.not_true,cond_false];rw[aK];by_cases O:g.rows-n<2
   ·have:decide (2<=g.rows-n)=false:=decide_eq_false (by omega);rw[decide_eq_true O,cond_true];simp[iX,this]
   ·have Y:iX g n=true:=by simp[iX,C,D];omega
    rw[decide_eq_false O,cond_false,Y,cond_true];have Z:=eM g;obtain⟨E,L⟩:=Int.eq_ofNat_of_zero_le Z.1;obtain⟨R,T⟩:=Int.eq_ofNat_of_zero_le (show 0<=g.rows-n by omega);have U:W6 (g.rows-n)=(R:Int):=by rw[T];exact aK
    have inner:∀ b:Nat,b<E->iter Em aQ ((n,(),(),(),(b:Int),(0:Int),()),((g.cg,g.ay,g.rows,g.aO,()),((0:Int),(),()),(n,(),()),([]:aa Int),jZ (b*R) R,()))=some (.inl ((n,(),(),(),(b:Int),()),((g.cg,g.ay,g.rows,g.aO,()),((0:Int),(),()),(n,(),()),([]:aa Int),jZ ((b+1)*R) R,()))):=by
     intro b Yj;have hm:b*R<=8*16:=Nat.mul_le_mul (by omega) (by omega);have e:=cm (step:=Em) R (λj=>((n,(),(),(),(b:Int),(j:Int),()),((g.cg,g.ay,g.rows,g.aO,()),((0:Int),(),()),(n,(),()),([]:aa Int),jZ (b*R) R++(List.range j).map (λi:Nat=>(i:Int)),())))
      (.inl ((n,(),(),(),(b:Int),()),((g.cg,g.ay,g.rows,g.aO,()),((0:Int),(),()),(n,(),()),([]:aa Int),jZ (b*R) R++(List.range R).map (λi:Nat=>(i:Int)),()))) aQ (λk h=>by
      unfold Em aq xG;have ho:bD ((jZ (b*R) R++(List.range k).map (λi:Nat=>(i:Int))).length+1)=true:=cM (by simp[Yi];omega);dsimp only;rw[U,decide_eq_true (by omega),cond_true];simp only[List.length_cons,List.length_nil,Nat.zero_add];rw[ho,cond_true,bq,List.range_succ,List.map_append,List.append_assoc];rfl) (by
      unfold Em aq xG;dsimp only;rw[U,decide_eq_false (by omega),cond_false]) (bF)
     rw[Int.natCast_zero,List.range_zero,List.map_nil,List.append_nil]at e;rw[e,<-azX b R (by omega) R (Nat.le_refl _),Nat.succ_mul]
    have e:=cm (step:=Jp) E (λi=>((n,(),(),(),(i:Int),()),((g.cg,g.ay,g.rows,g.aO,()),((0:Int),(),()),(n,(),()),([]:aa Int),jZ (i*R) R,())))
     (.inl (((),(),()),(((0:Int),(),()),(n,(),()),([]:aa Int),jZ (E*R) R,()))) aQ (λk h=>by
     unfold Jp aq xG aW;dsimp only;rw[qU,mJ,ak,L,decide_eq_true (by omega),cond_true]
     refine(congrArg (λo=>Option.bind o _) (inner k h)).trans ?_
     rw[ak];simp only[Sum.elim_inl];rw[bq]) (by
     unfold Jp aq xG aW;dsimp only;rw[qU,mJ,ak,L,decide_eq_false (by omega),cond_false]) (bF)
    rw[Int.natCast_zero,Nat.zero_mul]at e
    refine(congrArg (λo=>Option.bind o _) e).trans ?_
    rw[L,T];rfl
def Cl(t:cI):Int:=(wF t).getD 0
def Yk(t:cI):wF t=some (Cl t):=by
 obtain⟨y,e⟩:=azV t;unfold Cl;rw[e];rfl
def azY(t:cI):HJ t=some (Cl t):=by rw[azU,Yk]
def Yl(m:iF):Jr m=some (aI m.order 0 2):=by
 unfold Jr;rw[c9];rfl
def azZ(m:iF):DO m=some (aI m.order 0 2):=by
 unfold DO;rw[dP];rfl
def mN(c:gp):Bool:=cq c.aB&&(gN c.bQ&&(aI c.mapping.order 0 2&&(iX c.aB c.bT&&(aI c.interval (Cl c.bQ) 10000&&(aI c.gy 1 16&&(aI c.dg.bh (W6 ((6:Int)*c.interval)) 100000&&aI c.dg.aZ 0 100000))))))
def RH(g:aP)(n:Int):(zq g n).2=iX g n:=by
 unfold zq;cases iX g n<;>rfl
def Ym(c:gp):PX c=some (mN c):=by
 unfold PX mN;simp only[ajA,wO,Lq,Yl,Yk,c9,ak,RH];cases cq c.aB<;>cases gN c.bQ<;>cases aI c.mapping.order 0 2<;>cases iX c.aB c.bT<;>cases aI c.interval (Cl c.bQ) 10000<;>cases aI c.gy 1 16<;>cases aI c.dg.bh (W6 ((6:Int)*c.interval)) 100000<;>rfl
def az0(c:gp):Od c=some (mN c):=by
 unfold Od mN;simp only[ajz,RE,azZ,azY,dP,ak,RH];cases h:iX c.aB c.bT with
 |false=>cases cq c.aB<;>cases gN c.bQ<;>cases aI c.mapping.order 0 2<;>rfl
 | true=>
  rw[(RG h).1];cases gN c.bQ<;>cases aI c.mapping.order 0 2<;>cases aI c.interval (Cl c.bQ) 10000<;>cases aI c.gy 1 16<;>cases aI c.dg.bh (W6 ((6:Int)*c.interval)) 100000<;>rfl
def Yn{c:gp}(h:mN c=true):cq c.aB=true/\gN c.bQ=true/\iX c.aB c.bT=true/\aI c.gy 1 16=true:=by
 simp[mN,Bool.and_eq_true]at h;simp_all
def ajB{t:cI}(h:gN t=true):(1 <= t.fO/\t.fO <= 64)/\1 <= t.rp/\t.rp <= 64:=by
 simp[gN,Bool.and_eq_true,List.all_eq_true]at h;have C:=h.1 t.fO (by simp[mM]);have D:=h.1 t.rp (by simp[mM]);simp[wQ,bA]at C D;simp_all
def lO(s:bM):Bool:=aI s.weight 1 9&&aI s.dU 0 s.weight
def gO(l:aa bM):Bool:=l.all lO&&aI (l.length:Int) 1 4
def Ls(l:aa bM)(C:l.length<1073741824):Ep l=some (gO l):=by
 unfold Ep gO br;have e:=fe (step:=Js) l lO (λi=>((l,l,l.length,i,()),())) _ (.inr (.inl ((l,()),()))) aQ (λk h=>by
  unfold Js aq aM xG xI;simp (disch:=omega) [h,bq,c9,lO];cases aI l[k].weight 1 9<;>cases aI l[k].dU 0 l[k].weight<;>rfl) (by unfold Js aq aM xG xI;simp) (bF C)
 rw[Int.natCast_zero]at e;rw[e];cases l.all lO<;>simp[c9]
def Yo(l:aa bM)(C:l.length<1073741824):DP l=some (gO l):=by
 unfold DP gO br;have e:=fe (step:=HK) l lO (λi=>((l,i,()),())) _ (.inr (.inl ((l,()),()))) aQ (λk h=>by
  unfold HK aq aM xG xI;simp (disch:=omega) [h,bq,dP,lO];cases aI l[k].weight 1 9<;>cases aI l[k].dU 0 l[k].weight<;>rfl) (by unfold HK aq aM xG xI;simp) (bF C)
 rw[Int.natCast_zero]at e;rw[e];cases l.all lO<;>simp[dP]
def mO(w:Int):bM:=⟨w,w⟩
def Cm(l:aa Int):aa bM×Bool:=bif gO (l.map mO)then (l.map mO,true)else ([],false)
def ajC{l:aa Int}{k:Nat}(h:k<l.length):(l.take (k+1)).map mO=(l.take k).map mO++[⟨l[k],l[k]⟩]:=by
 rw[List.take_succ_eq_append_getElem h,List.map_append];rfl
def ajD(l:aa Int)(D:l.length<1073741823):yX l=some (Cm l):=by
 unfold yX Cm aW;have e:=cm (step:=Jt) l.length (λi=>(((),l,(l.length:Int),(i:Int),()),((l.take i).map mO,()))) _ aQ (λk h=>by
  unfold Jt aq xG xI;have C:bD (((l.take k).map mO).length+1)=true:=cM (by simp;omega);dsimp only;rw[decide_eq_true (by omega),cond_true,dif_pos ⟨by omega,by omega⟩];simp only[List.length_cons,List.length_nil,Nat.zero_add,Int.toNat_natCast];rw[C,cond_true,bq,ajC h]) (by
  unfold Jt aq xG xI;dsimp only;rw[decide_eq_false (by omega),cond_false,List.take_length]) (bF)
 refine(congrArg (λo=>Option.bind o _) e).trans ?_
 rw[ak];simp only[Sum.elim_inl];rw[Ls _ (by simp;omega),ak]
 grind
def ajE(l:aa Int)(O:l.length<1073741823):Bj l=some (Cm l):=by
 unfold Bj Cm aW;have e:=cm (step:=HL) (min l.length 5) (λi=>((l,(),(i:Int),()),((l.take i).map mO,()))) (.inl (((),()),((l.take 5).map mO,()))) aQ (λk h=>by
  have C:k<l.length:=by omega
  unfold HL aq xG xI;have D:bD (((l.take k).map mO).length+1)=true:=cM (by simp;omega);dsimp only;rw[decide_eq_true (by omega),cond_true,decide_eq_true (by omega),cond_true,dif_pos ⟨by omega,by omega⟩,dif_pos ⟨by omega,by omega⟩];simp only[List.length_cons,List.length_nil,Nat.zero_add,Int.toNat_natCast];rw[D,cond_true,bq,ajC C]) (by
  unfold HL aq xG xI;dsimp only;by_cases c:l.length <= 5
  ·rw[Nat.min_eq_left c,List.take_length,List.take_of_length_le c];by_cases T:l.length=5
   ·rw[decide_eq_false (by omega),cond_false]
   ·rw[decide_eq_false (by omega),cond_false]
  ·rw[Nat.min_eq_right (by omega),decide_eq_true (by omega),cond_true,decide_eq_false (by omega),cond_false]) (bF)
 rw[Int.natCast_zero,List.take_zero,List.map_nil]at e
 refine(congrArg (λo=>Option.bind o _) e).trans ?_
 rw[ak];simp only[Sum.elim_inl];rw[Yo _ (by simp;omega),ak];by_cases c:l.length <= 5
 ·rw[List.take_of_length_le c];cases gO _<;>rfl
 ·have E:gO (l.map mO)=false:=by
   unfold gO;have:aI ((l.map mO).length:Int) 1 4=false:=by
    rw[Bool.eq_false_iff];intro h;have:=(bA.1 h).2
    grind
   rw[this,Bool.and_false]
  have L:gO ((l.take 5).map mO)=false:=by
   unfold gO;have:aI (((l.take 5).map mO).length:Int) 1 4=false:=by
    rw[Bool.eq_false_iff];intro h;have:=(bA.1 h).2
    grind
   rw[this,Bool.and_false]
  rw[E,L];rfl
def ajF(l:aa Int):(Cm l).2=gO (l.map mO):=by
 unfold Cm;cases gO (l.map mO)<;>rfl
def nQ(d:fI):Bool:=decide (d.low >= 0)&&(decide (d.low<d.high)&&decide (d.high<=12))
def RI(d:fI):BM d=some (nQ d):=by
 unfold BM nQ
 grind
def RJ(d:fI):Bi d=some (nQ d):=by
 unfold Bi nQ
 grind
def zu(r:jw):Bool:=aI r.down 1 10000&&(decide (r.sleep > r.down)&&decide (r.sleep<=20000))
def ajG(r:jw):Ju r=some (zu r):=by
 unfold Ju zu;rw[c9]
 grind
def ajH(r:jw):HM r=some (zu r):=by
 unfold HM zu;rw[dP]
 grind
def uI(p:eE):Bool:=aI p.dR 0 1&&(aI p.cap 0 100000&&(aI p.eI 3 1000&&(nQ ⟨false,p.low,p.high⟩&&((p.weights.length:Int)==4&&(gO (p.weights.map mO)&&zu p.dO)))))
def az1(p:eE)(C:p.weights.length<1073741823):Of p=some (uI p):=by
 unfold Of uI;simp[ajE _ C,ak,dP,RJ,ajH,ajF]
 grind
def az2(x:Int):aI x 0 1=(x==0 || x==1):=by
 rw[Bool.eq_iff_iff];simp[aI];omega
def Yp(p:eE)(C:p.weights.length<1073741823):PZ p=some (uI p):=by
 unfold PZ uI;simp[ajD _ C,ak,c9,RI,ajG,ajF,az2]
 grind
def az3(x:Int):Og x=Er x:=by
 unfold Og Er;rw[dP,c9]
def Yq(x:Int):∃ y,Er x=some y:=by
 unfold Er;rw[c9];cases aI x 3 1000<;>exact⟨_,rfl⟩
def Yr(c:gp)(p:eE)(C:p.weights.length<1073741823):∃ b,uA c p=some b/\(b=true->mN c=true):=by
 unfold uA;obtain⟨y,e⟩:=Yq p.eI;simp only[Ym,Yp _ C,e,ak];cases D:mN c with
 |false=>exact⟨false,rfl,λh=>by cases h⟩
 | true=>
  have L:=ajB (Yn D).2.1;have E:¬ W6 (c.bQ.fO+c.bQ.rp)=0:=by
   rw[aK];omega
  cases uI p with
  |false=>exact⟨false,rfl,λ_=>rfl⟩
  | true=>
   simp only[if_neg E,Bool.not_true,cond_false,cond_true];cases decide (W6 (y+2)<=c.dg.aZ)<;>exact⟨_,rfl,λ_=>by first|rfl|trivial⟩
def az4(c:gp)(p:eE)(C:p.weights.length<1073741823):∃ b,uA c p=some b/\DR c p=some b/\(b=true->mN c=true):=by
 unfold uA DR;obtain⟨y,e⟩:=Yq p.eI;simp only[Ym,az0,Yp _ C,az1 _ C,az3,e,ak];cases D:mN c with
 |false=>exact⟨false,rfl,rfl,λh=>by cases h⟩
 | true=>
  have L:=ajB (Yn D).2.1;have E:¬ W6 (c.bQ.fO+c.bQ.rp)=0:=by
   rw[aK];omega
  cases uI p with
  |false=>exact⟨false,rfl,rfl,λ_=>rfl⟩
  | true=>
   simp only[if_neg E,Bool.not_true,cond_false,cond_true];cases decide (W6 (y+2)<=c.dg.aZ)<;>exact⟨_,rfl,rfl,λ_=>by first|rfl|trivial⟩
def ajI(i:Nat)(l:aa cC):((opens i l).length==0)=l.all λb=>!b.open_:=by
 induction l generalizing i with
 |nil=>rfl
 | cons x a C=>
  simp[opens,List.all_cons]
  grind
def pW(g:aP)(b:cC):Bool:=aI b.row 0 (g.rows-1)&&(b.open_ ||b.row==0)
def ke(g:aP)(r:bV):Bool:=cq g&&(((r.ay.length:Int)==aT g)&&(aI r.aS 0 2&&(r.ay.all (pW g)&&(r.aS != 2 ||r.ay.all λb=>!b.open_))))
def ajJ(g:aP)(r:bV):Jw g r=some (ke g r):=by
 unfold Jw ke br;rw[wO,ak,mJ];cases D:cq g with
 |false=>rfl
 | true=>
  simp only[Bool.not_true,cond_false,ak,Bool.true_and];by_cases C:(r.ay.length:Int)=aT g
  ·have L:=eM g;have O:=eK D;simp only[C,bne_self_eq_false,cond_false,beq_self_eq_true,Bool.true_and,c9,ak];cases T:aI r.aS 0 2 with
   |false=>rfl
   | true=>
    have e:=fe (step:=Jv) r.ay (pW g) (λi=>(((),(),r.ay,(r.ay.length:Int),(i:Int),()),((g.cg,g.ay,g.rows,g.aO,()),(r.ay,r.aS,()),()))) (.inl ((false,()),())) (.inr (.inl (((),()),((r.ay,r.aS,()),())))) aQ (λk h=>by
     unfold Jv aq aM xG xI;dsimp only;rw[decide_eq_true (by omega),cond_true,dif_pos ⟨by omega,by omega⟩];simp only[Int.toNat_natCast,c9,ak];rw[aK (n:=g.rows-1),bq];unfold pW;cases aI r.ay[k].row 0 (g.rows-1)with
     |false=>rfl
     | true=>
      cases r.ay[k].open_ with
      |true=>rfl
      | false=>
       simp[bne];cases r.ay[k].row==0<;>rfl) (by
     unfold Jv aq aM xG xI;dsimp only;rw[decide_eq_false (by omega),cond_false]) (bF)
    rw[Int.natCast_zero,C]at e;simp only[Bool.not_true,cond_false,Bool.true_and]
    refine(congrArg (λo=>Option.bind o _) e).trans ?_
    rw[ak];cases r.ay.all (pW g)with
    |false=>rfl
    | true=>
     simp only[cond_true,Sum.elim_inr,Sum.elim_inl,Bool.true_and];cases U:r.aS != 2 with
     |true=>rfl
     | false=>
      simp;rw[Rz ⟨r.ay,r.aS⟩ (by show r.ay.length<_;omega),ak,<- ajI 0 r.ay];congr 1
      grind
  ·have E:((r.ay.length:Int)==aT g)=false:=by simp[C]
   rw[eU C,E];rfl
def az5(g:aP)(r:bV):Oh g r=some (ke g r):=by
 unfold Oh ke br;rw[E4,ak,qQ];cases E:cq g with
 |false=>rfl
 | true=>
  simp only[Bool.not_true,cond_false,ak,Bool.true_and];by_cases D:(r.ay.length:Int)=aT g
  ·have T:=eM g;have U:=eK E;simp only[D,bne_self_eq_false,cond_false,beq_self_eq_true,Bool.true_and,dP,ak];cases Y:aI r.aS 0 2 with
   |false=>rfl
   | true=>
    have e:=fe (step:=HN) r.ay (λb=>pW g b&&(r.aS != 2 || !b.open_)) (λi=>(((),(),(i:Int),()),((g.cg,g.ay,g.rows,g.aO,()),(r.ay,r.aS,()),()))) (.inl ((false,()),())) (.inr (.inl ((),()))) aQ (λk h=>by
     unfold HN aq aM xG xI;dsimp only;rw[decide_eq_true (by omega),cond_true,dif_pos ⟨by omega,by omega⟩];simp only[Int.toNat_natCast,dP,ak];rw[aK (n:=g.rows-1),bq];unfold pW;simp only[bne];cases aI r.ay[k].row 0 (g.rows-1)with
     |false=>rfl
     |true=>cases r.ay[k].open_<;>cases r.ay[k].row==0<;>cases r.aS==2<;>rfl) (by
     unfold HN aq aM xG xI;dsimp only;rw[decide_eq_false (by omega),cond_false]) (bF)
    rw[Int.natCast_zero]at e;simp only[Bool.not_true,cond_false,Bool.true_and]
    refine(congrArg (λo=>Option.bind o _) e).trans ?_
    rw[ak];have L:(r.ay.all λb=>pW g b&&(r.aS != 2 || !b.open_))=(r.ay.all (pW g)&&(r.aS != 2 || r.ay.all λb=>!b.open_)):=by
     cases r.aS != 2 with
     |true=>simp
     | false=>
      simp only[Bool.false_or];rw[Bool.eq_iff_iff];simp only[List.all_eq_true,Bool.and_eq_true];exact⟨λh=>⟨λx C=>(h x C).1,λx C=>(h x C).2⟩,λh x C=>⟨h.1 x C,h.2 x C⟩⟩
    rw[L];cases (r.ay.all (pW g)&&(r.aS != 2 ||r.ay.all λb=>!b.open_))<;>rfl
  ·have O:((r.ay.length:Int)==aT g)=false:=by simp[D]
   rw[eU D,O];rfl
def zx(d:Int):Bool:=aI d (-2) 5
def eG(r:cK):Bool:=r.aE.all zx&&(aI (r.aE.length:Int) 1 8&&aI r.wait 1 10000)
def Lt(r:cK)(C:r.aE.length<1073741824):za r=some (eG r):=by
 unfold za eG br;have e:=fe (step:=JF) _ zx (λi=>(((),r.aE,r.aE.length,i,()),((r.aE,r.wait,r.dj,()),()))) _ (.inr (.inl (((),()),((r.aE,r.wait,r.dj,()),())))) aQ (λk h=>by
  unfold JF aq aM xG xI;simp (disch:=omega) [h,bq,c9,zx];cases aI r.aE[k] _ 5<;>rfl) (by unfold JF aq aM xG xI;simp) (bF C)
 rw[Int.natCast_zero]at e;rw[e];cases r.aE.all zx<;>simp[c9]
 grind
def RK(r:cK)(C:r.aE.length<1073741824):Bl r=some (eG r):=by
 unfold Bl eG br;have e:=fe (step:=HW) _ zx (λi=>(((),i,()),((r.aE,r.wait,r.dj,()),()))) _ (.inr (.inl (((),()),((r.aE,r.wait,r.dj,()),())))) aQ (λk h=>by
  unfold HW aq aM xG xI;simp (disch:=omega) [h,bq,dP,zx];cases aI r.aE[k] _ 5<;>rfl) (by unfold HW aq aM xG xI;simp) (bF C)
 rw[Int.natCast_zero]at e;rw[e];cases r.aE.all zx<;>simp[dP]
 grind
def fF{T:Type}(p:T->Bool)(l:aa T):Int:=match l.findIdx? p with
 |some i=>(i:Int)
 |none=>-1
def uJ{α β T:Type}{step:α -> ah (α⊕β)}(l:aa T)(p:T -> Bool)(S:Nat -> α)(D:Nat -> β)(z:β)(fuel:Nat)(E:∀ k (h:k<l.length),step (S k)=some (bif p l[k]then .inr (D k)else .inl (S (k+1))))(L:step (S l.length)=some (.inr z))(C:l.length<fuel):
  iter step fuel (S 0)=some (match l.findIdx? p with|some i=>D i|none=>z):=by
 have key:∀ (n i fuel:Nat),i+n=l.length -> n<fuel -> (∀ j (h:j<l.length),j<i -> p l[j]=false) -> iter step fuel (S i)=some (match l.findIdx? p with | some i=>D i | none=>z):=by
  intro n
  induction n with
  | zero=>
   intro i fuel hi C O
   match fuel,C with
   | f+1,_=>
    have:i=l.length:=by omega
    subst this;have e:l.findIdx? p=none:=by
     rw[List.findIdx?_eq_none_iff];intro x U;obtain⟨j,Y,rfl⟩:=List.mem_iff_getElem.1 U
     grind
    unfold iter;rw[L,e]
  | succ n Z=>
   intro i fuel hi C O
   match fuel,C with
   | f+1,C=>
    have cU:i<l.length:=by omega
    unfold iter;rw[E i cU];cases hp:p l[i]with
    | true=>
     have e:l.findIdx? p=some i:=by
      rw[List.findIdx?_eq_some_iff_getElem]
      grind
     rw[e];rfl
    | false=>
     simp only[cond_false]
     refine Z (i+1) f (by omega) (by omega) λj Y G1=>?_
     by_cases e:j=i
     ·grind
     ·grind
 exact key l.length 0 fuel (by omega) C λj _ h=>by omega
def E6{T:Type}{p:T -> Bool}{l:aa T}{i:Nat}(h:i<l.length)(E:p l[i]=true):(fF p l != (i:Int))=(l.take i).any p:=by
 unfold fF;cases C:(l.take i).any p with
 | false=>
  have e:l.findIdx? p=some i:=by
   rw[List.findIdx?_eq_some_iff_getElem]
   refine⟨h,E,λj D=>?_⟩
   have:=List.any_eq_false.1 C l[j] (List.mem_iff_getElem.2 ⟨j,by simp;omega,by simp⟩);exact this
  rw[e];simp
 | true=>
  have⟨x,L,U⟩:=List.any_eq_true.1 C;obtain⟨j,D,rfl⟩:=List.mem_iff_getElem.1 L;rw[List.length_take]at D;cases O:l.findIdx? p with
  |none=>simp
  | some k=>
   have⟨Y,Z,k3⟩:=List.findIdx?_eq_some_iff_getElem.1 O;have:k≠i:=by
    grind
   simp only;simp;omega
def RL(x:Int):Bool:=aI x 0 4294967295
def nR(n:Int)(r:bk):Bool:=aI r.id 1 100000&&(aI r.de 0 3&&(decide (r.line >= 0)&&(decide (r.line<n)&&(RL r.data&&((r.write ||r.data==0)&&aI r.at_ 0 1000000)))))
def az6(n:Int)(r:bk):P6 n r=some (nR n r):=by
 unfold P6 nR BR RL;simp[c9]
 grind
def az7(n:Int)(r:bk):Ot n r=some (nR n r):=by
 unfold Ot nR HZ RL;simp[dP]
 grind
def pX(x y:bk):Bool:=decide (x.at_<y.at_) ||(x.at_==y.at_&&decide (x.id<y.id))
def ajK(x y:bk):P7 x y=some (pX x y):=by
 unfold P7 pX
 grind
def az8(x y:bk):WU x y=some (pX x y):=ajK x y
def Ys(l:aa bk)(id:Int)(C:l.length<1073741824):H7 l id=some (fF (λr=>r.id==id) l):=by
 unfold H7 fF br;have e:=uJ (step:=H6) l (λr=>r.id==id) (λi=>((l,id,i,()),())) _ (.inr (.inl ((),()))) aQ (λk h=>by
  unfold H6 aq aM xG xI;simp (disch:=omega) [h,bq];cases l[k].id==id<;>rfl) (by unfold H6 aq aM xG xI;simp) (bF C)
 rw[Int.natCast_zero]at e;rw[e];cases l.findIdx? _<;>rfl
def pY(n:Int)(q:aa bk)(i:Nat):Bool:=match q[i]? with
 |some r=>nR n r&&((i==0 ||(match q[i-1]? with|some x=>pX x r|none=>false)) && !((q.take i).any λx=>x.id==r.id))
 |none=>false
def Yt{n:Int}{q:aa bk}(h:0<q.length):pY n q 0=nR n q[0]:=by
 unfold pY;rw[List.getElem?_eq_getElem h];simp
def Lu{n:Int}{q:aa bk}{i:Nat}(h:i+1<q.length):pY n q (i+1)=(nR n q[i+1]&&(pX q[i] q[i+1] && !((q.take (i+1)).any λx=>x.id==q[i+1].id))):=by
 unfold pY
 grind
def nS(n:Int)(q:aa bk):Bool:=(List.range q.length).all (pY n q)&&decide ((q.length:Int)<=12)
def az9(n:Int)(q:aa bk):Ou n q=some (nS n q):=by
 unfold Ou nS br;by_cases c:(q.length:Int)<=12
 ·rw[decide_eq_false (show ¬ (q.length:Int) > 12 by omega),cond_false,decide_eq_true c,Bool.and_true];have e:=fe (step:=H8) (List.range q.length) (pY n q) (λi=>((n,q,(i:Int),()),())) (.inl ((false,()),())) (.inr (.inl ((),()))) aQ (λk h=>by
   rw[List.length_range]at h;rw[List.getElem_range];unfold H8 aq aM xG xI;dsimp only;rw[decide_eq_true (by omega),cond_true,dif_pos ⟨by omega,by omega⟩];simp only[Int.toNat_natCast,az7,ak];cases k with
   | zero=>
    rw[Yt h];cases nR n q[0]with
    |false=>rfl
    | true=>
     simp only[Bool.not_true,cond_false,cond_true];rw[decide_eq_false (by omega),cond_false,dif_pos ⟨by omega,h⟩,Ys _ _ (by omega),ak,E6 h (by simp)];simp;rfl
   | succ k=>
    rw[Lu h];cases nR n q[k+1]with
    |false=>rfl
    | true=>
     simp only[Bool.not_true,cond_false,Bool.true_and];have C:W6 (((k+1:Nat):Int)-1)=(k:Int):=by rw[aK];omega
     simp only[C,Int.toNat_natCast];rw[decide_eq_true (by omega),cond_true,dif_pos ⟨by omega,by omega⟩,dif_pos ⟨by omega,h⟩,az8,ak];cases pX q[k] q[k+1]with
     |false=>rfl
     | true=>
      simp only[Bool.not_true,cond_false,Bool.true_and];rw[dif_pos ⟨by omega,h⟩,Ys _ _ (by omega),ak,E6 h (by simp),bq];cases (q.take (k+1)).any λx=>x.id==q[k+1].id<;>rfl) (by
   rw[List.length_range];unfold H8 aq aM xG xI;dsimp only;rw[decide_eq_false (by omega),cond_false]) (by rw[List.length_range];exact bF)
  rw[Int.natCast_zero]at e
  refine(congrArg (λo=>Option.bind o _) e).trans ?_
  rw[ak];cases (List.range q.length).all (pY n q)<;>rfl
 ·rw[decide_eq_true (show (q.length:Int) > 12 by omega),cond_true,decide_eq_false c,Bool.and_false]
def aAa(n:Int)(q:aa bk){i:Nat}(h:i<q.length)(C:q.length<1073741824):
  iter Ey aQ ((n,q,(),q,(q.length:Int),(i:Int),((q.take i).drop 0),(((q.take i).drop 0).length:Int),(0:Int),()),((q[i].id,q[i].de,q[i].line,q[i].write,q[i].data,q[i].at_,()),()))=some (bif (q.take i).any (λx=>x.id==q[i].id)then .inl ((false,()),())else .inr (.inl ((n,q,q,(q.length:Int),(i:Int),()),()))):=by
 rw[List.drop_zero];have hlen:(q.take i).length=i:=by rw[List.length_take];omega
 generalize D:q[i]=r;generalize E:q.take i=t at *
 have e:=fe (step:=Ey) t (λx=>!(x.id==r.id)) (λj=>((n,q,(),q,(q.length:Int),(i:Int),t,(t.length:Int),(j:Int),()),((r.id,r.de,r.line,r.write,r.data,r.at_,()),()))) (.inl ((false,()),())) _ aQ (λk h=>by
  unfold Ey aq aM xG xI;dsimp only;rw[decide_eq_true (by omega),cond_true,dif_pos ⟨by omega,by omega⟩];simp only[Int.toNat_natCast];rw[bq];cases t[k].id==r.id<;>rfl) (by
  unfold Ey aq aM xG xI;dsimp only;rw[decide_eq_false (by omega),cond_false]) (bF)
 grind
def aAb(n:Int)(q:aa bk)(D:q.length<1073741824):P8 n q=some (nS n q):=by
 unfold P8 nS br;have e:=fe (step:=JK) (List.range q.length) (pY n q) (λi=>((n,q,q,(q.length:Int),(i:Int),()),())) (.inl ((false,()),())) (.inr (.inl ((q,()),()))) aQ (λk h=>by
   rw[List.length_range]at h;rw[List.getElem_range];unfold JK aq aM xG xI br;dsimp only;rw[decide_eq_true (by omega),cond_true,dif_pos ⟨by omega,by omega⟩];simp only[Int.toNat_natCast,az6,ak];have C:=aAa n q h D;cases k with
   | zero=>
    rw[Yt h];cases nR n q[0]with
    |false=>rfl
    | true=>
     simp only[Bool.not_true,cond_false,cond_true];rw[decide_eq_false (by omega),cond_false,if_pos ⟨by omega,by omega,by omega⟩]
     refine(congrArg (λo=>Option.bind o _) C).trans ?_
     simp;rfl
   | succ k=>
    rw[Lu h];cases nR n q[k+1]with
    |false=>rfl
    | true=>
     simp only[Bool.not_true,cond_false,Bool.true_and];have E:W6 (((k+1:Nat):Int)-1)=(k:Int):=by rw[aK];omega
     simp only[E,Int.toNat_natCast];rw[decide_eq_true (by omega),cond_true,dif_pos ⟨by omega,by omega⟩,ajK,ak];cases pX q[k] q[k+1]with
     |false=>rfl
     | true=>
      simp only[Bool.not_true,cond_false,Bool.true_and];rw[if_pos ⟨by omega,by omega,by omega⟩]
      refine(congrArg (λo=>Option.bind o _) C).trans ?_
      rw[ak];cases (q.take (k+1)).any λx=>x.id==q[k+1].id with
      |true=>rfl
      | false=>
       simp only[cond_false,Sum.elim_inr,Sum.elim_inl];rw[bq];rfl) (by
   rw[List.length_range];unfold JK aq aM xG xI br;dsimp only;rw[decide_eq_false (by omega),cond_false]) (by rw[List.length_range];exact bF)
 rw[Int.natCast_zero]at e
 refine(congrArg (λo=>Option.bind o _) e).trans ?_
 rw[ak];cases (List.range q.length).all (pY n q)<;>rfl
def iY(p:dL):Bool:=aI p.state 0 2&&(aI p.since 0 1000000&&aI p.idle 0 1000000)
def RM(p:dL):BS p=some (iY p):=by
 unfold BS iY;simp[c9]
 grind
def RN(p:dL):um p=some (iY p):=by
 unfold um iY;simp[dP]
 grind
def wR(e:bK):Bool:=aI e.line 0 1023&&((e.code==1 ||e.code==2)&&aI e.times 1 999)
def jG(e x:bK):Bool:=x.line==e.line&&x.code==e.code
def E7(l:aa bK)(i:Nat):Bool:=match l[i]? with
 |some e=>wR e && !((l.take i).any (jG e))
 |none=>false
def RO{l:aa bK}{i:Nat}(h:i<l.length):E7 l i=(wR l[i] && !((l.take i).any (jG l[i]))):=by
 unfold E7;rw[List.getElem?_eq_getElem h]
def js(l:aa bK):Bool:=(List.range l.length).all (E7 l)&&decide ((l.length:Int)<=6)
def ajL(l:aa bK)(e:bK)(C:l.length<1073741824):Ia l e.line e.code=some (fF (jG e) l):=by
 unfold Ia fF br;have e:=uJ (step:=H9) l (jG e) (λi=>((l,e.line,e.code,i,()),())) _ _ aQ (λk h=>by
  unfold H9 jG aq aM xG xI;dsimp only;rw[decide_eq_true (by omega),cond_true,dif_pos ⟨by omega,by omega⟩,dif_pos ⟨by omega,by omega⟩];simp only[Int.toNat_natCast];rw[bq];cases l[k].line==e.line<;>cases l[k].code==e.code<;>rfl) (by
  unfold H9 aq aM xG xI;dsimp only;rw[decide_eq_false (by omega),cond_false]) (bF C)
 rw[Int.natCast_zero]at e;rw[e];cases l.findIdx? _<;>rfl
def ajM(l:aa bK):Ic l=some (js l):=by
 unfold Ic js br;by_cases c:(l.length:Int) <= 6
 ·rw[decide_eq_false (show ¬ (l.length:Int) > 6 by omega),cond_false,decide_eq_true c,Bool.and_true];have e:=fe (step:=Ib) _ (E7 l) (λi=>((l,(i:Int),()),())) _ _ aQ (λk h=>by
   rw[List.length_range]at h;rw[List.getElem_range,RO h];unfold Ib DU wR aq aM xG xI;dsimp only;rw[decide_eq_true (by omega),cond_true,dif_pos ⟨by omega,by omega⟩,dif_pos ⟨by omega,by omega⟩,dif_pos ⟨by omega,by omega⟩];simp only[Int.toNat_natCast,dP,ak];rw[ajL _ _ (by omega),ak,E6 h (by simp[jG]),bq];cases aI l[k].line 0 1023<;>cases l[k].code==1<;>cases l[k].code==2<;>cases aI l[k].times 1 999<;>cases (l.take k).any (jG l[k])<;>rfl) (by
   rw[List.length_range];unfold Ib aq aM xG xI;dsimp only;rw[decide_eq_false (by omega),cond_false]) (by rw[List.length_range];exact bF)
  refine(congrArg (λo=>Option.bind o _) e).trans ?_
  rw[ak];cases (List.range l.length).all (E7 l)<;>rfl
 ·rw[decide_eq_true (show (l.length:Int) > 6 by omega),cond_true,decide_eq_false c,Bool.and_false]
def aAc(l:aa bK){i:Nat}(h:i<l.length)(C:l.length<1073741824):
  iter EA aQ ((l,(),l,(l.length:Int),(i:Int),((l.take i).drop 0),(((l.take i).drop 0).length:Int),(0:Int),()),((l[i].line,l[i].code,l[i].times,()),()))=some (bif (l.take i).any (jG l[i])then .inl ((false,()),())else .inr (.inl ((l,l,(l.length:Int),(i:Int),()),()))):=by
 rw[List.drop_zero];have hlen:(l.take i).length=i:=by rw[List.length_take];omega
 generalize D:l[i]=r;generalize E:l.take i=t at *
 have e:=fe (step:=EA) t (λx=>!(jG r x)) (λj=>((l,(),l,(l.length:Int),(i:Int),t,(t.length:Int),(j:Int),()),((r.line,r.code,r.times,()),()))) _ _ aQ (λk h=>by
  unfold EA jG aq aM xG xI;dsimp only;rw[decide_eq_true (by omega),cond_true,dif_pos ⟨by omega,by omega⟩];simp only[Int.toNat_natCast];rw[bq,BEq.comm (a:=r.line),BEq.comm (a:=r.code)];cases t[k].line==r.line<;>cases t[k].code==r.code<;>rfl) (by
  unfold EA aq aM xG xI;dsimp only;rw[decide_eq_false (by omega),cond_false]) (bF)
 grind
def ajN(l:aa bK)(C:l.length<1073741824):JM l=some (js l):=by
 unfold JM js br;have e:=fe (step:=JL) _ (E7 l) (λi=>((l,l,l.length,i,()),())) _ _ aQ (λk h=>by
   rw[List.length_range]at h;rw[List.getElem_range,RO h];have D:=aAc l h C;unfold JL wR aq aM xG xI br;dsimp only;rw[decide_eq_true (by omega),cond_true,dif_pos ⟨by omega,by omega⟩];simp only[Int.toNat_natCast,c9,ak,bne];rw[if_pos ⟨by omega,by omega,by omega⟩];rw[show (0:Int).toNat=0 from rfl,D];cases aI l[k].line 0 1023<;>cases l[k].code==1<;>cases l[k].code==2<;>cases aI l[k].times 1 999<;>cases (l.take k).any (jG l[k])<;>first|rfl|(simp only[cond_true,cond_false,Bool.not_true,Bool.not_false,ak,Sum.elim_inr,Sum.elim_inl];rw[bq];rfl)) (by
   rw[List.length_range];unfold JL aq aM xG xI br;dsimp only;rw[decide_eq_false (by omega),cond_false]) (by rw[List.length_range];exact bF)
 refine(congrArg (λo=>Option.bind o _) e).trans ?_
 cases (List.range _).all _<;>rfl
def RQ(l:aa Int)(x:Int)(C:l.length<1073741824):BQ l x=some (fF (λe=>x==e) l):=by
 unfold BQ fF;have e:=uJ (step:=JH) l (λe=>x==e) (λi=>((l,x,l.length,i,()),())) _ _ aQ (λk h=>by
  unfold JH aq aM xG xI;dsimp only;rw[decide_eq_true (by omega),cond_true,dif_pos ⟨by omega,by omega⟩];simp only[Int.toNat_natCast];rw[bq];cases x==l[k]<;>rfl) (by
  unfold JH aq aM xG xI;dsimp only;rw[decide_eq_false (by omega),cond_false]) (bF C)
 rw[Int.natCast_zero]at e;rw[e];cases l.findIdx? _<;>rfl
def Cn(t:bI)(i:Nat):Bool:=match t.rows[i]?,t.counts[i]? with
 |some r,some c=>aI r (-1) 15&&(aI c t.cE 100000&&((r != -1 ||c==0)&&(r == -1 ||!((t.rows.take i).any λx=>r==x))))
 |_,_=>false
def RR{t:bI}{i:Nat}(h:i<t.rows.length)(C:i<t.counts.length):Cn t i=(aI t.rows[i] (-1) 15&&(aI t.counts[i] t.cE 100000&&((t.rows[i] != -1 || t.counts[i]==0)&&(t.rows[i] == -1 || !((t.rows.take i).any λx=>t.rows[i]==x))))):=by
 unfold Cn;rw[List.getElem?_eq_getElem h,List.getElem?_eq_getElem C]
def jt(t:bI):Bool:=aI (t.rows.length:Int) 1 16&&((t.rows.length:Int)==(t.counts.length:Int)&&(aI t.cE 0 100000&&(List.range t.rows.length).all (Cn t)))
def Yu(t:bI):zb t=some (jt t):=by
 unfold zb jt br;simp only[c9,ak];cases D:aI (t.rows.length:Int) 1 16 with
 |false=>rfl
 | true=>
  have D:=bA.1 D;by_cases C:(t.rows.length:Int)=(t.counts.length:Int)
  ·simp only[C,bne_self_eq_false,beq_self_eq_true,Bool.not_true,cond_false,Bool.true_and];cases T:aI t.cE 0 100000 with
   |false=>rfl
   | true=>
    have e:=fe (step:=JI) (List.range t.rows.length) (Cn t) (λi=>(((),t.rows,(t.rows.length:Int),(i:Int),()),((t.rows,t.counts,t.cE,()),()))) (.inl ((false,()),())) (.inr (.inl ((),()))) aQ (λk h=>by
     rw[List.length_range]at h;have E:k<t.counts.length:=by omega
     rw[List.getElem_range,RR h E];unfold JI aq aM xG xI;dsimp only;rw[decide_eq_true (by omega),cond_true,dif_pos ⟨by omega,by omega⟩,dif_pos ⟨by omega,by omega⟩,dif_pos ⟨by omega,by omega⟩];simp only[Int.toNat_natCast,c9,ak,RQ _ _ (show t.rows.length<1073741824 by omega)];rw[E6 (p:=λe=>t.rows[k]==e) h (by simp),bq];simp only[bne];cases aI t.rows[k] (-1) 15<;>cases aI t.counts[k] t.cE 100000<;>cases t.rows[k] == -1<;>cases t.counts[k]==0<;>cases (t.rows.take k).any (λe=>t.rows[k]==e)<;>rfl) (by
     rw[List.length_range];unfold JI aq aM xG xI;dsimp only;rw[decide_eq_false (by omega),cond_false]) (by rw[List.length_range];exact bF)
    rw[Int.natCast_zero,C]at e;simp only[Bool.not_true,cond_false,Bool.true_and]
    refine(congrArg (λo=>Option.bind o _) e).trans ?_
    rw[ak];cases (List.range t.rows.length).all (Cn t)<;>rfl
  ·have L:((t.rows.length:Int)==(t.counts.length:Int))=false:=by simp[C]
   have O:((t.counts.length:Int) != (t.rows.length:Int))=true:=eU λh=>C h.symm
   rw[L,O];rfl
def aAd(t:bI){i:Nat}(h:i<t.rows.length)(C:t.rows.length<1073741824):
  iter DT aQ (((),(i:Int),(0:Int),()),((t.rows,t.counts,t.cE,()),()))=some (bif decide (t.rows[i] >= 0)&&(t.rows.take i).any (λx=>t.rows[i]==x)then .inl ((false,()),())else .inr (.inl (((),(i:Int),()),((t.rows,t.counts,t.cE,()),())))):=by
 have hlen:(t.rows.take i).length=i:=by rw[List.length_take];omega
 have e:=fe (step:=DT) (t.rows.take i) (λx=>!(decide (t.rows[i] >= 0)&&t.rows[i]==x)) (λj=>(((),(i:Int),(j:Int),()),((t.rows,t.counts,t.cE,()),()))) _ _ aQ (λk D=>by
  unfold DT aq aM xG xI;dsimp only;rw[decide_eq_true (by omega),cond_true,dif_pos ⟨by omega,by omega⟩,dif_pos ⟨by omega,by omega⟩,dif_pos ⟨by omega,by omega⟩];simp only[Int.toNat_natCast,List.getElem_take];rw[bq,BEq.comm (a:=t.rows[k])];cases decide (t.rows[i] >= 0)<;>cases t.rows[i]==t.rows[k]<;>rfl) (by
  rw[hlen];unfold DT aq aM xG xI;dsimp only;rw[decide_eq_false (by omega),cond_false]) (bF)
 grind
def Yv(t:bI):Bn t=some (jt t):=by
 unfold Bn jt br;simp only[dP,ak];cases D:aI (t.rows.length:Int) 1 16 with
 |false=>rfl
 | true=>
  have D:=bA.1 D;by_cases C:(t.rows.length:Int)=(t.counts.length:Int)
  ·simp only[C,bne_self_eq_false,beq_self_eq_true,Bool.not_true,cond_false,Bool.true_and];cases Y:aI t.cE 0 100000 with
   |false=>rfl
   | true=>
    have e:=fe (step:=HX) (List.range t.rows.length) (Cn t) (λi=>(((),(i:Int),()),((t.rows,t.counts,t.cE,()),()))) (.inl ((false,()),())) (.inr (.inl ((),()))) aQ (λk h=>by
     rw[List.length_range]at h;have O:k<t.counts.length:=by omega
     have T:=aAd t h (by omega);rw[List.getElem_range,RR h O];unfold HX aq aM xG xI br;dsimp only;rw[decide_eq_true (by omega),cond_true,dif_pos ⟨by omega,by omega⟩,dif_pos ⟨by omega,by omega⟩,dif_pos ⟨by omega,by omega⟩,dif_pos ⟨by omega,by omega⟩];simp only[Int.toNat_natCast,dP,ak];rw[T,ak];cases E:aI t.rows[k] (-1) 15 with
     |false=>rfl
     | true=>
      have E:=bA.1 E;cases aI t.counts[k] t.cE 100000 with
      |false=>rfl
      | true=>
       simp only[Bool.not_true,cond_false,Bool.true_and,bne];by_cases L:t.rows[k] = -1
       ·rw[decide_eq_true (show t.rows[k]<0 by omega),decide_eq_false (show ¬ t.rows[k] >= 0 by omega),show (t.rows[k] == -1)=true by simp[L]];simp;rw[bq]
        grind
       ·rw[decide_eq_false (show ¬ t.rows[k]<0 by omega),decide_eq_true (show t.rows[k] >= 0 by omega),show (t.rows[k] == -1)=false by simp[L]];simp only[cond_true,cond_false,Bool.true_and];cases (t.rows.take k).any λx=>t.rows[k]==x with
        |true=>rfl
        | false=>
         simp;rw[bq];rfl) (by
     rw[List.length_range];unfold HX aq aM xG xI br;dsimp only;rw[decide_eq_false (by omega),cond_false]) (by rw[List.length_range];exact bF)
    rw[Int.natCast_zero]at e;simp only[Bool.not_true,cond_false,Bool.true_and]
    refine(congrArg (λo=>Option.bind o _) e).trans ?_
    rw[ak];cases (List.range t.rows.length).all (Cn t)<;>rfl
  ·have U:((t.rows.length:Int)==(t.counts.length:Int))=false:=by simp[C]
   rw[U,eU C];rfl
def w9(g:aP):W6 ((9:Int)*(W6 (aT g+(1:Int))))=9*(aT g+1):=by
 have:=eM g;rw[aK (n:=aT g+1),aK]
def Lv(k:Int):wG k=some (aI k 1 5):=by
 unfold wG;rw[c9];rfl
def aAe(n:Int)(u:Bool)(k:Int):BW n u k=some (bif u then aI n 0 (W6 (k-1))else n==0):=by
 unfold BW;rw[c9];cases u<;>rfl
def mP(g:aP)(i:Nat):Bool:=decide ((i:Int) / 9<aT g)==decide ((i:Int) % 9+1<=5)
def aAf(g:aP){i:Nat}(hi:i<1000):Oi g (i:Int)=some (mP g i):=by
 unfold Oi mP;rw[qQ,ak,Int.tdiv_eq_ediv_of_nonneg (by omega),Int.tmod_eq_emod_of_nonneg (by omega),aK,aK,BEq.comm]
def aAg(g:aP){i:Nat}(hi:i<1000):∃ c,BN g (i:Int)=some (c,mP g i):=by
 unfold BN mP;rw[mJ,ak,Int.tdiv_eq_ediv_of_nonneg (by omega),Int.tmod_eq_emod_of_nonneg (by omega),aK,aK,Lv];have:aI (i % 9+1) 1 5=decide ((i:Int) % 9+1 <= 5):=by
  simp[aI];omega
 rw[this];cases decide (i / 9<aT g)<;>exact⟨_,rfl⟩
def Co(g:aP)(l:aa Int)(i:Nat):Bool:=match l[i]? with
 |some e=>aI e (-1) 1000000&&(mP g i ||e == -1)
 |none=>false
def Lw{g:aP}{l:aa Int}{i:Nat}(h:i<l.length):Co g l i=(aI l[i] (-1) 1000000&&(mP g i || l[i] == -1)):=by
 unfold Co;rw[List.getElem?_eq_getElem h]
def mQ(l:aa Int)(i:Nat):Bool:=match l[i]? with
 |some e=>aI e 0 1000000&&(i==0 ||(match l[i-1]? with|some x=>!(decide (x >= e))|none=>false))
 |none=>false
def Lx{l:aa Int}(h:0<l.length):mQ l 0=aI l[0] 0 1000000:=by
 unfold mQ;rw[List.getElem?_eq_getElem h];simp
def E8{l:aa Int}{i:Nat}(h:i+1<l.length):mQ l (i+1)=(aI l[i+1] 0 1000000 && !(decide (l[i] >= l[i+1]))):=by
 unfold mQ
 grind
def jH(g:aP)(r:cP):Bool:=cq g&&((r.last.length:Int)==9*(aT g+1)&&(!(decide ((r.bg.length:Int) > 4))&&((List.range r.last.length).all (Co g r.last)&&(List.range r.bg.length).all (mQ r.bg))))
def Yw(g:aP)(r:cP):Et g r=some (jH g r):=by
 unfold Et jH br;rw[wO,ak,mJ];cases T:cq g with
 |false=>rfl
 | true=>
  simp only[Bool.not_true,cond_false,ak,Bool.true_and,w9];by_cases C:(r.last.length:Int)=9*(aT g+1)
  ·have U:=eM g;rw[C,bne_self_eq_false,cond_false,beq_self_eq_true,Bool.true_and,<-C];cases D:decide ((r.bg.length:Int) > 4)with
   |true=>rfl
   | false=>
    have D:=of_decide_eq_false D;have l1:=fe (step:=Jx) (List.range r.last.length) (Co g r.last) (λi=>(((),(),r.last,(r.last.length:Int),(i:Int),()),((g.cg,g.ay,g.rows,g.aO,()),(r.last,r.bg,()),()))) (.inl ((false,()),())) (.inr (.inl (((),()),((r.last,r.bg,()),())))) aQ (λk h=>by
     rw[List.length_range]at h;obtain⟨c,E⟩:=aAg g (i:=k) (by omega);rw[List.getElem_range,Lw h];unfold Jx aq aM xG xI;dsimp only;rw[decide_eq_true (by omega),cond_true,dif_pos ⟨by omega,by omega⟩];simp only[Int.toNat_natCast,c9,ak,qU,E,bne];rw[bq];cases aI r.last[k] (-1) 1000000<;>cases mP g k<;>cases r.last[k] == -1<;>rfl) (by
     rw[List.length_range];unfold Jx aq aM xG xI;dsimp only;rw[decide_eq_false (by omega),cond_false]) (by rw[List.length_range];exact bF)
    have l2:=fe (step:=Jy) (List.range r.bg.length) (mQ r.bg) (λi=>(((),r.bg,(r.bg.length:Int),(i:Int),()),((r.last,r.bg,()),()))) (.inl ((false,()),())) (.inr (.inl ((),()))) aQ (λk h=>by
     rw[List.length_range]at h;rw[List.getElem_range];unfold Jy aq aM xG xI;dsimp only;rw[decide_eq_true (by omega),cond_true,dif_pos ⟨by omega,by omega⟩];simp only[Int.toNat_natCast,c9,ak];cases k with
     | zero=>
      rw[Lx h];cases aI r.bg[0] 0 1000000 with
      |false=>rfl
      | true=>
       rw[decide_eq_false (by omega)];rfl
     | succ k=>
      rw[E8 h];have L:W6 (((k+1:Nat):Int)-1)=(k:Int):=by rw[aK];omega
      simp only[L,Int.toNat_natCast];rw[decide_eq_true (show ((k+1:Nat):Int) > 0 by omega),dif_pos ⟨by omega,by omega⟩,bq];cases aI r.bg[k+1] 0 1000000<;>cases decide (r.bg[k] >= r.bg[k+1])<;>rfl) (by
     rw[List.length_range];unfold Jy aq aM xG xI;dsimp only;rw[decide_eq_false (by omega),cond_false]) (by rw[List.length_range];exact bF)
    rw[Int.natCast_zero]at l1 l2;simp only[Bool.not_false,cond_false,Bool.true_and]
    refine(congrArg (λo=>Option.bind o _) l1).trans ?_
    rw[ak];cases (List.range r.last.length).all (Co g r.last)with
    |false=>rfl
    | true=>
     simp only[cond_true,Sum.elim_inr,Sum.elim_inl,Bool.true_and]
     refine(congrArg (λo=>Option.bind o _) l2).trans ?_
     rw[ak];cases (List.range r.bg.length).all (mQ r.bg)<;>rfl
  ·have O:((r.last.length:Int)==9*(aT g+1))=false:=by simp[C]
   rw[eU C,O];rfl
def ajO(g:aP)(r:cP):HQ g r=some (jH g r):=by
 unfold HQ jH br;rw[E4,ak,qQ];cases O:cq g with
 |false=>rfl
 | true=>
  simp only[Bool.not_true,cond_false,ak,Bool.true_and,w9];by_cases C:(r.last.length:Int)=9*(aT g+1)
  ·have T:=eM g;rw[C,bne_self_eq_false,cond_false,beq_self_eq_true,Bool.true_and];cases D:decide ((r.bg.length:Int) > 4)with
   |true=>rfl
   | false=>
    have D:=of_decide_eq_false D;have l1:=fe (step:=HO) (List.range r.last.length) (Co g r.last) (λi=>(((),(),(i:Int),()),((g.cg,g.ay,g.rows,g.aO,()),(r.last,r.bg,()),()))) (.inl ((false,()),())) (.inr (.inl (((),()),((r.last,r.bg,()),())))) aQ (λk h=>by
     rw[List.length_range]at h;rw[List.getElem_range,Lw h];unfold HO aq aM xG xI;dsimp only;rw[decide_eq_true (by omega),cond_true,dif_pos ⟨by omega,by omega⟩,dif_pos ⟨by omega,by omega⟩];simp only[Int.toNat_natCast,dP,ak,qU,aAf g (show k<1000 by omega),bne];rw[bq];cases aI r.last[k] (-1) 1000000<;>cases mP g k<;>cases r.last[k] == -1<;>rfl) (by
     rw[List.length_range];unfold HO aq aM xG xI;dsimp only;rw[decide_eq_false (by omega),cond_false]) (by rw[List.length_range];exact bF)
    have l2:=fe (step:=HP) (List.range r.bg.length) (mQ r.bg) (λi=>(((),(i:Int),()),((r.last,r.bg,()),()))) (.inl ((false,()),())) (.inr (.inl ((),()))) aQ (λk h=>by
     rw[List.length_range]at h;rw[List.getElem_range];unfold HP aq aM xG xI;dsimp only;rw[decide_eq_true (by omega),cond_true,dif_pos ⟨by omega,by omega⟩];simp only[Int.toNat_natCast,dP,ak];cases k with
     | zero=>
      rw[Lx h];cases aI r.bg[0] 0 1000000 with
      |false=>rfl
      | true=>
       rw[decide_eq_false (by omega)];rfl
     | succ k=>
      rw[E8 h];have E:W6 (((k+1:Nat):Int)-1)=(k:Int):=by rw[aK];omega
      simp only[E,Int.toNat_natCast];rw[decide_eq_true (show ((k+1:Nat):Int) > 0 by omega),dif_pos ⟨by omega,by omega⟩,dif_pos ⟨by omega,by omega⟩,bq];cases aI r.bg[k+1] 0 1000000<;>cases decide (r.bg[k] >= r.bg[k+1])<;>rfl) (by
     rw[List.length_range];unfold HP aq aM xG xI;dsimp only;rw[decide_eq_false (by omega),cond_false]) (by rw[List.length_range];exact bF)
    rw[Int.natCast_zero]at l1 l2;simp only[Bool.not_false,cond_false,Bool.true_and]
    refine(congrArg (λo=>Option.bind o _) l1).trans ?_
    rw[ak];cases (List.range r.last.length).all (Co g r.last)with
    |false=>rfl
    | true=>
     simp only[cond_true,Sum.elim_inr,Sum.elim_inl,Bool.true_and]
     refine(congrArg (λo=>Option.bind o _) l2).trans ?_
     rw[ak];cases (List.range r.bg.length).all (mQ r.bg)<;>rfl
  ·have L:((r.last.length:Int)==9*(aT g+1))=false:=by simp[C]
   rw[eU C,L];rfl
def aAh(l:aa Int)(x:Int)(C:l.length<1073741824):Ol l x=some (l.any λe=>e==x):=by
 unfold Ol br;have e:=fe (step:=HT) l (λe=>!(e==x)) (λi=>((l,x,i,()),())) _ _ aQ (λk h=>by
  unfold HT aq aM xG xI;dsimp only;rw[decide_eq_true (by omega),cond_true,dif_pos ⟨by omega,by omega⟩];simp only[Int.toNat_natCast];rw[bq];cases l[k]==x<;>rfl) (by
  unfold HT aq aM xG xI;dsimp only;rw[decide_eq_false (by omega),cond_false]) (bF C)
 rw[Int.natCast_zero]at e;rw[e];have:l.all (λe=>!(e==x)) = !l.any λe=>e==x:=by rw[List.any_eq_not_all_not,Bool.not_not]
 rw[this];cases l.any λe=>e==x<;>rfl
def aAi(l:aa Int)(x:Int)(C:l.length<1073741824):P2 l x=some (l.count x:Int):=by
 unfold P2 aW;have e:=cm (step:=JC) _ (λi=>((x,((l.take i).count x),l,l.length,i,()),())) _ aQ (λk h=>by
  unfold JC aq xG xI;have D:(l.take k).count x <= k:=Nat.le_trans List.count_le_length (by rw[List.length_take];omega);dsimp only;rw[decide_eq_true (by omega),cond_true,dif_pos ⟨by omega,by omega⟩];simp only[Int.toNat_natCast];rw[List.take_succ_eq_append_getElem h,List.count_append,List.count_singleton,bq,bq];cases l[k]==x<;>rfl) (by
  unfold JC aq xG xI;dsimp only;rw[decide_eq_false (by omega),cond_false,List.take_length]) (bF C)
 simp_all
def ajP{x:Int}:∀ (l:aa Int),(∀ j (h:j<l.length),l[j]=x -> x ∉ l.take j) -> l.count x <= 1
 |[],_=>by simp
 | y :: ys,h=>by
  rw[List.count_cons];by_cases e:y=x
  ·have:x ∉ ys:=by
    intro C;have⟨j,E,D⟩:=List.mem_iff_getElem.1 C;refine h (j+1) (by simp;omega) (by simpa using D) ?_;simp_all
   grind
  ·have:=ajP ys λj E D C=>h (j+1) (by simp;omega) (by simpa using D) (by rw[List.take_succ_cons];exact List.mem_cons_of_mem _ C)
   simp_all
def aAj{x:Int}:∀ (l:aa Int) (j:Nat) (h:j<l.length),l[j]=x -> x∈l.take j -> 2 <= l.count x:=by
 intro l j h e C;have D:=List.count_pos_iff.2 C;have E:1 <= (l.drop j).count x:=List.count_pos_iff.2 (by rw[<- e];exact List.mem_iff_getElem.2 ⟨0,by simp;omega,by simp⟩);have:l.count x=(l.take j).count x+(l.drop j).count x:=by rw[<- List.count_append,List.take_append_drop]
 omega
def pZ(R M:Int)(L:aa Int)(j:Nat):Bool:=match L[j]? with
 |some e=>e==(j:Int) ||(aI e R M && !(decide ((L.count e:Int) > 1)))
 |none=>false
def zy(R M:Int)(L:aa Int)(j:Nat):Bool:=match L[j]? with
 |some e=>e==(j:Int) ||(aI e R M && !((L.take j).any λx=>x==e))
 |none=>false
def aAk(R M:Int)(L:aa Int)(Z:(L.length:Int)=R):(List.range L.length).all (pZ R M L)=(List.range L.length).all (zy R M L):=by
 rw[Bool.eq_iff_iff,List.all_eq_true,List.all_eq_true];simp only[List.mem_range];constructor
 ·intro h j C;have:=h j C;unfold pZ at this;unfold zy;rw[List.getElem?_eq_getElem C]at *
  simp only[Bool.or_eq_true,Bool.and_eq_true,Bool.not_eq_true',decide_eq_false_iff_not]at *
  rcases this with D|⟨D,Y⟩
  ·simp_all
  ·refine .inr ⟨D,?_⟩;rw[List.any_eq_false];intro x T O;have O:x=L[j]:=by simpa using O
   have:=aAj L j C rfl (O ▸ T);omega
 ·intro h j C;have:=h j C;unfold zy at this;unfold pZ;rw[List.getElem?_eq_getElem C]at *
  simp only[Bool.or_eq_true,Bool.and_eq_true,Bool.not_eq_true',decide_eq_false_iff_not]at *
  rcases this with D|⟨D,Y⟩
  ·simp_all
  ·refine .inr ⟨D,?_⟩;have hle:=(bA.1 D).1;have:=ajP (x:=L[j]) L λk U e T=>by
    have E:=h k U;unfold zy at E;rw[List.getElem?_eq_getElem U]at E;simp only[Bool.or_eq_true,Bool.and_eq_true,Bool.not_eq_true']at E;rcases E with h3|⟨_,h4⟩
    ·grind
    ·grind
   omega
def iC(m:aa Int)(R b:Nat):aa Int:=(m.take ((b+1)*R)).drop (b*R)
def Ly(m:aa Int)(R b:Nat):iC m R b=(m.drop (b*R)).take R:=by
 unfold iC;rw[List.drop_take,Nat.succ_mul,Nat.add_sub_cancel_left]
def Yx{m:aa Int}{R b:Nat}(h:(b+1)*R<=m.length):(iC m R b).length=R:=by
 rw[Ly,List.length_take,List.length_drop];rw[Nat.succ_mul]at h;omega
def Cp{C R b j:Nat}(D:b<C)(E:j <= R):b*R+j <= C*R:=by
 have:=Nat.mul_le_mul_right R D
 grind
def Lz(R:Nat)(M:Int)(m:aa Int)(i:Nat):Bool:=match m[i]? with
 |some e=>e==((i % R:Nat):Int) ||(aI e (R:Int) M && !(((m.take i).drop (i / R*R)).any λx=>x==e))
 |none=>false
def ajQ{R:Nat}{M:Int}{m:aa Int}{b j:Nat}(C:j<R):Lz R M m (b*R+j)=zy (R:Int) M (iC m R b) j:=by
 unfold Lz zy;have D:(b*R+j) % R=j:=by rw[Nat.mul_comm,Nat.mul_add_mod,Nat.mod_eq_of_lt C]
 have E:(b*R+j) / R=b:=by rw[Nat.mul_comm,Nat.mul_add_div (by omega),Nat.div_eq_of_lt C,Nat.add_zero]
 have L:(iC m R b)[j]?=m[b*R+j]?:=by rw[Ly,List.getElem?_take_of_lt C,List.getElem?_drop]
 have O:(iC m R b).take j=(m.take (b*R+j)).drop (b*R):=by rw[Ly,List.take_take,List.drop_take,Nat.add_sub_cancel_left,Nat.min_eq_left (Nat.le_of_lt C)]
 simp_all
def ajR{n:Nat}(h:n<4611686018427387904):W6 (n:Int)=(n:Int):=aK
def aAl(R D:Nat)(L:0<R)(M:Int)(m:aa Int):(List.range (D*R)).all (Lz R M m)=(List.range D).all λb=>(List.range R).all (zy (R:Int) M (iC m R b)):=by
 rw[Bool.eq_iff_iff,List.all_eq_true];simp;constructor
 ·intro h b E j C;rw[<- ajQ C];refine h _ ?_;have:=Cp E (show j+1 <= R from C);omega
 ·intro h i hi;have E:i / R<D:=Nat.div_lt_of_lt_mul (by rw[Nat.mul_comm];exact hi);have C:i % R<R:=Nat.mod_lt _ L;have e:i / R*R+i % R=i:=by rw[Nat.mul_comm];exact Nat.div_add_mod i R
  have:=h _ E _ C;rw[<- ajQ C,e]at this;exact this
def lP(g:aP)(s:eg):Bool:=iX g s.bT&&((s.map.length:Int)==((aT g).toNat*(g.rows-s.bT).toNat:Nat)&&(List.range (aT g).toNat).all λb=>(List.range (g.rows-s.bT).toNat).all (pZ (g.rows-s.bT) (g.rows-1) (iC s.map (g.rows-s.bT).toNat b)))
def ajS{g:aP}{s:eg}{R C b:Nat}(D:g.rows-s.bT=(R:Int))(E:R<=16)(L:C<=8)(O:b<C)(Z:s.map.length=C*R):Ev g s (b:Int)=some (b*R,(b+1)*R):=by
 have hm:C*R<=8*16:=Nat.mul_le_mul L E;have h1:b*R+R<=C*R:=Cp O (Nat.le_refl R);have T:W6 (g.rows-s.bT)=(R:Int):=by rw[D];exact aK
 have U:W6 ((b:Int)*(R:Int))=((b*R:Nat):Int):=by rw[<-Int.natCast_mul];exact aK
 have Y:W6 (((b+1:Nat):Int)*(R:Int))=(((b+1)*R:Nat):Int):=by
  rw[<-Int.natCast_mul];exact aK (by omega) (by rw[Nat.succ_mul];omega)
 unfold Ev;rw[T,bq,U,Y,Nat.succ_mul,if_pos ⟨by omega,by omega,by omega⟩];simp only[Int.toNat_natCast]
def aAm{g:aP}{s:eg}(R b:Int)(L:aa Int)(C:cq g=true)(D:L.length<1073741824):
  iter Ew aQ (((),(),R,b,L,L,(L.length:Int),(0:Int),()),((g.cg,g.ay,g.rows,g.aO,()),(s.bT,s.map,()),()))=some (bif (List.range L.length).all (pZ R (g.rows-1) L)then .inr (.inl (((),(),R,b,()),((g.cg,g.ay,g.rows,g.aO,()),(s.bT,s.map,()),())))else .inl ((false,()),())):=by
 have E:=eK C;have e:=fe (step:=Ew) (List.range L.length) (pZ R _ L) (λi=>(((),(),R,b,L,L,L.length,i,()),((g.cg,g.ay,g.rows,g.aO,()),(s.bT,s.map,()),()))) _ _ aQ (λk h=>by
  rw[List.length_range]at h;rw[List.getElem_range];unfold Ew pZ aq aM xG xI;dsimp only;rw[decide_eq_true (by omega),cond_true,dif_pos ⟨by omega,by omega⟩,List.getElem?_eq_getElem h];simp only[Int.toNat_natCast,c9,ak,aAi _ _ D,bne];rw[bq,aK (n:=g.rows-1)];cases L[k]==(k:Int)<;>cases aI L[k] R (g.rows-1)<;>cases decide ((L.count L[k]:Int) > 1)<;>rfl) (by
  rw[List.length_range];unfold Ew aq aM xG xI;dsimp only;rw[decide_eq_false (by omega),cond_false]) (by rw[List.length_range];exact bF)
 simp_all
def ajT(g:aP)(s:eg):JE g s=some (lP g s):=by
 unfold JE lP br;rw[ajA,ak,RH];cases L:iX g s.bT with
 |false=>rfl
 | true=>
  obtain⟨U,s0,s2,CR,aAn⟩:=RG L;have Y:=eM g;have Z:((zq g s.bT).1.map.length:Int)=(((aT g).toNat*(g.rows-s.bT).toNat:Nat):Int):=by
   unfold zq;rw[L,cond_true,Yi]
  rw[Z];obtain⟨C,D⟩:=Int.eq_ofNat_of_zero_le Y.1;obtain⟨R,O⟩:=Int.eq_ofNat_of_zero_le (show 0<=g.rows-s.bT by omega);rw[D,O];simp only[Int.toNat_natCast,Bool.not_true,cond_false,Bool.true_and];by_cases E:(s.map.length:Int)=((C*R:Nat):Int)
  ·have T:s.map.length=C*R:=by omega
   rw[E,bne_self_eq_false,cond_false,beq_self_eq_true,Bool.true_and];have hw:W6 (R:Int)=(R:Int):=aK;have e:=fe (step:=JD) (List.range C) (λb=>(List.range R).all (pZ (R:Int) (g.rows-1) (iC s.map R b))) (λi=>(((),(),(R:Int),(i:Int),()),((g.cg,g.ay,g.rows,g.aO,()),(s.bT,s.map,()),()))) (.inl ((false,()),())) (.inr (.inl ((),()))) aQ (λk h=>by
    rw[List.length_range]at h;rw[List.getElem_range];have hk:=Cp (R:=R) h (Nat.le_refl R);have hlen:(iC s.map R k).length=R:=Yx (by rw[Nat.succ_mul,T];exact hk);have vp:=aAm (g:=g) (s:=s) (R:Int) (k:Int) (iC s.map R k) U (by omega);unfold JD aq aM xG br;dsimp only;rw[qU,mJ,ak,D,decide_eq_true (by omega),cond_true];have hbr:Ev g (⟨s.bT,s.map⟩:eg) (k:Int)=some (k*R,(k+1)*R):=ajS (s:=⟨s.bT,s.map⟩) O (by omega) (by omega) h T;rw[hbr,ak];have hc:(Nat.ble (k*R) ((k+1)*R)&&Nat.ble ((k+1)*R) s.map.length)=true:=by
     rw[Bool.and_eq_true];exact⟨Nat.ble_eq_true_of_le (by rw[Nat.succ_mul];omega),Nat.ble_eq_true_of_le (by rw[Nat.succ_mul];omega)⟩
    rw[hc,cond_true]
    refine(congrArg (λo=>Option.bind o _) vp).trans ?_
    rw[ak,hlen];cases (List.range R).all (pZ (R:Int) (g.rows-1) (iC s.map R k))with
    |false=>rfl
    | true=>
     simp only[cond_true,Sum.elim_inr,Sum.elim_inl];rw[bq]) (by
    rw[List.length_range];unfold JD aq aM xG br;dsimp only;rw[qU,mJ,ak,D,decide_eq_false (by omega),cond_false]) (by rw[List.length_range];exact bF)
   rw[Int.natCast_zero]at e;rw[hw]
   refine(congrArg (λo=>Option.bind o _) e).trans ?_
   rw[ak];cases (List.range C).all λb=>(List.range R).all (pZ (R:Int) (g.rows-1) (iC s.map R b))<;>rfl
  ·have e2:((s.map.length:Int)==((C*R:Nat):Int))=false:=by simp only[beq_eq_false_iff_ne];exact E
   rw[eU E,e2];rfl
def ajU(g:aP)(s:eg):HV g s=some (lP g s):=by
 unfold HV lP br;rw[ajz,ak,RH];cases O:iX g s.bT with
 |false=>rfl
 | true=>
  obtain⟨T,s0,s2,CR,aAn⟩:=RG O;have U:=eM g;have gb:=eK T;obtain⟨C,Y⟩:=Int.eq_ofNat_of_zero_le U.1;obtain⟨R,Z⟩:=Int.eq_ofNat_of_zero_le (show 0<=g.rows-s.bT by omega);have hm:C*R<=8*16:=Nat.mul_le_mul (by omega) (by omega);have hw:W6 (R:Int)=(R:Int):=aK;have hmul:W6 ((C:Int)*(R:Int))=((C*R:Nat):Int):=by rw[<-Int.natCast_mul];exact aK
  rw[qQ,ak,Y,Z,hw,hmul];simp only[Int.toNat_natCast,Bool.not_true,cond_false,Bool.true_and];by_cases D:(s.map.length:Int)=((C*R:Nat):Int)
  ·have vE:s.map.length=C*R:=by omega
   rw[D,bne_self_eq_false,cond_false,beq_self_eq_true,Bool.true_and];have e:=fe (step:=HU) (List.range (C*R)) (Lz R (g.rows-1) s.map) (λi=>(((),(),(R:Int),(i:Int),()),((g.cg,g.ay,g.rows,g.aO,()),(s.bT,s.map,()),()))) (.inl ((false,()),())) (.inr (.inl ((),()))) aQ (λk h=>by
    rw[List.length_range]at h;rw[List.getElem_range];have h':k<s.map.length:=by omega
    have ht:(k:Int).tmod (R:Int)=((k % R:Nat):Int):=(Int.ofNat_tmod k R).symm;have hd:(k:Int).tdiv (R:Int)=((k / R:Nat):Int):=(Int.ofNat_tdiv k R).symm;have E9:k / R<=k:=Nat.div_le_self k R;have L:k / R*R<=k:=Nat.div_mul_le_self k R;have w1:W6 (((k / R:Nat):Int))=((k / R:Nat):Int):=ajR (Nat.lt_of_le_of_lt E9 (by omega));have w2:W6 (((k / R:Nat):Int)*(R:Int))=((k / R*R:Nat):Int):=by rw[<-Int.natCast_mul];exact ajR (Nat.lt_of_le_of_lt L (by omega))
    unfold HU Lz aq aM xG xI;rw[List.getElem?_eq_getElem h'];dsimp only;rw[decide_eq_true (by omega),cond_true,dif_pos ⟨by omega,by omega⟩,if_neg (by omega),dif_pos ⟨by omega,by omega⟩,if_neg (by omega),ht,hd,w1,w2,if_pos ⟨Int.natCast_nonneg _,Int.ofNat_le.2 L,by omega⟩,dif_pos ⟨by omega,by omega⟩];simp only[Int.toNat_natCast,dP,ak];rw[aAh _ _ (by rw[List.length_drop,List.length_take];omega),ak,bq,aK (n:=g.rows-1)];cases s.map[k]==((k % R:Nat):Int)<;>cases aI s.map[k] (R:Int) (g.rows-1)<;>cases ((s.map.take k).drop (k / R*R)).any (λx=>x==s.map[k])<;>rfl) (by
    rw[List.length_range];unfold HU aq aM xG xI;dsimp only;rw[decide_eq_false (by omega),cond_false]) (by rw[List.length_range];exact bF)
   rw[Int.natCast_zero]at e
   refine(congrArg (λo=>Option.bind o _) e).trans ?_
   rw[ak,aAl R C (by omega)];have hAB:((List.range C).all λb=>(List.range R).all (zy (R:Int) (g.rows-1) (iC s.map R b)))=(List.range C).all λb=>(List.range R).all (pZ (R:Int) (g.rows-1) (iC s.map R b)):=by
    rw[Bool.eq_iff_iff,List.all_eq_true,List.all_eq_true]
    refine forall_congr' λb=>?_
    refine imp_congr_right λE=>?_
    have E:=List.mem_range.1 E;have hk:=Cp (R:=R) E (Nat.le_refl R);have hlen:(iC s.map R b).length=R:=Yx (by rw[Nat.succ_mul,vE];exact hk);have:=aAk (R:Int) (g.rows-1) (iC s.map R b) (by rw[hlen]);rw[hlen]at this;rw[this]
   rw[hAB];cases (List.range C).all λb=>(List.range R).all (pZ (R:Int) (g.rows-1) (iC s.map R b))<;>rfl
  ·have e2:((s.map.length:Int)==((C*R:Nat):Int))=false:=by simp only[beq_eq_false_iff_ne];exact D
   rw[eU D,e2];rfl
def ij(g:aP)(s:eg):aP:=bif lP g s then ⟨g.cg,g.ay,W6 (g.rows-s.bT),g.aO⟩else ⟨0,0,0,0⟩
def Yy(g:aP)(s:eg):Ez g s=some (ij g s):=by
 unfold Ez ij;rw[ajT,ak];cases lP g s<;>rfl
def aAo(g:aP)(s:eg):Ov g s=some (ij g s):=by
 unfold Ov ij;rw[ajU,ak];cases lP g s<;>rfl
def mR(c:av):av:=c
def fG(a x:aF):Bool:=x.au==a.au&&(x.row==a.row&&(x.bG==a.bG&&true))
def Yz(l:aa aF)(a:aF)(C:l.length<1073741824):Bo l a=some (fF (fG a) l):=by
 unfold Bo fF br;have e:=uJ (step:=HY) l (fG a) (λi=>((l,(),i,()),((a.au,a.row,a.bG,()),()))) _ _ aQ (λk h=>by
  unfold HY fG aq aM xG xI;dsimp only;rw[decide_eq_true (by omega),cond_true,dif_pos ⟨by omega,by omega⟩];simp only[Int.toNat_natCast];rw[bq];cases (l[k].au==a.au&&(l[k].row==a.row&&(l[k].bG==a.bG&&true)))<;>rfl) (by
  unfold HY aq aM xG xI;dsimp only;rw[decide_eq_false (by omega),cond_false]) (bF C)
 rw[Int.natCast_zero]at e;rw[e];cases l.findIdx? _<;>rfl
def ajV(l:aa aF)(a:aF)(C:l.length<1073741824):Ex l a=some (fF (fG a) l):=by
 unfold Ex fF;have e:=uJ (step:=JJ) l (fG a) (λi=>((l,(),l.length,i,()),((a.au,a.row,a.bG,()),()))) _ _ aQ (λk h=>by
  unfold JJ fG aq aM xG xI;dsimp only;rw[decide_eq_true (by omega),cond_true,dif_pos ⟨by omega,by omega⟩];simp only[Int.toNat_natCast];rw[bq,BEq.comm (a:=a.au),BEq.comm (a:=a.row),BEq.comm (a:=a.bG)];cases (l[k].au==a.au&&(l[k].row==a.row&&(l[k].bG==a.bG&&true)))<;>rfl) (by
  unfold JJ aq aM xG xI;dsimp only;rw[decide_eq_false (by omega),cond_false]) (bF C)
 rw[Int.natCast_zero]at e;rw[e];cases l.findIdx? _<;>rfl
def partAt(c:av)(i:Nat):Bool:=match c.bx[i]?,c.guard[i]? with
 |some t,some x=>jt t&&aI x 3 1000
 |_,_=>false
def sF(c:av)(i:Nat):Bool:=match c.pending[i]? with
 |some a=>ey c.config.aB a&&(a.bG==0 && !((c.pending.take i).any (fG a)))
 |none=>false
def qV(c:av):Bool:=(c.aL.aE.length:Int)==aT c.config.aB&&((c.bx.length:Int)==aT c.config.aB&&((c.guard.length:Int)==aT c.config.aB&&(!(decide ((c.pending.length:Int) > 128))&&((List.range c.bx.length).all (partAt c)&&(List.range c.pending.length).all (sF c)))))
def ajW(c:av)(n i:Int):On (((),n,i,()),(mR c,()))=(bif (decide (i<n))then if C:0<=i/\i.toNat<c.bx.length then (Bn (c.bx[i.toNat]'C.2)).bind λD=>bif (!D)then some (.inr (.inl ((false,()),())))else if E:0<=i/\i.toNat<c.guard.length then (ck (c.guard[i.toNat]'E.2) (3:Int) (1000:Int)).bind λL=>bif (!L)then some (.inr (.inl ((false,()),())))else some (.inl (((),n,(W6 (i+(1:Int))),()),(mR c,())))else none else none else some (.inr (.inr (.inl (((),()),(mR c,())))))):=rfl
def ajX(c:av)(i:Int):Oo (((),i,()),(mR c,()))=(bif (decide (i<(c.pending.length:Int)))then if C:0<=i/\i.toNat<c.pending.length then (Bm c.config.aB (c.pending[i.toNat]'C.2)).bind λD=>bif (!D)then some (.inr (.inl ((false,()),())))else bif ((c.pending[i.toNat]'C.2).bG != (0:Int))then some (.inr (.inl ((false,()),())))else (Bo c.pending (c.pending[i.toNat]'C.2)).bind λE=>bif (E != i)then some (.inr (.inl ((false,()),())))else some (.inl (((),(W6 (i+(1:Int))),()),(mR c,())))else none else some (.inr (.inr (.inl ((),()))))):=rfl
def ajY(c:av)(G:(Int×Int×Int×Int×af))(n i:Int):P3 (((),(),n,i,()),(mR c,G,()))=(bif (decide (i<n))then if C:0<=i/\i.toNat<c.bx.length then (zb (c.bx[i.toNat]'C.2)).bind λD=>bif (!D)then some (.inr (.inl ((false,()),())))else if E:0<=i/\i.toNat<c.guard.length then (bX (c.guard[i.toNat]'E.2) (3:Int) (1000:Int)).bind λL=>bif (!L)then some (.inr (.inl ((false,()),())))else some (.inl (((),(),n,(W6 (i+(1:Int))),()),(mR c,G,())))else none else none else some (.inr (.inr (.inl (((),(),()),(mR c,G,())))))):=rfl
def ajZ(c:av)(g:aP)(l:aa aF)(n i:Int):P4 (((),(),l,n,i,()),(mR c,(g.cg,g.ay,g.rows,g.aO,()),()))=(bif (decide (i<n))then if C:0<=i/\i.toNat<l.length then (BP g (l[i.toNat]'C.2)).bind λD=>bif (!D)then some (.inr (.inl ((false,()),())))else bif ((l[i.toNat]'C.2).bG != (0:Int))then some (.inr (.inl ((false,()),())))else (Ex c.pending (l[i.toNat]'C.2)).bind λE=>bif (E != i)then some (.inr (.inl ((false,()),())))else some (.inl (((),(),l,n,(W6 (i+(1:Int))),()),(mR c,(g.cg,g.ay,g.rows,g.aO,()),())))else none else some (.inr (.inr (.inl ((),()))))):=rfl
def aAp(c:av):Oq c=some (qV c):=by
 unfold Oq qV br;rw[qQ,ak];have T:=eM c.config.aB;by_cases C:(c.aL.aE.length:Int)=aT c.config.aB
 ·by_cases D:(c.bx.length:Int)=aT c.config.aB
  ·by_cases E:(c.guard.length:Int)=aT c.config.aB
   ·rw[C,D,E,bne_self_eq_false,beq_self_eq_true,cond_false,Bool.true_and,Bool.true_and,Bool.true_and,cond_false,cond_false];cases L:decide ((c.pending.length:Int) > 128)with
    |true=>rfl
    | false=>
     have L:=of_decide_eq_false L;have l1:=fe (step:=On) (List.range c.bx.length) (partAt c) (λi=>(((),aT c.config.aB,(i:Int),()),(mR c,()))) (.inl ((false,()),())) (.inr (.inl (((),()),(mR c,())))) aQ (λk h=>by
      rw[List.length_range]at h;rw[List.getElem_range,ajW,decide_eq_true (by omega),cond_true,dif_pos ⟨by omega,by omega⟩,dif_pos ⟨by omega,by omega⟩];simp only[Int.toNat_natCast,Yv,dP,ak];unfold partAt;rw[List.getElem?_eq_getElem h,List.getElem?_eq_getElem (show k<c.guard.length by omega),bq];simp only;cases jt c.bx[k]<;>cases aI (c.guard[k]'(by omega)) 3 1000<;>rfl) (by
      rw[List.length_range,ajW,decide_eq_false (by omega),cond_false]) (by rw[List.length_range];exact bF)
     have l2:=fe (step:=Oo) (List.range c.pending.length) (sF c) (λi=>(((),(i:Int),()),(mR c,()))) (.inl ((false,()),())) (.inr (.inl ((),()))) aQ (λk h=>by
      rw[List.length_range]at h;rw[List.getElem_range,ajX,decide_eq_true (by omega),cond_true,dif_pos ⟨by omega,by omega⟩];simp only[Int.toNat_natCast,X8,ak,Yz _ _ (show c.pending.length<1073741824 by omega),bne];have O:=E6 (p:=fG c.pending[k]) h (by simp[fG]);rw[bne]at O;rw[O];unfold sF;rw[List.getElem?_eq_getElem h,bq];simp only;cases ey c.config.aB c.pending[k]<;>cases c.pending[k].bG==0<;>cases (c.pending.take k).any (fG c.pending[k])<;>rfl) (by
      rw[List.length_range,ajX,decide_eq_false (by omega),cond_false]) (by rw[List.length_range];exact bF)
     rw[Int.natCast_zero]at l1 l2;simp only[Bool.not_false,cond_false,Bool.true_and]
     refine(congrArg (λo=>Option.bind o _) l1).trans ?_
     rw[ak];cases (List.range c.bx.length).all (partAt c)with
     |false=>rfl
     | true=>
      simp only[cond_true,Sum.elim_inr,Sum.elim_inl,Bool.true_and]
      refine(congrArg (λo=>Option.bind o _) l2).trans ?_
      rw[ak];cases (List.range c.pending.length).all (sF c)<;>rfl
   ·simp[C,D,eU E,E]
  ·simp[C,eU D,D]
 ·simp[eU C,C]
def aAq(c:av)(T:c.aL.aE.length<1073741824):P5 c=some (eG c.aL&&qV c):=by
 unfold P5 qV br;rw[mJ,ak,Lt _ T,ak];cases eG c.aL with
 |false=>rfl
 |true=>
 simp only[Bool.not_true,cond_false,Bool.true_and];have b1:=eM c.config.aB;by_cases C:(c.aL.aE.length:Int)=aT c.config.aB
 ·by_cases D:(c.bx.length:Int)=aT c.config.aB
  ·by_cases E:(c.guard.length:Int)=aT c.config.aB
   ·have U:((c.aL.aE.length:Int) != aT c.config.aB)=false:=by simp[C]
    have Y:((c.bx.length:Int) != aT c.config.aB)=false:=by simp[D]
    have Z:((c.guard.length:Int) != aT c.config.aB)=false:=by simp[E]
    have q1:((c.aL.aE.length:Int)==aT c.config.aB)=true:=by simp[C]
    have q2:((c.bx.length:Int)==aT c.config.aB)=true:=by simp[D]
    have q3:((c.guard.length:Int)==aT c.config.aB)=true:=by simp[E]
    rw[U,Y,Z,q1,q2,q3];simp only[cond_false,Bool.true_and];cases L:decide ((c.pending.length:Int) > 128)with
    |true=>rfl
    | false=>
     have L:=of_decide_eq_false L;have l1:=fe (step:=P3) (List.range c.bx.length) (partAt c) (λi=>(((),(),(c.bx.length:Int),(i:Int),()),(mR c,(c.config.aB.cg,c.config.aB.ay,c.config.aB.rows,c.config.aB.aO,()),()))) (.inl ((false,()),())) (.inr (.inl (((),(),()),(mR c,(c.config.aB.cg,c.config.aB.ay,c.config.aB.rows,c.config.aB.aO,()),())))) aQ (λk h=>by
      rw[List.length_range]at h;rw[List.getElem_range,ajY,decide_eq_true (by omega),cond_true,dif_pos ⟨by omega,by omega⟩,dif_pos ⟨by omega,by omega⟩];simp only[Int.toNat_natCast,Yu,c9,ak];unfold partAt;rw[List.getElem?_eq_getElem h,List.getElem?_eq_getElem (show k<c.guard.length by omega),bq];simp only;cases jt c.bx[k]<;>cases aI (c.guard[k]'(by omega)) 3 1000<;>rfl) (by
      rw[List.length_range,ajY,decide_eq_false (by omega),cond_false]) (by rw[List.length_range];exact bF)
     have l2:=fe (step:=P4) (List.range c.pending.length) (sF c) (λi=>(((),(),c.pending,(c.pending.length:Int),(i:Int),()),(mR c,(c.config.aB.cg,c.config.aB.ay,c.config.aB.rows,c.config.aB.aO,()),()))) (.inl ((false,()),())) (.inr (.inl ((),()))) aQ (λk h=>by
      rw[List.length_range]at h;rw[List.getElem_range,ajZ,decide_eq_true (by omega),cond_true,dif_pos ⟨by omega,by omega⟩];simp only[Int.toNat_natCast,X7,ak,ajV _ _ (show c.pending.length<1073741824 by omega),bne];have O:=E6 (p:=fG c.pending[k]) h (by simp[fG]);rw[bne]at O;rw[O];unfold sF;rw[List.getElem?_eq_getElem h,bq];simp only;cases ey c.config.aB c.pending[k]<;>cases c.pending[k].bG==0<;>cases (c.pending.take k).any (fG c.pending[k])<;>rfl) (by
      rw[List.length_range,ajZ,decide_eq_false (by omega),cond_false]) (by rw[List.length_range];exact bF)
     rw[Int.natCast_zero]at l1 l2;simp only[Bool.not_false,cond_false,Bool.true_and]
     refine(congrArg (λo=>Option.bind o _) l1).trans ?_
     rw[ak];cases (List.range c.bx.length).all (partAt c)with
     |false=>rfl
     | true=>
      simp only[cond_true,Sum.elim_inr,Sum.elim_inl,Bool.true_and]
      refine(congrArg (λo=>Option.bind o _) l2).trans ?_
      rw[ak];cases (List.range c.pending.length).all (sF c)<;>rfl
   ·simp[C,D,eU E,E]
  ·simp[C,eU D,D]
 ·simp[eU C,C]
def qW(n:Int)(u:Bool)(k:Int):Bool:=bif u then aI n 0 (k-1)else n==0
def dc(g:aP)(c:aD):Bool:=cq g&&(aI c.kind 1 9&&(qW c.au (aI c.kind 1 5) (aT g)&&(qW c.row (c.kind==1) g.rows&&qW c.bG (c.kind==2 ||c.kind==3) g.aO)))
def aAr(k:Int):Qh k=some (k==1):=by
 unfold Qh;rfl
def aAs(k:Int):Qi k=some (k==2 || k==3):=by
 unfold Qi;cases k==2<;>rfl
def YA{n k:Int}(u:Bool)(h:-1000<k/\k<1000):BW n u k=some (qW n u k):=by
 rw[aAe,aK];rfl
def YB(g:aP)(c:aD):EI g c=some (dc g c):=by
 unfold EI dc;rw[wO];cases C:cq g with
 |false=>rfl
 | true=>
  have D:=eM g;have E:=eK C;unfold XD;simp only[cond_true,mJ,ak,c9,Lv,aAr,aAs,YA _ (show -1000<aT g/\aT g<1000 by omega),YA _ (show -1000<g.rows/\g.rows<1000 by omega),YA _ (show -1000<g.aO/\g.aO<1000 by omega),Bool.true_and]
  grind
def aAt(k:Int):O0 k=some (aI k 1 5,k==1,(k==2 || k==3)):=by
 obtain⟨y,e,h⟩:=azT k;rw[e,h]
def LA(c:aD):Bool:=(aI c.kind 1 5 ||c.au==0)&&((c.kind==1 ||c.row==0)&&(((c.kind==2 ||c.kind==3) ||c.bG==0)&&(aI c.kind 1 9&&(aI c.au 0 7&&(aI c.row 0 15&&aI c.bG 0 7)))))
def aAu(c:aD):O1 c=some (LA c):=by
 unfold O1 LA;simp only[aAt,ak,dP,bne]
 grind
def aj0(g:aP)(c:aD):IU g c=some (dc g c):=by
 unfold IU;rw[aAu,ak,X8,ak];have key:(LA c&&ey g ⟨c.au,c.row,c.bG⟩)=dc g c:=by
  unfold dc ey;cases D:cq g with
  |false=>simp
  | true=>
   have L:=eM g;have O:=eK D;rw[Bool.eq_iff_iff];simp only[LA,qW,Bool.and_eq_true,Bool.or_eq_true,beq_iff_eq,bA,Bool.true_and];constructor
   ·rintro⟨⟨h1,h2,h3,C,T,U,Y⟩,⟨Z,h9⟩,Fa⟩;refine⟨C,?_,?_,?_⟩
    ·cases hu:aI c.kind 1 5 with
     |true=>simp[cond_true,bA];omega
     | false=>simp only[cond_false,beq_iff_eq];rcases h1 with h1 | h1
              ·exact absurd (bA.2 h1) (by rw[hu];simp)
              ·exact h1
    ·cases hu:c.kind==1 with
     |true=>simp[cond_true,bA];omega
     | false=>simp only[cond_false,beq_iff_eq];rcases h2 with h2 | h2
              ·simp_all
              ·exact h2
    ·cases hu:(c.kind==2 || c.kind==3)with
     |true=>simp[cond_true,bA];omega
     | false=>simp only[cond_false,beq_iff_eq];rcases h3 with (h3 | h3) | h3
              ·simp_all
              ·simp_all
              ·exact h3
   ·rintro⟨h1,h2,h3,C⟩;have f1:(1 <= c.kind/\c.kind <= 5 \/ c.au=0)/\0 <= c.au/\c.au <= aT g-1:=by
     cases hu:aI c.kind 1 5 with
     |true=>rw[hu,cond_true,bA]at h2;exact⟨.inl (bA.1 hu),h2⟩
     |false=>rw[hu,cond_false,beq_iff_eq]at h2;have:=ajg D;exact⟨.inr h2,by omega⟩
    have f2:(c.kind=1 \/ c.row=0)/\0 <= c.row/\c.row <= g.rows-1:=by
     cases hu:c.kind==1 with
     |true=>rw[hu,cond_true,bA]at h3;exact⟨.inl (by simpa using hu),h3⟩
     |false=>grind
    have E:((c.kind=2 \/ c.kind=3) \/ c.bG=0)/\0 <= c.bG/\c.bG <= g.aO-1:=by
     cases hu:(c.kind==2 ||c.kind==3)with
     |true=>rw[hu,cond_true,bA]at C;exact⟨.inl (by simpa using hu),C⟩
     |false=>simp_all
    exact⟨⟨f1.1,f2.1,E.1,h1,by omega,by omega,by omega⟩,⟨by omega,by omega⟩,by omega⟩
 rw[<- key];cases LA c<;>rfl
def Cq{g:aP}{c:aD}(h:dc g c=true):cq g=true/\(1 <= c.kind/\c.kind <= 9)/\(c.kind <= 5 -> 0 <= c.au/\c.au<aT g)/\(5<c.kind -> c.au=0):=by
 simp[dc,Bool.and_eq_true,bA]at h
 refine⟨h.1,h.2.1,λD=>?_,λD=>?_⟩
 ·have:=h.2.2.1;rw[qW,show aI _ 1 5=true from bA.2 ⟨h.2.1.1,D⟩,cond_true,bA]at this;omega
 ·have:=h.2.2.1;have C:aI c.kind 1 5=false:=by
   cases C:aI _ 1 5 with
   |false=>rfl
   |true=>have:=bA.1 C;omega
  rwa [qW,C,cond_false,beq_iff_eq]at this
def kinds{k:Int}(h:1<=k/\k<=9):k=1\/k=2\/k=3\/k=4\/k=5\/k=6\/k=7\/k=8\/k=9:=by omega
def gY(r:bV)(b:Int):cC:=r.ay.getD b.toNat ⟨false,0⟩
def nT(r:bV)(c:aD):Bool:=
 bif c.kind==1 ||c.kind==5 then r.aS==0 && !(gY r c.au).open_ else
 bif c.kind==2 ||c.kind==3 ||c.kind==4 then r.aS==0&&(gY r c.au).open_ else
 bif c.kind==6 then r.aS==0 else
 bif c.kind==8 then r.aS==0&&r.ay.all (λb=>!b.open_)else
 bif c.kind==7 then r.aS==1 else r.aS==2
def ff(r:bV)(c:aD):bV:=
 bif c.kind==1 then ⟨r.ay.set c.au.toNat ⟨true,c.row⟩,r.aS⟩else
 bif c.kind==4 then ⟨r.ay.set c.au.toNat ⟨false,0⟩,r.aS⟩else
 bif c.kind==6 then ⟨r.ay,1⟩else
 bif c.kind==8 then ⟨r.ay,2⟩else
 bif c.kind==7 ||c.kind==9 then ⟨r.ay,0⟩else r
def aj1{r:bV}{b:Int}(h:b.toNat<r.ay.length):r.ay[b.toNat]=gY r b:=by
 simp[gY,h]
def aj2(r:bV):(((opens 0 r.ay).length:Int)==0)=r.ay.all λb=>!b.open_:=by
 rw[<-ajI 0 r.ay,Bool.eq_iff_iff];simp only[beq_iff_eq];omega
def aj3(r:bV)(h:r.ay.length<1073741823):Is r=some (opens 0 r.ay):=by
 unfold Is aW;have e:=uF (step:=D2) (λi=>(((),(),(i:Int),()),((r.ay,r.aS,()),opens 0 (r.ay.take i),()))) (z:=.inl (((),()),(opens 0 r.ay,()))) r.ay.length 0 aQ (λk _ C=>?_) ?_ (by unfold aQ;omega)
 ·have e:iter D2 aQ (((),(),0,()),((r.ay,r.aS,()),([]),()))=_:=e;simp_all
 ·have C:k<r.ay.length:=by omega
  unfold D2 aq xG xI;dsimp only;have D:decide ((k:Int)<(r.ay.length:Int))=true:=decide_eq_true (by omega);have E:0 <= (k:Int)/\(k:Int).toNat<r.ay.length:=⟨by omega,by simpa using C⟩
  have L:=Ry 0 (r.ay.take k);rw[List.length_take]at L;have O:bD ((opens 0 (r.ay.take k)).length+([(k:Int)]:aa Int).length)=true:=by
   unfold bD;simp;omega
  rw[D,cond_true,dif_pos E,zn,pS C,Yb];simp only[Int.toNat_natCast,opens,List.length_take,Nat.zero_add,Nat.min_eq_left (Nat.le_of_lt C)];cases r.ay[k].open_ with
  |true=>grind
  |false=>grind
 ·rw[Nat.zero_add];unfold D2 aq xG xI;simp_all
def aAv{r:bV}{c:aD}(D:1 <= c.kind/\c.kind <= 9)(C:c.kind <= 5 -> 0 <= c.au/\c.au.toNat<r.ay.length)(E:r.ay.length<1073741823):OG r c=some (nT r c):=by
 unfold OG nT xI;rcases kinds D with h|h|h|h|h|h|h|h|h
 case inr.inr.inr.inr.inr.inr.inr.inl=>simp[h,aj3 r E,aj2];cases r.aS==0<;>rfl
 all_goals (try (have C:=C _))<;>simp[h,C,aj1]<;>(cases r.aS==0<;>rfl)
def YC(g:aP)(r:bV)(c:aD):JZ g r c=some (ke g r&&(dc g c&&nT r c)):=by
 unfold JZ xI;rw[ajJ,ak];cases D:ke g r with
 |false=>rfl
 | true=>
  rw[YB,ak];cases E:dc g c with
  |false=>rfl
  | true=>
   have⟨T,L,C,_⟩:=Cq E;have hlen:(r.ay.length:Int)=aT g:=by
    simp[ke,Bool.and_eq_true,beq_iff_eq]at D;simp_all
   have U:=eM g;have C:c.kind <= 5 -> 0 <= c.au/\c.au.toNat<r.ay.length:=λh=>by have:=C h;omega
   have O:r.ay.length<1073741823:=by omega
   simp only[Bool.not_true,cond_false,Bool.true_and];unfold nT;rcases kinds L with h|h|h|h|h|h|h|h|h
   case inr.inr.inr.inr.inr.inr.inr.inl=>simp[h,Rz r O,aj2];cases r.aS==0<;>rfl
   all_goals (try (have C:=C (by omega)))<;>simp[h,C,aj1]<;>(cases r.aS==0<;>rfl)
def kM(g:aP)(r:bV)(c:aD):Bool:=ke g r&&(dc g c&&nT r c)
def YD(g:aP)(r:bV)(c:aD):bV×Bool:=bif kM g r c then (ff r c,true)else (r,false)
def LB{g:aP}{r:bV}{c:aD}(h:kM g r c=true):cq g=true/\(r.ay.length:Int)=aT g/\(1 <= c.kind/\c.kind <= 9)/\(c.kind <= 5 -> 0 <= c.au/\c.au.toNat<r.ay.length):=by
 simp[kM,Bool.and_eq_true]at h;have⟨D,E,L,_⟩:=Cq h.2.1;have C:=h.1;simp[ke,Bool.and_eq_true,beq_iff_eq]at C;simp_all
def aAw(r:bV)(h:r.ay.length<1073741824):Eg r=some r:=by
 unfold Eg xA xZ;rw[show ([]).length+r.ay.length=r.ay.length by simp,cM h];rfl
def aAx(g:aP)(r:bV)(c:aD)(h:r.ay.length<1073741824):Kc g r c=some (YD g r c):=by
 unfold Kc YD xL;rw[aAw r h,YC];change (bif !(kM g r c)then _ else _)=_;cases C:kM g r c with
 |false=>rfl
 | true=>
  have⟨D,hlen,E,L⟩:=LB C;unfold ff
  grind
def aj4(r:bV)(c:aD):(ff r c).ay.length=r.ay.length:=by
 unfold ff
 grind
def Cr(t:cI)(a b:Int):Int:=
 bif a==1 then (bif b==2 ||b==3 then t.iG else bif b==4 then t.fO else bif b==1 ||b==5 then W6 (t.fO+t.rp)else 0)else
 bif a==2 then (bif b==4 then t.hD else bif b==1 ||b==5 then W6 (t.hD+t.rp)else 0)else
 bif a==3 then (bif b==4 then t.wr else bif b==1 ||b==5 then W6 (t.wr+t.rp)else 0)else
 bif a==4 then (bif b==1 ||b==5 then t.rp else 0)else
 bif a==5 then (bif b==1 ||b==5 then t.kX else 0)else 0
def Cs(t:cI)(a b:Int)(C:Bool):Int:=
 bif a==7 then t.xp else bif a==9 then t.xs else
 bif (a==6&&b==7) ||(a==8&&b==9)then t.lY else
 bif a==1&&b==1 then (bif C then t.iH else t.kS)else
 bif (a==2&&b==2) ||(a==3&&b==3)then (bif C then t.kU else t.kT)else
 bif a==3&&b==2 then (bif C then t.kW else t.kV)else
 bif a==2&&b==3 then t.n6 else
 bif a==5&&b==5 then t.iH else
 bif a==2&&b==6 then t.hD else bif a==3&&b==6 then t.wr else
 bif b==8 then Cr t a 1 else 0
def aAy(t:cI){a b:Int}(C:1<=a/\a<=9)(D:1<=b/\b<=9):Qj t a b=some (Cr t a b):=by
 rcases kinds C with rfl|rfl|rfl|rfl|rfl|rfl|rfl|rfl|rfl<;>rcases kinds D with rfl|rfl|rfl|rfl|rfl|rfl|rfl|rfl|rfl<;>kernel_rfl
def YE(t:cI){a b:Int}(C:Bool)(D:1<=a/\a<=9)(E:1<=b/\b<=9):Ql t a b C=some (Cs t a b C):=by
 cases C<;>rcases kinds D with rfl|rfl|rfl|rfl|rfl|rfl|rfl|rfl|rfl<;>rcases kinds E with rfl|rfl|rfl|rfl|rfl|rfl|rfl|rfl|rfl<;>kernel_rfl
def aj5{t:cI}(C:gN t=true){a b:Int}(D:1 <= a/\a <= 9)(E:1 <= b/\b <= 9):It t a b=some (Cr t a b):=by
 unfold It;rw[RE,ak,C,Bool.not_true];rcases kinds D with rfl|rfl|rfl|rfl|rfl|rfl|rfl|rfl|rfl<;>rcases kinds E with rfl|rfl|rfl|rfl|rfl|rfl|rfl|rfl|rfl<;>kernel_rfl
def YF{t:cI}(E:gN t=true){a b:Int}(D:Bool)(C:1 <= a/\a <= 9)(L:1 <= b/\b <= 9):Iu t a b D=some (Cs t a b D):=by
 unfold Iu;rw[RE,ak,E,Bool.not_true,cond_false,dP,ak,bA.2 C,Bool.not_true,cond_false,dP,ak,bA.2 L,Bool.not_true];by_cases O:b=8/\a≠7/\a≠9
 ·obtain⟨rfl,T,U⟩:=O;have e:=aj5 E C (b:=1) (by omega);rcases kinds C with rfl|rfl|rfl|rfl|rfl|rfl|rfl|rfl|rfl<;>first|exact absurd rfl T|exact absurd rfl U|simp[e,Cs]
 ·cases D<;>rcases kinds C with rfl|rfl|rfl|rfl|rfl|rfl|rfl|rfl|rfl<;>rcases kinds L with rfl|rfl|rfl|rfl|rfl|rfl|rfl|rfl|rfl<;>first|exact absurd ⟨rfl,by omega,by omega⟩ O|kernel_rfl
def RS(a b:aD):Bool:=aI a.kind 1 5&&aI b.kind 1 5
def LC(g:aP)(a b:aD):Bool:=RS a b&&(W6 (a.au.tdiv g.ay)==W6 (b.au.tdiv g.ay))
def uK(g:aP)(t:cI)(a b:aD):Int:=
 bif RS a b&&a.au==b.au then max (max 1 (Cs t a.kind b.kind (LC g a b))) (Cr t a.kind b.kind)else max 1 (Cs t a.kind b.kind (LC g a b))
def RT(x y:Int):(if x > y then x else y)=max x y:=by
 rw[Int.max_def];split<;>split<;>omega
def aj6{g:aP}{b:Int}(h:0<=b/\b<aT g)(C:cq g=true):J1 g b=some (W6 (b.tdiv g.ay)):=by
 have D:=eM g;have E:=eK C;unfold J1;rw[mJ,ak,c9,ak,aK,bA.2 ⟨h.1,by omega⟩,Bool.not_true,cond_false,if_neg (by omega)]
def LD{k:Int}(h:1<=k/\k<=9):aI k 1 5=decide (k<=5):=by
 unfold aI;rw[decide_eq_true h.1,Bool.true_and]
def aAz{g:aP}(t:cI){a b:aD}(E:cq g=true)(C:1 <= a.kind/\a.kind <= 9)(D:1 <= b.kind/\b.kind <= 9)(L:a.kind <= 5 -> 0 <= a.au/\a.au<aT g)(O:b.kind <= 5 -> 0 <= b.au/\b.au<aT g):J2 g t a b=some (uK g t a b):=by
 unfold J2 uK LC RS;simp only[Lv,ak];cases T:aI a.kind 1 5 with
 | false=>
  simp;rw[YE t false C D,ak,RT,Int.max_comm]
 | true=>
  cases U:aI b.kind 1 5 with
  | false=>
   simp;rw[YE t false C D,ak,RT,Int.max_comm]
  | true=>
   have Y:=bA.1 T;have Z:=bA.1 U;simp only[cond_true,Bool.true_and];rw[aj6 (L Y.2) E,ak,aj6 (O Z.2) E,ak,YE t _ C D,ak,aAy t C D];cases a.au==b.au with
   |false=>grind
   |true =>grind
def aAA{g:aP}{t:cI}{a b:aD}(L:cq g=true)(E:gN t=true)(C:1 <= a.kind/\a.kind <= 9)(D:1 <= b.kind/\b.kind <= 9):yN g t a b=some (uK g t a b):=by
 have O:=eK L;unfold yN uK LC RS;rw[LD C,LD D];cases decide (a.kind <= 5)with
 | false=>
  simp;rw[YF E false C D,ak,RT]
 | true=>
  cases decide (b.kind <= 5)with
  | false=>
   simp;rw[YF E false C D,ak,RT]
  | true=>
   simp only[cond_true,Bool.true_and,Bool.and_self];rw[if_neg (by omega),if_neg (by omega),YF E _ C D,ak,aj5 E C D]
   grind
def YG{t:cI}(h:gN t=true):∀ x∈mM t,1 <= x/\x <= 64:=by
 simp[gN,Bool.and_eq_true,List.all_eq_true]at h;exact λx C=>bA.1 (h.1 x C)
def aj7{t:cI}(h:gN t=true)(a b:Int):0 <= Cr t a b/\Cr t a b <= 128:=by
 have C:=YG h;simp only[mM,List.mem_cons,List.not_mem_nil,or_false,forall_eq_or_imp,forall_eq]at C;have⟨D,E,L,O,T,U,Y,Z,h9,Fa,zz,rT,sG,zB,zC,yC,Ct⟩:=C;unfold Cr;rw[aK (n:=t.fO+t.rp),aK (n:=t.hD+t.rp),aK (n:=t.wr+t.rp)]
 grind
def aAB{c:Bool}{x y a b:Int}(C:a<=x/\x<=b)(D:a<=y/\y<=b):a<=(bif c then x else y)/\(bif c then x else y)<=b:=by
 cases c
 ·exact D
 ·exact C
def aAC{t:cI}(h:gN t=true)(a b:Int)(n:Bool):0 <= Cs t a b n/\Cs t a b n <= 128:=by
 have C:=YG h;simp[mM,List.mem_cons,forall_eq_or_imp,forall_eq]at C;have D:=aj7 h a 1
 repeat' (first|exact D|refine aAB ?_ ?_|omega)
def gZ(g:aP)(c:aD):Int:=9*(bif aI c.kind 1 5 then c.au else aT g)+c.kind-1
def YH{g:aP}{c:aD}(h:dc g c=true):0 <= gZ g c/\gZ g c<9*(aT g+1):=by
 have⟨C,D,E,_⟩:=Cq h;have L:=eM g;unfold gZ
 grind
def aAD{g:aP}{c:aD}(h:dc g c=true):QC g c=some (gZ g c):=by
 have⟨C,D,E,_⟩:=Cq h;have L:=eM g;unfold QC gZ;simp[mJ,ak,Lv];cases hu:aI _ 1 5 with
 | true=>
  have:=bA.1 hu;simp;rw[aK (n:=9*c.au),aK (n:=9*c.au+c.kind),aK]
 | false=>
  simp;rw[aK (n:=9*aT g),aK (n:=9*aT g+c.kind),aK]
def aj8(r:cP)(C:r.last.length<1073741824)(D:r.bg.length<1073741824):Eh r=some r:=by
 unfold Eh xA xZ;rw[show ([]).length+r.last.length=r.last.length by simp,cM C,show ([]).length+r.bg.length=r.bg.length by simp,cM D];rfl
def aj9(r:cP)(C:r.last.length<1073741824)(D:r.bg.length<1073741824):sn r=some r:=aj8 r C D
def Cu(r:cP)(x:Int):Bool:=match r.bg.getLast? with
 |some y=>decide (x<=y)
 |none=>false
def Cv(l:aa Int)(x:Int):aa Int:=(l++[x]).drop (l.length+1-4)
def sH(g:aP)(r:cP)(e:cz):cP:=
 bif jH g r&&(dc g e.cmd&&(aI e.at_ 0 1000000 && !(e.cmd.kind==1&&Cu r e.at_)))then ⟨r.last.set (gZ g e.cmd).toNat e.at_,bif e.cmd.kind==1 then Cv r.bg e.at_ else r.bg⟩else r
def RU{g:aP}{r:cP}(h:jH g r=true):cq g=true/\(r.last.length:Int)=9*(aT g+1)/\r.bg.length <= 4:=by
 simp[jH,Bool.and_eq_true,beq_iff_eq,Bool.not_eq_true',decide_eq_false_iff_not]at h
 grind
def aka{l:aa Int}(h:0<l.length)(C:(W6 ((l.length:Int)-1)).toNat<l.length)(D:l.length<1073741824):l.getLast?=some (l[(W6 ((l.length:Int)-1)).toNat]'C):=by
 have e:(W6 ((l.length:Int)-1)).toNat=l.length-1:=by rw[aK];omega
 simp only[e];rw[List.getLast?_eq_getElem?,List.getElem?_eq_getElem (by omega)]
def aAE(g:aP)(r:cP)(e:cz)(T:r.last.length<1073741824)(U:r.bg.length<1073741824):QD g r e=some (sH g r e):=by
 unfold QD sH xA xI xL xZ;rw[aj8 r T U,ak,Yw,ak];cases Y:jH g r with
 |false=>rfl
 | true=>
  simp only[Bool.not_true,cond_false,Bool.true_and];rw[YB,ak];cases D:dc g e.cmd with
  |false=>rfl
  | true=>
   simp only[Bool.not_true,cond_false,Bool.true_and];rw[c9,ak];cases ha:aI e.at_ 0 1000000 with
   |false=>rfl
   | true=>
    obtain⟨hg,hl,h4⟩:=RU Y;have E:=YH D;have b1:=eM g;simp only[Bool.not_true,cond_false,Bool.true_and,aAD D,ak];cases hk:(e.cmd.kind==1)with
    | false=>
     simp only[cond_false,Bool.false_and,Bool.not_false,cond_true];rw[dif_pos ⟨E.1,by omega⟩,dif_pos (by omega)]
    | true=>
     have tl:∀ (A B:ah cP),(if rT:0<=gZ g e.cmd/\(gZ g e.cmd).toNat<r.last.length then if sG:(gZ g e.cmd).toNat<r.last.length then (bif bD (r.bg.length+([e.at_]:aa Int).length)then if 0<=(if W6 (((r.bg++[e.at_]).length:Int)-4) > 0 then W6 (((r.bg++[e.at_]).length:Int)-4)else 0)/\(if W6 (((r.bg++[e.at_]).length:Int)-4) > 0 then W6 (((r.bg++[e.at_]).length:Int)-4)else 0)<=((r.bg++[e.at_]).length:Int)/\((r.bg++[e.at_]).length:Int)<=((r.bg++[e.at_]).length:Int)then bif bD (([]:aa Int).length+(((r.bg++[e.at_]).take (((r.bg++[e.at_]).length:Int).toNat)).drop ((if W6 (((r.bg++[e.at_]).length:Int)-4) > 0 then W6 (((r.bg++[e.at_]).length:Int)-4)else 0).toNat)).length)then some (⟨(r.last.set (gZ g e.cmd).toNat e.at_),(([]:aa Int)++(((r.bg++[e.at_]).take (((r.bg++[e.at_]).length:Int).toNat)).drop ((if W6 (((r.bg++[e.at_]).length:Int)-4) > 0 then W6 (((r.bg++[e.at_]).length:Int)-4)else 0).toNat)))⟩:cP)else none else none else none)else A else B)=some ⟨r.last.set (gZ g e.cmd).toNat e.at_,Cv r.bg e.at_⟩:=by
      intro A B;have L:(r.bg++[e.at_]).length=r.bg.length+1:=by simp
      have Z:(if W6 (((r.bg.length+1:Nat):Int)-4) > 0 then W6 (((r.bg.length+1:Nat):Int)-4)else 0)=((r.bg.length+1-4:Nat):Int):=by
       rw[aK];split<;>omega
      rw[dif_pos ⟨E.1,by omega⟩,dif_pos (by omega),cM (by simp;omega),cond_true,L,Z,if_pos ⟨by omega,by omega,by omega⟩,cM (by simp;omega),cond_true];unfold Cv;simp only[Int.toNat_natCast,List.nil_append];rw[<-L,List.take_length]
     simp only[cond_true,Bool.true_and];unfold Cu;by_cases C:0<r.bg.length
     ·have O:(W6 ((r.bg.length:Int)-1))=((r.bg.length-1:Nat):Int):=by rw[aK];omega
      have hi:(W6 ((r.bg.length:Int)-1)).toNat<r.bg.length:=by rw[O];omega
      rw[decide_eq_true (show (r.bg.length:Int) > 0 by omega),cond_true,dif_pos ⟨by rw[O];omega,hi⟩,aka C hi (by omega)];dsimp only;cases decide (e.at_<=r.bg[(W6 ((r.bg.length:Int)-1)).toNat])with
      |true=>rfl
      | false=>
       simp only[cond_false,Bool.not_false,cond_true];exact tl _ _
     ·have C:r.bg=[]:=List.eq_nil_of_length_eq_zero (by omega);rw[decide_eq_false (by rw[C];simp),cond_false];rw[show r.bg.getLast?=none by rw[C];rfl];simp only[Bool.not_false,cond_true];exact tl _ _
def aAF(g:aP)(r:cP)(e:cz)(h1:r.last.length<1073741824)(h2:r.bg.length<1073741824):O2 g r e=some (sH g r e):=by
 unfold O2 sH xA xI xL xZ;rw[aj9 r h1 h2,ak,ajO,ak];cases hr:jH g r with
 |false=>rfl
 | true=>
  simp only[Bool.not_true,cond_false,Bool.true_and];rw[aj0,ak];cases O:dc g e.cmd with
  |false=>rfl
  | true=>
   simp only[Bool.not_true,cond_false,Bool.true_and];rw[dP,ak];cases ha:aI e.at_ 0 1000000 with
   |false=>rfl
   | true=>
    obtain⟨hg,hl,h4⟩:=RU hr;obtain⟨_,hk9,hb,_⟩:=Cq O;have hp:=YH O;have b1:=eM g;have pl:gZ g e.cmd=bif decide (e.cmd.kind<=5)then 9*e.cmd.au+e.cmd.kind-1 else 9*aT g+e.cmd.kind-1:=by
     unfold gZ;rw[LD hk9];cases decide (e.cmd.kind<=5)<;>rfl
    have T:decide (e.cmd.kind<=5)=true->W6 (W6 (W6 (9*e.cmd.au)+e.cmd.kind)-1)=gZ g e.cmd:=by
     intro C;have:=hb (of_decide_eq_true C);rw[aK (n:=9*e.cmd.au),aK (n:=9*e.cmd.au+e.cmd.kind),aK,pl,C];rfl
    have hW2:decide (e.cmd.kind<=5)=false->W6 (W6 (W6 (9*aT g)+e.cmd.kind)-1)=gZ g e.cmd:=by
     intro C;rw[aK (n:=9*aT g),aK (n:=9*aT g+e.cmd.kind),aK,pl,C];rfl
    have E:∀l:aa Int,l.length<1073741824->sn ⟨r.last.set (gZ g e.cmd).toNat e.at_,l⟩=some ⟨r.last.set (gZ g e.cmd).toNat e.at_,l⟩:=λl vE=>aj9 _ (by simp;omega) vE
    have D:0<=gZ g e.cmd/\(gZ g e.cmd).toNat<r.last.length:=⟨hp.1,by omega⟩
    have o1:bD (([]:aa Int).length+r.bg.length)=true:=cM (by simp;omega);have o2:bD ((([]:aa Int)++r.bg).length+([e.at_]:aa Int).length)=true:=cM (by simp;omega);have U:((([]:aa Int)++r.bg)++([e.at_]:aa Int)).length=r.bg.length+1:=by simp
    have Y:(bif decide ((((r.bg.length+1:Nat):Int)) > 4)then if 0<=(1:Int)/\(1:Int)<=((r.bg.length+1:Nat):Int)/\((r.bg.length+1:Nat):Int)<=((r.bg.length+1:Nat):Int)then (sn (⟨r.last.set (gZ g e.cmd).toNat e.at_,(((([]:aa Int)++r.bg)++([e.at_]:aa Int)).take (((r.bg.length+1:Nat):Int).toNat)).drop ((1:Int).toNat)⟩:cP)).bind λdQ=>some dQ else none else (sn (⟨r.last.set (gZ g e.cmd).toNat e.at_,((([]:aa Int)++r.bg)++([e.at_]:aa Int))⟩:cP)).bind λfK=>some fK)=some ⟨r.last.set (gZ g e.cmd).toNat e.at_,Cv r.bg e.at_⟩:=by
     have et:((([]:aa Int)++r.bg)++([e.at_]:aa Int)).take (((r.bg.length+1:Nat):Int).toNat)=r.bg++[e.at_]:=by
      rw[Int.toNat_natCast,<-U,List.take_length,List.nil_append]
     rw[et];unfold Cv;by_cases h5:4<=r.bg.length
     ·rw[decide_eq_true (by omega),cond_true,if_pos ⟨by omega,by omega,by omega⟩,E _ (by simp;omega),ak,show r.bg.length+1-4=1 by omega];rfl
     ·rw[decide_eq_false (by omega),cond_false,E _ (by simp;omega),ak,show r.bg.length+1-4=0 by omega];rfl
    simp only[Bool.not_true,cond_false,Bool.true_and,qQ,ak];cases hk:(e.cmd.kind==1)with
    | false=>
     cases C:decide (e.cmd.kind<=5)with
     | true=>
      simp only[cond_false,Bool.false_and,Bool.not_false,cond_true,T C];rw[dif_pos D,dif_pos D.2,E _ (by omega),ak]
     | false=>
      simp only[cond_false,Bool.false_and,Bool.not_false,cond_true,hW2 C];rw[dif_pos D,dif_pos D.2,E _ (by omega),ak]
    | true=>
     have C:decide (e.cmd.kind<=5)=true:=by
      have:e.cmd.kind=1:=by simpa using hk
      exact decide_eq_true (by omega)
     simp only[cond_true,Bool.true_and,C,T C,o1,o2,U];unfold Cu;by_cases L:0<r.bg.length
     ·have Z:(W6 ((r.bg.length:Int)-1))=((r.bg.length-1:Nat):Int):=by rw[aK];omega
      have hi:(W6 ((r.bg.length:Int)-1)).toNat<r.bg.length:=by rw[Z];omega
      rw[decide_eq_true (show (r.bg.length:Int) > 0 by omega),cond_true,dif_pos ⟨by rw[Z];omega,hi⟩,aka L hi (by omega)];dsimp only;rw[show decide (r.bg[(W6 ((r.bg.length:Int)-1)).toNat] >= e.at_)=decide (e.at_<=r.bg[(W6 ((r.bg.length:Int)-1)).toNat])from rfl];cases decide (e.at_<=r.bg[(W6 ((r.bg.length:Int)-1)).toNat])with
      |true=>rfl
      | false=>
       simp only[cond_false,Bool.not_false,cond_true];rw[dif_pos D,dif_pos D.2];exact Y
     ·have L:r.bg=[]:=List.eq_nil_of_length_eq_zero (by omega);rw[decide_eq_false (by rw[L];simp),cond_false];rw[show r.bg.getLast?=none by rw[L];rfl];simp only[Bool.not_false,cond_true];rw[dif_pos D,dif_pos D.2];exact Y
def YI{t:cI}(C:gN t=true)(g:aP)(a b:aD):1 <= uK g t a b/\uK g t a b <= 128:=by
 have D:=aAC C a.kind b.kind (LC g a b);have E:=aj7 C a.kind b.kind;unfold uK
 grind
def akb{t:cI}(C:gN t=true):1<=t.iI/\t.iI<=64:=YG C _ (by simp[mM])
def YJ{T:Type}{p:T -> Bool}{l:aa T}{i:Nat}{x:T}(h:l.all p=true)(C:p x=true):(l.set i x).all p=true:=by grind
def Fb{g:aP}{r:bV}(h:ke g r=true):cq g=true/\(r.ay.length:Int)=aT g/\(0 <= r.aS/\r.aS <= 2)/\r.ay.all (pW g)=true/\(r.aS=2 -> (r.ay.all λb=>!b.open_)=true):=by
 simp only[ke,Bool.and_eq_true,beq_iff_eq,bA,Bool.or_eq_true,bne_iff_ne]at h
 grind
def Fc{g:aP}{r:bV}(C:cq g=true)(D:(r.ay.length:Int)=aT g)(E:0 <= r.aS/\r.aS <= 2)(L:r.ay.all (pW g)=true)(O:r.aS=2 -> (r.ay.all λb=>!b.open_)=true):ke g r=true:=by
 simp only[ke,Bool.and_eq_true,beq_iff_eq,bA,Bool.or_eq_true,bne_iff_ne]
 grind
def akc{g:aP}{r:bV}{c:aD}(O:ke g r=true)(L:dc g c=true)(D:nT r c=true):ke g (ff r c)=true:=by
 have⟨C,hlen,Z,E,hz⟩:=Fb O;have⟨_,T,hb,_⟩:=Cq L;have gb:=eK C;have U:c.kind=1 -> 0 <= c.row/\c.row <= g.rows-1:=by
  intro h;simp[dc,Bool.and_eq_true]at L;have:=L.2.2.2.1;rw[qW,h]at this
  simpa [bA]using this
 rcases kinds T with h|h|h|h|h|h|h|h|h
 ·have e:ff r c=⟨r.ay.set c.au.toNat ⟨true,c.row⟩,r.aS⟩:=by simp[ff,h]
  have Y:r.aS=0:=by simp[nT,h]at D;exact D.1
  rw[e];exact Fc C (by simpa using hlen) (by omega) (YJ E (by simp only[pW,Bool.and_eq_true,bA];exact⟨U h,by simp⟩)) (λe=>by simp only at e;omega)
 ·have e:ff r c=r:=by simp[ff,h]
  simp_all
 ·have e:ff r c=r:=by simp[ff,h]
  simp_all
 ·have e:ff r c=⟨r.ay.set c.au.toNat ⟨false,0⟩,r.aS⟩:=by simp[ff,h]
  have Y:r.aS=0:=by simp[nT,h]at D;exact D.1
  rw[e];exact Fc C (by simpa using hlen) (by omega) (YJ E (by simp only[pW,Bool.and_eq_true,bA];exact⟨by omega,by simp⟩)) (λe=>by simp only at e;omega)
 ·have e:ff r c=r:=by simp[ff,h]
  simp_all
 ·have e:ff r c=⟨r.ay,1⟩:=by simp[ff,h]
  rw[e];exact Fc C hlen (by simp) E (λe=>by simp at e)
 ·have e:ff r c=⟨r.ay,0⟩:=by simp[ff,h]
  rw[e];exact Fc C hlen (by simp) E (λe=>by simp at e)
 ·have e:ff r c=⟨r.ay,2⟩:=by simp[ff,h]
  rw[e];exact Fc C hlen (by simp) E (λ_=>by simp[nT,h]at D;simpa using D.2)
 ·have e:ff r c=⟨r.ay,0⟩:=by simp[ff,h]
  rw[e];exact Fc C hlen (by simp) E (λe=>by simp at e)
def uL(n k:Nat):aa Int:=List.replicate k (-1)++List.replicate (n-k) 0
def aAG{n k:Nat}(h:k<=n):(uL n k).length=n:=by
 unfold uL;simp;omega
def aAH{n k:Nat}(h:k<n):(uL n k).set k (-1)=uL n (k+1):=by
 obtain⟨m,rfl⟩:∃m,n=k+1+m:=⟨n-k-1,by omega⟩
 unfold uL;rw[show k+1+m-k=m+1 by omega,show k+1+m-(k+1)=m by omega,List.set_append_right _ _ (by simp),List.length_replicate,Nat.sub_self,List.replicate_succ,List.replicate_succ',List.append_assoc];rfl
def aAI(n:Nat):uL n 0=List.replicate n 0:=by simp[uL]
def aAJ(n:Nat):uL n n=List.replicate n (-1):=by simp[uL]
def aAK(n:Nat)(C:n<1073741824):O7 (n:Int)=some (List.replicate n (-1)):=by
 have e:=cm (step:=I1) n (λi=>((n,(),i,()),(uL n i,()))) _ aQ (λk h=>by
  have D:=aAG (show k <= n by omega);unfold I1 aq xG xL;dsimp only;rw[decide_eq_true (by omega),cond_true,dif_pos ⟨by omega,by omega⟩,dif_pos (by omega),bq,Int.toNat_natCast,aAH h]) (by
  unfold I1 aq xG xL;dsimp only;rw[decide_eq_false (by omega),cond_false]) (bF)
 unfold O7 aW;rw[if_pos ⟨by omega,by omega,by omega⟩];rw[aAI,aAJ]at e;simp_all
def aAL(g:aP)(r:cP)(e:cz):(sH g r e).last.length=r.last.length/\(r.bg.length <= 4 -> (sH g r e).bg.length <= 4):=by
 unfold sH;cases (jH g r&&(dc g e.cmd&&(aI e.at_ 0 1000000 && !(e.cmd.kind==1&&Cu r e.at_))))with
 |false=>simp_all
 | true=>
  refine⟨by simp,λh=>?_⟩
  cases e.cmd.kind==1 with
  |false=>exact h
  | true=>
   simp[cond_true,Cv,List.length_drop,List.length_append,List.length_singleton];omega
def aAM{α:Type}{cs:aa α}(o k:Nat):cs.drop o=(cs.drop o).take k++cs.drop (o+k):=by
 rw[<-List.drop_drop];exact(List.take_append_drop k _).symm
def gF{w:World}{B:Nat}{cs:aa Value}{n:Nat}(h:cs.length=n):bB w B [] (cs.drop n):=by
 rw[List.drop_of_length_le (by omega)];exact .nil
def bB.cut{w:World}{B:Nat}{C D:aa V}{cs:aa Value}{o k:Nat}(h:bB w B C ((cs.drop o).take k))(E:bB w B D (cs.drop (o+k))):bB w B (C++D) (cs.drop o):=by
 rw[aAM o k];exact bB.append h E
def oI{H:Type}{cD:TypeId×Value->H}{w:World}:aR cD Tryz.prog w 3 .int bU:=aR.int Tryz.underlying3
def YK(x:bk):Prop:=bU x.id/\bU x.de/\bU x.line/\True/\bU x.data/\bU x.at_
def aAN{H:Type}{cD:TypeId×Value->H}{w:World}:aR cD Tryz.prog w 121 .cQ YK:=λn cs x C=>by
 have D:=Tryz.underlying121;obtain⟨L,i0,O⟩:=aR.part D C (i:=0) rfl oI (off:=0) (k:=1) rfl (by kernel_rfl);obtain⟨T,U,Y⟩:=aR.part D C (i:=1) rfl oI (off:=1) (k:=1) rfl (by kernel_rfl);obtain⟨Z,i2,r2⟩:=aR.part D C (i:=2) rfl oI (off:=2) (k:=1) rfl (by kernel_rfl);obtain⟨a3,i3,r3⟩:=aR.part D C (i:=3) rfl (aR.bool Tryz.underlying4) (off:=3) (k:=1) rfl (by kernel_rfl);obtain⟨a4,i4,r4⟩:=aR.part D C (i:=4) rfl oI (off:=4) (k:=1) rfl (by kernel_rfl);obtain⟨a5,i5,r5⟩:=aR.part D C (i:=5) rfl oI (off:=5) (k:=1) rfl (by kernel_rfl);have E:=aR.len D C;have hc:Tryz.prog.cellsOf 121=6:=by kernel_rfl
 rw[hc]at E;exact⟨⟨L,T,Z,a3,a4,a5⟩,⟨i0,U,i2,i3,i4,i5⟩,bB.cut O (bB.cut Y (bB.cut r2 (bB.cut r3 (bB.cut r4 (bB.cut r5 ((gF E)))))))⟩
def YL(x:aF):Prop:=bU x.au/\bU x.row/\bU x.bG
def aAO{H:Type}{cD:TypeId×Value->H}{w:World}:aR cD Tryz.prog w 123 .Addr YL:=λn cs x C=>by
 have D:=Tryz.underlying123;obtain⟨L,i0,O⟩:=aR.part D C (i:=0) rfl oI (off:=0) (k:=1) rfl (by kernel_rfl);obtain⟨T,U,Y⟩:=aR.part D C (i:=1) rfl oI (off:=1) (k:=1) rfl (by kernel_rfl);obtain⟨Z,i2,r2⟩:=aR.part D C (i:=2) rfl oI (off:=2) (k:=1) rfl (by kernel_rfl);have E:=aR.len D C;have hc:Tryz.prog.cellsOf 123=3:=by kernel_rfl
 rw[hc]at E;exact⟨⟨L,T,Z⟩,⟨i0,U,i2⟩,bB.cut O (bB.cut Y (bB.cut r2 ((gF E))))⟩
def akd(x:jw):Prop:=bU x.down/\bU x.sleep
def aAP{H:Type}{cD:TypeId×Value->H}{w:World}:aR cD Tryz.prog w 34 .mb akd:=λn cs x C=>by
 have D:=Tryz.underlying34;obtain⟨L,i0,O⟩:=aR.part D C (i:=0) rfl oI (off:=0) (k:=1) rfl (by kernel_rfl);obtain⟨T,U,Y⟩:=aR.part D C (i:=1) rfl oI (off:=1) (k:=1) rfl (by kernel_rfl);have E:=aR.len D C;have Z:Tryz.prog.cellsOf 34=2:=by kernel_rfl
 rw[Z]at E;exact⟨⟨L,T⟩,⟨i0,U⟩,bB.cut O (bB.cut Y ((gF E)))⟩
def RX(x:eE):Prop:=bU x.dR/\bU x.cap/\bU x.eI/\bU x.low/\bU x.high/\(x.weights.length<=maxLen/\∀y∈x.weights,bU y)/\akd x.dO
def ake{H:Type}{cD:TypeId×Value->H}{w:World}:aR cD Tryz.prog w 36 .kj RX:=λn cs x C=>by
 have D:=Tryz.underlying36;obtain⟨L,i0,O⟩:=aR.part D C (i:=0) rfl oI (off:=0) (k:=1) rfl (by kernel_rfl);obtain⟨T,U,Y⟩:=aR.part D C (i:=1) rfl oI (off:=1) (k:=1) rfl (by kernel_rfl);obtain⟨Z,i2,r2⟩:=aR.part D C (i:=2) rfl oI (off:=2) (k:=1) rfl (by kernel_rfl);obtain⟨a3,i3,r3⟩:=aR.part D C (i:=3) rfl oI (off:=3) (k:=1) rfl (by kernel_rfl);obtain⟨a4,i4,r4⟩:=aR.part D C (i:=4) rfl oI (off:=4) (k:=1) rfl (by kernel_rfl);obtain⟨a5,i5,r5⟩:=aR.part D C (i:=5) rfl (aR.sl Tryz.underlying32 (by kernel_rfl) oI) (off:=5) (k:=1) rfl (by kernel_rfl);obtain⟨a6,i6,r6⟩:=aR.part D C (i:=6) rfl aAP (off:=6) (k:=2) rfl (by kernel_rfl);have E:=aR.len D C;have hc:Tryz.prog.cellsOf 36=8:=by kernel_rfl
 rw[hc]at E;exact⟨⟨L,T,Z,a3,a4,a5,a6⟩,⟨i0,U,i2,i3,i4,i5,i6⟩,bB.cut O (bB.cut Y (bB.cut r2 (bB.cut r3 (bB.cut r4 (bB.cut r5 (bB.cut r6 ((gF E))))))))⟩
def uM{T:Type}(U:T)(f:T->ah T)(l:aa T)(hf:∀ x∈l,f x=some x)(hl:l.length<1073741824):
  iter (α:=((aa T×af×Int×af)×(aa T×af))) (β:=(((af×af)×(aa T×af))⊕Empty)) (λx=>bif (decide (x.1.2.2.1<(x.1.1.length:Int)))then if C:0<=x.1.2.2.1/\x.1.2.2.1.toNat<x.1.1.length then (let D:=x.1.1[x.1.2.2.1.toNat]'C.2;(f D).bind λE=>if h4:0<=x.1.2.2.1/\x.1.2.2.1.toNat<x.2.1.length then if L:x.1.2.2.1.toNat<x.2.1.length then (let e6:=x.2.1[x.1.2.2.1.toNat]'L;some (.inl ((x.1.1,(),(W6 (x.1.2.2.1+(1:Int))),()),((x.2.1.set x.1.2.2.1.toNat E),()))))else none else none)else none else some (.inr (.inl (((),()),(x.2.1,())))))
   aQ ((l,(),(0:Int),()),((List.replicate (l.length:Int).toNat U),()))=some (.inl (((),()),(l,()))):=by
 obtain⟨z,C,h2⟩:=X6 (step:=(λx:((aa T×af×Int×af)×(aa T×af))=>(bif (decide (x.1.2.2.1<(x.1.1.length:Int)))then if C:0<=x.1.2.2.1/\x.1.2.2.1.toNat<x.1.1.length then (let D:=x.1.1[x.1.2.2.1.toNat]'C.2;(f D).bind λE=>if h4:0<=x.1.2.2.1/\x.1.2.2.1.toNat<x.2.1.length then if L:x.1.2.2.1.toNat<x.2.1.length then (let e6:=x.2.1[x.1.2.2.1.toNat]'L;some (.inl ((x.1.1,(),(W6 (x.1.2.2.1+(1:Int))),()),((x.2.1.set x.1.2.2.1.toNat E),()))))else none else none)else none else some (.inr (.inl (((),()),(x.2.1,())))):ah (((aa T×af×Int×af)×(aa T×af))⊕(((af×af)×(aa T×af))⊕Empty)))))
  (λx=>∃(i:Nat) (a:aa T),x=((l,(),(i:Int),()),(a,()))/\i<=l.length/\a.length=l.length/\∀j,j<i->a[j]?=l[j]?)
  (λx=>l.length-x.1.2.2.1.toNat) (λz=>z = .inl (((),()),(l,()))) (by
   rintro x ⟨i,a,rfl,hi,Y,Z⟩;dsimp only;by_cases h:i<l.length
   ·left;have O:decide ((i:Int)<(l.length:Int))=true:=by simpa using h
    have c2:0<=(i:Int)/\(i:Int).toNat<l.length:=⟨by omega,by simpa using h⟩
    have c3:0<=(i:Int)/\(i:Int).toNat<a.length:=⟨by omega,by rw[Y];simpa using h⟩
    rw[O,cond_true,dif_pos c2,hf _ (List.getElem_mem _),ak,dif_pos c3,dif_pos c3.2]
    refine⟨_,rfl,⟨i+1,a.set i (l[i]'h),?_,by omega,by simpa using Y,λj mg=>?_⟩,?_⟩
    ·rw[aK];simp
    ·rw[List.getElem?_set];by_cases e:i=j
     ·subst e;rw[if_pos rfl,if_pos (by omega),List.getElem?_eq_getElem h]
     ·rw[if_neg e];exact Z j (by omega)
    ·dsimp only;rw[aK];omega
   ·right;have O:decide ((i:Int)<(l.length:Int))=false:=by simpa using h
    rw[O,cond_false];refine⟨_,rfl,?_⟩;have:a=l:=List.ext_getElem? λj=>by
     by_cases Ae:j<l.length
     ·exact Z j (by omega)
     ·rw[List.getElem?_eq_none (by omega),List.getElem?_eq_none (by omega)]
    rw[this])
  aQ ((l,(),(0:Int),()),((List.replicate (l.length:Int).toNat U),())) ⟨0,_,rfl,by omega,by simp,λj h=>by omega⟩ (by dsimp only;unfold aQ;omega)
 rw[C,h2]
def uN{T:Type}(f:T->T->ah Bool)(l:aa T)(Z:∀ x∈l,f x x=some true)(hl:l.length<1073741824):
  iter (α:=((aa T×aa T×Int×af)×af)) (β:=(((Bool×af)×af)⊕((af×af)⊕Empty))) (λx=>bif (decide (x.1.2.2.1<(x.1.1.length:Int)))then if C:0<=x.1.2.2.1/\x.1.2.2.1.toNat<x.1.1.length then (let D:=x.1.1[x.1.2.2.1.toNat]'C.2;if E:0<=x.1.2.2.1/\x.1.2.2.1.toNat<x.1.2.1.length then (let L:=x.1.2.1[x.1.2.2.1.toNat]'E.2;(f D L).bind λO=>bif (!O)then some (.inr (.inl ((false,()),())))else some (.inl ((x.1.1,x.1.2.1,(W6 (x.1.2.2.1+(1:Int))),()),())))else none)else none else some (.inr (.inr (.inl ((),())))))
   aQ ((l,l,(0:Int),()),())=some (.inr (.inl ((),()))):=by
 obtain⟨z,C,h2⟩:=X6 (step:=(λx:((aa T×aa T×Int×af)×af)=>(bif (decide (x.1.2.2.1<(x.1.1.length:Int)))then if C:0<=x.1.2.2.1/\x.1.2.2.1.toNat<x.1.1.length then (let D:=x.1.1[x.1.2.2.1.toNat]'C.2;if E:0<=x.1.2.2.1/\x.1.2.2.1.toNat<x.1.2.1.length then (let L:=x.1.2.1[x.1.2.2.1.toNat]'E.2;(f D L).bind λO=>bif (!O)then some (.inr (.inl ((false,()),())))else some (.inl ((x.1.1,x.1.2.1,(W6 (x.1.2.2.1+(1:Int))),()),())))else none)else none else some (.inr (.inr (.inl ((),())))):ah (((aa T×aa T×Int×af)×af)⊕(((Bool×af)×af)⊕((af×af)⊕Empty))))))
  (λx=>∃(i:Nat),x=((l,l,(i:Int),()),())/\i<=l.length)
  (λx=>l.length-x.1.2.2.1.toNat) (λz=>z = .inr (.inl ((),()))) (by
   rintro x ⟨i,rfl,hi⟩;dsimp only;by_cases h:i<l.length
   ·left;have U:decide ((i:Int)<(l.length:Int))=true:=by simpa using h
    have Y:0<=(i:Int)/\(i:Int).toNat<l.length:=⟨by omega,by simpa using h⟩
    rw[U,cond_true,dif_pos Y,dif_pos Y,Z _ (List.getElem_mem _),ak];refine⟨_,rfl,⟨i+1,?_,by omega⟩,?_⟩
    ·rw[aK];simp
    ·dsimp only;rw[aK];omega
   ·right;have U:decide ((i:Int)<(l.length:Int))=false:=by simpa using h
    rw[U,cond_false];exact⟨_,rfl,rfl⟩)
  aQ ((l,l,(0:Int),()),()) ⟨0,rfl,by omega⟩ (by dsimp only;unfold aQ;omega)
 rw[C,h2]
def Sz(n:Int)(Q:Prop)(o:ah Int):Prop:=∃y,o=some y/\(y<0\/0<=y/\y<=n/\Q)
def Sz.bind{n:Int}{Q R:Prop}{o:ah Int}{g:Int->ah Int}(h:Sz n Q o)(C:∀ y,0<=y->y<=n->Q->Sz n R (g y)):Sz n R (o.bind λy=>bif (decide (y<(0:Int)))then some (-1:Int)else g y):=by
 obtain⟨y,rfl,h|⟨D,E,L⟩⟩:=h
 ·rw[ak,decide_eq_true h];exact⟨-1,rfl,.inl (by omega)⟩
 ·rw[ak,decide_eq_false (by omega)];exact C y D E L
def Sz.done{n:Int}{Q:Prop}{y:Int}(C:0<=y)(D:y<=n)(E:Q):Sz n Q (some y):=⟨y,rfl,.inr ⟨C,D,E⟩⟩
def Sz.le{n m:Int}{Q:Prop}{o:ah Int}(h:Sz n Q o)(E:n<=m):Sz m Q o:=by
 obtain⟨y,e,h|⟨C,L,D⟩⟩:=h
 ·exact⟨y,e,.inl h⟩
 ·exact⟨y,e,.inr ⟨C,by omega,D⟩⟩
def Sz.imp{n:Int}{Q R:Prop}{o:ah Int}(h:Sz n Q o)(C:Q->R):Sz n R o:=by
 obtain⟨y,e,h|⟨D,E,L⟩⟩:=h
 ·exact⟨y,e,.inl h⟩
 ·exact⟨y,e,.inr ⟨D,E,C L⟩⟩
def zD{α:Type}{l:aa α}{n:Int}(C:l.length<=maxLen)(D:0<=n)(E:n<=1048576):Sz n (l.length<=1048576) (bif (decide ((W6 (n-(l.length:Int)))<(0:Int)))then some (-1:Int)else some (W6 (n-(l.length:Int)))):=by
 unfold maxLen at C;rw[aK];by_cases c:n-(l.length:Int)<0
 ·rw[decide_eq_true c];exact⟨-1,rfl,.inl (by omega)⟩
 ·rw[decide_eq_false c];exact⟨_,rfl,.inr ⟨by omega,by omega,by omega⟩⟩
def akf{T:Type}(f:T->Int->ah Int)(l:aa T){Q:T->Prop}(hl:l.length<=1048576)(hf:∀ x∈l,∀ n:Int,0<=n->n<=1048576->Sz n (Q x) (f x n)){n:Int}(h0:0<=n)(C:n<=1048576):
  Sz n (∀x∈l,Q x) ((iter (α:=((aa T×Int×Int×af)×af)) (β:=(((Int×af)×af)⊕(((Int×af)×af)⊕Empty))) (λx=>bif (decide (x.1.2.2.1<(x.1.1.length:Int)))then if C:0<=x.1.2.2.1/\x.1.2.2.1.toNat<x.1.1.length then (let L:=x.1.1[x.1.2.2.1.toNat]'C.2;(f L x.1.2.1).bind λD=>bif (decide (D<(0:Int)))then some (.inr (.inl (((-1:Int),()),())))else some (.inl ((x.1.1,D,(W6 (x.1.2.2.1+(1:Int))),()),())))else none else some (.inr (.inr (.inl ((x.1.2.1,()),()))))) aQ ((l,n,(0:Int),()),())).bind (Sum.elim (λz4=>some z4.1.1) (Sum.elim (λz5=>some z5.1.1) (λz=>nomatch z)))):=by
 obtain⟨z,e,hz⟩:=azj (step:=(λx:((aa T×Int×Int×af)×af)=>(bif (decide (x.1.2.2.1<(x.1.1.length:Int)))then if C:0<=x.1.2.2.1/\x.1.2.2.1.toNat<x.1.1.length then (let L:=x.1.1[x.1.2.2.1.toNat]'C.2;(f L x.1.2.1).bind λD=>bif (decide (D<(0:Int)))then some (.inr (.inl (((-1:Int),()),())))else some (.inl ((x.1.1,D,(W6 (x.1.2.2.1+(1:Int))),()),())))else none else some (.inr (.inr (.inl ((x.1.2.1,()),())))):ah (((aa T×Int×Int×af)×af)⊕(((Int×af)×af)⊕(((Int×af)×af)⊕Empty))))))
  l.length (λi x=>i<=l.length/\∃m:Int,x=((l,m,(i:Int),()),())/\0<=m/\m<=n/\∀j (E:j<l.length),j<i->Q l[j]) (λz=>(∃y:Int,y<0/\z = .inl ((y,()),()))\/∃y:Int,0<=y/\y<=n/\z = .inr (.inl ((y,()),()))/\∀x∈l,Q x) (x:=((l,n,(0:Int),()),())) aQ ⟨by omega,n,rfl,h0,by omega,λj _ h=>by omega⟩ (by
  rintro k hk x ⟨_,m,rfl,O,Z,U⟩;dsimp only;rw[decide_eq_true (by omega),cond_true,dif_pos ⟨by omega,by omega⟩];simp only[Int.toNat_natCast];obtain⟨y,e,h⟩:=hf l[k] (List.getElem_mem hk) m O (by omega);rw[e,ak];rcases h with h|⟨C,h2,Y⟩
  ·right;rw[decide_eq_true h,cond_true];exact⟨_,rfl,.inl ⟨-1,by omega,rfl⟩⟩
  ·left;rw[decide_eq_false (by omega),cond_false,bq]
   refine⟨_,rfl,by omega,y,rfl,C,by omega,λj E hjk=>?_⟩
   by_cases e:j=k
   ·subst e;exact Y
   ·exact U j E (by omega)) (by
  rintro x ⟨_,m,rfl,O,Z,U⟩;dsimp only;rw[decide_eq_false (by omega),cond_false]
  refine⟨_,rfl,.inr ⟨m,O,Z,rfl,λx hx=>?_⟩⟩
  obtain⟨j,E,rfl⟩:=List.mem_iff_getElem.1 hx;exact U j E E) (bF)
 rw[e,ak];rcases hz with ⟨y,h,rfl⟩|⟨y,h2,Y,rfl,h4⟩
 ·exact⟨y,rfl,.inl h⟩
 ·exact⟨y,rfl,.inr ⟨h2,Y,h4⟩⟩
def zE(x:eE):Prop:=(x.weights.length<=1048576)
def aAQ(x:bk):Jg x=some x:=by
 unfold Jg;rfl
def aAR(x:bk):Kw x x=some true:=by
 unfold Kw;simp only[ak,bne_self_eq_false,beq_self_eq_true,Bool.not_true,cond_false]
def aAS(x:aF):Jf x=some x:=by
 unfold Jf;rfl
def aAT(x:aF):Kv x x=some true:=by
 unfold Kv;simp only[ak,bne_self_eq_false,beq_self_eq_true,Bool.not_true,cond_false]
def sI(x:aa Int)(h:(x.length<=maxLen/\∀ y∈x,bU y)){n:Int}(C:0<=n)(D:n<=1048576):Sz n (x.length<=1048576) (pO x n):=by
 exact zD h.1 C D
def sJ(x:aa Int)(C:(x.length<=1048576)):oF x=some x:=by
 have E:=C;have D:=uM ((0:Int):Int) some x (λy L=>rfl) (by omega);unfold oF aW;rw[if_pos ⟨by omega,by omega,by omega⟩]
 refine(congrArg (λo=>Option.bind o _) D).trans ?_
 rfl
def sK(x:aa Int)(C:(x.length<=1048576)):oH x x=some true:=by
 have E:=C;have D:=uN (λa b:Int=>some (a==b)) x (λy L=>by simp) (by omega);unfold oH br;rw[show ((x.length:Int) != (x.length:Int))=false by simp,cond_false]
 refine(congrArg (λo=>Option.bind o _) D).trans ?_
 rfl
def aAU(x:jw):Pr x=some x:=by
 unfold Pr;rfl
def aAV(x:jw):Q5 x x=some true:=by
 unfold Q5;simp only[ak,bne_self_eq_false,beq_self_eq_true,Bool.not_true,cond_false]
def akg(x:eE)(h:RX x){n:Int}(C:0<=n)(D:n<=1048576):Sz n (zE x) (Hz x n):=by
 obtain⟨i0,U,Y,Z,i4,E,i6⟩:=h;unfold Hz
 refine Sz.bind (sI x.weights E C D) λy5 L O T=>?_
 exact Sz.done L O T
def akh(x:eE)(C:zE x):Jb x=some x:=by
 have D:=C;unfold Jb;rw[sJ x.weights D,ak,aAU x.dO,ak]
def aki(x:eE)(C:zE x):Kr x x=some true:=by
 have D:=C;unfold Kr;simp only[sK x.weights D,aAV x.dO,ak,bne_self_eq_false,beq_self_eq_true,Bool.not_true,cond_false]
def place(l:aa bk)(id:Int):Int:=match l.findIdx? (λr=>r.id==id)with
 |some i=>(i:Int)
 |none=>-1
def aAW(l:aa (Int×Bool))(k j:Int):kC (lG l k true) j=(j==k || kC l j):=by
 induction l with
 |nil =>rfl
 | cons p ps D=>
  simp only[lG];cases C:(k==p.1)with
  | true=>
   have e:k=p.1:=by simpa using C
   rw[cond_true];simp[kC]
   grind
  | false=>
   rw[cond_false];simp only[kC]
   grind
def aAX(g:aP)(a:cF)(L:∀ c∈a.cells,c.symbols.length<1073741824):Ok g a=some (kK g a):=by
 unfold Ok kK br;rw[E4,ak,Lg,qQ];cases O:cq g with
 |false=>rfl
 | true=>
  have Z:=mK g;have b2:=oJ g;have er:aT g*g.rows=fD g:=by simp[fD,O]
  simp only[Bool.not_true,cond_false,ak,Bool.true_and,er];rw[aK];by_cases C:(a.cells.length:Int)=eN g
  ·by_cases D:(a.bh.length:Int)=fD g
   ·by_cases E:(a.aZ.length:Int)=fD g
    ·have T:a.bh.length=a.aZ.length:=by omega
     have l1:=fe (step:=HR) a.cells zo (λi=>(((),(i:Int),()),((a.cells,a.bh,a.aZ,()),()))) (.inl ((false,()),())) (.inr (.inl (((),()),((a.cells,a.bh,a.aZ,()),())))) aQ (λk h=>by
      unfold HR aq aM xG xI;simp (disch:=omega) [h,bq,Lk _ 11 (L _ (List.getElem_mem h)),zo];cases pV a.cells[k].symbols 11<;>rfl) (by unfold HR aq aM xG xI;simp) (bF)
     have l2:=fe (step:=HS) (a.bh.zip a.aZ) qT (λi=>(((),(i:Int),()),((a.cells,a.bh,a.aZ,()),()))) (.inl ((false,()),())) (.inr (.inl ((),()))) aQ (λk h=>by
      have U:k<a.bh.length:=by simp at h;omega
      have Y:k<a.aZ.length:=by omega
      unfold HS aq aM xG xI;simp (disch:=omega) [U,Y,bq,dP,qT];cases aI a.bh[k] 0 100000<;>cases aI a.aZ[k] 0 100000<;>rfl) (by unfold HS aq aM xG xI;simp[T]) (bF (by simp;omega))
     rw[Int.natCast_zero]at l1 l2;simp only[C,D,E,bne_self_eq_false,cond_false,decide_true,Bool.true_and];rw[l1];cases h1:a.cells.all zo with
     |false=>simp
     | true=>
      simp only[cond_true,Option.bind_some,Sum.elim_inr,Sum.elim_inl];rw[l2];cases (a.bh.zip a.aZ).all qT<;>simp
    ·simp[C,D,eU E,E]
   ·have e4:¬ (a.aZ.length:Int)=(a.bh.length:Int)\/True:=.inr trivial;simp[C,eU D,D]
  ·simp[eU C,C]
def p6(g:aP)(a:aF):Nat:=(oK g a).toNat
def aAY{g:aP}{a:aF}(h:ey g a=true):oK g a=(p6 g a:Int)/\(p6 g a:Int)<eN g:=by
 have:=X9 h;unfold p6;omega
def ef.LF{g:aP}{B:Int}{a:cF}(C:ef g B a)(k:Nat){c:bC}(D:Sy c.symbols):ef g B ⟨a.cells.set k c,a.bh,a.aZ⟩:=
 ⟨by simp[C.cells],Sy.bO C.syms D,C.bh,C.aZ,C.Cj,C.gM⟩
def kf(R row:Int):aa Int:=(bif decide (0<row)then [row-1]else [])++(bif decide (row<R-1)then [row+1]else [])
def YM{R row:Int}(O:2<=R)(T:R<=16)(U:0<=row)(Y:row<R):EV R row=some (kf R row):=by
 unfold EV kf xA xZ;have C:aI R 2 16=true:=by rw[bA];omega
 have D:aI row 0 (R-1)=true:=by rw[bA];omega
 rw[c9,ak,C,aK (n:=R-1),c9,aK (n:=row-1),aK (n:=row+1)];by_cases E:0<row<;>by_cases L:row<R-1<;>simp[D,E,L,bD]
def akj{R row:Int}(D:0 <= row)(E:row<R):∀ n∈kf R row,0 <= n/\n<R:=by
 intro n C;unfold kf at C
 grind
def aAZ(R row:Int):(kf R row).length <= 2:=by
 unfold kf
 grind
def aA0{R row k:Int}{i:Nat}(hi:k+row=(i:Int))(C:0 <= k)(D:0 <= row)(H:aa Int):(kf R row).foldl (λh n=>nP (k+n).toNat h) (H.set i 0)=uH R row i H:=by
 unfold kf uH zp
 grind
def akk(k:Int):∀ (l:aa Int) (H:aa Int),(l.foldl (λh n=>nP (k+n).toNat h) H).length=H.length
 |[],H=>rfl
 |x::l,H=>by rw[List.foldl_cons,akk k l,Lo]
def akl(k:Int):∀ (l:aa Int) (H:aa Int),(∀ x∈H,0<=x/\x<=100000)->∀ x∈l.foldl (λh n=>nP (k+n).toNat h) H,0<=x/\x<=100000
 |[],H,h=>h
 |x::l,H,h=>by rw[List.foldl_cons];exact akl k l _ (RD h)
def aA1{g:aP}(D:cq g=true){B:Int}{a:cF}(C:ef g B a)(hB:B <= 100000){n:Int}(O:0 <= n)(T:n <= 100000):EC g a n=some ⟨a.cells,a.bh.map (kL n),a.aZ⟩:=by
 have U:=oJ g;have Y:=C.bh;have E:aI n 0 100000=true:=by rw[bA];omega
 unfold EC aW;rw[C.copy,ak,C.ok D hB,ak,c9,ak,E];have e:=cm (step:=JP) _ (λi=>((n,(),(),(a.bh.length:Int),(i:Int),()),(((),(),(),()),((),(),(),()),([]:aa bC),([]:aa Int),([]:aa Int),a.cells,upto (kL n) a.bh i,a.aZ,()))) (.inl (((),(),()),(((),(),(),()),((),(),(),()),([]:aa bC),([]:aa Int),([]),a.cells,a.bh.map (kL n),a.aZ,()))) aQ (λk h=>by
  unfold JP aq xG xL;have Z:=C.Cj _ (List.getElem_mem h);have L:=E3 (kL n) a.bh k h;have D:=E2 (kL n) a.bh k h (by rw[zm];exact h);simp (disch:=omega) [zm,h,D,aK];rw[<- L];rfl) (by unfold JP aq xG xL;simp[E1]) (bF)
 rw[Int.natCast_zero,Rw]at e;simp_all
def aA2(y:Int):0 <= bits .and .i64 y 15/\bits .and .i64 y 15 <= 15:=by
 have e:bits .and .i64 y 15=IntKind.wrap .i64 ((BitVec.ofInt 64 y &&& BitVec.ofInt 64 15).toNat):=rfl;have h:(BitVec.ofInt 64 y &&& BitVec.ofInt 64 15).toNat <= 15:=by
  exact Nat.le_trans Nat.and_le_right (by decide)
 rw[e,IntKind.wrap_i64];omega
def akm{n:Int}(C:0 <= n)(D:n<18446744073709551616):IntKind.u64.wrap n=n:=by
 have:IntKind.u64.wrap n=n % 18446744073709551616:=rfl
 grind
def r9(x:Int):Prop:=0<=x/\x<=1000000000
def i0:bU 0:=⟨by decide,by decide⟩
def lg(a:Nat):Nat:=(14688061253356765440 / 2 ^ (4*a)) % 16
def okB(C s1 s2 i:Nat):Bool:=!Nat.beq C 0&&(Nat.beq (gm C (pw i)) s1&&Nat.beq (gm s1 (pw i)) s2)
def loc(C s1 s2:Nat):ah Nat:=(List.range 11).find? (okB C s1 s2)
def Fe:ah Nat->Nat
 |some n=>n
 |none=>99
def aA3:(gX λa=>Nat.beq a 0 ||Qb (Int.ofNat a)==some (Int.ofNat (lg a)))=true:=by kernel_rfl
def akn:(gX λC=>gX λs1=>gX λs2=>bif Nat.beq C 0 || Nat.beq s1 0 then Nat.beq (Fe (loc C s1 s2)) 99 else
  (λx=>!Nat.beq x 0&&Nat.beq (Fe (loc C s1 s2)) (bif Nat.blt (lg x) 11&&Nat.beq (gm s1 x) s2 then lg x else 99)) (gm s1 (iv C)))=true:=by kernel_rfl
def aA4:((List.range 11).all λn=>DV 2 (Int.ofNat n)==some (Int.ofNat (pw n)))=true:=by kernel_rfl
def LG{n:Nat}(h:n<11):DV 2 (n:Int)=some (pw n:Int):=eq_of_beq (List.all_eq_true.1 aA4 n (List.mem_range.2 h))
def aA5:((List.range 11).all λi=>(List.range 3).all λj=>Nat.beq (gm (pw (i*j)) (pw i)) (pw (i*(j+1))))=true:=by kernel_rfl
def aA6{i j:Nat}(hi:i<11)(C:j<3):gm (pw (i*j)) (pw i)=pw (i*(j+1)):=Nat.eq_of_beq_eq_true (List.all_eq_true.1 (List.all_eq_true.1 aA5 i (List.mem_range.2 hi)) j (List.mem_range.2 C))
def sL(w:aa Nat)(i:Nat):aa Int:=[(bL w 0 i:Int),(bL w 1 i:Int),(bL w 2 i:Int)]
def YN(w:aa Nat)(i:Nat):Nat->aa Int
 |0=>[(bL w 0 i:Int),(bL w 1 i:Int),(bL w 2 i:Int)]
 |1=>[(bL w 0 (i+1):Int),(bL w 1 i:Int),(bL w 2 i:Int)]
 |2=>[(bL w 0 (i+1):Int),(bL w 1 (i+1):Int),(bL w 2 i:Int)]
 |_=>[(bL w 0 (i+1):Int),(bL w 1 (i+1):Int),(bL w 2 (i+1):Int)]
def aA7{w:aa Nat}(T:c8 w)(hl:w.length=11){i:Nat}(hi:i<11):iter DW aQ ((bf w,(),(i:Int),(1:Int),(pw i:Int),(0:Int),()),(sL w i,()))=some (.inl ((bf w,(),(i:Int),()),(sL w (i+1),()))):=by
 have O:i<(bf w).length:=by rw[fY];omega
 have U:(bf w)[i]=((w.getD i 0:Nat):Int):=sD O;have Y:=T.get i;have C:∀ j,bits .xor .i64 ((bL w j i:Nat):Int) ((gm (w.getD i 0) (pw (i*j)):Nat):Int)=((bL w j (i+1):Nat):Int):=λj=>by
  rw[pT (pU w j i) (fz _ _)];rfl
 have D:=λj=>Lh Y (sC (i*j))
 have E:∀ j,j<3 -> sv ((pw (i*j):Nat):Int) ((pw i:Nat):Int)=some ((pw (i*(j+1)):Nat):Int):=λj L=>by
  rw[Lh (sC (i*j)) (sC i),aA6 hi L]
 generalize bf w=W at *
 generalize w.getD i 0=c at *
 have e:=cm (step:=DW) 3 (λj=>((W,(),(i:Int),(pw (i*j):Int),(pw i:Int),(j:Int),()),(YN w i j,()))) (.inl ((W,(),(i:Int),()),(sL w (i+1),()))) aQ (λj L=>by
  have D:=D j;have E:=E j L;have C:=C j;generalize pw (i*j)=d at D E C ⊢;unfold DW aq xG xI xL;rcases(by omega:j=0 \/ j=1 \/ j=2)with rfl|rfl|rfl<;>simp[YN,O,U,D,E,C]<;>rfl) (by unfold DW aq xG xI xL;simp[YN,sL]) (bF)
 have Z:pw (i*0)=1:=by rw[Nat.mul_zero];rfl
 rw[Int.natCast_zero,Z]at e;exact e
def aA8{w:aa Nat}(D:c8 w)(C:w.length=11):Oy (bf w)=some (sL w 11):=by
 have E:=(Ll D C).ok;unfold Oy aW;rw[Lk _ _ (by rw[fY];omega),E,ak];have e:=cm (step:=Io) 11 (λi=>((bf w,(),(i:Int),()),(sL w i,()))) (.inl (((),()),(sL w 11,()))) aQ (λi hi=>by
  have L:i<w.length:=by omega
  unfold Io aq xG aW;simp (disch:=omega) [fY,L,LG hi,aA7 D C hi,bq]) (by unfold Io aq xG aW;simp[ C]) (bF)
 rw[Int.natCast_zero]at e;have O:(List.replicate (3:Int).toNat (0:Int))=sL w 0:=rfl;simp_all
def lQ(w:aa Nat):Bool:=Nat.beq (bL w 0 11) 0&&(Nat.beq (bL w 1 11) 0&&Nat.beq (bL w 2 11) 0)
def fm(w:aa Nat):aa Nat×Int×Int:=bif lQ w then (w,0,-1)else match loc (bL w 0 11) (bL w 1 11) (bL w 2 11)with
 |some k=>(w.set k (w.getD k 0 ^^^ bL w 0 11),1,(k:Int))
 |none=>(w,2,-1)
def Ff(n m:Nat):((n:Int)==(m:Int))=Nat.beq n m:=by
 cases h:Nat.beq n m with
 |true=>simp_all
 | false=>
  have:n≠m:=by rintro rfl;simp at h
  grind
def aA9{C s1 s2:Nat}(h:loc C s1 s2=none):∀ i,i<11 -> okB C s1 s2 i=false:=by
 intro i hi;have:=List.find?_eq_none.1 h i (List.mem_range.2 hi);simp_all
def RY{D s1 s2 k:Nat}(h:loc D s1 s2=some k):k<11/\okB D s1 s2 k=true /\ ∀ i,i<k -> okB D s1 s2 i=false:=by
 refine⟨List.mem_range.1 (List.mem_of_find?_eq_some h),List.find?_some h,λi hi=>?_⟩
 have⟨O,l1,l2,E,T⟩:=List.find?_eq_some_iff_append.1 h;have U:l1.length=k/\l1=List.range k:=by
  have C:(List.range 11)[l1.length]?=some k:=by rw[E];simp
  have L:l1.length<11:=by have:=congrArg List.length E;simp at this;omega
  rw[List.getElem?_range L]at C;injection C with C;refine⟨C,?_⟩;have Y:(List.range 11).take l1.length=l1:=by rw[E];simp
  grind
 simp_all
def aBa{w:aa Nat}(U:c8 w)(Y:w.length=11):Oz (bf w)=some (bf (fm w).1,(fm w).2.1,(fm w).2.2):=by
 have hs:=(Ll U Y).ok;have ho:bD w.length=true:=cM;have h0:∀n:Nat,((n:Int)==(0:Int))=Nat.beq n 0:=λn=>Ff n 0
 have TQ:=pU w 0 11;have nB:=pU w 1 11;unfold Oz DX xA br xZ xI;rw[Lk _ _ (by rw[fY];omega),hs,ak,aA8 U Y];have e0:DX (sL w 11)=some (lQ w):=by
  unfold DX lQ xI;cases h1:Nat.beq (bL w 0 11) 0<;>cases h2:Nat.beq (bL w 1 11) 0<;>simp[sL,h0,h1,h2]
 have E:∀i (h:i<(bf w).length),(bf w)[i]=((w.getD i 0:Nat):Int):=λi h=>sD h
 have D:∀ k,(bf w).set k (bits .xor .i64 ((w.getD k 0:Nat):Int) ((bL w 0 11:Nat):Int))=bf (w.set k (w.getD k 0 ^^^ bL w 0 11)):=λk=>by
  rw[pT (U.get k) TQ,RC]
 have hlen:(bf w).length=11:=by rw[fY,Y]
 unfold DX xI at e0;unfold fm lQ at *
 simp only[Bool.not_true,cond_false,ak];rw[e0,ak,cM (by simp[hlen])];cases hz:(Nat.beq (bL w 0 11) 0&&(Nat.beq (bL w 1 11) 0&&Nat.beq (bL w 2 11) 0))with
 |true=>simp
 | false=>
  simp only[cond_false,cond_true,List.nil_append];unfold sL;generalize hW:bf w=W at E D hlen ⊢;generalize hg0:bL w 0 11=C at *
  generalize Wi:bL w 1 11=s1 at *
  generalize xB:bL w 2 11=s2 at *
  have step:∀ i:Nat,i<11->Br (((),(),(i:Int),()),(W,[(C:Int),(s1:Int),(s2:Int)],()))=some (bif okB C s1 s2 i then .inr (.inl (((),1,(i:Int),()),(bf (w.set i (w.getD i 0 ^^^ C)),())))else .inl (((),(),((i+1:Nat):Int),()),(W,[(C:Int),(s1:Int),(s2:Int)],()))):=by
   intro i hi;have cU:i<W.length:=by omega
   have L:(i:Int)<11:=by omega
   have Z:=Lh TQ (sC i);have m2:=Lh nB (sC i);have E:=E i cU;have D:=D i;generalize w.getD i 0=c at E D ⊢;generalize bf (w.set i (c ^^^ C))=R at D ⊢;unfold Br okB aq aM xG xL;have O:((C:Int) != (0:Int)) = !Nat.beq C 0:=by rw[bne,h0]
   cases T:Nat.beq C 0 with
   |true=>simp (disch:=omega) [L,LG hi,O,T,bq]
   | false=>
    cases q1:Nat.beq (gm C (pw i)) s1 with
    |false=>simp (disch:=omega) [L,LG hi,O,T,Z,Ff,q1,bq]
    | true=>
     cases q2:Nat.beq (gm s1 (pw i)) s2 with
     |false=>simp (disch:=omega) [L,LG hi,O,T,Z,m2,Ff,q1,q2,bq]
     |true=>simp (disch:=omega) [L,LG hi,O,T,Z,m2,Ff,q1,q2,cU,E,D]
  cases Da:loc C s1 s2 with
  | none=>
   have hn:=aA9 Da;have e:=cm (step:=Br) 11 (λi=>(((),(),(i:Int),()),(W,[(C:Int),(s1:Int),(s2:Int)],()))) (.inr (.inl (((),()),(W,())))) aQ (λi hi=>by rw[step i hi,hn i hi];rfl) (by unfold Br aq aM xG xL;simp) (bF);rw[Int.natCast_zero]at e;rw[e];simp only[Option.bind_some,Sum.elim_inr,Sum.elim_inl];rw[hW]
  | some k=>
   obtain⟨hk,eB,hlo⟩:=RY Da;have e:=cm (step:=Br) k (λi=>(((),(),(i:Int),()),(W,[(C:Int),(s1:Int),(s2:Int)],()))) (.inl (((),1,(k:Int),()),(bf (w.set k (w.getD k 0 ^^^ C)),()))) aQ (λi hi=>by rw[step i (by omega),hlo i hi];rfl) (by rw[step k hk,eB];rfl) (bF);rw[Int.natCast_zero]at e;rw[e];rfl
def ako{C s1 s2:Nat}(E:C<16)(L:s1<16)(O:s2<16)(h:C=0 \/ s1=0):loc C s1 s2=none:=by
 have t:=fE (fE (fE akn E) L) O;have T:(Nat.beq C 0 ||Nat.beq s1 0)=true:=by rcases h with rfl|rfl<;>simp
 rw[T]at t;have t:=Nat.eq_of_beq_eq_true t;cases D:loc C s1 s2 with
 |none=>rfl
 | some k=>
  rw[D]at t;have:=(RY D).1;simp[Fe]at t;omega
def aBb{C s1 s2:Nat}(O:C<16)(T:s1<16)(U:s2<16)(Y:C≠0)(Z:s1≠0):gm s1 (iv C)≠0/\loc C s1 s2=bif Nat.blt (lg (gm s1 (iv C))) 11&&Nat.beq (gm s1 (gm s1 (iv C))) s2 then some (lg (gm s1 (iv C)))else none:=by
 have t:=fE (fE (fE akn O) T) U;have c0:Nat.beq C 0=false:=by cases h:Nat.beq C 0 with|false=>rfl|true=>exact absurd (Nat.eq_of_beq_eq_true h) Y
 have c1:Nat.beq s1 0=false:=by cases h:Nat.beq s1 0 with|false=>rfl|true=>exact absurd (Nat.eq_of_beq_eq_true h) Z
 dsimp only at t;rw[c0,c1,Bool.or_false,cond_false,Bool.and_eq_true]at t;have⟨t1,D⟩:=t;have D:=Nat.eq_of_beq_eq_true D;refine⟨(by rintro e;rw[e]at t1;cases t1),?_⟩;cases L:(Nat.blt (lg (gm s1 (iv C))) 11&&Nat.beq (gm s1 (gm s1 (iv C))) s2)with
 | true=>
  rw[L,cond_true]at D;rw[Bool.and_eq_true]at L;have cU:lg (gm s1 (iv C))<11:=Nat.le_of_ble_eq_true L.1;cases E:loc C s1 s2 with
  |none=>rw[E]at D;simp[Fe]at D;omega
  |some k=>rw[E]at D;simp[Fe]at D;rw[D];rfl
 | false=>
  rw[L,cond_false]at D;cases E:loc C s1 s2 with
  |none=>rfl
  | some k=>
   have:=(RY E).1;rw[E]at D;simp[Fe]at D;omega
def aBc{a:Nat}(h:a<16)(C:a≠0):BV (a:Int)=some (iv a:Int):=by
 have t:=fE azA h;simp_all
def aBd{a:Nat}(h:a<16)(C:a≠0):Qb (a:Int)=some (lg a:Int):=by
 have t:=fE aA3 h;simp_all
def akp{w:aa Nat}(Y:c8 w)(O:w.length=11):JV (bf w)=some (bf (fm w).1,(fm w).2.1,(fm w).2.2):=by
 have ho:bD (([]:aa Int).length+(bf w).length)=true:=cM (by simp[fY,O]);have h0:∀n:Nat,((n:Int)==(0:Int))=Nat.beq n 0:=λn=>Ff n 0
 have C:=pU w 0 11;have D:=pU w 1 11;have Z:=pU w 2 11;have T:∀i (h:i<(bf w).length),(bf w)[i]=((w.getD i 0:Nat):Int):=λi h=>sD h
 have U:∀ k,(bf w).set k (bits .xor .i64 ((w.getD k 0:Nat):Int) ((bL w 0 11:Nat):Int))=bf (w.set k (w.getD k 0 ^^^ bL w 0 11)):=λk=>by
  rw[pT (Y.get k) C,RC]
 have hlen:(bf w).length=11:=by rw[fY,O]
 unfold JV xA xC xL xZ;rw[Yd Y O,ak,azw Y O,ho];have aBe:ir [((bL w 0 11:Nat):Int),((bL w 1 11:Nat):Int),((bL w 2 11:Nat):Int)]=false:=rfl;rw[aBe,cond_false,cond_true,ak];unfold fm lQ;cases hz:(Nat.beq (bL w 0 11) 0&&(Nat.beq (bL w 1 11) 0&&Nat.beq (bL w 2 11) 0))with
 |true=>simp
 | false=>
  simp only[cond_false,List.nil_append];generalize hW:bf w=W at T U hlen ⊢;generalize hg0:bL w 0 11=E at *
  generalize Wi:bL w 1 11=s1 at *
  generalize xB:bL w 2 11=s2 at *
  have cJ:∀n:Nat,((n:Int) != (0:Int)) = !Nat.beq n 0:=λn=>by rw[bne,h0]
  by_cases L:E=0
  ·rw[ako C D Z (.inl L)];subst L;simp[hW]
  ·have c0:Nat.beq E 0=false:=by cases h:Nat.beq E 0 with | false=>rfl | true=>exact absurd (Nat.eq_of_beq_eq_true h) L
   by_cases n1:s1=0
   ·rw[ako C D Z (.inr n1)];simp_all
   ·have c1:Nat.beq s1 0=false:=by cases h:Nat.beq s1 0 with | false=>rfl | true=>exact absurd (Nat.eq_of_beq_eq_true h) n1
    have⟨nx,Da⟩:=aBb C D Z L n1;have e1:=aBc C L;have e2:=Cg D (azz E);rw[Da];generalize hx:gm s1 (iv E)=x at *
    have akq:x<16:=by rw[<- hx];exact fz _ _
    have e3:=aBd akq nx;have e4:=Cg D akq;generalize hn:lg x=n at *
    by_cases q1:n<11
    ·have d1:Nat.blt n 11=true:=Nat.ble_eq_true_of_le q1;have d2:(n:Int)<11:=by omega
     have cU:n<W.length:=by omega
     have T:=T n cU;have U:=U n;cases q2:Nat.beq (gm s1 x) s2 with
     | true=>
      simp only[d1,Bool.true_and,cond_true];generalize w.getD n 0=c at T U ⊢;simp_all
     | false=>
      simp[ e1,e2,e3,e4,Ff,q2,hW]
    ·have d1:Nat.blt n 11=false:=by
      cases h:Nat.blt n 11 with
      |false=>rfl
      |true=>exact absurd (Nat.le_of_ble_eq_true h) (by omega)
     have d2:¬ (n:Int)<11:=by omega
     simp only[d1,Bool.false_and,cond_false];simp[cJ,c0,c1,e1,e2,e3,d2,hW]
def Cw{w:aa Nat}(C:c8 w)(D:w.length=11):(fm w).1.length=11/\c8 (fm w).1/\((fm w).2.1=0 \/ (fm w).2.1=1 \/ (fm w).2.1=2):=by
 have E:=pU w 0 11;unfold fm;cases lQ w with
 |true=>simp_all
 | false=>
  cases loc _ _ _ with
  |none=>simp_all
  |some k=>exact⟨by simp[D],C.set (jY (C.get k) E),.inr (.inl rfl)⟩
def aBf:(gX λa=>(List.range 11).all λk=>Nat.beq (gm (gm a (pw k)) (pw k)) (gm a (pw (k*2))))=true:=by kernel_rfl
def aBg{w:aa Nat}(O:c8 w)(T:w.length=11)(h:(fm w).2.1≠2):lQ (fm w).1=true:=by
 unfold fm at h ⊢;cases U:lQ w with
 |true=>grind
 | false=>
  rw[U,cond_false]at h;simp only[cond_false];cases Y:loc (bL w 0 11) (bL w 1 11) (bL w 2 11)with
  |none=>grind
  | some k=>
   have⟨E,C,_⟩:=RY Y;have D:=pU w 0 11;simp only[okB,Bool.and_eq_true]at C;have L:=Nat.eq_of_beq_eq_true C.2.1;have Z:=Nat.eq_of_beq_eq_true C.2.2;have u:=λj=>ajp O T D E j
   have p0:gm (bL w 0 11) (pw (k*0))=bL w 0 11:=by rw[Nat.mul_zero];exact azu D
   have p2:gm (bL w 0 11) (pw (k*2))=bL w 2 11:=by
    rw[<- Nat.eq_of_beq_eq_true (List.all_eq_true.1 (fE aBf D) k (List.mem_range.2 E)),L,Z]
   simp only[lQ,Bool.and_eq_true];rw[u 0,u 1,u 2,p0,Nat.mul_one,L,p2,Nat.xor_self,Nat.xor_self,Nat.xor_self];exact⟨rfl,rfl,rfl⟩
def aBh{w:aa Nat}(D:c8 w)(C:w.length=11):Qd (bf w)=some (bf (w.drop 3)):=by
 unfold Qd xA xZ;have c0:((w.length:Int)==(11:Int))=true:=by rw[C];rfl
 have E:(bf w).length=11:=by rw[fY,C]
 rw[Yc D (by omega),ak,c0,show (!true)=false from rfl,cond_false,E];have e:((bf w).take ((11:Nat):Int).toNat).drop (3:Int).toNat=bf (w.drop 3):=by
  rw[List.take_of_length_le (by omega)];simp_all
 have L:bD (([]:aa Int).length+(bf (w.drop 3)).length)=true:=by
  rw[fY,List.length_drop,C];rfl
 simp_all
def akr(x:aP):Prop:=bU x.cg/\bU x.ay/\bU x.rows/\bU x.aO
def aBi{H:Type}{cD:TypeId×Value->H}{w:World}:aR cD Tryz.prog w 23 .en akr:=λn cs x C=>by
 have D:=Tryz.underlying23;obtain⟨L,i0,O⟩:=aR.part D C (i:=0) rfl oI (off:=0) (k:=1) rfl (by kernel_rfl);obtain⟨T,U,Y⟩:=aR.part D C (i:=1) rfl oI (off:=1) (k:=1) rfl (by kernel_rfl);obtain⟨Z,i2,r2⟩:=aR.part D C (i:=2) rfl oI (off:=2) (k:=1) rfl (by kernel_rfl);obtain⟨a3,i3,r3⟩:=aR.part D C (i:=3) rfl oI (off:=3) (k:=1) rfl (by kernel_rfl);have E:=aR.len D C;have hc:Tryz.prog.cellsOf 23=4:=by kernel_rfl
 rw[hc]at E;exact⟨⟨L,T,Z,a3⟩,⟨i0,U,i2,i3⟩,bB.cut O (bB.cut Y (bB.cut r2 (bB.cut r3 ((gF E)))))⟩
def aks(x:cI):Prop:=bU x.iG/\bU x.rp/\bU x.fO/\bU x.kS/\bU x.iH/\bU x.iI/\bU x.kT/\bU x.kU/\bU x.hD/\bU x.wr/\bU x.kV/\bU x.kW/\bU x.n6/\bU x.kX/\bU x.lY/\bU x.xp/\bU x.xs
def aBj{H:Type}{cD:TypeId×Value->H}{w:World}:aR cD Tryz.prog w 25 .iJ aks:=λn cs x C=>by
 have D:=Tryz.underlying25;obtain⟨L,i0,O⟩:=aR.part D C (i:=0) rfl oI (off:=0) (k:=1) rfl (by kernel_rfl);obtain⟨T,U,Y⟩:=aR.part D C (i:=1) rfl oI (off:=1) (k:=1) rfl (by kernel_rfl);obtain⟨Z,i2,r2⟩:=aR.part D C (i:=2) rfl oI (off:=2) (k:=1) rfl (by kernel_rfl);obtain⟨a3,i3,r3⟩:=aR.part D C (i:=3) rfl oI (off:=3) (k:=1) rfl (by kernel_rfl);obtain⟨a4,i4,r4⟩:=aR.part D C (i:=4) rfl oI (off:=4) (k:=1) rfl (by kernel_rfl);obtain⟨a5,i5,r5⟩:=aR.part D C (i:=5) rfl oI (off:=5) (k:=1) rfl (by kernel_rfl);obtain⟨a6,i6,r6⟩:=aR.part D C (i:=6) rfl oI (off:=6) (k:=1) rfl (by kernel_rfl);obtain⟨a7,i7,r7⟩:=aR.part D C (i:=7) rfl oI (off:=7) (k:=1) rfl (by kernel_rfl);obtain⟨a8,i8,r8⟩:=aR.part D C (i:=8) rfl oI (off:=8) (k:=1) rfl (by kernel_rfl);obtain⟨a9,i9,r9⟩:=aR.part D C (i:=9) rfl oI (off:=9) (k:=1) rfl (by kernel_rfl);obtain⟨Fg,i10,sM⟩:=aR.part D C (i:=10) rfl oI (off:=10) (k:=1) rfl (by kernel_rfl);obtain⟨Fh,i11,sN⟩:=aR.part D C (i:=11) rfl oI (off:=11) (k:=1) rfl (by kernel_rfl);obtain⟨Fi,i12,sO⟩:=aR.part D C (i:=12) rfl oI (off:=12) (k:=1) rfl (by kernel_rfl);obtain⟨RZ,i13,sP⟩:=aR.part D C (i:=13) rfl oI (off:=13) (k:=1) rfl (by kernel_rfl);obtain⟨R0,i14,sQ⟩:=aR.part D C (i:=14) rfl oI (off:=14) (k:=1) rfl (by kernel_rfl);obtain⟨Lp,i15,sR⟩:=aR.part D C (i:=15) rfl oI (off:=15) (k:=1) rfl (by kernel_rfl);obtain⟨Fj,i16,sS⟩:=aR.part D C (i:=16) rfl oI (off:=16) (k:=1) rfl (by kernel_rfl);have E:=aR.len D C;have hc:Tryz.prog.cellsOf 25=17:=by kernel_rfl
 rw[hc]at E;exact⟨⟨L,T,Z,a3,a4,a5,a6,a7,a8,a9,Fg,Fh,Fi,RZ,R0,Lp,Fj⟩,⟨i0,U,i2,i3,i4,i5,i6,i7,i8,i9,i10,i11,i12,i13,i14,i15,i16⟩,bB.cut O (bB.cut Y (bB.cut r2 (bB.cut r3 (bB.cut r4 (bB.cut r5 (bB.cut r6 (bB.cut r7 (bB.cut r8 (bB.cut r9 (bB.cut sM (bB.cut sN (bB.cut sO (bB.cut sP (bB.cut sQ (bB.cut sR (bB.cut sS ((gF E))))))))))))))))))⟩
def akt(x:iF):Prop:=bU x.order/\True
def aBk{H:Type}{cD:TypeId×Value->H}{w:World}:aR cD Tryz.prog w 27 .lZ akt:=λn cs x C=>by
 have D:=Tryz.underlying27;obtain⟨L,i0,O⟩:=aR.part D C (i:=0) rfl oI (off:=0) (k:=1) rfl (by kernel_rfl);obtain⟨T,U,Y⟩:=aR.part D C (i:=1) rfl (aR.bool Tryz.underlying4) (off:=1) (k:=1) rfl (by kernel_rfl);have E:=aR.len D C;have Z:Tryz.prog.cellsOf 27=2:=by kernel_rfl
 rw[Z]at E;exact⟨⟨L,T⟩,⟨i0,U⟩,bB.cut O (bB.cut Y ((gF E)))⟩
def aku(x:gR):Prop:=bU x.bh/\bU x.aZ
def aBl{H:Type}{cD:TypeId×Value->H}{w:World}:aR cD Tryz.prog w 29 .kY aku:=λn cs x C=>by
 have D:=Tryz.underlying29;obtain⟨L,i0,O⟩:=aR.part D C (i:=0) rfl oI (off:=0) (k:=1) rfl (by kernel_rfl);obtain⟨T,U,Y⟩:=aR.part D C (i:=1) rfl oI (off:=1) (k:=1) rfl (by kernel_rfl);have E:=aR.len D C;have Z:Tryz.prog.cellsOf 29=2:=by kernel_rfl
 rw[Z]at E;exact⟨⟨L,T⟩,⟨i0,U⟩,bB.cut O (bB.cut Y ((gF E)))⟩
def akv(x:gp):Prop:=akr x.aB/\aks x.bQ/\akt x.mapping/\bU x.bT/\bU x.interval/\bU x.gy/\aku x.dg
def aBm{H:Type}{cD:TypeId×Value->H}{w:World}:aR cD Tryz.prog w 31 .Config akv:=λn cs x C=>by
 have D:=Tryz.underlying31;obtain⟨L,i0,O⟩:=aR.part D C (i:=0) rfl aBi (off:=0) (k:=4) rfl (by kernel_rfl);obtain⟨T,U,Y⟩:=aR.part D C (i:=1) rfl aBj (off:=4) (k:=17) rfl (by kernel_rfl);obtain⟨Z,i2,r2⟩:=aR.part D C (i:=2) rfl aBk (off:=21) (k:=2) rfl (by kernel_rfl);obtain⟨a3,i3,r3⟩:=aR.part D C (i:=3) rfl oI (off:=23) (k:=1) rfl (by kernel_rfl);obtain⟨a4,i4,r4⟩:=aR.part D C (i:=4) rfl oI (off:=24) (k:=1) rfl (by kernel_rfl);obtain⟨a5,i5,r5⟩:=aR.part D C (i:=5) rfl oI (off:=25) (k:=1) rfl (by kernel_rfl);obtain⟨a6,i6,r6⟩:=aR.part D C (i:=6) rfl aBl (off:=26) (k:=2) rfl (by kernel_rfl);have E:=aR.len D C;have hc:Tryz.prog.cellsOf 31=28:=by kernel_rfl
 rw[hc]at E;exact⟨⟨L,T,Z,a3,a4,a5,a6⟩,⟨i0,U,i2,i3,i4,i5,i6⟩,bB.cut O (bB.cut Y (bB.cut r2 (bB.cut r3 (bB.cut r4 (bB.cut r5 (bB.cut r6 ((gF E))))))))⟩
def YO(x:fP):Prop:=RX x.bz/\RX x.next/\True
def aBn{H:Type}{cD:TypeId×Value->H}{w:World}:aR cD Tryz.prog w 38 .iK YO:=λn cs x C=>by
 have D:=Tryz.underlying38;obtain⟨L,i0,O⟩:=aR.part D C (i:=0) rfl ake (off:=0) (k:=8) rfl (by kernel_rfl);obtain⟨T,U,Y⟩:=aR.part D C (i:=1) rfl ake (off:=8) (k:=8) rfl (by kernel_rfl);obtain⟨Z,i2,r2⟩:=aR.part D C (i:=2) rfl (aR.bool Tryz.underlying4) (off:=16) (k:=1) rfl (by kernel_rfl);have E:=aR.len D C;have hc:Tryz.prog.cellsOf 38=17:=by kernel_rfl
 rw[hc]at E;exact⟨⟨L,T,Z⟩,⟨i0,U,i2⟩,bB.cut O (bB.cut Y (bB.cut r2 ((gF E))))⟩
def YP(x:cC):Prop:=True/\bU x.row
def aBo{H:Type}{cD:TypeId×Value->H}{w:World}:aR cD Tryz.prog w 386 .eX YP:=λn cs x C=>by
 have D:=Tryz.underlying386;obtain⟨L,i0,O⟩:=aR.part D C (i:=0) rfl (aR.bool Tryz.underlying4) (off:=0) (k:=1) rfl (by kernel_rfl);obtain⟨T,U,Y⟩:=aR.part D C (i:=1) rfl oI (off:=1) (k:=1) rfl (by kernel_rfl);have E:=aR.len D C;have Z:Tryz.prog.cellsOf 386=2:=by kernel_rfl
 rw[Z]at E;exact⟨⟨L,T⟩,⟨i0,U⟩,bB.cut O (bB.cut Y ((gF E)))⟩
def YQ(x:bV):Prop:=(x.ay.length<=maxLen/\∀y∈x.ay,YP y)/\bU x.aS
def aBp{H:Type}{cD:TypeId×Value->H}{w:World}:aR cD Tryz.prog w 41 .gG YQ:=λn cs x C=>by
 have D:=Tryz.underlying41;obtain⟨L,i0,O⟩:=aR.part D C (i:=0) rfl (aR.sl Tryz.underlying39 (by kernel_rfl) aBo) (off:=0) (k:=1) rfl (by kernel_rfl);obtain⟨T,U,Y⟩:=aR.part D C (i:=1) rfl oI (off:=1) (k:=1) rfl (by kernel_rfl);have E:=aR.len D C;have Z:Tryz.prog.cellsOf 41=2:=by kernel_rfl
 rw[Z]at E;exact⟨⟨L,T⟩,⟨i0,U⟩,bB.cut O (bB.cut Y ((gF E)))⟩
def YR(x:cP):Prop:=(x.last.length<=maxLen/\∀y∈x.last,bU y)/\(x.bg.length<=maxLen/\∀y∈x.bg,bU y)
def aBq{H:Type}{cD:TypeId×Value->H}{w:World}:aR cD Tryz.prog w 43 .je YR:=λn cs x C=>by
 have D:=Tryz.underlying43;obtain⟨L,i0,O⟩:=aR.part D C (i:=0) rfl (aR.sl Tryz.underlying32 (by kernel_rfl) oI) (off:=0) (k:=1) rfl (by kernel_rfl);obtain⟨T,U,Y⟩:=aR.part D C (i:=1) rfl (aR.sl Tryz.underlying32 (by kernel_rfl) oI) (off:=1) (k:=1) rfl (by kernel_rfl);have E:=aR.len D C;have Z:Tryz.prog.cellsOf 43=2:=by kernel_rfl
 rw[Z]at E;exact⟨⟨L,T⟩,⟨i0,U⟩,bB.cut O (bB.cut Y ((gF E)))⟩
def R1(x:bC):Prop:=(x.symbols.length<=maxLen/\∀y∈x.symbols,bU y)/\True
def aBr{H:Type}{cD:TypeId×Value->H}{w:World}:aR cD Tryz.prog w 359 .Cell R1:=λn cs x C=>by
 have D:=Tryz.underlying359;obtain⟨L,i0,O⟩:=aR.part D C (i:=0) rfl (aR.sl Tryz.underlying32 (by kernel_rfl) oI) (off:=0) (k:=1) rfl (by kernel_rfl);obtain⟨T,U,Y⟩:=aR.part D C (i:=1) rfl (aR.bool Tryz.underlying4) (off:=1) (k:=1) rfl (by kernel_rfl);have E:=aR.len D C;have Z:Tryz.prog.cellsOf 359=2:=by kernel_rfl
 rw[Z]at E;exact⟨⟨L,T⟩,⟨i0,U⟩,bB.cut O (bB.cut Y ((gF E)))⟩
def YS(x:cF):Prop:=(x.cells.length<=maxLen/\∀y∈x.cells,R1 y)/\(x.bh.length<=maxLen/\∀y∈x.bh,bU y)/\(x.aZ.length<=maxLen/\∀y∈x.aZ,bU y)
def aBs{H:Type}{cD:TypeId×Value->H}{w:World}:aR cD Tryz.prog w 46 .Array YS:=λn cs x C=>by
 have D:=Tryz.underlying46;obtain⟨L,i0,O⟩:=aR.part D C (i:=0) rfl (aR.sl Tryz.underlying44 (by kernel_rfl) aBr) (off:=0) (k:=1) rfl (by kernel_rfl);obtain⟨T,U,Y⟩:=aR.part D C (i:=1) rfl (aR.sl Tryz.underlying32 (by kernel_rfl) oI) (off:=1) (k:=1) rfl (by kernel_rfl);obtain⟨Z,i2,r2⟩:=aR.part D C (i:=2) rfl (aR.sl Tryz.underlying32 (by kernel_rfl) oI) (off:=2) (k:=1) rfl (by kernel_rfl);have E:=aR.len D C;have hc:Tryz.prog.cellsOf 46=3:=by kernel_rfl
 rw[hc]at E;exact⟨⟨L,T,Z⟩,⟨i0,U,i2⟩,bB.cut O (bB.cut Y (bB.cut r2 ((gF E))))⟩
def YT(x:eg):Prop:=bU x.bT/\(x.map.length<=maxLen/\∀y∈x.map,bU y)
def aBt{H:Type}{cD:TypeId×Value->H}{w:World}:aR cD Tryz.prog w 48 .jf YT:=λn cs x C=>by
 have D:=Tryz.underlying48;obtain⟨L,i0,O⟩:=aR.part D C (i:=0) rfl oI (off:=0) (k:=1) rfl (by kernel_rfl);obtain⟨T,U,Y⟩:=aR.part D C (i:=1) rfl (aR.sl Tryz.underlying32 (by kernel_rfl) oI) (off:=1) (k:=1) rfl (by kernel_rfl);have E:=aR.len D C;have Z:Tryz.prog.cellsOf 48=2:=by kernel_rfl
 rw[Z]at E;exact⟨⟨L,T⟩,⟨i0,U⟩,bB.cut O (bB.cut Y ((gF E)))⟩
def YU(x:cK):Prop:=(x.aE.length<=maxLen/\∀y∈x.aE,bU y)/\bU x.wait/\True
def aBu{H:Type}{cD:TypeId×Value->H}{w:World}:aR cD Tryz.prog w 50 .jx YU:=λn cs x C=>by
 have D:=Tryz.underlying50;obtain⟨L,i0,O⟩:=aR.part D C (i:=0) rfl (aR.sl Tryz.underlying32 (by kernel_rfl) oI) (off:=0) (k:=1) rfl (by kernel_rfl);obtain⟨T,U,Y⟩:=aR.part D C (i:=1) rfl oI (off:=1) (k:=1) rfl (by kernel_rfl);obtain⟨Z,i2,r2⟩:=aR.part D C (i:=2) rfl (aR.bool Tryz.underlying4) (off:=2) (k:=1) rfl (by kernel_rfl);have E:=aR.len D C;have hc:Tryz.prog.cellsOf 50=3:=by kernel_rfl
 rw[hc]at E;exact⟨⟨L,T,Z⟩,⟨i0,U,i2⟩,bB.cut O (bB.cut Y (bB.cut r2 ((gF E))))⟩
def R2(x:bI):Prop:=(x.rows.length<=maxLen/\∀y∈x.rows,bU y)/\(x.counts.length<=maxLen/\∀y∈x.counts,bU y)/\bU x.cE
def aBv{H:Type}{cD:TypeId×Value->H}{w:World}:aR cD Tryz.prog w 248 .dV R2:=λn cs x C=>by
 have D:=Tryz.underlying248;obtain⟨L,i0,O⟩:=aR.part D C (i:=0) rfl (aR.sl Tryz.underlying32 (by kernel_rfl) oI) (off:=0) (k:=1) rfl (by kernel_rfl);obtain⟨T,U,Y⟩:=aR.part D C (i:=1) rfl (aR.sl Tryz.underlying32 (by kernel_rfl) oI) (off:=1) (k:=1) rfl (by kernel_rfl);obtain⟨Z,i2,r2⟩:=aR.part D C (i:=2) rfl oI (off:=2) (k:=1) rfl (by kernel_rfl);have E:=aR.len D C;have hc:Tryz.prog.cellsOf 248=3:=by kernel_rfl
 rw[hc]at E;exact⟨⟨L,T,Z⟩,⟨i0,U,i2⟩,bB.cut O (bB.cut Y (bB.cut r2 ((gF E))))⟩
def YV(x:bM):Prop:=bU x.weight/\bU x.dU
def aBw{H:Type}{cD:TypeId×Value->H}{w:World}:aR cD Tryz.prog w 281 .dz YV:=λn cs x C=>by
 have D:=Tryz.underlying281;obtain⟨L,i0,O⟩:=aR.part D C (i:=0) rfl oI (off:=0) (k:=1) rfl (by kernel_rfl);obtain⟨T,U,Y⟩:=aR.part D C (i:=1) rfl oI (off:=1) (k:=1) rfl (by kernel_rfl);have E:=aR.len D C;have Z:Tryz.prog.cellsOf 281=2:=by kernel_rfl
 rw[Z]at E;exact⟨⟨L,T⟩,⟨i0,U⟩,bB.cut O (bB.cut Y ((gF E)))⟩
def akw(x:fI):Prop:=True/\bU x.low/\bU x.high
def aBx{H:Type}{cD:TypeId×Value->H}{w:World}:aR cD Tryz.prog w 56 .jy akw:=λn cs x C=>by
 have D:=Tryz.underlying56;obtain⟨L,i0,O⟩:=aR.part D C (i:=0) rfl (aR.bool Tryz.underlying4) (off:=0) (k:=1) rfl (by kernel_rfl);obtain⟨T,U,Y⟩:=aR.part D C (i:=1) rfl oI (off:=1) (k:=1) rfl (by kernel_rfl);obtain⟨Z,i2,r2⟩:=aR.part D C (i:=2) rfl oI (off:=2) (k:=1) rfl (by kernel_rfl);have E:=aR.len D C;have hc:Tryz.prog.cellsOf 56=3:=by kernel_rfl
 rw[hc]at E;exact⟨⟨L,T,Z⟩,⟨i0,U,i2⟩,bB.cut O (bB.cut Y (bB.cut r2 ((gF E))))⟩
def akx(x:dL):Prop:=bU x.state/\bU x.since/\bU x.idle
def aBy{H:Type}{cD:TypeId×Value->H}{w:World}:aR cD Tryz.prog w 58 .Power akx:=λn cs x C=>by
 have D:=Tryz.underlying58;obtain⟨L,i0,O⟩:=aR.part D C (i:=0) rfl oI (off:=0) (k:=1) rfl (by kernel_rfl);obtain⟨T,U,Y⟩:=aR.part D C (i:=1) rfl oI (off:=1) (k:=1) rfl (by kernel_rfl);obtain⟨Z,i2,r2⟩:=aR.part D C (i:=2) rfl oI (off:=2) (k:=1) rfl (by kernel_rfl);have E:=aR.len D C;have hc:Tryz.prog.cellsOf 58=3:=by kernel_rfl
 rw[hc]at E;exact⟨⟨L,T,Z⟩,⟨i0,U,i2⟩,bB.cut O (bB.cut Y (bB.cut r2 ((gF E))))⟩
def aky(x:jJ):Prop:=bU x.next/\bU x.every/\bU x.wait
def aBz{H:Type}{cD:TypeId×Value->H}{w:World}:aR cD Tryz.prog w 60 .mc aky:=λn cs x C=>by
 have D:=Tryz.underlying60;obtain⟨L,i0,O⟩:=aR.part D C (i:=0) rfl oI (off:=0) (k:=1) rfl (by kernel_rfl);obtain⟨T,U,Y⟩:=aR.part D C (i:=1) rfl oI (off:=1) (k:=1) rfl (by kernel_rfl);obtain⟨Z,i2,r2⟩:=aR.part D C (i:=2) rfl oI (off:=2) (k:=1) rfl (by kernel_rfl);have E:=aR.len D C;have hc:Tryz.prog.cellsOf 60=3:=by kernel_rfl
 rw[hc]at E;exact⟨⟨L,T,Z⟩,⟨i0,U,i2⟩,bB.cut O (bB.cut Y (bB.cut r2 ((gF E))))⟩
def YW(x:bK):Prop:=bU x.line/\bU x.code/\bU x.times
def aBA{H:Type}{cD:TypeId×Value->H}{w:World}:aR cD Tryz.prog w 285 .dG YW:=λn cs x C=>by
 have D:=Tryz.underlying285;obtain⟨L,i0,O⟩:=aR.part D C (i:=0) rfl oI (off:=0) (k:=1) rfl (by kernel_rfl);obtain⟨T,U,Y⟩:=aR.part D C (i:=1) rfl oI (off:=1) (k:=1) rfl (by kernel_rfl);obtain⟨Z,i2,r2⟩:=aR.part D C (i:=2) rfl oI (off:=2) (k:=1) rfl (by kernel_rfl);have E:=aR.len D C;have hc:Tryz.prog.cellsOf 285=3:=by kernel_rfl
 rw[hc]at E;exact⟨⟨L,T,Z⟩,⟨i0,U,i2⟩,bB.cut O (bB.cut Y (bB.cut r2 ((gF E))))⟩
def akz(x:aD):Prop:=bU x.kind/\bU x.au/\bU x.row/\bU x.bG
def aBB{H:Type}{cD:TypeId×Value->H}{w:World}:aR cD Tryz.prog w 289 .Command akz:=λn cs x C=>by
 have D:=Tryz.underlying289;obtain⟨L,i0,O⟩:=aR.part D C (i:=0) rfl oI (off:=0) (k:=1) rfl (by kernel_rfl);obtain⟨T,U,Y⟩:=aR.part D C (i:=1) rfl oI (off:=1) (k:=1) rfl (by kernel_rfl);obtain⟨Z,i2,r2⟩:=aR.part D C (i:=2) rfl oI (off:=2) (k:=1) rfl (by kernel_rfl);obtain⟨a3,i3,r3⟩:=aR.part D C (i:=3) rfl oI (off:=3) (k:=1) rfl (by kernel_rfl);have E:=aR.len D C;have hc:Tryz.prog.cellsOf 289=4:=by kernel_rfl
 rw[hc]at E;exact⟨⟨L,T,Z,a3⟩,⟨i0,U,i2,i3⟩,bB.cut O (bB.cut Y (bB.cut r2 (bB.cut r3 ((gF E)))))⟩
def YX(x:cz):Prop:=bU x.at_/\akz x.cmd
def aBC{H:Type}{cD:TypeId×Value->H}{w:World}:aR cD Tryz.prog w 291 .Event YX:=λn cs x C=>by
 have D:=Tryz.underlying291;obtain⟨L,i0,O⟩:=aR.part D C (i:=0) rfl oI (off:=0) (k:=1) rfl (by kernel_rfl);obtain⟨T,U,Y⟩:=aR.part D C (i:=1) rfl aBB (off:=1) (k:=4) rfl (by kernel_rfl);have E:=aR.len D C;have Z:Tryz.prog.cellsOf 291=5:=by kernel_rfl
 rw[Z]at E;exact⟨⟨L,T⟩,⟨i0,U⟩,bB.cut O (bB.cut Y ((gF E)))⟩
def YY(x:cG):Prop:=bU x.id/\bU x.at_/\bU x.data/\bU x.code
def aBD{H:Type}{cD:TypeId×Value->H}{w:World}:aR cD Tryz.prog w 295 .fo YY:=λn cs x C=>by
 have D:=Tryz.underlying295;obtain⟨L,i0,O⟩:=aR.part D C (i:=0) rfl oI (off:=0) (k:=1) rfl (by kernel_rfl);obtain⟨T,U,Y⟩:=aR.part D C (i:=1) rfl oI (off:=1) (k:=1) rfl (by kernel_rfl);obtain⟨Z,i2,r2⟩:=aR.part D C (i:=2) rfl oI (off:=2) (k:=1) rfl (by kernel_rfl);obtain⟨a3,i3,r3⟩:=aR.part D C (i:=3) rfl oI (off:=3) (k:=1) rfl (by kernel_rfl);have E:=aR.len D C;have hc:Tryz.prog.cellsOf 295=4:=by kernel_rfl
 rw[hc]at E;exact⟨⟨L,T,Z,a3⟩,⟨i0,U,i2,i3⟩,bB.cut O (bB.cut Y (bB.cut r2 (bB.cut r3 ((gF E)))))⟩
def LH(x:av):Prop:=akv x.config/\YO x.box/\bU x.now/\YQ x.aX/\YR x.ready/\YS x.array/\YT x.spare/\YU x.aL/\(x.bx.length<=maxLen/\∀y∈x.bx,R2 y)/\(x.guard.length<=maxLen/\∀y∈x.guard,bU y)/\(x.pending.length<=maxLen/\∀y∈x.pending,YL y)/\(x.queue.length<=maxLen/\∀y∈x.queue,YK y)/\(x.shares.length<=maxLen/\∀y∈x.shares,YV y)/\akw x.drain/\akx x.aS/\aky x.cu/\(x.errors.length<=maxLen/\∀y∈x.errors,YW y)/\(x.trace.length<=maxLen/\∀y∈x.trace,YX y)/\(x.cA.length<=maxLen/\∀y∈x.cA,YY y)
def aBE{H:Type}{cD:TypeId×Value->H}{w:World}:aR cD Tryz.prog w 65 .cx LH:=λn cs x C=>by
 have D:=Tryz.underlying65;obtain⟨L,i0,O⟩:=aR.part D C (i:=0) rfl aBm (off:=0) (k:=28) rfl (by kernel_rfl);obtain⟨T,U,Y⟩:=aR.part D C (i:=1) rfl aBn (off:=28) (k:=17) rfl (by kernel_rfl);obtain⟨Z,i2,r2⟩:=aR.part D C (i:=2) rfl oI (off:=45) (k:=1) rfl (by kernel_rfl);obtain⟨a3,i3,r3⟩:=aR.part D C (i:=3) rfl aBp (off:=46) (k:=2) rfl (by kernel_rfl);obtain⟨a4,i4,r4⟩:=aR.part D C (i:=4) rfl aBq (off:=48) (k:=2) rfl (by kernel_rfl);obtain⟨a5,i5,r5⟩:=aR.part D C (i:=5) rfl aBs (off:=50) (k:=3) rfl (by kernel_rfl);obtain⟨a6,i6,r6⟩:=aR.part D C (i:=6) rfl aBt (off:=53) (k:=2) rfl (by kernel_rfl);obtain⟨a7,i7,r7⟩:=aR.part D C (i:=7) rfl aBu (off:=55) (k:=3) rfl (by kernel_rfl);obtain⟨a8,i8,r8⟩:=aR.part D C (i:=8) rfl (aR.sl Tryz.underlying51 (by kernel_rfl) aBv) (off:=58) (k:=1) rfl (by kernel_rfl);obtain⟨a9,i9,r9⟩:=aR.part D C (i:=9) rfl (aR.sl Tryz.underlying32 (by kernel_rfl) oI) (off:=59) (k:=1) rfl (by kernel_rfl);obtain⟨Fg,i10,sM⟩:=aR.part D C (i:=10) rfl (aR.sl Tryz.underlying52 (by kernel_rfl) aAO) (off:=60) (k:=1) rfl (by kernel_rfl);obtain⟨Fh,i11,sN⟩:=aR.part D C (i:=11) rfl (aR.sl Tryz.underlying53 (by kernel_rfl) aAN) (off:=61) (k:=1) rfl (by kernel_rfl);obtain⟨Fi,i12,sO⟩:=aR.part D C (i:=12) rfl (aR.sl Tryz.underlying54 (by kernel_rfl) aBw) (off:=62) (k:=1) rfl (by kernel_rfl);obtain⟨RZ,i13,sP⟩:=aR.part D C (i:=13) rfl aBx (off:=63) (k:=3) rfl (by kernel_rfl);obtain⟨R0,i14,sQ⟩:=aR.part D C (i:=14) rfl aBy (off:=66) (k:=3) rfl (by kernel_rfl);obtain⟨Lp,i15,sR⟩:=aR.part D C (i:=15) rfl aBz (off:=69) (k:=3) rfl (by kernel_rfl);obtain⟨Fj,i16,sS⟩:=aR.part D C (i:=16) rfl (aR.sl Tryz.underlying61 (by kernel_rfl) aBA) (off:=72) (k:=1) rfl (by kernel_rfl);obtain⟨R3,i17,YZ⟩:=aR.part D C (i:=17) rfl (aR.sl Tryz.underlying62 (by kernel_rfl) aBC) (off:=73) (k:=1) rfl (by kernel_rfl);obtain⟨Y0,i18,r18⟩:=aR.part D C (i:=18) rfl (aR.sl Tryz.underlying63 (by kernel_rfl) aBD) (off:=74) (k:=1) rfl (by kernel_rfl);have E:=aR.len D C;have hc:Tryz.prog.cellsOf 65=75:=by kernel_rfl
 rw[hc]at E;exact⟨⟨L,T,Z,a3,a4,a5,a6,a7,a8,a9,Fg,Fh,Fi,RZ,R0,Lp,Fj,R3,Y0⟩,⟨i0,U,i2,i3,i4,i5,i6,i7,i8,i9,i10,i11,i12,i13,i14,i15,i16,i17,i18⟩,bB.cut O (bB.cut Y (bB.cut r2 (bB.cut r3 (bB.cut r4 (bB.cut r5 (bB.cut r6 (bB.cut r7 (bB.cut r8 (bB.cut r9 (bB.cut sM (bB.cut sN (bB.cut sO (bB.cut sP (bB.cut sQ (bB.cut sR (bB.cut sS (bB.cut YZ (bB.cut r18 ((gF E))))))))))))))))))))⟩
def zF(x:fP):Prop:=zE x.bz/\zE x.next
def LI(x:bV):Prop:=(x.ay.length<=1048576)
def R4(x:cP):Prop:=(x.last.length<=1048576)/\(x.bg.length<=1048576)
def sU(x:bC):Prop:=(x.symbols.length<=1048576)
def Cx(x:cF):Prop:=(x.cells.length<=1048576/\∀y∈x.cells,sU y)/\(x.bh.length<=1048576)/\(x.aZ.length<=1048576)
def R5(x:eg):Prop:=(x.map.length<=1048576)
def uO(x:cK):Prop:=(x.aE.length<=1048576)
def gk(x:bI):Prop:=(x.rows.length<=1048576)/\(x.counts.length<=1048576)
def ei(x:av):Prop:=zF x.box/\LI x.aX/\R4 x.ready/\Cx x.array/\R5 x.spare/\uO x.aL/\(x.bx.length<=1048576/\∀y∈x.bx,gk y)/\(x.guard.length<=1048576)/\(x.pending.length<=1048576)/\(x.queue.length<=1048576)/\(x.shares.length<=1048576)/\(x.errors.length<=1048576)/\(x.trace.length<=1048576)/\(x.cA.length<=1048576)
def aBF(x:aP):Pj x=some x:=by
 unfold Pj;rfl
def aBG(x:aP):Q0 x x=some true:=by
 unfold Q0;simp only[ak,bne_self_eq_false,beq_self_eq_true,Bool.not_true,cond_false]
def aBH(x:cI):Pm x=some x:=by
 unfold Pm;rfl
def aBI(x:cI):Q1 x x=some true:=by
 unfold Q1;simp only[ak,bne_self_eq_false,beq_self_eq_true,Bool.not_true,cond_false]
def aBJ(x:iF):Pn x=some x:=by
 unfold Pn;rfl
def aBK(x:iF):Q2 x x=some true:=by
 unfold Q2;simp only[ak,bne_self_eq_false,beq_self_eq_true,Bool.not_true,cond_false]
def aBL(x:gR):Po x=some x:=by
 unfold Po;rfl
def aBM(x:gR):Q3 x x=some true:=by
 unfold Q3;simp only[ak,bne_self_eq_false,beq_self_eq_true,Bool.not_true,cond_false]
def toConfig(x:gp):Pp x=some x:=by
 unfold Pp;rw[aBF x.aB,ak,aBH x.bQ,ak,aBJ x.mapping,ak,aBL x.dg,ak]
def aBN(x:gp):Q4 x x=some true:=by
 unfold Q4;simp only[aBG x.aB,aBI x.bQ,aBK x.mapping,aBM x.dg,ak,bne_self_eq_false,beq_self_eq_true,Bool.not_true,cond_false]
def aBO(x:fP)(h:YO x){n:Int}(C:0<=n)(D:n<=1048576):Sz n (zF x) (NZ x n):=by
 obtain⟨i0,E,i2⟩:=h;unfold NZ
 refine Sz.bind (akg x.bz i0 C D) λL O b0 T=>?_
 refine Sz.bind (Sz.le (akg x.next E (n:=L) O (by omega)) (by omega)) λy1 U Y Z=>?_
 exact Sz.done U Y ⟨T,Z⟩
def aBP(x:fP)(C:zF x):Pu x=some x:=by
 obtain⟨D,E⟩:=C;unfold Pu;rw[akh x.bz D,ak,akh x.next E,ak]
def aBQ(x:fP)(C:zF x):Q6 x x=some true:=by
 obtain⟨D,E⟩:=C;unfold Q6;simp only[aki x.bz D,aki x.next E,ak,bne_self_eq_false,beq_self_eq_true,Bool.not_true,cond_false]
def aBR(x:cC):Jc x=some x:=by
 unfold Jc;rfl
def aBS(x:cC):Ks x x=some true:=by
 unfold Ks;simp only[ak,bne_self_eq_false,beq_self_eq_true,Bool.not_true,cond_false]
def aBT(x:aa cC)(h:(x.length<=maxLen/\∀ y∈x,YP y)){n:Int}(C:0<=n)(D:n<=1048576):Sz n (x.length<=1048576) (WE x n):=by
 exact zD h.1 C D
def aBU(x:aa cC)(C:(x.length<=1048576)):Pv x=some x:=by
 have E:=C;have D:=uM (⟨false,(0:Int)⟩:cC) Jc x (λy L=>aBR y) (by omega);unfold Pv aW;rw[if_pos ⟨by omega,by omega,by omega⟩]
 refine(congrArg (λo=>Option.bind o _) D).trans ?_
 rfl
def aBV(x:aa cC)(C:(x.length<=1048576)):Q7 x x=some true:=by
 have E:=C;have D:=uN Ks x (λy L=>aBS y) (by omega);unfold Q7 br;rw[show ((x.length:Int) != (x.length:Int))=false by simp,cond_false]
 refine(congrArg (λo=>Option.bind o _) D).trans ?_
 rfl
def aBW(x:bV)(h:YQ x){n:Int}(C:0<=n)(D:n<=1048576):Sz n (LI x) (N0 x n):=by
 obtain⟨i0,T⟩:=h;unfold N0
 refine Sz.bind (aBT x.ay i0 C D) λU E L O=>?_
 exact Sz.done E L O
def aBX(x:bV)(C:LI x):Pw x=some x:=by
 have D:=C;unfold Pw;rw[aBU x.ay D,ak]
def aBY(x:bV)(C:LI x):Q8 x x=some true:=by
 have D:=C;unfold Q8;simp only[aBV x.ay D,ak,bne_self_eq_false,beq_self_eq_true,Bool.not_true,cond_false]
def aBZ(x:cP)(h:YR x){n:Int}(C:0<=n)(D:n<=1048576):Sz n (R4 x) (N1 x n):=by
 obtain⟨i0,E⟩:=h;unfold N1
 refine Sz.bind (sI x.last i0 C D) λL O b0 T=>?_
 refine Sz.bind (Sz.le (sI x.bg E (n:=L) O (by omega)) (by omega)) λy1 U Y Z=>?_
 exact Sz.done U Y ⟨T,Z⟩
def aB0(x:cP)(C:R4 x):Px x=some x:=by
 obtain⟨D,E⟩:=C;unfold Px;rw[sJ x.last D,ak,sJ x.bg E,ak]
def aB1(x:cP)(C:R4 x):Q9 x x=some true:=by
 obtain⟨D,E⟩:=C;unfold Q9;simp only[sK x.last D,sK x.bg E,ak,bne_self_eq_false,beq_self_eq_true,Bool.not_true,cond_false]
def aB2(x:bC)(h:R1 x){n:Int}(C:0<=n)(D:n<=1048576):Sz n (sU x) (HA x n):=by
 obtain⟨i0,T⟩:=h;unfold HA
 refine Sz.bind (sI x.symbols i0 C D) λU E L O=>?_
 exact Sz.done E L O
def toCell(x:bC)(C:sU x):Jd x=some x:=by
 have D:=C;unfold Jd;rw[sJ x.symbols D,ak]
def aB3(x:bC)(C:sU x):Kt x x=some true:=by
 have D:=C;unfold Kt;simp only[sK x.symbols D,ak,bne_self_eq_false,beq_self_eq_true,Bool.not_true,cond_false]
def aB4(x:aa bC)(h:(x.length<=maxLen/\∀ y∈x,R1 y)){n:Int}(O:0<=n)(T:n<=1048576):Sz n (x.length<=1048576/\∀ y∈x,sU y) (N2 x n):=by
 have C:=h.1;unfold maxLen at C;unfold N2 br;rw[aK];by_cases c:n-(x.length:Int)<0
 ·rw[decide_eq_true c];exact⟨-1,rfl,.inl (by omega)⟩
 ·rw[decide_eq_false c,cond_false];exact Sz.imp (Sz.le (akf HA x (Q:=λx=>sU x) (by omega) (λy D m E L=>aB2 y (h.2 y D) E L) (n:=n-(x.length:Int)) (by omega) (by omega)) (by omega)) λq=>⟨by omega,q⟩
def aB5(x:aa bC)(C:(x.length<=1048576/\∀ y∈x,sU y)):Py x=some x:=by
 have L:=C.1;have D:=uM (⟨[],false⟩:bC) Jd x (λy E=>toCell y (C.2 y E)) (by omega);unfold Py aW;rw[if_pos ⟨by omega,by omega,by omega⟩]
 refine(congrArg (λo=>Option.bind o _) D).trans ?_
 rfl
def aB6(x:aa bC)(C:(x.length<=1048576/\∀ y∈x,sU y)):Ra x x=some true:=by
 have L:=C.1;have D:=uN Kt x (λy E=>aB3 y (C.2 y E)) (by omega);unfold Ra br;rw[show ((x.length:Int) != (x.length:Int))=false by simp,cond_false]
 refine(congrArg (λo=>Option.bind o _) D).trans ?_
 rfl
def aB7(x:cF)(h:YS x){n:Int}(C:0<=n)(D:n<=1048576):Sz n (Cx x) (N3 x n):=by
 obtain⟨i0,E,L⟩:=h;unfold N3
 refine Sz.bind (aB4 x.cells i0 C D) λO T b0 U=>?_
 refine Sz.bind (Sz.le (sI x.bh E (n:=O) T (by omega)) (by omega)) λY Z b1 z1=>?_
 refine Sz.bind (Sz.le (sI x.aZ L (n:=Y) Z (by omega)) (by omega)) λy2 a2 b2 z2=>?_
 exact Sz.done a2 b2 ⟨U,z1,z2⟩
def toArray(x:cF)(C:Cx x):Pz x=some x:=by
 obtain⟨D,E,L⟩:=C;unfold Pz;rw[aB5 x.cells D,ak,sJ x.bh E,ak,sJ x.aZ L,ak]
def aB8(x:cF)(C:Cx x):Rb x x=some true:=by
 obtain⟨D,E,L⟩:=C;unfold Rb;simp only[aB6 x.cells D,sK x.bh E,sK x.aZ L,ak,bne_self_eq_false,beq_self_eq_true,Bool.not_true,cond_false]
def aB9(x:eg)(h:YT x){n:Int}(C:0<=n)(D:n<=1048576):Sz n (R5 x) (N4 x n):=by
 obtain⟨i0,E⟩:=h;unfold N4
 refine Sz.bind (sI x.map E C D) λU L O T=>?_
 exact Sz.done L O T
def aCa(x:eg)(C:R5 x):PB x=some x:=by
 have D:=C;unfold PB;rw[sJ x.map D,ak]
def aCb(x:eg)(C:R5 x):Rc x x=some true:=by
 have D:=C;unfold Rc;simp only[sK x.map D,ak,bne_self_eq_false,beq_self_eq_true,Bool.not_true,cond_false]
def aCc(x:cK)(h:YU x){n:Int}(C:0<=n)(D:n<=1048576):Sz n (uO x) (N5 x n):=by
 obtain⟨i0,T,U⟩:=h;unfold N5
 refine Sz.bind (sI x.aE i0 C D) λY E L O=>?_
 exact Sz.done E L O
def aCd(x:cK)(C:uO x):PC x=some x:=by
 have D:=C;unfold PC;rw[sJ x.aE D,ak]
def aCe(x:cK)(C:uO x):Rd x x=some true:=by
 have D:=C;unfold Rd;simp only[sK x.aE D,ak,bne_self_eq_false,beq_self_eq_true,Bool.not_true,cond_false]
def aCf(x:bI)(h:R2 x){n:Int}(C:0<=n)(D:n<=1048576):Sz n (gk x) (HB x n):=by
 obtain⟨i0,E,i2⟩:=h;unfold HB
 refine Sz.bind (sI x.rows i0 C D) λL O b0 T=>?_
 refine Sz.bind (Sz.le (sI x.counts E (n:=L) O (by omega)) (by omega)) λy1 U Y Z=>?_
 exact Sz.done U Y ⟨T,Z⟩
def aCg(x:bI)(C:gk x):Je x=some x:=by
 obtain⟨D,E⟩:=C;unfold Je;rw[sJ x.rows D,ak,sJ x.counts E,ak]
def aCh(x:bI)(C:gk x):Ku x x=some true:=by
 obtain⟨D,E⟩:=C;unfold Ku;simp only[sK x.rows D,sK x.counts E,ak,bne_self_eq_false,beq_self_eq_true,Bool.not_true,cond_false]
def aCi(x:aa bI)(h:(x.length<=maxLen/\∀ y∈x,R2 y)){n:Int}(O:0<=n)(T:n<=1048576):Sz n (x.length<=1048576/\∀ y∈x,gk y) (N6 x n):=by
 have C:=h.1;unfold maxLen at C;unfold N6 br;rw[aK];by_cases c:n-(x.length:Int)<0
 ·rw[decide_eq_true c];exact⟨-1,rfl,.inl (by omega)⟩
 ·rw[decide_eq_false c,cond_false];exact Sz.imp (Sz.le (akf HB x (Q:=λx=>gk x) (by omega) (λy D m E L=>aCf y (h.2 y D) E L) (n:=n-(x.length:Int)) (by omega) (by omega)) (by omega)) λq=>⟨by omega,q⟩
def aCj(x:aa bI)(C:(x.length<=1048576/\∀ y∈x,gk y)):PD x=some x:=by
 have L:=C.1;have D:=uM (⟨[],[],(0:Int)⟩:bI) Je x (λy E=>aCg y (C.2 y E)) (by omega);unfold PD aW;rw[if_pos ⟨by omega,by omega,by omega⟩]
 refine(congrArg (λo=>Option.bind o _) D).trans ?_
 rfl
def aCk(x:aa bI)(C:(x.length<=1048576/\∀ y∈x,gk y)):Re x x=some true:=by
 have L:=C.1;have D:=uN Ku x (λy E=>aCh y (C.2 y E)) (by omega);unfold Re br;rw[show ((x.length:Int) != (x.length:Int))=false by simp,cond_false]
 refine(congrArg (λo=>Option.bind o _) D).trans ?_
 rfl
def aCl(x:aa aF)(h:(x.length<=maxLen/\∀ y∈x,YL y)){n:Int}(C:0<=n)(D:n<=1048576):Sz n (x.length<=1048576) (WG x n):=by
 exact zD h.1 C D
def aCm(x:aa aF)(C:(x.length<=1048576)):PE x=some x:=by
 have E:=C;have D:=uM (⟨(0:Int),(0:Int),(0:Int)⟩:aF) Jf x (λy L=>aAS y) (by omega);unfold PE aW;rw[if_pos ⟨by omega,by omega,by omega⟩]
 refine(congrArg (λo=>Option.bind o _) D).trans ?_
 rfl
def aCn(x:aa aF)(C:(x.length<=1048576)):Rf x x=some true:=by
 have E:=C;have D:=uN Kv x (λy L=>aAT y) (by omega);unfold Rf br;rw[show ((x.length:Int) != (x.length:Int))=false by simp,cond_false]
 refine(congrArg (λo=>Option.bind o _) D).trans ?_
 rfl
def aCo(x:aa bk)(h:(x.length<=maxLen/\∀ y∈x,YK y)){n:Int}(C:0<=n)(D:n<=1048576):Sz n (x.length<=1048576) (WH x n):=by
 exact zD h.1 C D
def aCp(x:aa bk)(C:(x.length<=1048576)):PF x=some x:=by
 have E:=C;have D:=uM (⟨(0:Int),(0:Int),(0:Int),false,(0:Int),(0:Int)⟩:bk) Jg x (λy L=>aAQ y) (by omega);unfold PF aW;rw[if_pos ⟨by omega,by omega,by omega⟩]
 refine(congrArg (λo=>Option.bind o _) D).trans ?_
 rfl
def aCq(x:aa bk)(C:(x.length<=1048576)):Rg x x=some true:=by
 have E:=C;have D:=uN Kw x (λy L=>aAR y) (by omega);unfold Rg br;rw[show ((x.length:Int) != (x.length:Int))=false by simp,cond_false]
 refine(congrArg (λo=>Option.bind o _) D).trans ?_
 rfl
def aCr(x:bM):Jh x=some x:=by
 unfold Jh;rfl
def aCs(x:bM):Kx x x=some true:=by
 unfold Kx;simp only[ak,bne_self_eq_false,beq_self_eq_true,Bool.not_true,cond_false]
def aCt(x:aa bM)(h:(x.length<=maxLen/\∀ y∈x,YV y)){n:Int}(C:0<=n)(D:n<=1048576):Sz n (x.length<=1048576) (WI x n):=by
 exact zD h.1 C D
def aCu(x:aa bM)(C:(x.length<=1048576)):PG x=some x:=by
 have E:=C;have D:=uM (⟨(0:Int),(0:Int)⟩:bM) Jh x (λy L=>aCr y) (by omega);unfold PG aW;rw[if_pos ⟨by omega,by omega,by omega⟩]
 refine(congrArg (λo=>Option.bind o _) D).trans ?_
 rfl
def aCv(x:aa bM)(C:(x.length<=1048576)):Rh x x=some true:=by
 have E:=C;have D:=uN Kx x (λy L=>aCs y) (by omega);unfold Rh br;rw[show ((x.length:Int) != (x.length:Int))=false by simp,cond_false]
 refine(congrArg (λo=>Option.bind o _) D).trans ?_
 rfl
def aCw(x:fI):PI x=some x:=by
 unfold PI;rfl
def aCx(x:fI):Ri x x=some true:=by
 unfold Ri;simp only[ak,bne_self_eq_false,beq_self_eq_true,Bool.not_true,cond_false]
def aCy(x:dL):PJ x=some x:=by
 unfold PJ;rfl
def aCz(x:dL):Rj x x=some true:=by
 unfold Rj;simp only[ak,bne_self_eq_false,beq_self_eq_true,Bool.not_true,cond_false]
def aCA(x:jJ):PL x=some x:=by
 unfold PL;rfl
def aCB(x:jJ):Rk x x=some true:=by
 unfold Rk;simp only[ak,bne_self_eq_false,beq_self_eq_true,Bool.not_true,cond_false]
def aCC(x:bK):Ji x=some x:=by
 unfold Ji;rfl
def aCD(x:bK):Ky x x=some true:=by
 unfold Ky;simp only[ak,bne_self_eq_false,beq_self_eq_true,Bool.not_true,cond_false]
def aCE(x:aa bK)(h:(x.length<=maxLen/\∀ y∈x,YW y)){n:Int}(C:0<=n)(D:n<=1048576):Sz n (x.length<=1048576) (WJ x n):=by
 exact zD h.1 C D
def aCF(x:aa bK)(C:(x.length<=1048576)):PN x=some x:=by
 have E:=C;have D:=uM (⟨(0:Int),(0:Int),(0:Int)⟩:bK) Ji x (λy L=>aCC y) (by omega);unfold PN aW;rw[if_pos ⟨by omega,by omega,by omega⟩]
 refine(congrArg (λo=>Option.bind o _) D).trans ?_
 rfl
def aCG(x:aa bK)(C:(x.length<=1048576)):Ro x x=some true:=by
 have E:=C;have D:=uN Ky x (λy L=>aCD y) (by omega);unfold Ro br;rw[show ((x.length:Int) != (x.length:Int))=false by simp,cond_false]
 refine(congrArg (λo=>Option.bind o _) D).trans ?_
 rfl
def aCH(x:aD):PO x=some x:=by
 unfold PO;rfl
def aCI(x:aD):Rp x x=some true:=by
 unfold Rp;simp only[ak,bne_self_eq_false,beq_self_eq_true,Bool.not_true,cond_false]
def aCJ(x:cz):Jj x=some x:=by
 unfold Jj;rw[aCH x.cmd,ak]
def aCK(x:cz):Kz x x=some true:=by
 unfold Kz;simp only[aCI x.cmd,ak,bne_self_eq_false,beq_self_eq_true,Bool.not_true,cond_false]
def aCL(x:aa cz)(h:(x.length<=maxLen/\∀ y∈x,YX y)){n:Int}(C:0<=n)(D:n<=1048576):Sz n (x.length<=1048576) (WK x n):=by
 exact zD h.1 C D
def aCM(x:aa cz)(C:(x.length<=1048576)):PR x=some x:=by
 have E:=C;have D:=uM (⟨(0:Int),⟨(0:Int),(0:Int),(0:Int),(0:Int)⟩⟩:cz) Jj x (λy L=>aCJ y) (by omega);unfold PR aW;rw[if_pos ⟨by omega,by omega,by omega⟩]
 refine(congrArg (λo=>Option.bind o _) D).trans ?_
 rfl
def aCN(x:aa cz)(C:(x.length<=1048576)):Rq x x=some true:=by
 have E:=C;have D:=uN Kz x (λy L=>aCK y) (by omega);unfold Rq br;rw[show ((x.length:Int) != (x.length:Int))=false by simp,cond_false]
 refine(congrArg (λo=>Option.bind o _) D).trans ?_
 rfl
def aCO(x:cG):Jk x=some x:=by
 unfold Jk;rfl
def aCP(x:cG):KA x x=some true:=by
 unfold KA;simp only[ak,bne_self_eq_false,beq_self_eq_true,Bool.not_true,cond_false]
def aCQ(x:aa cG)(h:(x.length<=maxLen/\∀ y∈x,YY y)){n:Int}(C:0<=n)(D:n<=1048576):Sz n (x.length<=1048576) (WL x n):=by
 exact zD h.1 C D
def aCR(x:aa cG)(C:(x.length<=1048576)):PS x=some x:=by
 have E:=C;have D:=uM (⟨(0:Int),(0:Int),(0:Int),(0:Int)⟩:cG) Jk x (λy L=>aCO y) (by omega);unfold PS aW;rw[if_pos ⟨by omega,by omega,by omega⟩]
 refine(congrArg (λo=>Option.bind o _) D).trans ?_
 rfl
def aCS(x:aa cG)(C:(x.length<=1048576)):Rr x x=some true:=by
 have E:=C;have D:=uN KA x (λy L=>aCP y) (by omega);unfold Rr br;rw[show ((x.length:Int) != (x.length:Int))=false by simp,cond_false]
 refine(congrArg (λo=>Option.bind o _) D).trans ?_
 rfl
def aCT(x:av)(h:LH x){n:Int}(C:0<=n)(D:n<=1048576):Sz n (ei x) (N7 x n):=by
 obtain⟨i0,E,i2,L,O,T,U,Y,Z,i9,i10,i11,i12,i13,i14,i15,i16,i17,i18⟩:=h;unfold N7
 refine Sz.bind (aBO x.box E C D) λy1 a1 b1 z1=>?_
 refine Sz.bind (Sz.le (aBW x.aX L (n:=y1) a1 (by omega)) (by omega)) λy3 a3 b3 z3=>?_
 refine Sz.bind (Sz.le (aBZ x.ready O (n:=y3) a3 (by omega)) (by omega)) λy4 a4 b4 z4=>?_
 refine Sz.bind (Sz.le (aB7 x.array T (n:=y4) a4 (by omega)) (by omega)) λy5 a5 b5 z5=>?_
 refine Sz.bind (Sz.le (aB9 x.spare U (n:=y5) a5 (by omega)) (by omega)) λy6 a6 b6 z6=>?_
 refine Sz.bind (Sz.le (aCc x.aL Y (n:=y6) a6 (by omega)) (by omega)) λy7 a7 b7 z7=>?_
 refine Sz.bind (Sz.le (aCi x.bx Z (n:=y7) a7 (by omega)) (by omega)) λy8 a8 b8 z8=>?_
 refine Sz.bind (Sz.le (sI x.guard i9 (n:=y8) a8 (by omega)) (by omega)) λy9 a9 b9 z9=>?_
 refine Sz.bind (Sz.le (aCl x.pending i10 (n:=y9) a9 (by omega)) (by omega)) λfW Fg b10 gW=>?_
 refine Sz.bind (Sz.le (aCo x.queue i11 (n:=fW) Fg (by omega)) (by omega)) λdQ Fh b11 kg=>?_
 refine Sz.bind (Sz.le (aCt x.shares i12 (n:=dQ) Fh (by omega)) (by omega)) λfK Fi b12 kN=>?_
 refine Sz.bind (Sz.le (aCE x.errors i16 (n:=fK) Fi (by omega)) (by omega)) λjq Fj b16 LJ=>?_
 refine Sz.bind (Sz.le (aCL x.trace i17 (n:=jq) Fj (by omega)) (by omega)) λfT R3 b17 BH=>?_
 refine Sz.bind (Sz.le (aCQ x.cA i18 (n:=fT) R3 (by omega)) (by omega)) λiV Y0 b18 LK=>?_
 exact Sz.done Y0 b18 ⟨z1,z3,z4,z5,z6,z7,z8,z9,gW,kg,kN,LJ,BH,LK⟩
def aCU(x:av)(C:ei x):BI x=some x:=by
 obtain⟨D,E,L,O,T,U,Y,Z,Y1,Y2,Y3,Y4,Y5,Y6⟩:=C;unfold BI;rw[toConfig x.config,ak,aBP x.box D,ak,aBX x.aX E,ak,aB0 x.ready L,ak,toArray x.array O,ak,aCa x.spare T,ak,aCd x.aL U,ak,aCj x.bx Y,ak,sJ x.guard Z,ak,aCm x.pending Y1,ak,aCp x.queue Y2,ak,aCu x.shares Y3,ak,aCw x.drain,ak,aCy x.aS,ak,aCA x.cu,ak,aCF x.errors Y4,ak,aCM x.trace Y5,ak,aCR x.cA Y6,ak]
def akA(x:av)(C:ei x):B6 x x=some true:=by
 obtain⟨D,E,L,O,T,U,Y,Z,Y1,Y2,Y3,Y4,Y5,Y6⟩:=C;unfold B6;simp only[aBN x.config,aBQ x.box D,aBY x.aX E,aB1 x.ready L,aB8 x.array O,aCb x.spare T,aCe x.aL U,aCk x.bx Y,sK x.guard Z,aCn x.pending Y1,aCq x.queue Y2,aCv x.shares Y3,aCx x.drain,aCz x.aS,aCB x.cu,aCG x.errors Y4,aCN x.trace Y5,aCS x.cA Y6,ak,bne_self_eq_false,beq_self_eq_true,Bool.not_true,cond_false]
def nU(c:gp)(p:eE):Bool:=(uA c p).getD false
def R6(c:gp)(p:eE)(C:p.weights.length<1073741823):uA c p=some (nU c p):=by
 obtain⟨b,e,_⟩:=Yr c p C;unfold nU;rw[e];rfl
def akB(c:gp)(p:eE)(C:p.weights.length<1073741823):DR c p=some (nU c p):=by
 have⟨b,e,D,_⟩:=az4 c p C;unfold nU;simp_all
def ba1(a x:Bool):(bif a then some x else some false)=some (a&&x):=by cases a<;>rfl
def ba2(a x:Bool):(bif !a then some false else some x)=some (a&&x):=by cases a<;>rfl
def ba3(a b:Int)(x:Bool):(bif a != b then some false else some x)=some (a==b&&x):=by
 rw[bne];cases a==b<;>rfl
theorem ba4(p:Prop)[Decidable p](x:Bool):(bif decide p then some false else some x)=some (!decide p&&x):=by cases decide p<;>rfl
def g9(c:av):Bool:=
 nU c.config c.box.bz&&(nU c.config c.box.next&&(aI c.now 0 1000000&&(ke c.config.aB c.aX&&(jH c.config.aB c.ready&&(kK c.config.aB c.array&&(lP c.config.aB c.spare&&(c.spare.bT==c.config.bT&&((eG c.aL&&qV c)&&(nS (eN (ij c.config.aB c.spare)) c.queue&&(gO c.shares&&((c.shares.length:Int)==4&&(nQ c.drain&&(iY c.aS&&(c.aS.state==c.aX.aS&&(!decide (c.aS.since > c.now)&&(aI c.cu.every 1 100000&&(aI c.cu.wait 1 c.cu.every&&(aI c.cu.next 0 (W6 (eN c.config.aB-1))&&(js c.errors&&(decide ((c.trace.length:Int)<=2000)&&decide ((c.cA.length:Int)<=400)))))))))))))))))))))
def R7(c:av)(C:ei c):EB c=some (g9 c):=by
 have⟨⟨D,E⟩,Y,⟨Z,z5⟩,⟨⟨z6,L⟩,z7,z8⟩,z9,O,⟨kg,Y7⟩,kN,mS,lR,nW,LJ,BH,LK⟩:=C;unfold zE at D E;have T:∀ x∈c.array.cells,x.symbols.length<1073741824:=λx U=>by
  have:=L x U;unfold sU at this;omega
 unfold uO at O;unfold EB g9;simp only[R6 _ _ (show c.box.bz.weights.length<1073741823 by omega),R6 _ _ (show c.box.next.weights.length<1073741823 by omega),c9,ajJ,Yw,ajx _ _ T,ajT,aAq _ (show c.aL.aE.length<1073741824 by omega),Yy,Le,aAb _ _ (show c.queue.length<1073741824 by omega),Ls _ (show c.shares.length<1073741824 by omega),RI,RM,ajN _ (show c.errors.length<1073741824 by omega),ak,ba1,ba2,ba3,ba4]
def akC(c:av)(C:ei c):Ox c=some (g9 c):=by
 obtain⟨⟨D,E⟩,Y,⟨Z,z5⟩,⟨⟨z6,L⟩,z7,z8⟩,z9,O,⟨kg,Y7⟩,kN,mS,lR,nW,LJ,BH,LK⟩:=C;unfold zE at D E;have T:∀ x∈c.array.cells,x.symbols.length<1073741824:=λx U=>by
  have:=L x U;unfold sU at this;omega
 unfold uO at O;unfold Ox g9;simp only[akB _ _ (show c.box.bz.weights.length<1073741823 by omega),akB _ _ (show c.box.next.weights.length<1073741823 by omega),dP,az5,ajO,aAX _ _ T,ajU,RK _ (show c.aL.aE.length<1073741824 by omega),aAp,aAo,Lg,az9,Yo _ (show c.shares.length<1073741824 by omega),RJ,RN,ajM,ak,ba1,ba2,ba3,ba4,Bool.and_assoc]
def aCV{H:Type}{cD:TypeId×Value->H}{w:World}{base:Nat}{v:Value}{d:DataW H}{p:aa MemPlace}(C:Value.okWide Tryz.prog w .any base 65 v)(h:DataW.Trod cD Tryz.prog w 0 (λ_=>true) true 65 v d p):Wg .cx LH w v:=
 aqu aBE Tryz.underlying65 C h
def Y8{g:aP}{a:cF}(h:kK g a=true):cq g=true/\(a.bh.length:Int)=fD g/\(a.aZ.length:Int)=fD g:=by
 simp[kK,Bool.and_eq_true,decide_eq_true_eq]at h;simp_all
def aCW{n:Int}{l:aa bk}(h:nS n l=true){i j:Nat}(E:i<j)(D:j<l.length):(l[i].id==l[j].id)=false:=by
 unfold nS at h;rw[Bool.and_eq_true,List.all_eq_true]at h;have C:=h.1 j (List.mem_range.2 D);unfold pY at C;rw[List.getElem?_eq_getElem D]at C;simp at C;have:=C.2.2 l[i] (List.mem_iff_getElem.2 ⟨i,by simp;omega,by simp⟩);simp_all
abbrev aCX:=((af×af×af×Int×af)×(av×(Int×Int×Int×Int×Int×Int×Int×Int×Int×Int×Int×Int×Int×Int×Int×Int×Int×Int×Int×Int×Int×Int×Bool×Int×Int×Int×Int×Int×Int×Int×Int×Int×Int×af×Int×Int×Int×Int×Int×Int×Int×af×Int×Int×Bool×Int×af×Int×af×af×af×af×af×Int×af×af×Int×Bool×(aa bI)×(aa Int)×(aa aF)×(aa bk)×(aa bM)×Bool×Int×Int×Int×Int×Int×Int×Int×Int×(aa bK)×(aa cz)×(aa cG)×af)×(aa bI)×(aa Int)×(aa Int)×(aa cC)×(aa Int)×(aa Int)×(aa bC)×(aa Int)×(aa Int)×(aa Int)×(aa Int)×af))
abbrev aCY:=((af×af×af×(aa bI)×Int×Int×af)×(av×av×(Int×Int×Int×Int×Int×Int×Int×Int×Int×Int×Int×Int×Int×Int×Int×Int×Int×Int×Int×Int×Int×Int×Bool×Int×Int×Int×Int×Int×Int×Int×Int×Int×Int×af×Int×Int×Int×Int×Int×Int×Int×af×Int×Int×Bool×Int×af×Int×af×af×af×af×af×Int×af×af×Int×Bool×af×(aa Int)×(aa aF)×(aa bk)×(aa bM)×Bool×Int×Int×Int×Int×Int×Int×Int×Int×(aa bK)×(aa cz)×(aa cG)×af)×(aa Int)×(aa Int)×(aa cC)×(aa Int)×(aa Int)×(aa bC)×(aa Int)×(aa Int)×(aa Int)×(aa Int)×(aa bI)×af))
def gw{α:Type}(l:aa α)(h:l.length<=1048577:=by omega):bD (([]:aa α).length+l.length)=true:=cM (by simp;omega)
def Y9(t:bI)(h:gk t):Ej t=some t:=by
 unfold Ej xA xZ;have C:=h.1;have D:=h.2;rw[gw _,gw _];rfl
def akD(t:bI)(h:gk t):HF t=some t:=Y9 t h
def aCZ(s:aCX)(T:aa bI)(C:s.1.2.2.2.1=0)(D:s.2.2.2.1=[])(E:s.2.2.1.2.2.2.2.2.2.2.2.2.2.2.2.2.2.2.2.2.2.2.2.2.2.2.2.2.2.2.2.2.2.2.2.2.2.2.2.2.2.2.2.2.2.2.2.2.2.2.2.2.2.2.2.2.2.2.2.2.2.1=T)(L:T.length<=1048576/\∀ y∈T,gk y):iter DL aQ s=some (.inl (((),(),(),()),(s.2.1,s.2.2.1,T,s.2.2.2.2))):=by
 subst E;have e:=cm (step:=DL) (s.2.2.1.2.2.2.2.2.2.2.2.2.2.2.2.2.2.2.2.2.2.2.2.2.2.2.2.2.2.2.2.2.2.2.2.2.2.2.2.2.2.2.2.2.2.2.2.2.2.2.2.2.2.2.2.2.2.2.2.2.2.1).length (λi=>(((),(),(),(i:Int),()),(s.2.1,s.2.2.1,(s.2.2.1.2.2.2.2.2.2.2.2.2.2.2.2.2.2.2.2.2.2.2.2.2.2.2.2.2.2.2.2.2.2.2.2.2.2.2.2.2.2.2.2.2.2.2.2.2.2.2.2.2.2.2.2.2.2.2.2.2.2.1).take i,s.2.2.2.2))) (.inl (((),(),(),()),(s.2.1,s.2.2.1,s.2.2.1.2.2.2.2.2.2.2.2.2.2.2.2.2.2.2.2.2.2.2.2.2.2.2.2.2.2.2.2.2.2.2.2.2.2.2.2.2.2.2.2.2.2.2.2.2.2.2.2.2.2.2.2.2.2.2.2.2.2.1,s.2.2.2.2))) aQ (λk h=>by
  unfold DL aq xG xI;dsimp only;rw[decide_eq_true (by omega),cond_true,dif_pos ⟨by omega,by omega⟩];simp only[Int.toNat_natCast];rw[akD _ (L.2 _ (List.getElem_mem _)),ak,cM (by simp;omega),cond_true,bq,pS h]) (by
  unfold DL aq xG xI;dsimp only;rw[decide_eq_false (by omega),cond_false,List.take_length]) (bF)
 have O:s=(((),(),(),((0:Nat):Int),()),(s.2.1,s.2.2.1,(s.2.2.1.2.2.2.2.2.2.2.2.2.2.2.2.2.2.2.2.2.2.2.2.2.2.2.2.2.2.2.2.2.2.2.2.2.2.2.2.2.2.2.2.2.2.2.2.2.2.2.2.2.2.2.2.2.2.2.2.2.2.1).take 0,s.2.2.2.2)):=by
  rw[List.take_zero,<-D,Int.natCast_zero,<-C]
 rw[<-e,<-O]
def aC0(s:aCY)(D:s.1.2.2.2.2.2.1=0)(E:s.1.2.2.2.2.1=(s.1.2.2.2.1.length:Int))(L:s.2.2.2.2.2.2.2.2.2.2.2.2.2.2.1=[])(C:s.1.2.2.2.1.length <= 1048576 /\ ∀ y∈s.1.2.2.2.1,gk y):iter El aQ s=some (.inl (((),(),(),()),(s.2.1,s.2.2.1,s.2.2.2.1,s.2.2.2.2.1,s.2.2.2.2.2.1,s.2.2.2.2.2.2.1,s.2.2.2.2.2.2.2.1,s.2.2.2.2.2.2.2.2.1,s.2.2.2.2.2.2.2.2.2.1,s.2.2.2.2.2.2.2.2.2.2.1,s.2.2.2.2.2.2.2.2.2.2.2.1,s.2.2.2.2.2.2.2.2.2.2.2.2.1,s.2.2.2.2.2.2.2.2.2.2.2.2.2.1,s.1.2.2.2.1,s.2.2.2.2.2.2.2.2.2.2.2.2.2.2.2))):=by
 have e:=cm (step:=El) s.1.2.2.2.1.length (λi=>(((),(),(),s.1.2.2.2.1,s.1.2.2.2.1.length,i,()),(s.2.1,s.2.2.1,s.2.2.2.1,s.2.2.2.2.1,s.2.2.2.2.2.1,s.2.2.2.2.2.2.1,s.2.2.2.2.2.2.2.1,s.2.2.2.2.2.2.2.2.1,s.2.2.2.2.2.2.2.2.2.1,s.2.2.2.2.2.2.2.2.2.2.1,s.2.2.2.2.2.2.2.2.2.2.2.1,s.2.2.2.2.2.2.2.2.2.2.2.2.1,s.2.2.2.2.2.2.2.2.2.2.2.2.2.1,s.1.2.2.2.1.take i,s.2.2.2.2.2.2.2.2.2.2.2.2.2.2.2))) _ aQ (λk h=>by
  unfold El aq xG xI;dsimp only;rw[decide_eq_true (by omega),cond_true,dif_pos ⟨by omega,by omega⟩];simp only[Int.toNat_natCast];rw[Y9 _ (C.2 _ (List.getElem_mem _)),ak,cM (by simp;omega),cond_true,bq,pS h]) (by
  unfold El aq xG xI;dsimp only;rw[decide_eq_false (by omega),cond_false,List.take_length]) (bF)
 grind
def akE(l:aa Int)(h:l.length <= 1048577):PU l=some l:=by
 cases l with
 |nil=>rfl
 | cons a l=>
  show (bif bD _ then some _ else none)=_;rw[gw _ h];rfl
def aC1(l:aa aF)(h:l.length <= 1048577):Xk l=some l:=by
 cases l with
 |nil=>rfl
 | cons a l=>
  show (bif bD _ then some _ else none)=_;rw[gw _ h];rfl
def aC2(l:aa bk)(h:l.length <= 1048577):Xl l=some l:=by
 cases l with
 |nil=>rfl
 | cons a l=>
  show (bif bD _ then some _ else none)=_;rw[gw _ h];rfl
def aC3(l:aa bM)(h:l.length <= 1048577):Xm l=some l:=by
 cases l with
 |nil=>rfl
 | cons a l=>
  show (bif bD _ then some _ else none)=_;rw[gw _ h];rfl
def aC4(l:aa bK)(h:l.length <= 1048577):Xn l=some l:=by
 cases l with
 |nil=>rfl
 | cons a l=>
  show (bif bD _ then some _ else none)=_;rw[gw _ h];rfl
def aC5(l:aa cz)(h:l.length <= 1048577):Xo l=some l:=by
 cases l with
 |nil=>rfl
 | cons a l=>
  show (bif bD _ then some _ else none)=_;rw[gw _ h];rfl
def aC6(l:aa cG)(h:l.length <= 1048577):Xp l=some l:=by
 cases l with
 |nil=>rfl
 | cons a l=>
  show (bif bD _ then some _ else none)=_;rw[gw _ h];rfl
def Za(b:fP)(h:zF b):Jl b=some b:=by
 have C:b.bz.weights.length <= 1048576:=h.1;have D:b.next.weights.length <= 1048576:=h.2
 unfold Jl Ef xA xZ;rw[gw _,cond_true,gw _];rfl
def akF(b:fP)(h:zF b):N8 b=some b:=Za b h
def Zb(c:av)(D:ei c):HG c=some c:=by
 obtain⟨E,L,O,C,T,U,Y,z8,z9,gW,kg,kN,mS,lR⟩:=D;have y2:c.aX.ay.length<=1048576:=L;obtain⟨y3,y3'⟩:=O;have y5:c.spare.map.length<=1048576:=T;have y6:c.aL.aE.length<=1048576:=U;unfold HG xA aW xZ;rw[akF _ E,ak];unfold WM sn WN HE xA xZ;rw[gw _,cond_true,ak,gw _,cond_true,gw _,cond_true,ak,azL _ (by have:=C.1.1;omega) (by have:=C.2.1;omega) (by have:=C.2.2;omega) (λx Z=>by have:x.symbols.length<=1048576:=C.1.2 x Z;omega),ak,gw _,cond_true,ak,gw _,cond_true,ak]
 refine(congrArg (λo=>Option.bind o _) (aCZ _ c.bx rfl rfl rfl Y)).trans ?_
 rw[ak];simp only[Sum.elim_inl];rw[gw c.guard,cond_true,gw c.pending,cond_true,gw c.queue,cond_true,gw c.shares,cond_true,gw c.errors,cond_true,gw c.trace,cond_true,gw c.cA,cond_true];rfl
def Zc(c:av)(D:ei c):Jo c=some c:=by
 obtain⟨E,L,O,C,T,U,Y,z8,z9,gW,kg,kN,mS,lR⟩:=D;have y2:c.aX.ay.length<=1048576:=L;obtain⟨y3,y3'⟩:=O;have y5:c.spare.map.length<=1048576:=T;have y6:c.aL.aE.length<=1048576:=U;unfold Jo aW;rw[Za _ E,ak];unfold Eg Eh BJ xA xZ;rw[gw _,cond_true,ak,gw _,cond_true,gw _,cond_true,ak,ajw _ (by have:=C.1.1;omega) (by have:=C.2.1;omega) (by have:=C.2.2;omega) (λx Z=>by have:x.symbols.length<=1048576:=C.1.2 x Z;omega),ak,akE _ (by omega),ak,gw _,cond_true,ak]
 refine(congrArg (λo=>Option.bind o _) (aC0 _ rfl rfl rfl Y)).trans ?_
 rw[ak];simp only[Sum.elim_inl];rw[akE c.guard (by omega),ak,aC1 c.pending (by omega),ak,aC2 c.queue (by omega),ak,aC3 c.shares (by omega),ak,aC4 c.errors (by omega),ak,aC5 c.trace (by omega),ak,aC6 c.cA (by omega),ak];rfl
def cR{α:Type}(p:α->Bool)(q:aa α):Nat:=(q.findIdx? p).getD q.length
def uP{α:Type}(p:α -> Bool)(q:aa α):cR p q <= q.length:=by
 unfold cR;cases h:q.findIdx? p with
 |none=>simp_all
 | some k=>
  have⟨C,_⟩:=List.findIdx?_eq_some_iff_getElem.1 h
  grind
def lS{α:Type}{p:α -> Bool}{q:aa α}{i:Nat}(h:i<cR p q)(hi:i<q.length):p q[i]=false:=by
 unfold cR at h;cases C:q.findIdx? p with
 |none =>simp_all
 | some k=>
  rw[C]at h;have⟨_,_,D⟩:=List.findIdx?_eq_some_iff_getElem.1 C;simp_all
def p7{α:Type}{p:α -> Bool}{q:aa α}(h:cR p q<q.length):p q[cR p q]=true:=by
 unfold cR at h;cases C:q.findIdx? p with
 |none=>grind
 | some k=>
  have⟨D,E,_⟩:=List.findIdx?_eq_some_iff_getElem.1 C;have e:cR p q=k:=by unfold cR;rw[C];rfl
  simp_all
def R8{α:Type}(p:α -> Bool)(q:aa α):q.any p=decide (cR p q<q.length):=by
 by_cases c:cR p q<q.length
 ·rw[decide_eq_true c,List.any_eq_true];exact⟨_,List.getElem_mem c,p7 c⟩
 ·rw[decide_eq_false c,List.any_eq_false];intro x C;obtain⟨i,hi,rfl⟩:=List.mem_iff_getElem.1 C;rw[lS (p:=p) (by omega) hi];simp
def bP{T:Type}(g:T->Int->T×Int):aa T->Int->aa T×Int
 |[],k=>([],k)
 |x::l,k=>((g x k).1::(bP g l (g x k).2).1,(bP g l (g x k).2).2)
def akG{T:Type}(g:T->Int->T×Int)(x:T):∀ (l:aa T) (k:Int),bP g (l++[x]) k=((bP g l k).1++[(g x (bP g l k).2).1],(g x (bP g l k).2).2)
 |[],k=>rfl
 | y :: l,k=>by
  rw[List.cons_append];unfold bP;rw[akG g x l];rfl
def Fk{T:Type}(g:T->Int->T×Int):∀ (l:aa T) (k:Int),(bP g l k).1.length=l.length
 |[],k=>rfl
 | y :: l,k=>by
  unfold bP;rw[List.length_cons,List.length_cons,Fk g l]
def LL{T:Type}(g:T->Int->T×Int)(s:Nat):∀ (l:aa T) (k:Int),(∀ x∈l,∀ k,k<=(g x k).2/\(g x k).2<=k+s)->k<=(bP g l k).2/\(bP g l k).2<=k+((s*l.length:Nat):Int)
 |[],k,_=>by simp[bP]
 | y :: l,k,h=>by
  have E:=h y (.head _) k;have L:=LL g s l (g y k).2 λx C=>h x (.tail _ C)
  have D:s*(y::l).length=s*l.length+s:=by rw[List.length_cons,Nat.mul_succ]
  show k<=(bP g l (g y k).2).2/\(bP g l (g y k).2).2<=_;rw[D];omega
def akH{T:Type}(g:T->Int->T×Int)(l:aa T)(k:Int){i:Nat}(hi:i<l.length):bP g (l.take (i+1)) k=((bP g (l.take i) k).1++[(g l[i] (bP g (l.take i) k).2).1],(g l[i] (bP g (l.take i) k).2).2):=by
 rw[pS hi,akG]
def akI{T:Type}(g:T->Int->T×Int):∀ (l:aa T) (k:Int) (i:Nat) (hi:i<l.length) (C:i<(bP g l k).1.length),(bP g l k).1[i]=(g l[i] (bP g (l.take i) k).2).1
 |[],k,i,hi,C=>by simp at hi
 |y::l,k,0,hi,C=>rfl
 |y::l,k,i+1,hi,C=>akI g l (g y k).2 i (by simpa using hi) (by rw[Fk];simpa using hi)
def Zd{s n i:Nat}(C:s<=2097154)(hi:i<=n)(D:n<=1048576):s*i<=2199025352704:=Nat.le_trans (Nat.mul_le_mul C (Nat.le_trans hi D)) (by decide)
def uQ{T:Type}(g:T->Int->T×Int)(s:Nat)(B:Int)(st:((af×Int×Int×af)×(aa T×af))->ah (((af×Int×Int×af)×(aa T×af))⊕(((Int×af)×(aa T×af))⊕Empty)))(l:aa T)(O:l.length<=1048576)(U:s<=2097154)(Y:∀ x∈l,∀ k,k<=(g x k).2/\(g x k).2<=k+s)
  (Z:∀(a:aa T) (i:Nat) (k:Int) (h:i<a.length),i<1048576->a[i]∈l->0<=k->k<=B+2199025352704->st (((),k,(i:Int),()),(a,()))=some (.inl (((),(g a[i] k).2,((i+1:Nat):Int),()),(a.set i (g a[i] k).1,()))))
  (lJ:∀(a:aa T) (k:Int),st (((),k,(a.length:Int),()),(a,()))=some (.inr (.inl ((k,()),(a,()))))) (k:Int) (h0:0<=k) (h1:k<=B):iter st aQ (((),k,(0:Int),()),(l,()))=some (.inl (((bP g l k).2,()),((bP g l k).1,()))):=by
 have e:=cm (step:=st) l.length (λi=>(((),(bP g (l.take i) k).2,(i:Int),()),((bP g (l.take i) k).1++l.drop i,()))) (.inl (((bP g l k).2,()),((bP g l k).1,()))) aQ (λi hi=>by
  have vD:=LL g s (l.take i) k λx D=>Y x (List.mem_of_mem_take D)
  have hm:=Zd U (Nat.le_of_lt hi) O;have E:(l.take i).length=i:=by rw[List.length_take];omega
  have L:(bP g (l.take i) k).1.length=i:=by rw[Fk,E]
  rw[E]at vD;have ha:((bP g (l.take i) k).1++l.drop i).length=l.length:=by rw[List.length_append,L,List.length_drop];omega
  have D:((bP g (l.take i) k).1++l.drop i)[i]'(by omega)=l[i]:=by
   rw[List.getElem_append_right (by omega),List.getElem_drop];congr 1;omega
  have C:=Z _ i (bP g (l.take i) k).2 (by omega:i<((bP g (l.take i) k).1++l.drop i).length) (by omega) (by rw[D];exact List.getElem_mem _) (by omega) (by omega);rw[D]at C;refine C.trans ?_;rw[akH g l k hi,List.set_append_right _ _ (by omega),L,Nat.sub_self,List.drop_eq_getElem_cons hi,List.set_cons_zero,List.append_assoc];rfl) (by
  have C:=lJ (bP g l k).1 (bP g l k).2;rw[Fk]at C;rw[List.take_length,List.drop_length,List.append_nil];exact C) (bF)
 exact e
def uR{T:Type}(g:T->Int->T×Int)(s:Nat)(B:Int)(st:((aa T×Int×Int×af)×af)->ah (((aa T×Int×Int×af)×af)⊕(((Int×af)×af)⊕(((Int×af)×af)⊕Empty))))(l:aa T)(D:l.length<=1048576)(E:s<=2097154)(L:∀ x∈l,∀ k,k<=(g x k).2/\(g x k).2<=k+s)
  (O:∀(a:aa T) (x:T) (i:Nat) (k:Int) (h:i<a.length),i<1048576->x∈l->a[i]=(g x k).1->0<=k->k<=B+2199025352704->st ((a,k,(i:Int),()),())=some (.inl ((a,(g x k).2,((i+1:Nat):Int),()),())))
  (U:∀(a:aa T) (k:Int),st ((a,k,(a.length:Int),()),())=some (.inr (.inr (.inl ((k,()),()))))) (k:Int) (h0:0<=k) (h1:k<=B):iter st aQ (((bP g l k).1,k,(0:Int),()),())=some (.inr (.inl (((bP g l k).2,()),()))):=by
 have e:=cm (step:=st) l.length (λi=>(((bP g l k).1,(bP g (l.take i) k).2,(i:Int),()),())) (.inr (.inl (((bP g l k).2,()),()))) aQ (λi hi=>by
  have Y:=LL g s (l.take i) k λx Z=>L x (List.mem_of_mem_take Z)
  have hm:=Zd E (Nat.le_of_lt hi) D;have ht:(l.take i).length=i:=by rw[List.length_take];omega
  rw[ht]at Y;have hg:=Fk g l k;have C:=O (bP g l k).1 l[i] i (bP g (l.take i) k).2 (by omega) (by omega) (List.getElem_mem _) (akI g l k i hi (by omega)) (by omega) (by omega);rw[akH g l k hi];exact C) (by
  have C:=U (bP g l k).1 (bP g l k).2;rw[Fk]at C;rw[List.take_length];exact C) (bF)
 exact e
def MH{T:Type}(mark:aa T->Int->ah (Int×(aa T×af)))(held:aa T->Int->ah Int)(l:aa T):Prop:=∀k:Int,0<=k->k<=1152921504606846976->∃m C,mark l k=some (m,(C,()))/\held C k=some m/\k<=m/\m<=k+2199025352704
def uS{T:Type}{mark:aa T->Int->ah (Int×(aa T×af))}{held:aa T->Int->ah Int}{l:aa T}(g:T->Int->T×Int)(s:Nat)(E:l.length<=1048576)(L:s<=2097154)(O:∀ x∈l,∀ k,k<=(g x k).2/\(g x k).2<=k+s)(U:∀ k:Int,0<=k->k<=1152921504606846976->mark l k=some ((bP g l k).2,((bP g l k).1,())))(Y:∀ k:Int,0<=k->k<=1152921504606846976->held (bP g l k).1 k=some (bP g l k).2):MH mark held l:=λk C D=>by
 have:=LL g s l k O;have:=Zd L (Nat.le_refl _) E;exact⟨_,_,U k C D,Y k C D,by omega,by omega⟩
def eV(_ k:Int):Int×Int:=(k,k+1)
def R9(x k:Int):k<=(eV x k).2/\(eV x k).2<=k+(1:Nat):=by
 unfold eV;dsimp only;omega
def Sa(l:aa Int)(E:l.length<=1048576)(k:Int)(C:0<=k)(D:k<=2305843009213693952):fy l k=some ((bP eV l k).2,((bP eV l k).1,())):=by
 unfold fy aW;rw[uQ eV 1 2305843009213693952 KB l E (by omega) (λx _=>R9 x) (λa i k h hi _ C D=>by
  have L:0<=(i:Int):=by omega
  unfold KB aq xG xL;dsimp only[gV];rw[decide_eq_true (by omega),cond_true];simp only[List.length_set,Int.toNat_natCast,L,h,and_self,dite_true,List.getElem_set_self,List.set_set];rw[bq,aK (n:=k+1)];rfl) (λa k=>by
  unfold KB aq xG xL;dsimp only[gV];rw[decide_eq_false (by omega),cond_false]) k C D]
 rfl
def Sb(l:aa Int)(E:l.length<=1048576)(k:Int)(C:0<=k)(D:k<=2305843009213693952):nO (bP eV l k).1 k=some (bP eV l k).2:=by
 unfold nO br;rw[uR eV 1 2305843009213693952 KV l E (by omega) (λx _=>R9 x) (λa x i k h hi _ L C D=>by
  have O:0<=(i:Int):=by omega
  unfold KV aq aM xG xI;dsimp only;rw[decide_eq_true (by omega),cond_true];simp only[Int.toNat_natCast,O,h,and_self,dite_true,L];rw[bq,aK (n:=k+1)];simp only[eV,bne_self_eq_false,beq_self_eq_true,Bool.not_true,cond_false]) (λa k=>by
  unfold KV aq aM xG xI;dsimp only;rw[decide_eq_false (by omega),cond_false]) k C D]
 rfl
def wS(l:aa Int)(C:l.length<=1048576):MH fy nO l:=uS eV 1 C (by omega) (λx _=>R9 x) (λk D E=>Sa l C k D (by omega)) (λk D E=>Sb l C k D (by omega))
def sV(_:cC)(k:Int):cC×Int:=(⟨((k).tmod 3==0),k+1⟩,k+1+1)
def Ze(x:cC)(k:Int):k<=(sV x k).2/\(sV x k).2<=k+(2:Nat):=by
 unfold sV;dsimp only;omega
def aC7(l:aa cC)(E:l.length<=1048576)(k:Int)(C:0<=k)(D:k<=1152921504606846976):B7 l k=some ((bP sV l k).2,((bP sV l k).1,())):=by
 unfold B7 aW;rw[uQ sV 2 1152921504606846976 KD l E (by omega) (λx _=>Ze x) (λa i k h hi _ C D=>by
  have L:0<=(i:Int):=by omega
  unfold KD aq xG xL;dsimp only[gV];rw[decide_eq_true (by omega),cond_true];simp only[List.length_set,Int.toNat_natCast,L,h,and_self,dite_true,List.getElem_set_self,List.set_set];rw[bq,aK (n:=k+1),aK (n:=k+1+1)];rfl) (λa k=>by
  unfold KD aq xG xL;dsimp only[gV];rw[decide_eq_false (by omega),cond_false]) k C D]
 rfl
def aC8(l:aa cC)(E:l.length<=1048576)(k:Int)(C:0<=k)(D:k<=1152921504606846976):KZ (bP sV l k).1 k=some (bP sV l k).2:=by
 unfold KZ br;rw[uR sV 2 1152921504606846976 KW l E (by omega) (λx _=>Ze x) (λa x i k h hi _ L C D=>by
  have O:0<=(i:Int):=by omega
  unfold KW aq aM xG xI;dsimp only;rw[decide_eq_true (by omega),cond_true];simp only[Int.toNat_natCast,O,h,and_self,dite_true,L];rw[bq,aK (n:=k+1),aK (n:=k+1+1)];simp only[sV,bne_self_eq_false,beq_self_eq_true,Bool.not_true,cond_false]) (λa k=>by
  unfold KW aq aM xG xI;dsimp only;rw[decide_eq_false (by omega),cond_false]) k C D]
 rfl
def aC9(l:aa cC)(C:l.length<=1048576):MH B7 KZ l:=uS sV 2 C (by omega) (λx _=>Ze x) (λk D E=>aC7 l C k D (by omega)) (λk D E=>aC8 l C k D (by omega))
def sW(_:aF)(k:Int):aF×Int:=(⟨k,k+1,k+1+1⟩,k+1+1+1)
def Zf(x:aF)(k:Int):k<=(sW x k).2/\(sW x k).2<=k+(3:Nat):=by
 unfold sW;dsimp only;omega
def aDa(l:aa aF)(E:l.length<=1048576)(k:Int)(C:0<=k)(D:k<=1152921504606846976):B8 l k=some ((bP sW l k).2,((bP sW l k).1,())):=by
 unfold B8 aW;rw[uQ sW 3 1152921504606846976 KH l E (by omega) (λx _=>Zf x) (λa i k h hi _ C D=>by
  have L:0<=(i:Int):=by omega
  unfold KH aq xG xL;dsimp only[gV];rw[decide_eq_true (by omega),cond_true];simp only[List.length_set,Int.toNat_natCast,L,h,and_self,dite_true,List.getElem_set_self,List.set_set];rw[bq,aK (n:=k+1),aK (n:=k+1+1),aK (n:=k+1+1+1)];rfl) (λa k=>by
  unfold KH aq xG xL;dsimp only[gV];rw[decide_eq_false (by omega),cond_false]) k C D]
 rfl
def aDb(l:aa aF)(E:l.length<=1048576)(k:Int)(C:0<=k)(D:k<=1152921504606846976):K3 (bP sW l k).1 k=some (bP sW l k).2:=by
 unfold K3 br;rw[uR sW 3 1152921504606846976 K2 l E (by omega) (λx _=>Zf x) (λa x i k h hi _ L C D=>by
  have O:0<=(i:Int):=by omega
  unfold K2 aq aM xG xI;dsimp only;rw[decide_eq_true (by omega),cond_true];simp only[Int.toNat_natCast,O,h,and_self,dite_true,L];rw[bq,aK (n:=k+1),aK (n:=k+1+1),aK (n:=k+1+1+1)];simp only[sW,bne_self_eq_false,beq_self_eq_true,Bool.not_true,cond_false]) (λa k=>by
  unfold K2 aq aM xG xI;dsimp only;rw[decide_eq_false (by omega),cond_false]) k C D]
 rfl
def aDc(l:aa aF)(C:l.length<=1048576):MH B8 K3 l:=uS sW 3 C (by omega) (λx _=>Zf x) (λk D E=>aDa l C k D (by omega)) (λk D E=>aDb l C k D (by omega))
def sX(_:bk)(k:Int):bk×Int:=(⟨k,k+1,k+1+1,((k+1+1+1).tmod 3==0),k+1+1+1+1,k+1+1+1+1+1⟩,k+1+1+1+1+1+1)
def Zg(x:bk)(k:Int):k<=(sX x k).2/\(sX x k).2<=k+(6:Nat):=by
 unfold sX;dsimp only;omega
def aDd(l:aa bk)(E:l.length<=1048576)(k:Int)(C:0<=k)(D:k<=1152921504606846976):Ca l k=some ((bP sX l k).2,((bP sX l k).1,())):=by
 unfold Ca aW;rw[uQ sX 6 1152921504606846976 KJ l E (by omega) (λx _=>Zg x) (λa i k h hi _ C D=>by
  have L:0<=(i:Int):=by omega
  unfold KJ aq xG xL;dsimp only[gV];rw[decide_eq_true (by omega),cond_true];simp only[List.length_set,Int.toNat_natCast,L,h,and_self,dite_true,List.getElem_set_self,List.set_set];rw[bq,aK (n:=k+1),aK (n:=k+1+1),aK (n:=k+1+1+1),aK (n:=k+1+1+1+1),aK (n:=k+1+1+1+1+1),aK (n:=k+1+1+1+1+1+1)];rfl) (λa k=>by
  unfold KJ aq xG xL;dsimp only[gV];rw[decide_eq_false (by omega),cond_false]) k C D]
 rfl
def aDe(l:aa bk)(E:l.length<=1048576)(k:Int)(C:0<=k)(D:k<=1152921504606846976):K5 (bP sX l k).1 k=some (bP sX l k).2:=by
 unfold K5 br;rw[uR sX 6 1152921504606846976 K4 l E (by omega) (λx _=>Zg x) (λa x i k h hi _ L C D=>by
  have O:0<=(i:Int):=by omega
  unfold K4 aq aM xG xI;dsimp only;rw[decide_eq_true (by omega),cond_true];simp only[Int.toNat_natCast,O,h,and_self,dite_true,L];rw[bq,aK (n:=k+1),aK (n:=k+1+1),aK (n:=k+1+1+1),aK (n:=k+1+1+1+1),aK (n:=k+1+1+1+1+1),aK (n:=k+1+1+1+1+1+1)];simp only[sX,bne_self_eq_false,beq_self_eq_true,Bool.not_true,cond_false]) (λa k=>by
  unfold K4 aq aM xG xI;dsimp only;rw[decide_eq_false (by omega),cond_false]) k C D]
 rfl
def aDf(l:aa bk)(C:l.length<=1048576):MH Ca K5 l:=uS sX 6 C (by omega) (λx _=>Zg x) (λk D E=>aDd l C k D (by omega)) (λk D E=>aDe l C k D (by omega))
def sY(_:bM)(k:Int):bM×Int:=(⟨k,k+1⟩,k+1+1)
def Zh(x:bM)(k:Int):k<=(sY x k).2/\(sY x k).2<=k+(2:Nat):=by
 unfold sY;dsimp only;omega
def aDg(l:aa bM)(E:l.length<=1048576)(k:Int)(C:0<=k)(D:k<=1152921504606846976):Cb l k=some ((bP sY l k).2,((bP sY l k).1,())):=by
 unfold Cb aW;rw[uQ sY 2 1152921504606846976 KN l E (by omega) (λx _=>Zh x) (λa i k h hi _ C D=>by
  have L:0<=(i:Int):=by omega
  unfold KN aq xG xL;dsimp only[gV];rw[decide_eq_true (by omega),cond_true];simp only[List.length_set,Int.toNat_natCast,L,h,and_self,dite_true,List.getElem_set_self,List.set_set];rw[bq,aK (n:=k+1),aK (n:=k+1+1)];rfl) (λa k=>by
  unfold KN aq xG xL;dsimp only[gV];rw[decide_eq_false (by omega),cond_false]) k C D]
 rfl
def aDh(l:aa bM)(E:l.length<=1048576)(k:Int)(C:0<=k)(D:k<=1152921504606846976):K7 (bP sY l k).1 k=some (bP sY l k).2:=by
 unfold K7 br;rw[uR sY 2 1152921504606846976 K6 l E (by omega) (λx _=>Zh x) (λa x i k h hi _ L C D=>by
  have O:0<=(i:Int):=by omega
  unfold K6 aq aM xG xI;dsimp only;rw[decide_eq_true (by omega),cond_true];simp only[Int.toNat_natCast,O,h,and_self,dite_true,L];rw[bq,aK (n:=k+1),aK (n:=k+1+1)];simp only[sY,bne_self_eq_false,beq_self_eq_true,Bool.not_true,cond_false]) (λa k=>by
  unfold K6 aq aM xG xI;dsimp only;rw[decide_eq_false (by omega),cond_false]) k C D]
 rfl
def aDi(l:aa bM)(C:l.length<=1048576):MH Cb K7 l:=uS sY 2 C (by omega) (λx _=>Zh x) (λk D E=>aDg l C k D (by omega)) (λk D E=>aDh l C k D (by omega))
def sZ(_:bK)(k:Int):bK×Int:=(⟨k,k+1,k+1+1⟩,k+1+1+1)
def Zi(x:bK)(k:Int):k<=(sZ x k).2/\(sZ x k).2<=k+(3:Nat):=by
 unfold sZ;dsimp only;omega
def aDj(l:aa bK)(E:l.length<=1048576)(k:Int)(C:0<=k)(D:k<=1152921504606846976):Cc l k=some ((bP sZ l k).2,((bP sZ l k).1,())):=by
 unfold Cc aW;rw[uQ sZ 3 1152921504606846976 KP l E (by omega) (λx _=>Zi x) (λa i k h hi _ C D=>by
  have L:0<=(i:Int):=by omega
  unfold KP aq xG xL;dsimp only[gV];rw[decide_eq_true (by omega),cond_true];simp only[List.length_set,Int.toNat_natCast,L,h,and_self,dite_true,List.getElem_set_self,List.set_set];rw[bq,aK (n:=k+1),aK (n:=k+1+1),aK (n:=k+1+1+1)];rfl) (λa k=>by
  unfold KP aq xG xL;dsimp only[gV];rw[decide_eq_false (by omega),cond_false]) k C D]
 rfl
def aDk(l:aa bK)(E:l.length<=1048576)(k:Int)(C:0<=k)(D:k<=1152921504606846976):K9 (bP sZ l k).1 k=some (bP sZ l k).2:=by
 unfold K9 br;rw[uR sZ 3 1152921504606846976 K8 l E (by omega) (λx _=>Zi x) (λa x i k h hi _ L C D=>by
  have O:0<=(i:Int):=by omega
  unfold K8 aq aM xG xI;dsimp only;rw[decide_eq_true (by omega),cond_true];simp only[Int.toNat_natCast,O,h,and_self,dite_true,L];rw[bq,aK (n:=k+1),aK (n:=k+1+1),aK (n:=k+1+1+1)];simp only[sZ,bne_self_eq_false,beq_self_eq_true,Bool.not_true,cond_false]) (λa k=>by
  unfold K8 aq aM xG xI;dsimp only;rw[decide_eq_false (by omega),cond_false]) k C D]
 rfl
def aDl(l:aa bK)(C:l.length<=1048576):MH Cc K9 l:=uS sZ 3 C (by omega) (λx _=>Zi x) (λk D E=>aDj l C k D (by omega)) (λk D E=>aDk l C k D (by omega))
def s7(_:cz)(k:Int):cz×Int:=(⟨k,⟨k+1,k+1+1,k+1+1+1,k+1+1+1+1⟩⟩,k+1+1+1+1+1)
def Zj(x:cz)(k:Int):k<=(s7 x k).2/\(s7 x k).2<=k+(5:Nat):=by
 unfold s7;dsimp only;omega
def aDm(l:aa cz)(E:l.length<=1048576)(k:Int)(C:0<=k)(D:k<=1152921504606846976):Cd l k=some ((bP s7 l k).2,((bP s7 l k).1,())):=by
 unfold Cd aW;rw[uQ s7 5 1152921504606846976 KR l E (by omega) (λx _=>Zj x) (λa i k h hi _ C D=>by
  have L:0<=(i:Int):=by omega
  unfold KR aq xG xL;dsimp only[gV];rw[decide_eq_true (by omega),cond_true];simp only[List.length_set,Int.toNat_natCast,L,h,and_self,dite_true,List.getElem_set_self,List.set_set];rw[bq,aK (n:=k+1),aK (n:=k+1+1),aK (n:=k+1+1+1),aK (n:=k+1+1+1+1),aK (n:=k+1+1+1+1+1)];rfl) (λa k=>by
  unfold KR aq xG xL;dsimp only[gV];rw[decide_eq_false (by omega),cond_false]) k C D]
 rfl
def aDn(l:aa cz)(E:l.length<=1048576)(k:Int)(C:0<=k)(D:k<=1152921504606846976):Lb (bP s7 l k).1 k=some (bP s7 l k).2:=by
 unfold Lb br;rw[uR s7 5 1152921504606846976 La l E (by omega) (λx _=>Zj x) (λa x i k h hi _ L C D=>by
  have O:0<=(i:Int):=by omega
  unfold La aq aM xG xI;dsimp only;rw[decide_eq_true (by omega),cond_true];simp only[Int.toNat_natCast,O,h,and_self,dite_true,L];rw[bq,aK (n:=k+1),aK (n:=k+1+1),aK (n:=k+1+1+1),aK (n:=k+1+1+1+1),aK (n:=k+1+1+1+1+1)];simp only[s7,bne_self_eq_false,beq_self_eq_true,Bool.not_true,cond_false]) (λa k=>by
  unfold La aq aM xG xI;dsimp only;rw[decide_eq_false (by omega),cond_false]) k C D]
 rfl
def aDo(l:aa cz)(C:l.length<=1048576):MH Cd Lb l:=uS s7 5 C (by omega) (λx _=>Zj x) (λk D E=>aDm l C k D (by omega)) (λk D E=>aDn l C k D (by omega))
def s8(_:cG)(k:Int):cG×Int:=(⟨k,k+1,k+1+1,k+1+1+1⟩,k+1+1+1+1)
def Zk(x:cG)(k:Int):k<=(s8 x k).2/\(s8 x k).2<=k+(4:Nat):=by
 unfold s8;dsimp only;omega
def aDp(l:aa cG)(E:l.length<=1048576)(k:Int)(C:0<=k)(D:k<=1152921504606846976):Ce l k=some ((bP s8 l k).2,((bP s8 l k).1,())):=by
 unfold Ce aW;rw[uQ s8 4 1152921504606846976 KT l E (by omega) (λx _=>Zk x) (λa i k h hi _ C D=>by
  have L:0<=(i:Int):=by omega
  unfold KT aq xG xL;dsimp only[gV];rw[decide_eq_true (by omega),cond_true];simp only[List.length_set,Int.toNat_natCast,L,h,and_self,dite_true,List.getElem_set_self,List.set_set];rw[bq,aK (n:=k+1),aK (n:=k+1+1),aK (n:=k+1+1+1),aK (n:=k+1+1+1+1)];rfl) (λa k=>by
  unfold KT aq xG xL;dsimp only[gV];rw[decide_eq_false (by omega),cond_false]) k C D]
 rfl
def aDq(l:aa cG)(E:l.length<=1048576)(k:Int)(C:0<=k)(D:k<=1152921504606846976):Ld (bP s8 l k).1 k=some (bP s8 l k).2:=by
 unfold Ld br;rw[uR s8 4 1152921504606846976 Lc l E (by omega) (λx _=>Zk x) (λa x i k h hi _ L C D=>by
  have O:0<=(i:Int):=by omega
  unfold Lc aq aM xG xI;dsimp only;rw[decide_eq_true (by omega),cond_true];simp only[Int.toNat_natCast,O,h,and_self,dite_true,L];rw[bq,aK (n:=k+1),aK (n:=k+1+1),aK (n:=k+1+1+1),aK (n:=k+1+1+1+1)];simp only[s8,bne_self_eq_false,beq_self_eq_true,Bool.not_true,cond_false]) (λa k=>by
  unfold Lc aq aM xG xI;dsimp only;rw[decide_eq_false (by omega),cond_false]) k C D]
 rfl
def aDr(l:aa cG)(C:l.length<=1048576):MH Ce Ld l:=uS s8 4 C (by omega) (λx _=>Zk x) (λk D E=>aDp l C k D (by omega)) (λk D E=>aDq l C k D (by omega))
def wT(l:aa Int)(h:l.length<=1048576)(k:Int):k<=(bP eV l k).2/\(bP eV l k).2<=k+1048576:=by
 have:=LL eV 1 l k λx _=>R9 x
 omega
def zG(x:bC)(k:Int):bC×Int:=(⟨(bP eV x.symbols k).1,((bP eV x.symbols k).2.tmod 3==0)⟩,(bP eV x.symbols k).2+1)
def Zl(x:bC)(h:x.symbols.length<=1048576)(k:Int):k<=(zG x k).2/\(zG x k).2<=k+(1048577:Nat):=by
 have:=wT x.symbols h k;unfold zG;dsimp only;omega
def aDs(l:aa bC)(O:l.length<=1048576)(D:∀ y∈l,y.symbols.length<=1048576):MH EZ Rt l:=uS zG 1048577 O (by omega) (λx C=>Zl x (D x C)) (λk E L=>by
 unfold EZ aW;rw[uQ zG 1048577 1152921504606846976 KE l O (by omega) (λx C=>Zl x (D x C)) (λa i k h hi C E L=>by
  have T:0<=(i:Int):=by omega
  have Y:=wT a[i].symbols (D _ C) k;unfold KE aq xG xL xM;dsimp only[gV];rw[decide_eq_true (by omega),cond_true];simp only[List.length_set,Int.toNat_natCast,T,h,and_self,dite_true];rw[Sa _ (D _ C) k E (by omega),ak];simp only[List.getElem_set_self,List.set_set];rw[bq,aK (n:=(bP eV a[i].symbols k).2+1)];rfl) (λa k=>by
  unfold KE aq xG xL xM;dsimp only[gV];rw[decide_eq_false (by omega),cond_false]) k E L]
 rfl) (λk E L=>by
 unfold Rt br;rw[uR zG 1048577 1152921504606846976 K0 l O (by omega) (λx C=>Zl x (D x C)) (λa x i k h hi U C E L=>by
  have T:0<=(i:Int):=by omega
  have Y:=wT x.symbols (D _ U) k;unfold K0 aq aM xG xI;dsimp only;rw[decide_eq_true (by omega),cond_true];simp only[Int.toNat_natCast,T,h,and_self,dite_true,C];rw[show (zG x k).1.symbols=(bP eV x.symbols k).1 from rfl,Sb _ (D _ U) k E (by omega),ak,decide_eq_false (by omega),bq,aK (n:=(bP eV x.symbols k).2+1)];simp only[zG,beq_self_eq_true,Bool.not_true,cond_false]) (λa k=>by
  unfold K0 aq aM xG xI;dsimp only;rw[decide_eq_false (by omega),cond_false]) k E L]
 rfl)
def wU(x:bI)(k:Int):bI×Int:=(⟨(bP eV x.rows k).1,(bP eV x.counts (bP eV x.rows k).2).1,(bP eV x.counts (bP eV x.rows k).2).2⟩,(bP eV x.counts (bP eV x.rows k).2).2+1)
def Zm(x:bI)(h:x.rows.length<=1048576/\x.counts.length<=1048576)(k:Int):k<=(wU x k).2/\(wU x k).2<=k+(2097153:Nat):=by
 have:=wT x.rows h.1 k;have:=wT x.counts h.2 (bP eV x.rows k).2;unfold wU;dsimp only;omega
def aDt(l:aa bI)(T:l.length<=1048576)(D:∀ y∈l,y.rows.length<=1048576/\y.counts.length<=1048576):MH E0 Ru l:=uS wU 2097153 T (by omega) (λx C=>Zm x (D x C)) (λk E L=>by
 unfold E0 aW;rw[uQ wU 2097153 1152921504606846976 KF l T (by omega) (λx C=>Zm x (D x C)) (λa i k h hi C E L=>by
  have U:0<=(i:Int):=by omega
  have Y:=wT a[i].rows (D _ C).1 k;have Z:=wT a[i].counts (D _ C).2 (bP eV a[i].rows k).2;unfold KF aq xG xL xM;dsimp only[gV];rw[decide_eq_true (by omega),cond_true];simp only[List.length_set,Int.toNat_natCast,U,h,and_self,dite_true];rw[Sa _ (D _ C).1 k E (by omega),ak];simp only[List.getElem_set_self,List.set_set];rw[Sa _ (D _ C).2 _ (by omega) (by omega),ak];simp only[List.getElem_set_self,List.set_set];rw[bq,aK (n:=(bP eV a[i].counts (bP eV a[i].rows k).2).2+1)];rfl) (λa k=>by
  unfold KF aq xG xL xM;dsimp only[gV];rw[decide_eq_false (by omega),cond_false]) k E L]
 rfl) (λk E L=>by
 unfold Ru br;rw[uR wU 2097153 1152921504606846976 K1 l T (by omega) (λx C=>Zm x (D x C)) (λa x i k h hi O C E L=>by
  have U:0<=(i:Int):=by omega
  have Y:=wT x.rows (D _ O).1 k;have Z:=wT x.counts (D _ O).2 (bP eV x.rows k).2;unfold K1 aq aM xG xI;dsimp only;rw[decide_eq_true (by omega),cond_true];simp only[Int.toNat_natCast,U,h,and_self,dite_true,C];rw[show (wU x k).1.rows=(bP eV x.rows k).1 from rfl,Sb _ (D _ O).1 k E (by omega),ak,decide_eq_false (by omega),cond_false,show (wU x k).1.counts=(bP eV x.counts (bP eV x.rows k).2).1 from rfl,Sb _ (D _ O).2 _ (by omega) (by omega),ak,decide_eq_false (by omega),bq,aK (n:=(bP eV x.counts (bP eV x.rows k).2).2+1)];simp only[wU,bne_self_eq_false,cond_false]) (λa k=>by
  unfold K1 aq aM xG xI;dsimp only;rw[decide_eq_false (by omega),cond_false]) k E L]
 rfl)
def akJ{β:Type}(c:av)(hz:ei c)(B:(Int×(aa Int×af))->(Int×(aa Int×af))->(Int×(aa cC×af))->(Int×(aa Int×af))->(Int×(aa Int×af))->(Int×(aa bC×af))->(Int×(aa Int×af))->(Int×(aa Int×af))->(Int×(aa Int×af))->(Int×(aa Int×af))->(Int×(aa bI×af))->(Int×(aa Int×af))->(Int×(aa aF×af))->(Int×(aa bk×af))->(Int×(aa bM×af))->(Int×(aa bK×af))->(Int×(aa cz×af))->(Int×(aa cG×af))->ah β)(z:ah β)(h:∀ D E L O T U Y Z r8 r9 sM sN sO sP sQ sR sS C,0<=C.1/\C.1<=100000000000000->Rv (⟨c.config,⟨⟨c.box.bz.dR,c.box.bz.cap,c.box.bz.eI,c.box.bz.low,c.box.bz.high,D.2.1,c.box.bz.dO⟩,⟨c.box.next.dR,c.box.next.cap,c.box.next.eI,c.box.next.low,c.box.next.high,E.2.1,c.box.next.dO⟩,c.box.waits⟩,c.now,⟨L.2.1,c.aX.aS⟩,⟨O.2.1,T.2.1⟩,⟨U.2.1,Y.2.1,Z.2.1⟩,⟨c.spare.bT,r8.2.1⟩,⟨r9.2.1,c.aL.wait,c.aL.dj⟩,sM.2.1,sN.2.1,sO.2.1,sP.2.1,sQ.2.1,c.drain,c.aS,c.cu,sR.2.1,sS.2.1,C.2.1⟩:av) (1:Int)=some C.1->B D E L O T U Y Z r8 r9 sM sN sO sP sQ sR sS C=z):((fy c.box.bz.weights (1:Int)).bind λD=>(fy c.box.next.weights D.1).bind λE=>(B7 c.aX.ay E.1).bind λL=>(fy c.ready.last L.1).bind λO=>(fy c.ready.bg O.1).bind λT=>(EZ c.array.cells T.1).bind λU=>(fy c.array.bh U.1).bind λY=>(fy c.array.aZ Y.1).bind λZ=>(fy c.spare.map Z.1).bind λr8=>(fy c.aL.aE r8.1).bind λr9=>(E0 c.bx r9.1).bind λsM=>(fy c.guard sM.1).bind λsN=>(B8 c.pending sN.1).bind λsO=>(Ca c.queue sO.1).bind λsP=>(Cb c.shares sP.1).bind λsQ=>(Cc c.errors sQ.1).bind λsR=>(Cd c.trace sR.1).bind λsS=>(Ce c.cA sS.1).bind λC=>B D E L O T U Y Z r8 r9 sM sN sO sP sQ sR sS C)=z:=by
 obtain⟨⟨z1,z2⟩,z3,⟨z4,z5⟩,⟨⟨z6,z6'⟩,z7,z8⟩,z9,gW,⟨kg,Y7⟩,kN,mS,lR,nW,LJ,BH,LK⟩:=hz;obtain⟨m0,l0,e0,d0,a0,b0⟩:=wS c.box.bz.weights z1 1 (by omega) (by omega);obtain⟨m1,l1,e1,d1,a1,b1⟩:=wS c.box.next.weights z2 m0 (by omega) (by omega)
 obtain⟨m2,l2,e2,d2,a2,b2⟩:=aC9 c.aX.ay z3 m1 (by omega) (by omega);obtain⟨m3,l3,e3,d3,a3,b3⟩:=wS c.ready.last z4 m2 (by omega) (by omega);obtain⟨m4,l4,e4,d4,a4,b4⟩:=wS c.ready.bg z5 m3 (by omega) (by omega);obtain⟨m5,l5,e5,d5,a5,b5⟩:=aDs c.array.cells z6 z6' m4 (by omega) (by omega);obtain⟨m6,l6,e6,d6,a6,b6⟩:=wS c.array.bh z7 m5 (by omega) (by omega);obtain⟨m7,l7,e7,d7,a7,b7⟩:=wS c.array.aZ z8 m6 (by omega) (by omega);obtain⟨m8,l8,e8,d8,a8,b8⟩:=wS c.spare.map z9 m7 (by omega) (by omega);obtain⟨m9,l9,e9,d9,a9,b9⟩:=wS c.aL.aE gW m8 (by omega) (by omega);obtain⟨Zn,l10,iU,d10,Fg,b10⟩:=aDt c.bx kg Y7 m9 (by omega) (by omega);obtain⟨Zo,l11,uw,d11,Fh,b11⟩:=wS c.guard kN Zn (by omega) (by omega);obtain⟨Zp,l12,lN,d12,Fi,b12⟩:=aDc c.pending mS Zo (by omega) (by omega);obtain⟨E5,l13,Xh,d13,RZ,b13⟩:=aDf c.queue lR Zp (by omega) (by omega);obtain⟨Zq,l14,nN,d14,R0,b14⟩:=aDi c.shares nW E5 (by omega) (by omega);obtain⟨Zr,l15,O3,d15,Lp,b15⟩:=aDl c.errors LJ Zq (by omega) (by omega);obtain⟨Zs,l16,pP,d16,Fj,b16⟩:=aDo c.trace BH Zr (by omega) (by omega);obtain⟨m17,l17,IJ,d17,R3,b17⟩:=aDr c.cA LK Zs (by omega) (by omega)
 refine(congrArg (λo=>Option.bind o _) e0).trans ?_
 rw[ak]
 refine(congrArg (λo=>Option.bind o _) e1).trans ?_
 rw[ak]
 refine(congrArg (λo=>Option.bind o _) e2).trans ?_
 rw[ak]
 refine(congrArg (λo=>Option.bind o _) e3).trans ?_
 rw[ak]
 refine(congrArg (λo=>Option.bind o _) e4).trans ?_
 rw[ak]
 refine(congrArg (λo=>Option.bind o _) e5).trans ?_
 rw[ak]
 refine(congrArg (λo=>Option.bind o _) e6).trans ?_
 rw[ak]
 refine(congrArg (λo=>Option.bind o _) e7).trans ?_
 rw[ak]
 refine(congrArg (λo=>Option.bind o _) e8).trans ?_
 rw[ak]
 refine(congrArg (λo=>Option.bind o _) e9).trans ?_
 rw[ak]
 refine(congrArg (λo=>Option.bind o _) iU).trans ?_
 rw[ak]
 refine(congrArg (λo=>Option.bind o _) uw).trans ?_
 rw[ak]
 refine(congrArg (λo=>Option.bind o _) lN).trans ?_
 rw[ak]
 refine(congrArg (λo=>Option.bind o _) Xh).trans ?_
 rw[ak]
 refine(congrArg (λo=>Option.bind o _) nN).trans ?_
 rw[ak]
 refine(congrArg (λo=>Option.bind o _) O3).trans ?_
 rw[ak]
 refine(congrArg (λo=>Option.bind o _) pP).trans ?_
 rw[ak]
 refine(congrArg (λo=>Option.bind o _) IJ).trans ?_
 rw[ak];refine h (m0,(l0,())) (m1,(l1,())) (m2,(l2,())) (m3,(l3,())) (m4,(l4,())) (m5,(l5,())) (m6,(l6,())) (m7,(l7,())) (m8,(l8,())) (m9,(l9,())) (Zn,(l10,())) (Zo,(l11,())) (Zp,(l12,())) (E5,(l13,())) (Zq,(l14,())) (Zr,(l15,())) (Zs,(l16,())) (m17,(l17,())) (by dsimp only;omega) ?_;unfold Rv XX Rs XY XZ X0 X3 X4;simp only[d0,d1,d2,d3,d4,d5,d6,d7,d8,d9,d10,d11,d12,d13,d14,d15,d16,d17,ak,decide_eq_false (show ¬ m0<0 by omega),decide_eq_false (show ¬ m1<0 by omega),decide_eq_false (show ¬ m2<0 by omega),decide_eq_false (show ¬ m3<0 by omega),decide_eq_false (show ¬ m4<0 by omega),decide_eq_false (show ¬ m5<0 by omega),decide_eq_false (show ¬ m6<0 by omega),decide_eq_false (show ¬ m7<0 by omega),decide_eq_false (show ¬ m8<0 by omega),decide_eq_false (show ¬ m9<0 by omega),decide_eq_false (show ¬ Zn<0 by omega),decide_eq_false (show ¬ Zo<0 by omega),decide_eq_false (show ¬ Zp<0 by omega),decide_eq_false (show ¬ E5<0 by omega),decide_eq_false (show ¬ Zq<0 by omega),decide_eq_false (show ¬ Zr<0 by omega),decide_eq_false (show ¬ Zs<0 by omega),decide_eq_false (show ¬ m17<0 by omega),cond_false]
def nb(l:aa UInt8):aa Int:=l.map λb=>(b.toNat:Int)
def cO(c:av)(a:cF):av:=⟨c.config,c.box,c.now,c.aX,c.ready,a,c.spare,c.aL,c.bx,c.guard,c.pending,c.queue,c.shares,c.drain,c.aS,c.cu,c.errors,c.trace,c.cA⟩
def uT:bC:=⟨[],false⟩
def Cy(d:bC):bC:=⟨(d.symbols.set 0 (bits .xor .i64 (d.symbols.getD 0 0) 5)).set 1 (bits .xor .i64 (d.symbols.getD 1 0) 10),d.gx⟩
def iZ(base:Nat):Nat->aa bC->aa bC
 |0,cs=>cs
 |n+1,cs=>(iZ base n cs).set (base+n) (Cy ((iZ base n cs).getD (base+n) uT))
def LM(base:Nat):∀ (n:Nat) (cs:aa bC),(iZ base n cs).length=cs.length
 |0,_=>rfl
 | n+1,cs=>by
  show ((iZ base n cs).set _ _).length=_;rw[List.length_set,LM]
def aDu{d:bC}(h:Sy d.symbols):Sy (Cy d).symbols:=by
 have C:0<d.symbols.length:=by rw[h.1];omega
 have l1:1<d.symbols.length:=by rw[h.1];omega
 have L:d.symbols.getD 0 0=d.symbols[0]:=by rw[List.getD_eq_getElem?_getD,List.getElem?_eq_getElem C];rfl
 have O:d.symbols.getD 1 0=d.symbols[1]:=by rw[List.getD_eq_getElem?_getD,List.getElem?_eq_getElem l1];rfl
 have D:=ajv (h.get (k:=0) C) (b:=5) ⟨by omega,by omega⟩;have E:=ajv (h.get l1) (b:=10) ⟨by omega,by omega⟩;unfold Cy;rw[L,O];exact(h.set ⟨D.1,D.2.1⟩).set ⟨E.1,E.2.1⟩
def Sc{base:Nat}:∀ (n:Nat) {cs:aa bC},base+n <= cs.length -> (∀ c∈cs,Sy c.symbols) -> ∀ c∈iZ base n cs,Sy c.symbols
 |0,cs,_,h=>h
 | n+1,cs,D,h=>by
  have C:=Sc (base:=base) n (by omega) h;have hlen:=LM base n cs;refine Sy.bO C (aDu ?_)
  grind
def s9(g:aP)(l:gR)(a:cF)(b r:Int):cF:=
 ⟨bif wP l a (b*g.rows+r).toNat then iZ ((b*g.rows+r)*g.aO).toNat g.aO.toNat a.cells else a.cells,a.bh.set (b*g.rows+r).toNat 0,uH g.rows r (b*g.rows+r).toNat a.aZ⟩
def LN{g:aP}(C:cq g=true){b r k:Int}(E:0 <= b)(L:b<aT g)(O:0 <= r)(T:r<g.rows)(U:0 <= k)(Y:k<g.aO):0 <= (b*g.rows+r)*g.aO/\(b*g.rows+r)*g.aO+k<eN g/\0 <= b*g.rows+r/\b*g.rows+r<fD g:=by
 have er:aT g*g.rows=fD g:=by simp[fD,C]
 have⟨r0,Z,D⟩:=uE E L O T;rw[er]at D;have⟨q0,q1,q2⟩:=uE Z D U Y;have el:fD g*g.aO=eN g:=by simp[fD,eN,C]
 simp_all
def aDv{g:aP}(C:cq g=true)(c:av){b r:Int}(hc:(c.array.cells.length:Int)=eN g)(Y:∀ x∈c.array.cells,Sy x.symbols)(E:0<=b)(L:b<aT g)(O:0<=r)(T:r<g.rows):
  iter B4 aQ (((),b,r,(),(0:Int),()),(c,(g.cg,g.ay,g.rows,g.aO,()),()))=some (.inl (((),b,r,(),()),(cO c ⟨iZ ((b*g.rows+r)*g.aO).toNat g.aO.toNat c.array.cells,c.array.bh,c.array.aZ⟩,(g.cg,g.ay,g.rows,g.aO,()),()))):=by
 obtain⟨_,_,_,_,g5,g6,g7,g8⟩:=eK C;have b1:=mK g;obtain⟨n,Z⟩:=Int.eq_ofNat_of_zero_le (show 0<=g.aO by omega);obtain⟨B,hB⟩:∃B,B=((b*g.rows+r)*g.aO).toNat:=⟨_,rfl⟩
 have n8:g.aO.toNat=n:=by omega
 rw[<-hB,n8];have jM:B+n<=c.array.cells.length:=by
  have:=LN C E L O T (show 0<=g.aO-1 by omega) (by omega);omega
 have e:=cm (step:=B4) n (λk=>(((),b,r,(),(k:Int),()),(cO c ⟨iZ B k c.array.cells,c.array.bh,c.array.aZ⟩,(g.cg,g.ay,g.rows,g.aO,()),()))) (.inl (((),b,r,(),()),(cO c ⟨iZ B n c.array.cells,c.array.bh,c.array.aZ⟩,(g.cg,g.ay,g.rows,g.aO,()),()))) aQ (λk hk=>by
  have NL:ey g ⟨b,r,(k:Int)⟩=true:=Cf C E L O T (by dsimp only;omega) (by dsimp only;omega);have hix:oK g ⟨b,r,(k:Int)⟩=((B+k:Nat):Int):=by
   have:=LN C E L O T (show 0<=(k:Int) by omega) (by omega);unfold oK;rw[NL,cond_true];dsimp only;omega
  have hlen:=LM B k c.array.cells;have U:=Sc k (by omega:B+k<=c.array.cells.length) Y;show B4 (((),b,r,(),(k:Int),()),(cO c ⟨iZ B k c.array.cells,c.array.bh,c.array.aZ⟩,(g.cg,g.ay,g.rows,g.aO,()),()))=some (.inl (((),b,r,(),((k+1:Nat):Int),()),(cO c ⟨(iZ B k c.array.cells).set (B+k) (Cy ((iZ B k c.array.cells).getD (B+k) uT)),c.array.bh,c.array.aZ⟩,(g.cg,g.ay,g.rows,g.aO,()),())));generalize iZ B k c.array.cells=cs at hlen U;have D:B+k<cs.length:=by omega
  have s1:=Sy.mem U D;have l1:(0:Nat)<cs[B+k].symbols.length:=by rw[s1.1];omega
  have l2:(1:Nat)<cs[B+k].symbols.length:=by rw[s1.1];omega
  have c2:decide ((k:Int)<g.aO)=true:=decide_eq_true (by omega);have AV:cs.getD (B+k) uT=cs[B+k]:=by rw[List.getD_eq_getElem?_getD,List.getElem?_eq_getElem D];rfl
  have f0:cs[B+k].symbols.getD 0 0=cs[B+k].symbols[0]:=by rw[List.getD_eq_getElem?_getD,List.getElem?_eq_getElem l1];rfl
  have f1:cs[B+k].symbols.getD 1 0=cs[B+k].symbols[1]:=by rw[List.getD_eq_getElem?_getD,List.getElem?_eq_getElem l2];rfl
  rw[AV];unfold Cy;rw[f0,f1];unfold B4 cO xC aq xG xL xM;dsimp only;rw[c2,cond_true,qU g,Ya,ak,hix];generalize B+k=j at D s1 l1 l2;simp (disch:=omega) [D,bq,l1,l2]) (by unfold B4 xC aq xG xL xM;simp[Z]) (bF)
 exact e
def aDw(c:av){R k:Int}{nb:aa Int}(Y:nb.length<1000)(E:∀ n∈nb,0<=n/\n<R)(Z:0<=k)(hk:k+R<=(c.array.aZ.length:Int))(hH:c.array.aZ.length<1000000)(L:∀ x∈c.array.aZ,0<=x/\x<=100000):
  iter zh aQ (((),k,(),(nb.length:Int),(0:Int),()),(c,nb,()))=some (.inl ((),(cO c ⟨c.array.cells,c.array.bh,nb.foldl (λh n=>nP (k+n).toNat h) c.array.aZ⟩,()))):=by
 have e:=cm (step:=zh) nb.length (λi=>(((),k,(),(nb.length:Int),(i:Int),()),(cO c ⟨c.array.cells,c.array.bh,(nb.take i).foldl (λh n=>nP (k+n).toNat h) c.array.aZ⟩,nb,()))) (.inl ((),(cO c ⟨c.array.cells,c.array.bh,nb.foldl (λh n=>nP (k+n).toNat h) c.array.aZ⟩,()))) aQ (λj h=>by
  have hx:=E _ (List.getElem_mem h);have O:=akk k (nb.take j) c.array.aZ;have hB:=akl k (nb.take j) c.array.aZ L;rw[List.take_succ_eq_append_getElem h,List.foldl_append];simp only[List.foldl_cons,List.foldl_nil];generalize (nb.take j).foldl (λh n=>nP (k+n).toNat h) c.array.aZ=G at O hB;obtain⟨q,D⟩:=Int.eq_ofNat_of_zero_le (show 0<=k+nb[j] by omega);have C:q<G.length:=by omega
  have hg:=hB _ (List.getElem_mem C);have T:W6 (k+nb[j])=(q:Int):=by rw[D];exact aK
  have U:W6 (G[q]+1)=G[q]+1:=aK;rw[D,Int.toNat_natCast,Yh C];unfold zh cO aq xG xL;simp (disch:=omega) [h,T,C,U,bq,kL]) (by unfold zh aq xG xL;simp) (bF)
 rw[Int.natCast_zero,List.take_zero,List.foldl_nil]at e;exact e
def Zt{g:aP}(D:cq g=true)(l:gR){B:Int}(hB:0 <= B){a:cF}(C:ef g B a){b r:Int}(E:0 <= b)(L:b<aT g)(O:0 <= r)(T:r<g.rows):ef g B (s9 g l a b r):=by
 have⟨_,_,_,_,Y,Z,g7,g8⟩:=eK D;have U:((b*g.rows+r)*g.aO).toNat+g.aO.toNat <= a.cells.length:=by
  have:=LN D E L O T (show 0 <= g.aO-1 by omega) (by omega);have:=C.cells;omega
 unfold s9;refine⟨?_,?_,by simp[C.bh],by simp[azP,C.aZ],Ln C.Cj ⟨by omega,by omega⟩,azR C.gM⟩
 ·dsimp only;cases wP l a (b*g.rows+r).toNat with
  |false=>exact C.cells
  |true=>rw[cond_true,LM];exact C.cells
 ·dsimp only;cases wP l a (b*g.rows+r).toNat with
  |false=>exact C.syms
  |true=>rw[cond_true];exact Sc _ U C.syms
def akK{g:aP}(Y:cq g=true)(l:gR){B:Int}(c:av)(C:ef g B c.array){b r:Int}(Z:0<=b)(h2:b<aT g)(D:0<=r)(E:r<g.rows):Ke g l c b r=some ((),(cO c (s9 g l c.array b r),())):=by
 obtain⟨_,_,_,_,g5,g6,g7,g8⟩:=eK Y;have b2:=oJ g;have er:aT g*g.rows=fD g:=by simp[fD,Y]
 obtain⟨r0,r1,r2⟩:=uE Z h2 D E;rw[er]at r2;have hk:b*g.rows+g.rows<=fD g:=by
  have:=(uE Z h2 (show 0<=g.rows-1 by omega) (show g.rows-1<g.rows by omega)).2.2;omega
 have a1:=C.bh;have a2:=C.aZ;have L:W6 (b*g.rows)=b*g.rows:=aK;have e2:W6 (b*g.rows+r)=b*g.rows+r:=aK;have eL:=aDv Y c C.cells C.syms Z h2 D E;unfold s9;generalize iZ ((b*g.rows+r)*g.aO).toNat g.aO.toNat c.array.cells=cs at eL;obtain⟨i,hi⟩:=Int.eq_ofNat_of_zero_le r1;obtain⟨k,O⟩:∃k,k=b*g.rows:=⟨_,rfl⟩
 rw[<-O]at hi hk L e2 r0 r1 r2;unfold Ke aW xL;rw[<-O,L,e2];rw[hi]at r2;rw[hi,Int.toNat_natCast];have T:i<c.array.bh.length:=by omega
 have U:i<c.array.aZ.length:=by omega
 have UE:QE g l c.array b r=some (wP l c.array i):=by
  unfold QE xI;have Zu:W6 (i:Int)=i:=aK;simp only[<-O,L,hi,Zu];unfold wP;simp only[List.getD_eq_getElem?_getD,List.getElem?_eq_getElem T,List.getElem?_eq_getElem U,Option.getD_some];by_cases h:c.array.bh[i] > l.bh<;>simp[T,U,h]
 rw[UE,ak];have b1:=Ln C.gM (k:=i) (v:=0) ⟨by omega,by omega⟩;have Dg:=YM g5 g6 D E;have o8:=aAZ g.rows r;have Zv:∀ cells:aa bC,iter zh aQ (((),k,(),((kf g.rows r).length:Int),(0:Int),()),(cO c ⟨cells,c.array.bh.set i 0,c.array.aZ.set i 0⟩,kf g.rows r,()))=some (.inl ((),(cO c ⟨cells,c.array.bh.set i 0,uH g.rows r i c.array.aZ⟩,()))):=λcells=>by
  have:=aDw (cO c ⟨cells,c.array.bh.set i 0,c.array.aZ.set i 0⟩) (R:=g.rows) (k:=k) (nb:=kf g.rows r) (by omega) (akj D E) r0 (by simp[cO];omega) (by simp[cO];omega) b1;simp only[cO]at this ⊢;rw[aA0 hi r0 D]at this;exact this
 have h2x:XU=zh:=rfl;unfold cO at Zv eL ⊢;cases wP l c.array i with
 | false=>
  simp[T,U,Dg,h2x,Zv]
 | true=>
  rw[cond_true,eL];have Zu:W6 (i:Int)=i:=aK;simp[<-O,L,Zu,hi,T,U,Dg,Zv]
def aDx{g:aP}(C:cq g=true)(c:av){b r:Int}(hc:(c.array.cells.length:Int)=eN g)(Y:∀ x∈c.array.cells,Sy x.symbols)(E:0<=b)(L:b<aT g)(O:0<=r)(T:r<g.rows):
  iter yR aQ (((),r,(),b*g.rows+r,(0:Int),()),(c,(g.cg,g.ay,g.rows,g.aO,()),()))=some (.inl (((),r,(),b*g.rows+r,()),(cO c ⟨iZ ((b*g.rows+r)*g.aO).toNat g.aO.toNat c.array.cells,c.array.bh,c.array.aZ⟩,(g.cg,g.ay,g.rows,g.aO,()),()))):=by
 obtain⟨_,_,_,_,g5,g6,g7,g8⟩:=eK C;have b1:=mK g;have b2:=oJ g;obtain⟨n,Z⟩:=Int.eq_ofNat_of_zero_le (show 0<=g.aO by omega);obtain⟨B,hB⟩:∃B,B=((b*g.rows+r)*g.aO).toNat:=⟨_,rfl⟩
 have n8:g.aO.toNat=n:=by omega
 rw[<-hB,n8];have jM:B+n<=c.array.cells.length:=by
  have:=LN C E L O T (show 0<=g.aO-1 by omega) (by omega);omega
 have e:=cm (step:=yR) n (λk=>(((),r,(),b*g.rows+r,(k:Int),()),(cO c ⟨iZ B k c.array.cells,c.array.bh,c.array.aZ⟩,(g.cg,g.ay,g.rows,g.aO,()),()))) (.inl (((),r,(),b*g.rows+r,()),(cO c ⟨iZ B n c.array.cells,c.array.bh,c.array.aZ⟩,(g.cg,g.ay,g.rows,g.aO,()),()))) aQ (λk hk=>by
  have NL:=LN C E L O T (show 0<=(k:Int) by omega) (by omega);have e1:W6 ((b*g.rows+r)*g.aO)=(b*g.rows+r)*g.aO:=aK;have e2:W6 ((b*g.rows+r)*g.aO+(k:Int))=((B+k:Nat):Int):=by rw[aK];omega
  have hlen:=LM B k c.array.cells;have U:=Sc k (by omega:B+k<=c.array.cells.length) Y;show yR (((),r,(),b*g.rows+r,(k:Int),()),(cO c ⟨iZ B k c.array.cells,c.array.bh,c.array.aZ⟩,(g.cg,g.ay,g.rows,g.aO,()),()))=some (.inl (((),r,(),b*g.rows+r,((k+1:Nat):Int),()),(cO c ⟨(iZ B k c.array.cells).set (B+k) (Cy ((iZ B k c.array.cells).getD (B+k) uT)),c.array.bh,c.array.aZ⟩,(g.cg,g.ay,g.rows,g.aO,()),())));generalize iZ B k c.array.cells=cs at hlen U;have D:B+k<cs.length:=by omega
  have s1:=Sy.mem U D;have l1:(0:Nat)<cs[B+k].symbols.length:=by rw[s1.1];omega
  have l2:(1:Nat)<cs[B+k].symbols.length:=by rw[s1.1];omega
  have c2:decide ((k:Int)<g.aO)=true:=decide_eq_true (by omega);have AV:cs.getD (B+k) uT=cs[B+k]:=by rw[List.getD_eq_getElem?_getD,List.getElem?_eq_getElem D];rfl
  have f0:cs[B+k].symbols.getD 0 0=cs[B+k].symbols[0]:=by rw[List.getD_eq_getElem?_getD,List.getElem?_eq_getElem l1];rfl
  have f1:cs[B+k].symbols.getD 1 0=cs[B+k].symbols[1]:=by rw[List.getD_eq_getElem?_getD,List.getElem?_eq_getElem l2];rfl
  rw[AV];unfold Cy;rw[f0,f1];unfold yR cO xC aq xG xL xM;dsimp only;have t0:(0:Int).toNat=0:=rfl;have t1:(1:Int).toNat=1:=rfl;have p0:(0:Int)<=0:=Int.le_refl 0;have p1:(0:Int)<=1:=by omega
  rw[c2,cond_true];simp only[e1,e2,Int.toNat_natCast];have cj:(0:Int)<=((B+k:Nat):Int):=by omega
  simp only[cj,D,p0,p1,t0,t1,l1,l2,and_self,dite_true,List.length_set,List.getElem_set_self,List.set_set,gV];have w:=bq (i:=k);simp only[w,List.getElem_set_ne (show (0:Nat)≠1 by decide)]) (by unfold yR xC aq xG xL xM;simp[Z]) (bF)
 exact e
end Go.Proofs.YtnilicojgkhpnaaGreat
