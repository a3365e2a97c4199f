/-
  Plain laws. Nothing here is a claim.
-/
import Derived.Test.YtnilicojgkhpnaaGreatVZ
import Derived.Test.YtnilicojgkhpnaaGreatOpenV
import Derived.Test.YtnilicojgkhpnaaGreatG1
import Derived.Test.YtnilicojgkhpnaaGreatG2
import Derived.Test.YtnilicojgkhpnaaGreatG3
import Derived.Test.YtnilicojgkhpnaaGreatG4
import Derived.Test.YtnilicojgkhpnaaGreatG5
import Derived.Test.YtnilicojgkhpnaaGreatG6
import Derived.Test.YtnilicojgkhpnaaGreatG7
import Derived.Test.YtnilicojgkhpnaaGreatG8
import Derived.Test.YtnilicojgkhpnaaGreatG9
import Derived.Test.YtnilicojgkhpnaaGreatG10
import Derived.Test.YtnilicojgkhpnaaGreatG11
import Derived.Test.YtnilicojgkhpnaaGreatGX
namespace Go.Proofs.YtnilicojgkhpnaaGreat
set_option linter.defProp false
open Go.RowKit
set_option linter.unusedVariables false
set_option linter.unusedSimpArgs false
set_option maxRecDepth 100000
def aK{n:Int}(C:-9223372036854775808<=n:=by omega)(D:n<9223372036854775808:=by omega):W6 n=n:=by
 exact(IntKind.wrap_i64 n).trans (by omega)
def aar{α β:Type}{step:α -> ah (α⊕β)}(I:α -> Prop)(m:α -> Nat)(Q:β -> Prop)
  (h:∀x,I x -> (∃y,step x=some (.inl y)/\I y/\m y<m x) \/ ∃z,step x=some (.inr z)/\Q z):
  ∀(n:Nat) (x:α),I x -> m x<n -> ∃z,iter step n x=some z/\Q z
 |0,x,_,E=>by omega
 | n+1,x,L,E=>by
  unfold iter;rcases h x L with ⟨y,C,D,O⟩|⟨z,C,D⟩
  ·rw[C];exact aar I m Q h n y D (by omega)
  ·simp_all
def ak{α β:Type}(x:α)(f:α->ah β):(some x).bind f=f x:=rfl
def ia{α β T:Type}{step:α -> ah (α⊕β)}(l:aa T)(q:T -> Bool)(S:Nat -> α)(D z:β)(fuel:Nat)(L:∀ k (h:k<l.length),step (S k)=some (bif q l[k]then .inl (S (k+1))else .inr D))(O:step (S l.length)=some (.inr z))(C:l.length<fuel):
  iter step fuel (S 0)=some (bif l.all q then z else D):=by
 have key:∀ (n i fuel:Nat),i+n=l.length -> n<fuel -> iter step fuel (S i)=some (bif (l.drop i).all q then z else D):=by
  intro n
  induction n with
  | zero=>
   intro i fuel hi C
   match fuel,C with
   | f+1,_=>
    have:i=l.length:=by omega
    subst this;unfold iter;simp_all
  | succ n U=>
   intro i fuel hi C
   match fuel,C with
   | f+1,C=>
    have E:i<l.length:=by omega
    unfold iter;rw[L i E,List.drop_eq_getElem_cons E,List.all_cons];cases q l[i]with
    |true=>grind
    |false=>rfl
 exact key l.length 0 fuel (by omega) C
def cv{α β:Type}{step:α -> ah (α⊕β)}(n:Nat)(S:Nat -> α)(z:β)(fuel:Nat)(E:∀ k,k<n -> step (S k)=some (.inl (S (k+1))))(D:step (S n)=some (.inr z))(C:n<fuel):iter step fuel (S 0)=some z:=by
 have key:∀ (m i fuel),i+m=n -> m<fuel -> iter step fuel (S i)=some z:=by
  intro m
  induction m with
  | zero=>
   intro i fuel hi C
   match fuel,C with
   | f+1,_=>
    have:i=n:=by omega
    subst this;unfold iter;rw[D]
  | succ m L=>
   intro i fuel hi C
   match fuel,C with
   | f+1,C=>
    unfold iter
    grind
 simp_all
def alw{α β:Type}{step:α -> ah (α⊕β)}(n:Nat)(I:Nat -> α -> Prop)(Q:β -> Prop){x:α}(fuel:Nat)(U:I 0 x)(E:∀ k,k<n -> ∀ x,I k x -> ∃ y,step x=some (.inl y)/\I (k+1) y)(L:∀ x,I n x -> ∃ z,step x=some (.inr z)/\Q z)(C:n<fuel):∃ z,iter step fuel x=some z/\Q z:=by
 have key:∀ (m i fuel:Nat) (x:α),i+m=n -> m<fuel -> I i x -> ∃ z,iter step fuel x=some z/\Q z:=by
  intro m
  induction m with
  | zero=>
   intro i fuel x hi C D
   match fuel,C with
   | f+1,_=>
    have:i=n:=by omega
    subst this;have⟨z,O,T⟩:=L x D;unfold iter;simp_all
  | succ m Y=>
   intro i fuel x hi C D
   match fuel,C with
   | f+1,C=>
    have⟨y,O,T⟩:=E i (by omega) x D;unfold iter
    grind
 grind
def aas{α β:Type}{step:α -> ah (α⊕β)}(n:Nat)(I:Nat -> α -> Prop)(Q:β -> Prop){x:α}(fuel:Nat)(E:I 0 x)(O:∀ k,k<n -> ∀ x,I k x -> (∃ y,step x=some (.inl y)/\I (k+1) y) \/ ∃ z,step x=some (.inr z)/\Q z)(L:∀ x,I n x -> ∃ z,step x=some (.inr z)/\Q z)(C:n<fuel):∃ z,iter step fuel x=some z/\Q z:=by
 have key:∀ (m i fuel:Nat) (x:α),i+m=n -> m<fuel -> I i x -> ∃ z,iter step fuel x=some z/\Q z:=by
  intro m
  induction m with
  | zero=>
   intro i fuel x hi C D
   match fuel,C with
   | f+1,_=>
    have:i=n:=by omega
    subst this;have⟨z,T,U⟩:=L x D;unfold iter;simp_all
  | succ m Y=>
   intro i fuel x hi C D
   match fuel,C with
   | f+1,C=>
    unfold iter
    grind
 exact key n 0 fuel x (by omega) C E
def upto{α:Type}(f:α->α)(l:aa α)(i:Nat):aa α:=(l.take i).map f++l.drop i
def zp{α:Type}(f:α->α)(l:aa α)(i:Nat):(upto f l i).length=l.length:=by
 simp[upto];omega
def N0{α:Type}(f:α->α)(l:aa α):upto f l 0=l:=by simp[upto]
def Ep{α:Type}(f:α->α)(l:aa α):upto f l l.length=l.map f:=by simp[upto]
def Er{α:Type}(f:α -> α)(l:aa α)(i:Nat)(h:i<l.length)(C:i<(upto f l i).length):(upto f l i)[i]=l[i]:=by
 simp[upto]
 grind
def Es{α:Type}(f:α -> α)(l:aa α)(i:Nat)(h:i<l.length):(upto f l i).set i (f l[i])=upto f l (i+1):=by
 have C:min i l.length=i:=by omega
 have e:=List.drop_eq_getElem_cons h;simp only[upto];rw[List.set_append_right _ _ (by simp;omega),e,List.take_succ_eq_append_getElem h];simp only[List.map_append,List.map_cons,List.map_nil,eK,fY,C,Nat.sub_self,List.set_cons_zero,List.append_assoc,List.cons_append,jX]
def kA{x y:Int}(h:¬ x=y):(x==y)=false:=by simp[h]
def ic{x y:Int}(h:¬ x=y):(x != y)=true:=by simp[h]
def cD{n:Nat}(h:n<1073741824:=by omega):bI n=true:=aQ h
def bA{i:Nat}(h:i<4611686018427387904:=by omega):W6 ((i:Int)+1)=((i+1:Nat):Int):=by
 rw[aK];simp
def bH{n:Nat}(h:n<1073741824:=by omega):n<aT:=by unfold aT;omega
def aM(x a b:Int):Bool:=decide (a<=x)&&decide (x<=b)
def bB{x a b:Int}:aM x a b=true ↔ a<=x/\x<=b:=by simp[aM]
def cW(x a b:Int):cz x a b=some (aM x a b):=by
 unfold cz aM;by_cases h:a<=x<;>simp[h]
def eS(x a b:Int):cT x a b=some (aM x a b):=cW x a b
def cA(g:aL):Bool:=aM g.cg 1 2&&aM g.aC 1 4&&aM g.rows 2 16&&aM g.aO 1 8
def tG(g:aL):qp g=some (cA g):=by
 unfold qp cA;simp[cW]
 grind
def HJ(g:aL):yM g=some (cA g):=by
 unfold yM cA;simp[eS]
 grind
def fN{g:aL}(h:cA g=true):1<=g.cg/\g.cg<=2/\1<=g.aC/\g.aC<=4/\2<=g.rows/\g.rows<=16/\1<=g.aO/\g.aO<=8:=by
 simp only[cA,aM,aS,iN]at h;omega
def aY(g:aL):Int:=bif cA g then g.cg*g.aC else 0
def eY(g:aL):0 <= aY g/\aY g <= 8:=by
 unfold aY;cases h:cA g with
 |false=>simp
 | true=>
  have⟨C,D,E,L,_⟩:=fN h;simp;rcases(by omega:g.cg=1 \/ g.cg=2)with e|e<;>rw[e]<;>omega
def N1{g:aL}(h:cA g=true):1 <= aY g:=by
 have⟨C,D,E,L,_⟩:=fN h;simp[aY,h,au];rcases(by omega:g.cg=1 \/ g.cg=2)with e|e<;>rw[e]<;>omega
def kW(g:aL):lP g=some (aY g):=by
 have hb:=eY g;unfold lP;rw[tG,ak];unfold aY at hb ⊢;cases h:cA g with
 |false=>rfl
 | true=>
  rw[h]at hb;simp at hb;simp;rw[aK]
def q9(g:aL):o8 g=some (aY g):=by
 have hb:=eY g;unfold o8;rw[HJ,ak];unfold aY at hb ⊢;cases h:cA g with
 |false=>rfl
 | true=>
  rw[h]at hb;simp at hb;simp;rw[aK]
def gj(g:aL):Int:=bif cA g then aY g*g.rows else 0
def eI(g:aL):Int:=bif cA g then aY g*g.rows*g.aO else 0
def T8{a b A B:Int}(D:0<=a)(E:a<=A)(C:0<=b)(L:b<=B):0<=a*b/\a*b<=A*B:=
 ⟨Int.mul_nonneg D C,Int.le_trans (Int.mul_le_mul_of_nonneg_right E C) (Int.mul_le_mul_of_nonneg_left L (by omega))⟩
def oA(g:aL):0 <= gj g/\gj g <= 128:=by
 unfold gj;cases h:cA g with
 |false=>simp
 | true=>
  have⟨_,_,_,_,D,C,_⟩:=fN h;have:=eY g;exact T8 this.1 this.2 (by omega) C
def kX(g:aL):0 <= eI g/\eI g <= 1024:=by
 have C:=oA g;unfold eI gj at *
 cases h:cA g with
 |false=>simp
 | true=>
  rw[h]at C;have⟨_,_,_,_,E,L,O,D⟩:=fN h;exact T8 C.1 C.2 (by omega) D
def wS(g:aL):qZ g=some (eI g):=by
 have C:=kX g;have D:=oA g;unfold qZ;rw[kW,ak];unfold eI gj at *
 cases h:cA g with
 |false=>simp only[aY,h,aq,Int.zero_mul];rw[show W6 0=0 from rfl,Int.zero_mul];rfl
 | true=>
  rw[h]at C D;simp only[au]at C D;simp only[au];rw[aK (n:=aY g*g.rows),aK]
def HK(g:aL):wK g=some (eI g):=by
 have C:=kX g;have D:=oA g;unfold wK;rw[HJ,ak,q9,ak];unfold eI gj at *
 cases h:cA g with
 |false=>rfl
 | true=>
  rw[h]at C D;simp at C D;simp;rw[aK (n:=aY g*g.rows),aK]
def dn(g:aL)(a:aJ):Bool:=cA g&&aM a.ay 0 (aY g-1)&&aM a.row 0 (g.rows-1)&&aM a.bR 0 (g.aO-1)
def ri{g:aL}{a:aJ}(h:dn g a=true):cA g=true/\0 <= a.ay/\a.ay<aY g/\0 <= a.row/\a.row<g.rows/\0 <= a.bR/\a.bR<g.aO:=by
 simp[dn,aM,aS,iN]at h
 grind
def wT{g:aL}{a:aJ}(h:cA g=true)(C:0 <= a.ay)(D:a.ay<aY g)(E:0 <= a.row)(L:a.row<g.rows)(O:0 <= a.bR)(T:a.bR<g.aO):dn g a=true:=by
 simp[dn,aM,aS,iN]
 grind
def By(g:aL)(a:aJ):zc g a=some (dn g a):=by
 unfold zc dn;simp[tG,kW,cW,ak];have hb:=eY g;cases h:cA g with
 |false=>rfl
 | true=>
  have⟨_,_,_,_,C,D,E,L⟩:=fN h;rw[aK,aK,aK]
  grind
def aat(g:aL)(a:aJ):GJ g a=some (dn g a):=by
 unfold GJ dn;simp only[q9,eS,ak];have hb:=eY g;rw[aK];cases h:cA g with
 | false=>
  have:aM a.ay 0 (aY g-1)=false:=by
   simp[aY,h,aM]
   grind
  simp_all
 | true=>
  have⟨_,_,_,_,C,D,E,L⟩:=fN h;rw[aK,aK]
  grind
def wU{b n r R:Int}(C:0 <= b)(D:b<n)(E:0 <= r)(L:r<R):0 <= b*R/\0 <= b*R+r/\b*R+r<n*R:=by
 have O:0 <= b*R:=Int.mul_nonneg C (by omega);have T:(b+1)*R <= n*R:=Int.mul_le_mul_of_nonneg_right (by omega) (by omega)
 grind
def rj(g:aL)(a:aJ):Int:=bif dn g a then (a.ay*g.rows+a.row)*g.aO+a.bR else -1
def aau{g:aL}{a:aJ}(h:dn g a=true):0 <= rj g a/\rj g a<eI g/\0 <= a.ay*g.rows/\0 <= a.ay*g.rows+a.row/\a.ay*g.rows+a.row<gj g/\0 <= (a.ay*g.rows+a.row)*g.aO:=by
 have⟨C,D,E,L,O,T,U⟩:=ri h;have⟨r0,Y,Z⟩:=wU D E L O;have⟨l0,l1,l2⟩:=wU Y Z T U;simp[rj,h,eI,gj,C,au];omega
def Bz(g:aL)(a:aJ):Bq g a=some (rj g a):=by
 unfold Bq;rw[By,ak];cases h:dn g a with
 |false=>simp[rj,h]
 | true=>
  have hb:=aau h;have D:=kX g;have E:=oA g;have⟨C,L,O,T,U,Y,Z⟩:=ri h;have⟨_,_,_,_,g5,g6,g7,g8⟩:=fN C;simp only[rj,h,au]at hb ⊢;simp only[bg,aq];rw[aK (n:=a.ay*g.rows),aK (n:=a.ay*g.rows+a.row),aK (n:=(a.ay*g.rows+a.row)*g.aO),aK]
def T9(g:aL)(a:aJ):DT g a=some (rj g a):=by
 unfold DT;rw[aat,ak];cases h:dn g a with
 |false=>simp[rj,h]
 | true=>
  have hb:=aau h;have D:=kX g;have E:=oA g;have⟨C,L,O,T,U,Y,Z⟩:=ri h;have⟨_,_,_,_,g5,g6,g7,g8⟩:=fN C;simp only[rj,h,au]at hb ⊢;simp only[bg,aq];rw[aK (n:=a.ay*g.rows),aK (n:=a.ay*g.rows+a.row),aK (n:=(a.ay*g.rows+a.row)*g.aO),aK]
def wV{α β:Type}{step:α -> ah (α⊕β)}(S:Nat -> α){z:β}:∀ (n i fuel:Nat),(∀ k,i <= k -> k<i+n -> step (S k)=some (.inl (S (k+1)))) -> step (S (i+n))=some (.inr z) -> n<fuel -> iter step fuel (S i)=some z
 | 0,i,fuel,_,C,D=>by
  match fuel,D with
  |f+1,_=>unfold iter;rw[Nat.add_zero]at C;rw[C]
 | n+1,i,fuel,E,C,D=>by
  match fuel,D with
  | f+1,D=>
   unfold iter;rw[E i (dW _) (by omega)];exact wV S n _ f (λk L O=>E k (by omega) (by omega)) (by rw[show i+1+n=i+(n+1) by omega];exact C) (by omega)
def BA{i:Nat}(h:i<4611686018427387904:=by omega):W6 ((i:Int)+1)=((i+1:Nat):Int):=by
 rw[aK];simp
def aBX(x a b:Int):cz x a b=some (decide (a <= x)&&decide (x <= b)):=by
 unfold cz
 grind
def alx{x a b:Int}(h:a<=x)(C:x<=b):cz x a b=some true:=by
 rw[aBX,aQ h,aQ C];rfl
def aBY{x a b:Int}(h:a<=x)(C:x<=b):cT x a b=some true:=alx h C
def opens:Nat->aa dG->aa Int
 |_,[]=>[]
 |i,b::bs=>bif b.open_ then (i:Int)::opens (i+1) bs else opens (i+1) bs
def aav(i:Nat)(a b:aa dG):opens i (a++b)=opens i a++opens (i+a.length) b:=by
 induction a generalizing i with
 |nil=>simp[opens]
 | cons x a C=>
  simp[List.cons_append,opens]
  grind
def Ua(i:Nat)(l:aa dG):(opens i l).length <= l.length:=by
 induction l generalizing i with
 |nil=>simp[opens]
 | cons x a C=>
  have:=C (i+1);simp[opens]
  grind
def oB{α:Type}{l:aa α}{i:Nat}(h:i<l.length):l.take (i+1)=l.take i++[l[i]]:=by
 rw[List.take_succ_eq_append_getElem h]
def Ub(r:cH)(h:r.aC.length<1073741823):Be r=some (opens 0 r.aC):=by
 unfold Be bh;have e:=wV (step:=G6) (λi=>(((),r.aC,(r.aC.length:Int),(i:Int),()),(opens 0 (r.aC.take i),()))) (z:=.inl (((),()),(opens 0 r.aC,()))) r.aC.length 0 aT (λk _ C=>?_) ?_ (by unfold aT;omega)
 ·have e:iter G6 aT (((),r.aC,r.aC.length,0,()),(([]),()))=_:=e;simp_all
 ·have C:k<r.aC.length:=by omega
  unfold G6 ax xG xI;dsimp only;have D:decide ((k:Int)<(r.aC.length:Int))=true:=aQ;have E:0 <= (k:Int)/\(k:Int).toNat<r.aC.length:=⟨by omega,by simpa using C⟩
  have hl:=Ua 0 (r.aC.take k);rw[fY]at hl;have L:bI ((opens 0 (r.aC.take k)).length+([(k:Int)]:aa Int).length)=true:=by
   unfold bI;simp;omega
  rw[D,au,aA E,BA,oB C,aav];simp only[br,opens,fY,fT,Nat.min_eq_left (Nat.le_of_lt C)];cases r.aC[k].open_ with
  |true=>grind
  |false=>grind
 ·rw[fT];unfold G6 ax xG xI;simp_all
def gmT:Nat:=116196760129267793630862849262464326346044543732748708940920453221664288556434379745879494961270582141731748813355742142288220638766218855867759359510984593843506004200114943278699875244065120512813025380665946106619127097398772031257643617143689515450995722003729973585221105779229319991106539050771048038400
def gm(a b:Nat):Nat:=(gmT / 2 ^ (4*(16*a+b))) % 16
def pwT:Nat:=44684875893970114885940500792407720993
def pw(n:Nat):Nat:=(pwT / 2 ^ (4*n)) % 16
def jC(f:Nat->Bool):Bool:=(List.range 16).all f
def gS{f:Nat->Bool}(h:jC f=true){a:Nat}(C:a<16):f a=true:=by
 have:=cw.1 h a (fI.2 C);exact this
def gM(a b:Nat):gm a b<16:=Nat.mod_lt _ (by decide)
def va(n:Nat):pw n<16:=Nat.mod_lt _ (by decide)
def aBZ:(jC λa=>jC λb=>jS (Int.ofNat a) (Int.ofNat b)==some (Int.ofNat (gm a b)))=true:=by kernel_rfl
def aB0:((List.range 31).all λn=>Ni 2 (Int.ofNat n)==some (Int.ofNat (pw n)))=true:=by kernel_rfl
def aly:(jC λa=>jC λb=>decide (bits .xor .i64 (Int.ofNat a) (Int.ofNat b)=Int.ofNat (a ^^^ b))&&Nat.blt (a ^^^ b) 16)=true:=by kernel_rfl
def aB1:(jC λa=>jC λb=>jC λc=>Nat.beq (gm (a ^^^ b) c) (gm a c ^^^ gm b c))=true:=by kernel_rfl
def alz:(jC λa=>Nat.beq (gm a 1) a&&Nat.beq (gm 0 a) 0)=true:=by kernel_rfl
def aB2:(jC λC=>jC λs1=>jC λs2=>
  (λy z=>(λx=>Nat.beq (gm x 1 ^^^ (gm y 1 ^^^ (gm z 1 ^^^ C))) 0&&Nat.beq (gm x 1 ^^^ (gm y 2 ^^^ (gm z 4 ^^^ s1))) 0&&Nat.beq (gm x 1 ^^^ (gm y 4 ^^^ (gm z 3 ^^^ s2))) 0) (C ^^^ y ^^^ z))
   (gm (gm 2 (C ^^^ s1) ^^^ gm 5 (C ^^^ s2)) 13) (gm (gm 3 (C ^^^ s2) ^^^ gm 5 (C ^^^ s1)) 13))=true:=by kernel_rfl
def aB3:Ed 4=some 13:=by kernel_rfl
def Et{a b:Nat}(C:a<16)(hb:b<16):jS (a:Int) (b:Int)=some (gm a b:Int):=by
 have h:=gS (gS aBZ C) hb;exact eq_of_beq h
def aB4{n:Nat}(h:n<31):Ni 2 (n:Int)=some (pw n:Int):=eq_of_beq (cw.1 aB0 n (fI.2 h))
def sC{a b:Nat}(C:a<16)(hb:b<16):bits .xor .i64 (a:Int) (b:Int)=((a ^^^ b:Nat):Int):=by
 have h:=gS (gS aly C) hb;simp_all
def mR{a b:Nat}(C:a<16)(hb:b<16):a ^^^ b<16:=by
 have h:=gS (gS aly C) hb;simp_all
def aB5{a b c:Nat}(C:a<16)(hb:b<16)(D:c<16):gm (a ^^^ b) c=gm a c ^^^ gm b c:=cK (gS (gS (gS aB1 C) hb) D)
def aB6{a:Nat}(C:a<16):gm a 1=a:=by
 have h:=gS alz C;rw[aS]at h;exact cK h.1
def Uc{a:Nat}(C:a<16):gm 0 a=0:=by
 have h:=gS alz C;rw[aS]at h;exact cK h.2
abbrev bz (w:aa Nat):aa Int:=w.map λ(n:Nat)=>(n:Int)
def dY(w:aa Nat):Prop:=∀x∈w,x<16
def iB(w:aa Nat):(bz w).length=w.length:=by simp[bz]
def vb{w:aa Nat}{k:Nat}(h:k<(bz w).length):(bz w)[k]=((w.getD k 0:Nat):Int):=by grind
def dY.get{w:aa Nat}(h:dY w)(k:Nat):w.getD k 0<16:=by
 by_cases C:k<w.length
 ·simp[fA,bY C];exact h _ (cM C)
 ·simp_all
def aaw{w:aa Nat}(E:dY w)(hl:w.length<1000)(n:Int):wN (bz w) n=some ((w.length:Int)==n):=by
 unfold wN bE;have e:=wV (step:=Bf) (λi=>((bz w,n,bz w,((bz w).length),i,()),())) (z:=.inr (.inl ((bz w,n,()),()))) w.length 0 aT (λk _ C=>?_) ?_ (by unfold aT;omega)
 ·simp_all
 ·have C:k<(bz w).length:=by rw[iB];omega
  unfold Bf ax aU xG xI;dsimp only;have L:decide ((k:Int)<((bz w).length:Int))=true:=aQ;have D:0 <= (k:Int)/\(k:Int).toNat<(bz w).length:=⟨by omega,by simpa using C⟩
  rw[L,au,aA D];have O:(bz w)[(k:Int).toNat]'D.2=((w.getD k 0:Nat):Int):=vb C;rw[O];have:=E.get k;unfold sy;rw[alx (by omega) (by omega),ak,ak,BA];rfl
 ·unfold Bf ax aU xG xI;simp_all
def bT(w:aa Nat)(j:Nat):Nat->Nat
 |0=>0
 |i+1=>bT w j i ^^^ gm (w.getD i 0) (pw (i*j))
def sD(w:aa Nat)(j:Nat):∀ i,bT w j i<16
 |0=>Nat.zero_lt_succ _
 |i+1=>mR (sD w j i) (gM _ _)
def aB7{w:aa Nat}(O:dY w)(hl:w.length=11)(j:Nat)(hj:j<3)(a b:Int)(o:aa Int)(T:j<o.length)(U:o.set j 0=o):
  iter Ec aT ((bz w,(),(j:Int),a,b,bz w,((bz w).length:Int),(0:Int),()),(o,()))=some (.inl ((bz w,(),a,b,()),(o.set j (bT w j 11:Int),()))):=by
 have e:=wV (step:=Ec) (λi=>((bz w,(),(j:Int),a,b,bz w,((bz w).length:Int),(i:Int),()),(o.set j (bT w j i:Int),()))) (z:=.inl ((bz w,(),a,b,()),(o.set j (bT w j 11:Int),()))) 11 0 aT (λk _ D=>?_) ?_ (by unfold aT;omega)
 ·have e:iter Ec aT ((bz w,(),(j:Int),a,b,bz w,((bz w).length:Int),(0:Int),()),(o.set j 0,()))=_:=e;rw[U]at e;exact e
 ·have D:k<(bz w).length:=by rw[iB];omega
  unfold Ec ax xG xI xL;dsimp only;have E:decide ((k:Int)<((bz w).length:Int))=true:=aQ;have L:0<=(k:Int)/\(k:Int).toNat<(bz w).length:=⟨by omega,by simpa using D⟩
  have C:0<=(j:Int)/\(j:Int).toNat<(o.set j (bT w j k:Int)).length:=⟨by omega,by simpa using T⟩
  have Y:(bz w)[(k:Int).toNat]'L.2=((w.getD k 0:Nat):Int):=vb D;have Z:(o.set j (bT w j k:Int))[(j:Int).toNat]'C.2=(bT w j k:Int):=gA _;rw[E,au,aA L,aA C,aA C.2,Y,Z];have hkj:k*j<=20:=Nat.le_trans (Nat.mul_le_mul (show k<=10 by omega) (show j<=2 by omega)) (by decide);have c6:W6 ((k:Int)*(j:Int))=((k*j:Nat):Int):=by
   rw[<-Int.natCast_mul,aK]
  rw[c6,aB4 (by omega),ak,Et (O.get k) (va _),ak,aA C,aA C.2,sC (sD _ _ _) (gM _ _),BA];have c7:(o.set j (bT w j k:Int)).set (j:Int).toNat ((bT w j k ^^^ gm (w.getD k 0) (pw (k*j)):Nat):Int)=o.set j (bT w j (k+1):Int):=gU ..;rw[c7]
 ·unfold Ec ax xG xI xL;dsimp only;have E:decide (((0+11:Nat):Int)<((bz w).length:Int))=false:=aR (by rw[iB];omega);rw[E,aq]
def tH(w:aa Nat):Nat->aa Int
 |0=>[0,0,0]
 |1=>[(bT w 0 11:Int),0,0]
 |2=>[(bT w 0 11:Int),(bT w 1 11:Int),0]
 |_=>[(bT w 0 11:Int),(bT w 1 11:Int),(bT w 2 11:Int)]
def aax{w:aa Nat}(D:dY w)(hl:w.length=11):Bl (bz w)=some [(bT w 0 11:Int),(bT w 1 11:Int),(bT w 2 11:Int)]:=by
 unfold Bl bh;have c0:((w.length:Int)==(11:Int))=true:=by rw[hl];rfl
 rw[aaw D (by omega),c0,ak];have e:=wV (step:=Hj) (λj=>((bz w,(),(3:Int),(j:Int),()),(tH w j,()))) (z:=.inl (((),()),(tH w 3,()))) 3 0 aT (λk _ L=>?_) ?_ (by unfold aT;omega)
 ·have e:iter Hj aT ((bz w,(),((List.replicate (3:Int).toNat (0:Int)).length:Int),(0:Int),()),(List.replicate (3:Int).toNat (0:Int),()))=_:=e;rw[show (!true)=false from rfl,aq,bJ (by decide),e];rfl
 ·unfold Hj ax xG bh;dsimp only;have E:decide ((k:Int)<(3:Int))=true:=aQ;have C:tH w k=(tH w k).set k 0/\k<(tH w k).length/\(tH w k).set k (bT w k 11:Int)=tH w (k+1):=by
   have:k=0\/k=1\/k=2:=by omega
   rcases this with rfl|rfl|rfl
   ·exact⟨rfl,by simp[tH],rfl⟩
   ·exact⟨rfl,by simp[tH],rfl⟩
   ·exact⟨rfl,by simp[tH],rfl⟩
  rw[E,au,aB7 D hl k (by omega) (3:Int) (k:Int) (tH w k) C.2.1 C.1.symm,C.2.2];show some (Sum.inl ((bz w,(),(3:Int),W6 ((k:Int)+1),()),(tH w (k+1),())))=_;rw[BA]
 ·unfold Hj ax xG bh;dsimp only;rfl
def aB8{w:aa Nat}(C:dY w)(hl:w.length=11):Tc (bz w)=some (Nat.beq (bT w 0 11) 0&&(Nat.beq (bT w 1 11) 0&&Nat.beq (bT w 2 11) 0)):=by
 unfold Tc xL;rw[aax C hl,ak];generalize bT w 0 11=a;generalize bT w 1 11=b;generalize bT w 2 11=c;have q:∀ n:Nat,((n:Int)==(0:Int))=Nat.beq n 0:=by
  intro n;cases n with
  |zero=>rfl
  |succ n=>rfl
 show (bif ((a:Int)==(0:Int))then (bif ((b:Int)==(0:Int))then some ((c:Int)==(0:Int))else some false)else some false)=_
 grind
def aB9(C D E:Nat)(L:C<16)(O:D<16)(T:E<16):
  (λy z=>(λx=>(gm x 1 ^^^ (gm y 1 ^^^ (gm z 1 ^^^ C)))=0/\(gm x 1 ^^^ (gm y 2 ^^^ (gm z 4 ^^^ D)))=0/\(gm x 1 ^^^ (gm y 4 ^^^ (gm z 3 ^^^ E)))=0) (C ^^^ y ^^^ z))
   (gm (gm 2 (C ^^^ D) ^^^ gm 5 (C ^^^ E)) 13) (gm (gm 3 (C ^^^ E) ^^^ gm 5 (C ^^^ D)) 13):=by
 have h:=gS (gS (gS aB2 L) O) T;simp_all
def aCa{d:aa Nat}(U:dY d)(hl:d.length=8):∃ w,NK (bz d)=some (bz w)/\w.length=11/\dY w/\w.drop 3=d/\bT w 0 11=0/\bT w 1 11=0/\bT w 2 11=0:=by
 have Z:dY (0 :: 0 :: 0 :: d):=by
  intro x hx;simp only[iG]at hx;rcases hx with rfl|rfl|rfl|hx
  ·decide
  ·decide
  ·decide
  ·exact U x hx
 have key:∀ j x y z,j<3->x<16->y<16->z<16->bT (x :: y :: z :: d) j 11=gm x (pw (0*j)) ^^^ (gm y (pw (1*j)) ^^^ (gm z (pw (2*j)) ^^^ bT (0 :: 0 :: 0 :: d) j 11)):=by
  intro j x y z hj hx hy Z;simp only[bT,List.getD_cons_zero,List.getD_cons_succ,Nat.xor_assoc,Nat.zero_xor,Uc (va _)]
 have e0:∀ C E L:Nat,C<16->E<16->L<16->Bl (bz (0 :: 0 :: 0 :: d))=some [(C:Int),(E:Int),(L:Int)]->
   NK (bz d)=some (bz ((C ^^^ gm (gm 2 (C ^^^ E) ^^^ gm 5 (C ^^^ L)) 13 ^^^ gm (gm 3 (C ^^^ L) ^^^ gm 5 (C ^^^ E)) 13)::gm (gm 2 (C ^^^ E) ^^^ gm 5 (C ^^^ L)) 13::gm (gm 3 (C ^^^ L) ^^^ gm 5 (C ^^^ E)) 13::d)):=by
  intro C E L D O T hs;unfold NK xL;have c0:((d.length:Int)==(8:Int))=true:=by rw[hl];rfl
  have c1:bI ((List.replicate (3:Int).toNat (0:Int)).length+(bz d).length)=true:=by
   rw[iB,hl];rfl
  rw[aaw U (by omega),ak,c0,show (!true)=false from rfl,aq,bJ (by decide),c1,au];have Y:Bl (List.replicate (3:Int).toNat (0:Int)++bz d)=some [(C:Int),(E:Int),(L:Int)]:=hs;rw[Y,ak];show (Ed (4:Int)).bind (λjo=>(jS (2:Int) (bits .xor .i64 (C:Int) (E:Int))).bind λnH=>(jS (5:Int) (bits .xor .i64 (C:Int) (L:Int))).bind λjB=>(jS (bits .xor .i64 nH jB) jo).bind λov=>(jS (3:Int) (bits .xor .i64 (C:Int) (L:Int))).bind λkz=>(jS (5:Int) (bits .xor .i64 (C:Int) (E:Int))).bind λq6=>(jS (bits .xor .i64 kz q6) jo).bind λqm=>some (bits .xor .i64 (bits .xor .i64 (C:Int) ov) qm::ov::qm::bz d))=_;have m2:∀b:Nat,b<16->jS (2:Int) (b:Int)=some (gm 2 b:Int):=λb hb=>Et (a:=2) (by decide) hb
  have m3:∀b:Nat,b<16->jS (3:Int) (b:Int)=some (gm 3 b:Int):=λb hb=>Et (a:=3) (by decide) hb
  have m5:∀b:Nat,b<16->jS (5:Int) (b:Int)=some (gm 5 b:Int):=λb hb=>Et (a:=5) (by decide) hb
  have HL:∀b:Nat,b<16->jS (b:Int) (13:Int)=some (gm b 13:Int):=λb hb=>Et (b:=13) hb (by decide)
  rw[aB3,ak,sC D O,sC D T,m2 _ (mR D O),ak,m5 _ (mR D T),ak,sC (gM _ _) (gM _ _),HL _ (mR (gM _ _) (gM _ _)),ak,m3 _ (mR D T),ak,m5 _ (mR D O),ak,sC (gM _ _) (gM _ _),HL _ (mR (gM _ _) (gM _ _)),ak,sC D (gM _ _),sC (mR D (gM _ _)) (gM _ _)];rfl
 have D:=sD (0::0::0::d) 0 11;have O:=sD (0::0::0::d) 1 11;have T:=sD (0::0::0::d) 2 11;have Y:=e0 _ _ _ D O T (aax Z (by simp[hl]));have f:=aB9 _ _ _ D O T;dsimp only at f;refine⟨_,Y,by simp[hl],?_,rfl,?_,?_,?_⟩
 ·intro x hx;simp only[iG]at hx;rcases hx with rfl | rfl | rfl | hx
  ·exact mR (mR D (gM _ _)) (gM _ _)
  ·exact gM _ _
  ·exact gM _ _
  ·exact U x hx
 ·rw[key 0 _ _ _ (by decide) (mR (mR D (gM _ _)) (gM _ _)) (gM _ _) (gM _ _)];exact f.1
 ·rw[key 1 _ _ _ (by decide) (mR (mR D (gM _ _)) (gM _ _)) (gM _ _) (gM _ _)];exact f.2.1
 ·rw[key 2 _ _ _ (by decide) (mR (mR D (gM _ _)) (gM _ _)) (gM _ _) (gM _ _)];exact f.2.2
def alA{w:aa Nat}(C:dY w){k e:Nat}(D:e<16)(L:k<w.length)(j:Nat):∀ i,bT (w.set k (w.getD k 0 ^^^ e)) j i=if i <= k then bT w j i else bT w j i ^^^ gm e (pw (k*j))
 |0=>by rw[bJ (fz _)];rfl
 | i+1=>by
  have O:=alA C D L j i;have T:(w.set k (w.getD k 0 ^^^ e)).getD i 0=if i=k then w.getD k 0 ^^^ e else w.getD i 0:=by
   grind
  show bT _ j i ^^^ gm _ (pw (i*j))=_;rw[O,T];by_cases U:i<k
  ·rw[bJ,bQ,bJ];rfl
  ·by_cases E:i=k
   ·subst E;rw[bJ (dW _),bJ rfl,bQ,aB5 (C.get _) D (va _),<- Nat.xor_assoc];rfl
   ·rw[bQ,bQ E,bQ];show _=bT w j i ^^^ gm _ _ ^^^ gm e _
    grind
def dY.set{w:aa Nat}(h:dY w){k v:Nat}(D:v<16):dY (w.set k v):=by
 intro x C;rcases List.mem_or_eq_of_mem_set C with C|rfl
 ·exact h x C
 ·exact D
def ivT:Nat:=9460475325918865680
def iv(a:Nat):Nat:=(ivT / 2 ^ (4*a)) % 16
def aCb(a:Nat):iv a<16:=Nat.mod_lt _ (by decide)
def aCc:(jC λa=>Nat.beq a 0 ||Ed (Int.ofNat a)==some (Int.ofNat (iv a)))=true:=by kernel_rfl
def pg:aa Nat:=[8,14,7,1]
def aCd:((List.range 8).all λm=>jC λf=>(List.range 3).all λj=>
  Nat.beq (gm (gm 8 f) (pw (m*j)) ^^^ (gm (gm 14 f) (pw ((m+1)*j)) ^^^ (gm (gm 7 f) (pw ((m+2)*j)) ^^^ gm f (pw ((m+3)*j))))) 0)=true:=by kernel_rfl
def aCe:(jC λa=>jC λb=>uR (Int.ofNat a) (Int.ofNat b)==some (Int.ofNat (gm a b)))=true:=by kernel_rfl
def N2{a b:Nat}(C:a<16)(hb:b<16):uR (a:Int) (b:Int)=some (gm a b:Int):=by
 have h:=gS (gS aCe C) hb;exact eq_of_beq h
def alB(W:aa Int):iter Zx aT (((),(),(1:Int),()),(W,([(1:Int),(1:Int)]:aa Int),()))=some (.inl (((),(),()),(W,bz pg,()))):=by kernel_rfl
def alC{w:aa Nat}(E:dY w)(hl:w.length<1000)(n:Int):wL (bz w) n=some ((w.length:Int)==n):=by
 unfold wL bE;have e:=wV (step:=AZ) (λi=>((bz w,n,i,()),())) (z:=.inr (.inl ((bz w,n,()),()))) w.length 0 aT (λk _ C=>?_) ?_ (by unfold aT;omega)
 ·simp_all
 ·have C:k<(bz w).length:=by rw[iB];omega
  unfold AZ ax aU xG xI;dsimp only;have L:decide ((k:Int)<((bz w).length:Int))=true:=aQ;have D:0 <= (k:Int)/\(k:Int).toNat<(bz w).length:=⟨by omega,by simpa using C⟩
  rw[L,au,aA D];have O:(bz w)[(k:Int).toNat]'D.2=((w.getD k 0:Nat):Int):=vb C;rw[O];have:=E.get k;unfold yO;rw[aBY (by omega) (by omega),ak,ak,BA];rfl
 ·unfold AZ ax aU xG xI;simp_all
def vc(k:Nat):Nat:=pg.getD k 0
def aCf(k:Nat):vc k<16:=by
 have:dY pg:=by
  intro x C;simp[pg,iG,List.not_mem_nil,or_false]at C;omega
 exact this.get k
def lQ(r:aa Nat)(m f:Nat):Nat->aa Nat
 |0=>r
 |k+1=>(lQ r m f k).set (m+k) ((lQ r m f k).getD (m+k) 0 ^^^ gm (vc k) f)
def N3(r:aa Nat)(m f:Nat):∀ k,(lQ r m f k).length=r.length
 |0=>rfl
 |k+1=>by show (List.set _ _ _).length=_;rw[eM,N3]
def N4{r:aa Nat}(C:dY r)(m f:Nat):∀ k,dY (lQ r m f k)
 |0=>C
 |k+1=>(N4 C m f k).set (mR ((N4 C m f k).get _) (gM _ _))
def Ud(w:aa Nat)(k v:Nat):(bz w).set k (v:Int)=bz (w.set k v):=(List.map_set ..).symm
def aCg{r:aa Nat}(T:dY r)(hl:r.length=11){m f:Nat}(hm:m<8)(U:f<16)(W:aa Int):
  iter Gu aT (((),(),(),((m+3:Nat):Int),(f:Int),(0:Int),()),(W,bz pg,bz r,()))=some (.inl (((),(),(),((m+3:Nat):Int),()),(W,bz pg,bz (lQ r m f 4),()))):=by
 have e:=wV (step:=Gu) (λk=>(((),(),(),((m+3:Nat):Int),(f:Int),(k:Int),()),(W,bz pg,bz (lQ r m f k),()))) (z:=.inl (((),(),(),((m+3:Nat):Int),()),(W,bz pg,bz (lQ r m f 4),()))) 4 0 aT (λk _ hk=>?_) ?_ (by unfold aT;omega)
 ·exact e
 ·unfold Gu ax xG xL;dsimp only;have D:decide ((k:Int)<((bz pg).length:Int))=true:=aQ (by show (k:Int)<4;omega);have Y:W6 (W6 (((m+3:Nat):Int)-3)+(k:Int))=((m+k:Nat):Int):=by
   rw[aK (n:=((m+3:Nat):Int)-3),aK];omega
  have L:m+k<(bz (lQ r m f k)).length:=by rw[iB,N3,hl];omega
  have C:0<=((m+k:Nat):Int)/\((m+k:Nat):Int).toNat<(bz (lQ r m f k)).length:=⟨by omega,L⟩
  have O:k<(bz pg).length:=by show k<4;omega
  have E:0<=(k:Int)/\(k:Int).toNat<(bz pg).length:=⟨by omega,O⟩
  have Z:(bz (lQ r m f k))[((m+k:Nat):Int).toNat]'C.2=(((lQ r m f k).getD (m+k) 0:Nat):Int):=vb L;have c6:(bz pg)[(k:Int).toNat]'E.2=((vc k:Nat):Int):=vb O;rw[D,au];simp only[Y];rw[aA C,aA C.2];rw[aA E,aA E.2,c6,N2 (aCf k) U,ak,aA C,aA C.2,Z,sC ((N4 T m f k).get _) (gM _ _),BA];have c7:(bz (lQ r m f k)).set ((m+k:Nat):Int).toNat (((lQ r m f k).getD (m+k) 0 ^^^ gm (vc k) f:Nat):Int)=bz (lQ r m f (k+1)):=Ud _ _ _;rw[c7]
 ·unfold Gu ax xG xL;dsimp only;have D:decide (((0+4:Nat):Int)<((bz pg).length:Int))=false:=rfl;rw[D,aq]
def out(r:aa Nat):Nat->aa Nat
 |0=>r
 |t+1=>lQ (out r t) (7-t) ((out r t).getD (10-t) 0) 4
def Eu(r:aa Nat):∀ t,(out r t).length=r.length
 |0=>rfl
 |t+1=>by show (lQ _ _ _ _).length=_;rw[N3,Eu]
def Ev{r:aa Nat}(C:dY r):∀ t,dY (out r t)
 |0=>C
 |t+1=>N4 (Ev C t) _ _ _
def alD{r:aa Nat}(D:dY r)(hl:r.length=11)(W:aa Int):
  iter Gw aT (((),(),(),(10:Int),()),(W,bz pg,bz r,()))=some (.inl (((),(),()),(W,bz (out r 8),()))):=by
 have e:=wV (step:=Gw) (λt=>(((),(),(),(10:Int)-(t:Int),()),(W,bz pg,bz (out r t),()))) (z:=.inl (((),(),()),(W,bz (out r 8),()))) 8 0 aT (λt _ T=>?_) ?_ (by unfold aT;omega)
 ·exact e
 ·unfold Gw ax xG bh xL;dsimp only;have hi:(10:Int)-(t:Int)=((7-t+3:Nat):Int):=by omega
  have L:decide ((10:Int)-(t:Int) >= 3)=true:=aQ;have E:7-t+3<(bz (out r t)).length:=by rw[iB,Eu,hl];omega
  have C:0<=((7-t+3:Nat):Int)/\((7-t+3:Nat):Int).toNat<(bz (out r t)).length:=⟨by omega,E⟩
  have O:(bz (out r t))[((7-t+3:Nat):Int).toNat]'C.2=(((out r t).getD (10-t) 0:Nat):Int):=(vb E).trans (by rw[show 7-t+3=10-t by omega]);rw[L,au];simp only[hi];rw[aA C,aA C.2,O,aCg (Ev D t) (by rw[Eu,hl]) (by omega) ((Ev D t).get _)];show some (Sum.inl (((),(),(),W6 (((7-t+3:Nat):Int)-1),()),(W,bz pg,bz (out r (t+1)),())))=_;rw[aK,show ((7-t+3:Nat):Int)-1=10-((t+1:Nat):Int) by omega]
 ·unfold Gw ax xG bh xL;dsimp only;rfl
def aCh:(jC λa=>Nat.beq (gm 1 a) a)=true:=by kernel_rfl
def alE{a:Nat}(C:a<16):gm 1 a=a:=cK (gS aCh C)
def alF{r:aa Nat}(C:dY r)(hl:r.length=11){k e:Nat}(D:e<16)(E:k<11)(j:Nat):bT (r.set k (r.getD k 0 ^^^ e)) j 11=bT r j 11 ^^^ gm e (pw (k*j)):=by
 rw[alA C D (by omega) j 11,bQ]
def aCi{r:aa Nat}(D:dY r)(hl:r.length=11){m f j:Nat}(E:m<8)(C:f<16)(L:j<3):bT (lQ r m f 4) j 11=bT r j 11:=by
 have st:∀ k,k<4 -> bT (lQ r m f (k+1)) j 11=bT _ j 11 ^^^ gm _ _:=λk T=>
  alF (N4 D m f k) (by rw[N3,hl]) (gM _ _) (by omega) j
 have h:=cw.1 (gS (cw.1 aCd m (fI.2 E)) C) j (fI.2 L);have h:gm (gm (vc 0) f) (pw ((m+0)*j)) ^^^ (gm (gm (vc 1) f) (pw ((m+1)*j)) ^^^ (gm (gm (vc 2) f) (pw ((m+2)*j)) ^^^ gm (gm (vc 3) f) (pw ((m+3)*j))))=0:=by
  have O:gm (vc 3) f=f:=alE C;rw[O];exact cK h
 rw[st 3 (by decide),st 2 (by decide),st 1 (by decide),st 0 (by decide),Nat.xor_assoc,Nat.xor_assoc,Nat.xor_assoc,h,Nat.xor_zero];rfl
def alG{r:aa Nat}(C:dY r)(hl:r.length=11){j:Nat}(D:j<3):∀ t,t<=8->bT (out r t) j 11=bT r j 11
 |0,_=>rfl
 |t+1,E=>(aCi (Ev C t) (by rw[Eu,hl]) (by omega) ((Ev C t).get _) D).trans (alG C hl D t (by omega))
def alH(r:aa Nat)(k v n:Nat):(r.set k v).getD n 0=if n=k/\k<r.length then v else r.getD n 0:=by grind
def aay(r:aa Nat)(m f:Nat):∀ k n,m+k<=n->(lQ r m f k).getD n 0=r.getD n 0
 |0,n,_=>rfl
 | k+1,n,h=>by
  show (List.set _ _ _).getD n 0=_;rw[alH,bQ,aay r m f k n (by omega)]
def aCj{r:aa Nat}{m f:Nat}(h:m+3<r.length):(lQ r m f 4).getD (m+3) 0=r.getD (m+3) 0 ^^^ gm (vc 3) f:=by
 show (List.set _ _ _).getD _ 0=_;rw[alH,bJ ⟨rfl,by rw[N3];exact h⟩,aay r m f 3 _ (dW _)]
def alI{r:aa Nat}(C:dY r)(hl:r.length=11):∀ t,t <= 8 -> ∀ n,10-t<n -> n<11 -> (out r t).getD n 0=0
 |0,_,n,h,D=>by omega
 | t+1,L,n,h,D=>by
  show (lQ _ _ _ 4).getD n 0=0;by_cases E:n=10-t
  ·have e:n=7-t+3:=by omega
   subst e;rw[aCj (by rw[Eu];omega),<- E];have:gm (vc 3) _=(out r t).getD (7-t+3) 0:=alE ((Ev C t).get _);simp_all
  ·rw[aay _ _ _ 4 n (by omega)];exact alI C hl t (by omega) n (by omega) D
def rm(w r:aa Nat):Nat->aa Nat
 |0=>w
 |k+1=>(rm w r k).set k (r.getD k 0)
def aaz(w r:aa Nat):∀ k,(rm w r k).length=w.length
 |0=>rfl
 |k+1=>by show (List.set _ _ _).length=_;rw[eM,aaz]
def alJ{w r:aa Nat}(Y:w.length=11)(Z:r.length=11):
  iter LD aT (((),(),(0:Int),()),(bz w,bz r,()))=some (.inl (((),()),(bz (rm w r 3),()))):=by
 have e:=wV (step:=LD) (λi=>(((),(),i,()),(bz (rm w r i),bz r,()))) (z:=.inl (((),()),(bz (rm w r 3),()))) 3 0 aT (λk _ hk=>?_) ?_ (by unfold aT;omega)
 ·exact e
 ·unfold LD ax xG xL;dsimp only;have L:decide ((k:Int)<(3:Int))=true:=aQ;have D:k<(bz r).length:=by rw[iB];omega
  have O:k<(bz (rm w r k)).length:=by rw[iB,aaz];omega
  have C:0 <= (k:Int)/\(k:Int).toNat<(bz r).length:=⟨by omega,D⟩
  have E:0 <= (k:Int)/\(k:Int).toNat<(bz (rm w r k)).length:=⟨by omega,O⟩
  have T:(bz r)[(k:Int).toNat]'C.2=((r.getD k 0:Nat):Int):=vb D;rw[L,au,aA C,aA C.2,T,aA E,aA E.2,BA];have U:(bz (rm w r k)).set (k:Int).toNat ((r.getD k 0:Nat):Int)=bz (rm w r (k+1)):=Ud _ _ _;rw[U]
 ·rfl
def aCk{d:aa Nat}(T:dY d)(hl:d.length=8):∃ w,A0 (bz d)=some (bz w)/\w.length=11/\dY w/\bT w 0 11=0/\bT w 1 11=0/\bT w 2 11=0:=by
 have D:dY (0 :: 0 :: 0 :: d):=by
  intro x hx;simp only[iG]at hx;rcases hx with rfl|rfl|rfl|hx
  ·decide
  ·decide
  ·decide
  ·exact T x hx
 have C:(0::0::0::d).length=11:=by simp[hl]
 have U:A0 (bz d)=some (bz (rm (0 :: 0 :: 0 :: d) (out (0 :: 0 :: 0 :: d) 8) 3)):=by
  unfold A0 xA bh xZ;have c0:((d.length:Int)==(8:Int))=true:=by rw[hl];rfl
  have Y:bI ((List.replicate (3:Int).toNat (0:Int)).length+(bz d).length)=true:=by
   rw[iB,hl];rfl
  have Z:bI (([]:aa Int).length+(bz (0 :: 0 :: 0 :: d)).length)=true:=by
   rw[iB,C];rfl
  have c3:W6 (((bz (0 :: 0 :: 0 :: d)).length:Int)-(1:Int))=10:=by
   rw[iB,C];rfl
  have eW:List.replicate (3:Int).toNat (0:Int)++bz d=bz (0::0::0::d):=rfl;rw[alC T (by omega),ak,c0,show (!true)=false from rfl,aq,bJ (by decide),Y,au,eW,alB,ak,eC];dsimp only;rw[jX,Z,au,c3,alD D C,ak,eC];dsimp only;rw[alJ C (by rw[Eu,C]),ak,eC]
 have E:=Ev D 8;have L:∀ j,j<3->bT (rm (0 :: 0 :: 0 :: d) (out (0 :: 0 :: 0 :: d) 8) 3) j 11=0:=by
  intro j hj;have O:=alG D C hj 8 (dW _);have z:=alI D C 8 (dW _);revert O z;generalize out (0 :: 0 :: 0 :: d) 8=r;intro O z;have h2:bT (rm (0 :: 0 :: 0 :: d) r 3) j 11=gm (r.getD 0 0) (pw (0*j)) ^^^ (gm (r.getD 1 0) (pw (1*j)) ^^^ (gm (r.getD 2 0) (pw (2*j)) ^^^ bT (0 :: 0 :: 0 :: d) j 11)):=by
   show bT (r.getD 0 0::r.getD 1 0::r.getD 2 0::d) j 11=_;simp only[bT,List.getD_cons_zero,List.getD_cons_succ,Nat.xor_assoc,Nat.zero_xor,Uc (va _)]
  have h3:bT r j 11=gm (r.getD 0 0) (pw (0*j)) ^^^ (gm (r.getD 1 0) (pw (1*j)) ^^^ gm (r.getD 2 0) (pw (2*j))):=by
   simp only[bT,z 3 (by decide) (by decide),z 4 (by decide) (by decide),z 5 (by decide) (by decide),z 6 (by decide) (by decide),z 7 (by decide) (by decide),z 8 (by decide) (by decide),z 9 (by decide) (by decide),z 10 (by decide) (by decide),Nat.xor_assoc,Nat.zero_xor,Nat.xor_zero,Uc (va _)]
  rw[h2,<-O,h3,<-Nat.xor_assoc (gm (r.getD 1 0) _) (gm (r.getD 2 0) _),<-Nat.xor_assoc (gm (r.getD 0 0) _),Nat.xor_self]
 refine⟨_,U,by rw[aaz,C],?_,L 0 (by decide),L 1 (by decide),L 2 (by decide)⟩;exact((D.set (E.get _)).set (E.get _)).set (E.get _)
def wW(s:Int):Bool:=aM s 0 15
def tJ(l:aa Int)(n:Int):Bool:=l.all wW&&decide ((l.length:Int)=n)
def alK(l:aa Int)(n:Int)(hl:l.length<1073741824):wN l n=some (tJ l n):=by
 unfold wN tJ bE;have e:=ia (step:=Bf) l wW (λi=>((l,n,l,l.length,i,()),())) _ (.inr (.inl ((l,n,()),()))) aT (λk h=>by
  unfold Bf sy ax aU xG xI;simp (disch:=omega) [h,bA,cW,wW];cases aM l[k] 0 15<;>rfl) (by unfold Bf ax aU xG xI;simp) (bH hl)
 rw[cm]at e;rw[e];cases l.all wW<;>simp;rfl
def Ue(l:aa Int)(n:Int)(hl:l.length<1073741824):wL l n=some (tJ l n):=by
 unfold wL tJ bE;have e:=ia (step:=AZ) l wW (λi=>((l,n,i,()),())) _ (.inr (.inl ((l,n,()),()))) aT (λk h=>by
  unfold AZ yO ax aU xG xI;simp (disch:=omega) [h,bA,eS,wW];cases aM l[k] 0 15<;>rfl) (by unfold AZ ax aU xG xI;simp) (bH hl)
 rw[cm]at e;rw[e];cases l.all wW<;>simp;rfl
def Sy(l:aa Int):Prop:=l.length=11/\∀s∈l,0<=s/\s<=15
def Sy.ok{l:aa Int}(h:Sy l):tJ l 11=true:=by
 simp[tJ,aS,cw,wW,bB];exact⟨λx C=>h.2 x C,by rw[h.1];rfl⟩
def Sy.of{l:aa Int}(h:tJ l 11=true):Sy l:=by
 simp[tJ,aS,cw,iN,wW,bB]at h;exact⟨by omega,h.1⟩
def aaA{a b:Int}(E:0 <= a/\a <= 15)(hb:0 <= b/\b <= 15):0 <= bits .xor .i64 a b/\bits .xor .i64 a b <= 15/\bits .xor .i64 (bits .xor .i64 a b) b=a:=by
 obtain⟨x,rfl⟩:=eD E.1;obtain⟨y,rfl⟩:=eD hb.1;have D:x<16:=by omega
 have C:y<16:=by omega
 have:=mR D C;rw[sC D C];rw[sC this C]
 grind
def Sy.set{l:aa Int}(h:Sy l){k:Nat}{v:Int}(D:0<=v/\v<=15):Sy (l.set k v):=by
 refine⟨by simp[h.1],λs C=>?_⟩
 rcases List.mem_or_eq_of_mem_set C with C|rfl
 ·exact h.2 s C
 ·exact D
def Sy.get{l:aa Int}(h:Sy l){k:Nat}(C:k<l.length):0<=l[k]/\l[k]<=15:=h.2 _ (cM C)
structure dO (g:aL) (B:Int) (a:cN):Prop where
 cells:(a.cells.length:Int)=eI g
 syms:∀c∈a.cells,Sy c.symbols
 bD:(a.bD.length:Int)=gj g
 bC:(a.bC.length:Int)=gj g
 BB:∀x∈a.bD,0<=x/\x<=B
 jg:∀x∈a.bC,0<=x/\x<=100000
def aaB(c:bN)(h:c.symbols.length<1073741824):MK c=some c:=by
 unfold MK xA xZ;simp[bI,h]
def alL(c:bN)(h:c.symbols.length<1073741824):Lb c=some c:=by
 unfold Lb xA xZ;simp[bI,h]
def alM(a:cN)(T:a.cells.length<1073741823)(C:a.bD.length<1073741824)(D:a.bC.length<1073741824)(E:∀ c∈a.cells,c.symbols.length<1073741824):D1 a=some a:=by
 unfold D1 xA bh xZ;have e:=cv (step:=ML) a.cells.length (λi=>(((),(),a.cells,(a.cells.length:Int),(i:Int),()),(((),(),(),()),((),(),(),()),([]:aa bN),([]:aa Int),([]:aa Int),a.cells.take i,(([]:aa Int)++a.bD),(([]:aa Int)++a.bC),())))
  (.inl (((),(),()),(((),(),(),()),((),(),(),()),([]:aa bN),([]:aa Int),([]:aa Int),a.cells,(([]:aa Int)++a.bD),(([]:aa Int)++a.bC),()))) aT (λk h=>by
  unfold ML ax xG xI;have L:min k a.cells.length=k:=by omega
  have O:bI (k+1)=true:=cD;simp (disch:=omega) [h,bA,aaB _ (E _ (cM h)),L,O]) (by unfold ML ax xG xI;simp) (bH)
 rw[cm,List.take_zero]at e;rw[e];simp[bI,C,D]
def aCl(a:cN)(T:a.cells.length<1073741823)(C:a.bD.length<1073741824)(D:a.bC.length<1073741824)(E:∀ c∈a.cells,c.symbols.length<1073741824):Rx a=some a:=by
 unfold Rx xA bh xZ;have e:=cv (step:=Lc) a.cells.length (λi=>(((),(),(),(i:Int),()),((a.cells,a.bD,a.bC,()),((),(),(),()),((),(),(),()),([]:aa bN),([]:aa Int),([]:aa Int),a.cells.take i,(([]:aa Int)++a.bD),(([]:aa Int)++a.bC),())))
  (.inl (((),(),()),(((),(),(),()),((),(),(),()),([]:aa bN),([]:aa Int),([]:aa Int),a.cells,(([]:aa Int)++a.bD),(([]:aa Int)++a.bC),()))) aT (λk h=>by
  unfold Lc ax xG xI;have L:min k a.cells.length=k:=by omega
  have O:bI (k+1)=true:=cD;simp (disch:=omega) [h,bA,alL _ (E _ (cM h)),L,O]) (by unfold Lc ax xG xI;simp) (bH)
 rw[cm,List.take_zero]at e;rw[e];simp[bI,C,D]
def dO.lens{g:aL}{B:Int}{a:cN}(h:dO g B a):a.cells.length<1073741823/\a.bD.length<1073741824/\a.bC.length<1073741824/\∀ c∈a.cells,c.symbols.length<1073741824:=by
 have D:=h.cells;have E:=h.bD;have L:=h.bC;have O:=kX g;have T:=oA g;exact⟨by omega,by omega,by omega,λc C=>by rw[(h.syms c C).1];omega⟩
def dO.copy{g:aL}{B:Int}{a:cN}(h:dO g B a):D1 a=some a:=
 let ⟨C,D,E,L⟩:=h.lens;alM a C D E L
def N5(c:bN):Bool:=tJ c.symbols 11
def zq(p:Int×Int):Bool:=aM p.1 0 100000&&aM p.2 0 100000
def kY(g:aL)(a:cN):Bool:=cA g&&(decide ((a.cells.length:Int)=eI g)&&(decide ((a.bD.length:Int)=gj g)&&(decide ((a.bC.length:Int)=gj g)&&(a.cells.all N5&&(a.bD.zip a.bC).all zq))))
def alN(g:aL)(a:cN)(L:∀ c∈a.cells,c.symbols.length<1073741824):D4 g a=some (kY g a):=by
 unfold D4 kY bE;rw[kW,ak,tG,ak,wS];cases O:cA g with
 |false=>rfl
 | true=>
  have Y:=kX g;have Z:=oA g;have er:aY g*g.rows=gj g:=by simp[gj,O]
  simp only[bg,aq,ak,cC,er];rw[aK];by_cases C:(a.cells.length:Int)=eI g
  ·by_cases D:(a.bD.length:Int)=gj g
   ·by_cases E:(a.bC.length:Int)=gj g
    ·have hl:a.bD.length=a.bC.length:=by omega
     have l1:=ia (step:=MY) a.cells N5 (λi=>(((),a.cells,(a.cells.length:Int),(i:Int),()),((a.cells,a.bD,a.bC,()),()))) (.inl ((false,()),())) (.inr (.inl (((),()),((a.cells,a.bD,a.bC,()),())))) aT (λk h=>by
      unfold MY ax aU xG xI;simp (disch:=omega) [h,bA,alK _ 11 (L _ (cM h)),N5];cases tJ a.cells[k].symbols 11<;>rfl) (by unfold MY ax aU xG xI;simp) (bH)
     have l2:=ia (step:=MZ) (a.bD.zip a.bC) zq (λi=>(((),(a.bD.length:Int),(i:Int),()),((a.cells,a.bD,a.bC,()),()))) (.inl ((false,()),())) (.inr (.inl ((),()))) aT (λk h=>by
      have T:k<a.bD.length:=by simp at h;omega
      have U:k<a.bC.length:=by omega
      unfold MZ ax aU xG xI;simp (disch:=omega) [T,U,bA,cW,zq];cases aM a.bD[k] 0 100000<;>cases aM a.bC[k] 0 100000<;>rfl) (by unfold MZ ax aU xG xI;simp[hl]) (bH (by simp;omega))
     rw[cm]at l1 l2;simp only[C,D,E,eN,aq,decide_true,cC];rw[<-C,l1];cases h1:a.cells.all N5 with
     |false=>simp
     | true=>
      simp only[au,Option.bind_some,Sum.elim_inr,eC];rw[l2];cases (a.bD.zip a.bC).all zq<;>simp
    ·simp[C,D,ic E,E]
   ·simp[C,ic D,D]
  ·simp[ic C,C]
def dO.ok{g:aL}{B:Int}{a:cN}(h:dO g B a)(E:cA g=true)(hB:B <= 100000):D4 g a=some true:=by
 rw[alN g a (λc C=>by rw[(h.syms c C).1];omega)];have L:=h.cells;have O:=h.bD;have T:=h.bC;have U:a.cells.all N5=true:=cw.2 λc C=>(h.syms c C).ok
 have Y:(a.bD.zip _).all zq=true:=cw.2 λp Z=>by
  obtain⟨x,y⟩:=p;have D:=List.of_mem_zip Z;have a1:=h.BB x D.1;have a2:=h.jg y D.2;simp[zq,aS,bB];omega
 simp[kY,E,L,O,T,U,Y]
def jr(g:aL):(⟨g.cg,g.aC,g.rows,g.aO⟩:aL)=g:=rfl
def nJ(n x:Int):Int:=if 100000<x+n then 100000 else x+n
def aaC(l:aa Int)(h:∀ s∈l,0 <= s/\s <= 15):bz (l.map Int.toNat)=l/\dY (l.map Int.toNat):=by
 constructor
 ·induction l with
  |nil=>rfl
  | cons x l C=>
   have D:=h x (.head _);have:=C λs E=>h s (.tail _ E)
   grind
 ·intro x D
  grind
def N6{w:aa Nat}(D:dY w)(hl:w.length=11):Sy (bz w):=by
 refine⟨by rw[iB,hl],λs C=>?_⟩
 simp at C;obtain⟨x,E,rfl⟩:=C;have:=D x E;omega
def Sy.mem{l:aa bN}(h:∀c∈l,Sy c.symbols){k:Nat}(C:k<l.length):Sy l[k].symbols:=h _ (cM C)
def Sy.ck{l:aa bN}(h:∀c∈l,Sy c.symbols){k:Nat}{d:bN}(C:Sy d.symbols):∀c∈l.set k d,Sy c.symbols:=by grind
def N7{l:aa Int}{B C:Int}(h:∀x∈l,B <= x/\x <= C){k:Nat}{v:Int}(D:B <= v/\v <= C):∀x∈l.set k v,B <= x/\x <= C:=by grind
def zu(l:jx)(a:cN)(i:Nat):Bool:=decide (a.bD.getD i 0 > l.bD) ||decide (a.bC.getD i 0 > l.bC)
def aCm(g:aL)(l:jx)(a:cN)(i:Nat)(C:i<a.bD.length)(D:i<a.bC.length):GK g l a (i:Int)=some (zu l a i):=by
 unfold GK zu xI
 grind
def aCn{l:aa Int}{B C:Int}(h:∀ x∈l,B<=x/\x<=C)(k:Nat)(D:B<=0/\0<=C):B<=l.getD k 0/\l.getD k 0<=C:=by
 rw[fA];cases E:l[k]? with
 |none=>exact D
 |some x=>exact h x (iq E)
def aaD{x:Int}(h:0<=x/\x<=100000){n:Int}(C:0<=n):0<=nJ n x/\nJ n x<=100000:=by
 unfold nJ;split<;>omega
def qq(k:Nat)(h:aa Int):aa Int:=h.set k (nJ 1 (h.getD k 0))
def N8(k:Nat)(h:aa Int):(qq k h).length=h.length:=by simp[qq]
def Uf{k:Nat}{h:aa Int}(hb:∀ x∈h,0<=x/\x<=100000):∀ x∈qq k h,0<=x/\x<=100000:=
 N7 hb (aaD (aCn hb k ⟨by omega,by omega⟩) (by omega))
def aaE{k:Nat}{h:aa Int}(C:k<h.length):qq k h=h.set k (nJ 1 h[k]):=by
 unfold qq;rw[fA,bY C];rfl
def BE(row:Int)(i:Nat)(h:aa Int):aa Int:=bif decide (0<row)then qq (i-1) (h.set i 0)else h.set i 0
def wX(R row:Int)(i:Nat)(h:aa Int):aa Int:=bif decide (row<R-1)then qq (i+1) (BE row i h)else BE row i h
def aCo(row:Int)(i:Nat)(h:aa Int):(BE row i h).length=h.length:=by
 unfold BE;cases decide (0<row)<;>simp[N8]
def aCp(R row:Int)(i:Nat)(h:aa Int):(wX R row i h).length=h.length:=by
 unfold wX;cases decide (row<R-1)<;>simp[N8,aCo]
def aCq{row:Int}{i:Nat}{h:aa Int}(hb:∀ x∈h,0<=x/\x<=100000):∀ x∈BE row i h,0<=x/\x<=100000:=by
 have C:=N7 hb (k:=i) (v:=0) ⟨by omega,by omega⟩;unfold BE;cases decide (0<row)
 ·exact C
 ·exact Uf C
def aCr{R row:Int}{i:Nat}{h:aa Int}(hb:∀ x∈h,0<=x/\x<=100000):∀ x∈wX R row i h,0<=x/\x<=100000:=by
 have C:=aCq (row:=row) (i:=i) hb;unfold wX;cases decide (row<R-1)
 ·exact C
 ·exact Uf C
def Gv{C:Type}(P:C->Prop)(o:ah C):Prop:=∃y,o=some y/\P y
def Gv.pure{C:Type}{P:C->Prop}{y:C}(h:P y):Gv P (some y):=⟨y,rfl,h⟩
def Gv.bind{α C:Type}{Q:α->Prop}{P:C->Prop}{f:ah α}{g:α->ah C}(h:Gv Q f)(D:∀ y,Q y->Gv P (g y)):Gv P (f.bind g):=by
 obtain⟨y,rfl,E⟩:=h;exact D y E
def aCs(x a b:Int):Gv (λy=>y=aM x a b) (cT x a b):=⟨_,eS x a b,rfl⟩
def aCt(k:Int):Gv (λy=>y=(aM k 1 5,k==1,(k==2 || k==3))) (Si k):=by
 refine Gv.bind (aCs _ _ _) (λ_ h=>?_)
 subst h;cases h:k==2<;>exact Gv.pure (by simp)
def a15(y:Int):0<=bits .and .i64 y 15/\bits .and .i64 y 15<=15:=by
 have e:bits .and .i64 y 15=IntKind.wrap .i64 ((BitVec.ofInt 64 y &&& BitVec.ofInt 64 15).toNat:Int):=rfl;have h:(BitVec.ofInt 64 y &&& BitVec.ofInt 64 15).toNat<=15:=by
  rw[BitVec.toNat_and];exact Nat.le_trans Nat.and_le_right (by decide)
 rw[e,IntKind.wrap_i64];omega
def pn(t:dw):aa Int:=[t.kF,t.rp,t.hD,t.nT,t.kG,t.kH,t.nU,t.nW,t.jI,t.wr,t.nX,t.nY,t.qB,t.nZ,t.oK,t.xp,t.xs]
def zx(x:Int):Bool:=aM x 1 64
def js(t:dw):Bool:=(pn t).all zx&&(decide (t.kF<=t.hD)&&(decide (t.nT<=t.kG)&&(decide (t.nU<=t.nW)&&decide (t.nX<=t.nY))))
def N9(t:dw):G2 t=some (js t):=by
 unfold G2 js bE;change (iter G1 aT (((),(),((pn t).length:Int),(0:Int),()),(t,pn t,()))).bind _=_;have C:(pn t).length=17:=rfl;generalize pn t=l at *
 have e:=ia (step:=G1) l zx (λi=>(((),(),(l.length:Int),(i:Int),()),(t,l,()))) _ (.inr (.inl (((),()),(t,())))) aT (λk h=>by
  unfold G1 ax aU xG xL;simp (disch:=omega) [h,bA,cW,zx];cases aM l[k] 1 64<;>rfl) (by unfold G1 ax aU xG xL;simp) (bH)
 rw[cm]at e;rw[e];cases l.all zx<;>simp
 grind
def Ug(t:dw):DA t=some (js t):=by
 unfold DA js Zn bE;rw[ak];change (iter Gi aT (((),(),(0:Int),()),(t,pn t,()))).bind _=_;have C:(pn t).length=17:=rfl;generalize pn t=l at *
 have e:=ia (step:=Gi) l zx (λi=>(((),(),(i:Int),()),(t,l,()))) (.inl ((false,()),())) (.inr (.inl (((),()),(t,())))) aT (λk h=>by
  unfold Gi ax aU xG xL;simp (disch:=omega) [h,bA,eS,zx];cases aM l[k] 1 64<;>rfl) (by unfold Gi ax aU xG xL;simp) (bH)
 rw[cm]at e;rw[e];cases l.all zx<;>simp
 grind
def aCu(t:dw):Lh t=za t:=by
 unfold Lh za;rw[N9,Ug]
def aCv(t:dw):∃ y,za t=some y:=by
 unfold za;rw[N9];cases js t<;>exact⟨_,rfl⟩
def HM(R i:Nat):Int:=((i % R:Nat):Int)
def lR(n R:Nat):aa Int:=(List.range n).map (HM R)
def Uh(n R:Nat):(lR n R).length=n:=by simp[lR]
def aCw(n R:Nat):lR (n+1) R=lR n R++[HM R n]:=by simp[lR,List.range_succ]
def jD(g:aL)(n:Int):Bool:=cA g&&(aM n 0 2&&decide (2<=g.rows-n))
def rq(g:aL)(n:Int):c8×Bool:=bif jD g n then (⟨n,lR ((aY g).toNat*(g.rows-n).toNat) (g.rows-n).toNat⟩,true)else (⟨0,[]⟩,false)
def Oa{g:aL}{n:Int}(h:jD g n=true):cA g=true/\0 <= n/\n <= 2/\2 <= g.rows-n/\g.rows <= 16:=by
 simp[jD,aS,bB,iN]at h;have⟨C,⟨D,E⟩,L⟩:=h;have:=fN C;simp_all
def aaF(g:aL)(n:Int):Gh g n=some (rq g n):=by
 unfold Gh rq bh;rw[HJ,ak];cases D:cA g with
 |false=>simp[jD,D]
 | true=>
  simp only[bg,aq,eS,ak];cases E:aM n 0 2 with
  |false=>simp[jD,E]
  | true=>
   have rN:=bB.1 E;have gb:=fN D;simp only[bg,aq];rw[aK];by_cases L:g.rows-n<2
   ·have:decide (2<=g.rows-n)=false:=aR;rw[aQ L,au];simp[jD,this]
   ·have T:jD g n=true:=by simp[jD,D,E];omega
    rw[aR L,aq,T,au];have U:=eY g;obtain⟨C,hb⟩:=eD U.1;obtain⟨R,hR⟩:=eD (show 0<=g.rows-n by omega);have hm:C*R<=8*16:=Nat.mul_le_mul (by omega) (by omega);have hmul:W6 ((C:Int)*(R:Int))=((C*R:Nat):Int):=by
     rw[<-Int.natCast_mul];exact aK
    have O:W6 (g.rows-n)=(R:Int):=by rw[hR];exact aK
    have e:=cv (step:=Lg) (C*R) (λi=>((n,(),(),(),(i:Int),()),((g.cg,g.aC,g.rows,g.aO,()),((0:Int),(),()),(n,(),()),([]:aa Int),lR i R,())))
     (.inl (((),(),()),(((0:Int),(),()),(n,(),()),([]:aa Int),lR (C*R) R,()))) aT (λk h=>by
     unfold Lg ax xG;have Y:bI ((lR k R).length+1)=true:=cD (by rw[Uh];omega);have Z:(k:Int).tmod (R:Int)=HM R k:=by unfold HM;exact(Int.ofNat_tmod k R).symm
     dsimp only;rw[jr,q9,ak,O,hb,hmul,aQ,au,bQ,Z];simp only[List.length_cons,List.length_nil,fT];rw[Y,au,bA,aCw]) (by
     unfold Lg ax xG;dsimp only;rw[jr,q9,ak,O,hb,hmul,aR,aq]) (bH)
    rw[cm]at e
    refine(bf (λo=>Option.bind o _) e).trans ?_
    rw[hb,hR];rfl
def aCx(b R:Nat)(hR:0<R)(j:Nat)(C:j <= R):lR (b*R+j) R=lR (b*R) R++(List.range j).map (λi:Nat=>(i:Int)):=by
 unfold lR;rw[List.range_add,List.map_append,List.map_map];congr 1
 refine List.map_congr_left λi hi=>?_
 have hi:=fI.1 hi;simp only[Function.comp,HM];rw[Nat.mul_comm,Nat.mul_add_mod,Nat.mod_eq_of_lt (by omega)]
def aaG(g:aL)(n:Int):G0 g n=some (rq g n):=by
 unfold G0 rq bh;rw[tG,ak];cases C:cA g with
 |false=>simp[jD,C]
 | true=>
  simp only[bg,aq,cW,ak];cases D:aM n 0 2 with
  |false=>simp[jD,D]
  | true=>
   have Z:=bB.1 D;have gb:=fN C;simp only[bg,aq];rw[aK];by_cases L:g.rows-n<2
   ·have:decide (2<=g.rows-n)=false:=aR;rw[aQ L,au];simp[jD,this]
   ·have T:jD g n=true:=by simp[jD,C,D];omega
    rw[aR L,aq,T,au];have U:=eY g;obtain⟨E,hb⟩:=eD U.1;obtain⟨R,hR⟩:=eD (show 0<=g.rows-n by omega);have O:W6 (g.rows-n)=(R:Int):=by rw[hR];exact aK
    have inner:∀ b:Nat,b<E->iter GZ aT ((n,(),(),(),(b:Int),(0:Int),()),((g.cg,g.aC,g.rows,g.aO,()),((0:Int),(),()),(n,(),()),([]:aa Int),lR (b*R) R,()))=some (.inl ((n,(),(),(),(b:Int),()),((g.cg,g.aC,g.rows,g.aO,()),((0:Int),(),()),(n,(),()),([]:aa Int),lR ((b+1)*R) R,()))):=by
     intro b Ew;have hm:b*R<=8*16:=Nat.mul_le_mul (by omega) (by omega);have e:=cv (step:=GZ) R (λj=>((n,(),(),(),(b:Int),(j:Int),()),((g.cg,g.aC,g.rows,g.aO,()),((0:Int),(),()),(n,(),()),([]:aa Int),lR (b*R) R++(List.range j).map (λi:Nat=>(i:Int)),())))
      (.inl ((n,(),(),(),(b:Int),()),((g.cg,g.aC,g.rows,g.aO,()),((0:Int),(),()),(n,(),()),([]:aa Int),lR (b*R) R++(List.range R).map (λi:Nat=>(i:Int)),()))) aT (λk h=>by
      unfold GZ ax xG;have Y:bI ((lR (b*R) R++(List.range k).map (λi:Nat=>(i:Int))).length+1)=true:=cD (by simp[Uh];omega);dsimp only;rw[O,aQ,au];simp only[List.length_cons,List.length_nil,fT];rw[Y,au,bA,List.range_succ,List.map_append,List.append_assoc];rfl) (by
      unfold GZ ax xG;dsimp only;rw[O,aR,aq]) (bH)
     rw[cm,List.range_zero,List.map_nil,List.append_nil]at e;rw[e,<-aCx b R (by omega) R (dW _),iF]
    have e:=cv (step:=MN) E (λi=>((n,(),(),(),(i:Int),()),((g.cg,g.aC,g.rows,g.aO,()),((0:Int),(),()),(n,(),()),([]:aa Int),lR (i*R) R,())))
     (.inl (((),(),()),(((0:Int),(),()),(n,(),()),([]:aa Int),lR (E*R) R,()))) aT (λk h=>by
     unfold MN ax xG bh;dsimp only;rw[jr,kW,ak,hb,aQ,au]
     refine(bf (λo=>Option.bind o _) (inner k h)).trans ?_
     rw[ak];simp only[eC];rw[bA]) (by
     unfold MN ax xG bh;dsimp only;rw[jr,kW,ak,hb,aR,aq]) (bH)
    rw[cm,Nat.zero_mul]at e
    refine(bf (λo=>Option.bind o _) e).trans ?_
    rw[hb,hR];rfl
def Ex(t:dw):Int:=(za t).getD 0
def aaH(t:dw):za t=some (Ex t):=by
 obtain⟨y,e⟩:=aCv t;unfold Ex;rw[e];rfl
def aCy(t:dw):Lh t=some (Ex t):=by rw[aCu,aaH]
def aaI(m:kE):MO m=some (aM m.order 0 2):=by
 unfold MO;rw[cW];rfl
def aCz(m:kE):Gj m=some (aM m.order 0 2):=by
 unfold Gj;rw[eS];rfl
def pq(c:eT):Bool:=cA c.az&&(js c.cq&&(aM c.mapping.order 0 2&&(jD c.az c.bF&&(aM c.interval (Ex c.cq) 10000&&(aM c.fZ 1 16&&(aM c.ep.bD (W6 ((6:Int)*c.interval)) 100000&&aM c.ep.bC 0 100000))))))
def Ui(g:aL)(n:Int):(rq g n).2=jD g n:=by
 unfold rq;cases jD g n<;>rfl
def aaJ(c:eT):S1 c=some (pq c):=by
 unfold S1 pq;simp only[aaG,tG,N9,aaI,aaH,cW,ak,Ui];cases cA c.az<;>cases js c.cq<;>cases aM c.mapping.order 0 2<;>cases jD c.az c.bF<;>cases aM c.interval (Ex c.cq) 10000<;>cases aM c.fZ 1 16<;>cases aM c.ep.bD (W6 ((6:Int)*c.interval)) 100000<;>rfl
def aCA(c:eT):RC c=some (pq c):=by
 unfold RC pq;simp only[aaF,Ug,aCz,aCy,eS,ak,Ui];cases h:jD c.az c.bF with
 |false=>cases cA c.az<;>cases js c.cq<;>cases aM c.mapping.order 0 2<;>rfl
 | true=>
  rw[(Oa h).1];cases js c.cq<;>cases aM c.mapping.order 0 2<;>cases aM c.interval (Ex c.cq) 10000<;>cases aM c.fZ 1 16<;>cases aM c.ep.bD (W6 ((6:Int)*c.interval)) 100000<;>rfl
def Uj{c:eT}(h:pq c=true):cA c.az=true/\js c.cq=true/\jD c.az c.bF=true/\aM c.fZ 1 16=true:=by
 simp[pq,aS]at h;simp_all
def alO{t:dw}(h:js t=true):(1 <= t.hD/\t.hD <= 64)/\1 <= t.rp/\t.rp <= 64:=by
 simp[js,aS,cw]at h;have C:=h.1 t.hD (by simp[pn]);have D:=h.1 t.rp (by simp[pn]);simp[zx,bB]at C D;simp_all
def oC(s:bZ):Bool:=aM s.weight 1 9&&aM s.fK 0 s.weight
def iL(l:aa bZ):Bool:=l.all oC&&aM (l.length:Int) 1 4
def Ob(l:aa bZ)(hl:l.length<1073741824):G3 l=some (iL l):=by
 unfold G3 iL bE;have e:=ia (step:=MP) l oC (λi=>((l,l,l.length,i,()),())) _ (.inr (.inl ((l,()),()))) aT (λk h=>by
  unfold MP ax aU xG xI;simp (disch:=omega) [h,bA,cW,oC];cases aM l[k].weight 1 9<;>cases aM l[k].fK 0 l[k].weight<;>rfl) (by unfold MP ax aU xG xI;simp) (bH hl)
 rw[cm]at e;rw[e];cases l.all oC<;>simp[cW]
def alP(l:aa bZ)(hl:l.length<1073741824):Lj l=some (iL l):=by
 unfold Lj iL bE;have e:=ia (step:=Li) l oC (λi=>((l,i,()),())) _ (.inr (.inl ((l,()),()))) aT (λk h=>by
  unfold Li ax aU xG xI;simp (disch:=omega) [h,bA,eS,oC];cases aM l[k].weight 1 9<;>cases aM l[k].fK 0 l[k].weight<;>rfl) (by unfold Li ax aU xG xI;simp) (bH hl)
 rw[cm]at e;rw[e];cases l.all oC<;>simp[eS]
def kZ(w:Int):bZ:=⟨w,w⟩
def wY(l:aa Int):aa bZ×Bool:=bif iL (l.map kZ)then (l.map kZ,true)else ([],false)
def alQ{l:aa Int}{k:Nat}(h:k<l.length):(l.take (k+1)).map kZ=(l.take k).map kZ++[⟨l[k],l[k]⟩]:=by
 rw[List.take_succ_eq_append_getElem h,List.map_append];rfl
def Uk(l:aa Int)(hl:l.length<1073741823):uY l=some (wY l):=by
 unfold uY wY bh;have e:=cv (step:=MQ) l.length (λi=>(((),l,(l.length:Int),(i:Int),()),((l.take i).map kZ,()))) _ aT (λk h=>by
  unfold MQ ax xG xI;have C:bI (((l.take k).map kZ).length+1)=true:=cD (by simp;omega);dsimp only;rw[aQ,au,aA ⟨by omega,by omega⟩];simp only[List.length_cons,List.length_nil,fT,br];rw[C,au,bA,alQ h]) (by
  unfold MQ ax xG xI;dsimp only;rw[aR,aq,iu]) (bH)
 refine(bf (λo=>Option.bind o _) e).trans ?_
 rw[ak];simp only[eC];rw[Ob _ (by simp;omega),ak]
 grind
def aaK(l:aa Int)(hl:l.length<1073741823):AY l=some (wY l):=by
 unfold AY wY bh;have e:=cv (step:=Lk) (min l.length 5) (λi=>((l,(),(i:Int),()),((l.take i).map kZ,()))) (.inl (((),()),((l.take 5).map kZ,()))) aT (λk h=>by
  have C:k<l.length:=by omega
  unfold Lk ax xG xI;have D:bI (((l.take k).map kZ).length+1)=true:=cD (by simp;omega);dsimp only;rw[aQ,au,aQ,au,aA ⟨by omega,by omega⟩,aA ⟨by omega,by omega⟩];simp only[List.length_cons,List.length_nil,fT,br];rw[D,au,bA,alQ C]) (by
  unfold Lk ax xG xI;dsimp only;by_cases c:l.length <= 5
  ·rw[Nat.min_eq_left c,iu,List.take_of_length_le c];by_cases O:l.length=5
   ·rw[aR,aq]
   ·rw[aR,aq]
  ·rw[Nat.min_eq_right (by omega),aQ,au,aR,aq]) (bH)
 rw[cm,List.take_zero,List.map_nil]at e
 refine(bf (λo=>Option.bind o _) e).trans ?_
 rw[ak];simp only[eC];rw[alP _ (by simp;omega),ak];by_cases c:l.length <= 5
 ·rw[List.take_of_length_le c];cases iL _<;>rfl
 ·have E:iL (l.map kZ)=false:=by
   unfold iL;have:aM ((l.map kZ).length:Int) 1 4=false:=by
    rw[Bool.eq_false_iff];intro h;have:=(bB.1 h).2
    grind
   rw[this,Bool.and_false]
  have L:iL ((l.take 5).map kZ)=false:=by
   unfold iL;have:aM (((l.take 5).map kZ).length:Int) 1 4=false:=by
    rw[Bool.eq_false_iff];intro h;have:=(bB.1 h).2
    grind
   rw[this,Bool.and_false]
  rw[E,L];rfl
def alR(l:aa Int):(wY l).2=iL (l.map kZ):=by
 unfold wY;cases iL (l.map kZ)<;>rfl
def me(d:gV):Bool:=decide (d.low >= 0)&&(decide (d.low<d.high)&&decide (d.high<=12))
def Oc(d:gV):D2 d=some (me d):=by
 unfold D2 me
 grind
def aaL(d:gV):Gk d=some (me d):=by
 unfold Gk me
 grind
def BF(r:lW):Bool:=aM r.down 1 10000&&(decide (r.sleep > r.down)&&decide (r.sleep<=20000))
def alS(r:lW):MR r=some (BF r):=by
 unfold MR BF;rw[cW]
 grind
def alT(r:lW):Ll r=some (BF r):=by
 unfold Ll BF;rw[eS]
 grind
def mg(p:dB):Bool:=aM p.dM 0 1&&(aM p.cap 0 100000&&(aM p.dK 3 1000&&(me ⟨false,p.low,p.high⟩&&((p.weights.length:Int)==4&&(iL (p.weights.map kZ)&&BF p.de)))))
def aaM(p:dB)(hl:p.weights.length<1073741823):Gl p=some (mg p):=by
 unfold Gl mg;simp[aaK _ hl,ak,eS,aaL,alT,alR]
 grind
def aCB(x:Int):aM x 0 1=(x==0 || x==1):=by
 rw[Bool.eq_iff_iff];simp[aM];omega
def Od(p:dB)(hl:p.weights.length<1073741823):G4 p=some (mg p):=by
 unfold G4 mg;simp[Uk _ hl,ak,cW,Oc,alS,alR,aCB]
 grind
def aCC(x:Int):RD x=G5 x:=by
 unfold RD G5;rw[eS,cW]
def aaN(x:Int):∃ y,G5 x=some y:=by
 unfold G5;rw[cW];cases aM x 3 1000<;>exact⟨_,rfl⟩
def aaO(c:eT)(p:dB)(hl:p.weights.length<1073741823):∃ b,tF c p=some b/\(b=true->pq c=true):=by
 unfold tF;obtain⟨y,e⟩:=aaN p.dK;simp only[aaJ,Od _ hl,e,ak];cases C:pq c with
 |false=>exact⟨false,rfl,λh=>by cases h⟩
 | true=>
  have E:=alO (Uj C).2.1;have D:¬ W6 (c.cq.hD+c.cq.rp)=0:=by
   rw[aK];omega
  cases mg p with
  |false=>exact⟨false,rfl,λ_=>rfl⟩
  | true=>
   simp only[bQ D,bg,aq,au];cases decide (W6 (y+2)<=c.ep.bC)<;>exact⟨_,rfl,λ_=>by first|rfl|trivial⟩
def aCD(c:eT)(p:dB)(hl:p.weights.length<1073741823):∃ b,tF c p=some b/\Gm c p=some b/\(b=true->pq c=true):=by
 unfold tF Gm;obtain⟨y,e⟩:=aaN p.dK;simp only[aaJ,aCA,Od _ hl,aaM _ hl,aCC,e,ak];cases C:pq c with
 |false=>exact⟨false,rfl,rfl,λh=>by cases h⟩
 | true=>
  have E:=alO (Uj C).2.1;have D:¬ W6 (c.cq.hD+c.cq.rp)=0:=by
   rw[aK];omega
  cases mg p with
  |false=>exact⟨false,rfl,rfl,λ_=>rfl⟩
  | true=>
   simp only[bQ D,bg,aq,au];cases decide (W6 (y+2)<=c.ep.bC)<;>exact⟨_,rfl,rfl,λ_=>by first|rfl|trivial⟩
def alU(i:Nat)(l:aa dG):((opens i l).length==0)=l.all λb=>!b.open_:=by
 induction l generalizing i with
 |nil=>rfl
 | cons x a C=>
  simp[opens,List.all_cons]
  grind
def zy(g:aL)(b:dG):Bool:=aM b.row 0 (g.rows-1)&&(b.open_ ||b.row==0)
def mS(g:aL)(r:cH):Bool:=cA g&&(((r.aC.length:Int)==aY g)&&(aM r.bk 0 2&&(r.aC.all (zy g)&&(r.bk != 2 ||r.aC.all λb=>!b.open_))))
def alV(g:aL)(r:cH):MT g r=some (mS g r):=by
 unfold MT mS bE;rw[tG,ak,kW];cases D:cA g with
 |false=>rfl
 | true=>
  simp only[bg,aq,ak,cC];by_cases C:(r.aC.length:Int)=aY g
  ·have L:=eY g;have O:=fN D;simp only[C,eN,aq,en,cC,cW,ak];cases T:aM r.bk 0 2 with
   |false=>rfl
   | true=>
    have e:=ia (step:=MS) r.aC (zy g) (λi=>(((),(),r.aC,(r.aC.length:Int),(i:Int),()),((g.cg,g.aC,g.rows,g.aO,()),(r.aC,r.bk,()),()))) (.inl ((false,()),())) (.inr (.inl (((),()),((r.aC,r.bk,()),())))) aT (λk h=>by
     unfold MS ax aU xG xI;dsimp only;rw[aQ,au,aA ⟨by omega,by omega⟩];simp only[br,cW,ak];rw[aK (n:=g.rows-1),bA];unfold zy;cases aM r.aC[k].row 0 (g.rows-1)with
     |false=>rfl
     | true=>
      cases r.aC[k].open_ with
      |true=>rfl
      | false=>
       simp[bne];cases r.aC[k].row==0<;>rfl) (by
     unfold MS ax aU xG xI;dsimp only;rw[aR,aq]) (bH)
    rw[cm,C]at e;simp only[bg,aq,cC]
    refine(bf (λo=>Option.bind o _) e).trans ?_
    rw[ak];cases r.aC.all (zy g)with
    |false=>rfl
    | true=>
     simp only[au,Sum.elim_inr,eC,cC];cases U:r.bk != 2 with
     |true=>rfl
     | false=>
      simp;rw[Ub ⟨r.aC,r.bk⟩ (by show r.aC.length<_;omega),ak,<- alU 0 r.aC];congr 1
      grind
  ·have E:((r.aC.length:Int)==aY g)=false:=by simp[C]
   rw[ic C,E];rfl
def zz(d:Int):Bool:=aM d (-2) 5
def dV(r:cO):Bool:=r.aI.all zz&&(aM (r.aI.length:Int) 1 8&&aM r.wait 1 10000)
def BG(r:cO)(hl:r.aI.length<1073741824):zd r=some (dV r):=by
 unfold zd dV bE;have e:=ia (step:=M5) _ zz (λi=>(((),r.aI,r.aI.length,i,()),((r.aI,r.wait,r.dy,()),()))) _ (.inr (.inl (((),()),((r.aI,r.wait,r.dy,()),())))) aT (λk h=>by
  unfold M5 ax aU xG xI;simp (disch:=omega) [h,bA,cW,zz];cases aM r.aI[k] _ 5<;>rfl) (by unfold M5 ax aU xG xI;simp) (bH hl)
 rw[cm]at e;rw[e];cases r.aI.all zz<;>simp[cW]
 grind
def Ul(r:cO)(hl:r.aI.length<1073741824):DB r=some (dV r):=by
 unfold DB dV bE;have e:=ia (step:=Lv) _ zz (λi=>(((),i,()),((r.aI,r.wait,r.dy,()),()))) _ (.inr (.inl (((),()),((r.aI,r.wait,r.dy,()),())))) aT (λk h=>by
  unfold Lv ax aU xG xI;simp (disch:=omega) [h,bA,eS,zz];cases aM r.aI[k] _ 5<;>rfl) (by unfold Lv ax aU xG xI;simp) (bH hl)
 rw[cm]at e;rw[e];cases r.aI.all zz<;>simp[eS]
 grind
def gD{T:Type}(p:T->Bool)(l:aa T):Int:=match l.findIdx? p with
 |some i=>(i:Int)
 |none=>-1
def sE{α β T:Type}{step:α -> ah (α⊕β)}(l:aa T)(p:T -> Bool)(S:Nat -> α)(D:Nat -> β)(z:β)(fuel:Nat)(E:∀ k (h:k<l.length),step (S k)=some (bif p l[k]then .inr (D k)else .inl (S (k+1))))(L:step (S l.length)=some (.inr z))(C:l.length<fuel):
  iter step fuel (S 0)=some (match l.findIdx? p with|some i=>D i|none=>z):=by
 have key:∀ (n i fuel:Nat),i+n=l.length -> n<fuel -> (∀ j (h:j<l.length),j<i -> p l[j]=false) -> iter step fuel (S i)=some (match l.findIdx? p with | some i=>D i | none=>z):=by
  intro n
  induction n with
  | zero=>
   intro i fuel hi C O
   match fuel,C with
   | f+1,_=>
    have:i=l.length:=by omega
    subst this;have e:l.findIdx? p=none:=by
     rw[List.findIdx?_eq_none_iff];intro x U;obtain⟨j,Y,rfl⟩:=jw.1 U
     grind
    unfold iter;rw[L,e]
  | succ n Z=>
   intro i fuel hi C O
   match fuel,C with
   | f+1,C=>
    have dQ:i<l.length:=by omega
    unfold iter;rw[E i dQ];cases hp:p l[i]with
    | true=>
     have e:l.findIdx? p=some i:=by
      rw[mY]
      grind
     rw[e];rfl
    | false=>
     simp only[aq]
     refine Z (i+1) f (by omega) (by omega) λj Y JV=>?_
     by_cases e:j=i
     ·grind
     ·grind
 exact key l.length 0 fuel (by omega) C λj _ h=>by omega
def Oe{T:Type}{p:T -> Bool}{l:aa T}{i:Nat}(h:i<l.length)(E:p l[i]=true):(gD p l != (i:Int))=(l.take i).any p:=by
 unfold gD;cases C:(l.take i).any p with
 | false=>
  have e:l.findIdx? p=some i:=by
   rw[mY]
   refine⟨h,E,λj D=>?_⟩
   have:=oJ.1 C l[j] (jw.2 ⟨j,by simp;omega,by simp⟩);exact this
  rw[e];simp
 | true=>
  have⟨x,L,U⟩:=List.any_eq_true.1 C;obtain⟨j,D,rfl⟩:=jw.1 L;rw[fY]at D;cases O:l.findIdx? p with
  |none=>simp
  | some k=>
   have⟨Y,Z,k3⟩:=mY.1 O;have:k≠i:=by
    grind
   simp only;simp;omega
def Um(x:Int):Bool:=aM x 0 4294967295
def qt(n:Int)(r:aN):Bool:=aM r.id 1 100000&&(aM r.c9 0 3&&(decide (r.line >= 0)&&(decide (r.line<n)&&(Um r.data&&((r.write ||r.data==0)&&aM r.at_ 0 1000000)))))
def aCE(n:Int)(r:aN):Ta n r=some (qt n r):=by
 unfold Ta qt D7 Um;simp[cW]
 grind
def aCF(n:Int)(r:aN):SE n r=some (qt n r):=by
 unfold SE qt LF Um;simp[eS]
 grind
def ef(x y:aN):Bool:=decide (x.at_<y.at_) ||(x.at_==y.at_&&decide (x.id<y.id))
def Un(x y:aN):M9 x y=some (ef x y):=by
 unfold M9 ef
 grind
def alW(x y:aN):SF x y=some (ef x y):=Un x y
def aaP(l:aa aN)(id:Int)(hl:l.length<1073741824):Mn l id=some (gD (λr=>r.id==id) l):=by
 unfold Mn gD bE;have e:=sE (step:=Mm) l (λr=>r.id==id) (λi=>((l,id,i,()),())) _ (.inr (.inl ((),()))) aT (λk h=>by
  unfold Mm ax aU xG xI;simp (disch:=omega) [h,bA];cases l[k].id==id<;>rfl) (by unfold Mm ax aU xG xI;simp) (bH hl)
 rw[cm]at e;rw[e];cases l.findIdx? _<;>rfl
def sF(n:Int)(q:aa aN)(i:Nat):Bool:=match q[i]? with
 |some r=>qt n r&&((i==0 ||(match q[i-1]? with|some x=>ef x r|none=>false)) && !((q.take i).any λx=>x.id==r.id))
 |none=>false
def aaQ{n:Int}{q:aa aN}(h:0<q.length):sF n q 0=qt n q[0]:=by
 unfold sF;rw[bY h];simp
def Of{n:Int}{q:aa aN}{i:Nat}(h:i+1<q.length):sF n q (i+1)=(qt n q[i+1]&&(ef q[i] q[i+1] && !((q.take (i+1)).any λx=>x.id==q[i+1].id))):=by
 unfold sF
 grind
def gX(n:Int)(q:aa aN):Bool:=(List.range q.length).all (sF n q)&&decide ((q.length:Int)<=12)
def alX(n:Int)(q:aa aN):yW n q=some (gX n q):=by
 unfold yW gX bE;by_cases c:(q.length:Int)<=12
 ·rw[aR (show ¬ (q.length:Int) > 12 by omega),aq,aQ c,Bool.and_true];have e:=ia (step:=Mx) (List.range q.length) (sF n q) (λi=>((n,q,(i:Int),()),())) (.inl ((false,()),())) (.inr (.inl ((),()))) aT (λk h=>by
   rw[di]at h;rw[jH];unfold Mx ax aU xG xI;dsimp only;rw[aQ,au,aA ⟨by omega,by omega⟩];simp only[br,aCF,ak];cases k with
   | zero=>
    rw[aaQ h];cases qt n q[0]with
    |false=>rfl
    | true=>
     simp only[bg,aq,au];rw[aR,aq,aA ⟨by omega,h⟩,aaP _ _ (by omega),ak,Oe h (by simp)];simp;rfl
   | succ k=>
    rw[Of h];cases qt n q[k+1]with
    |false=>rfl
    | true=>
     simp only[bg,aq,cC];have C:W6 (((k+1:Nat):Int)-1)=(k:Int):=by rw[aK];omega
     simp only[C,br];rw[aQ,au,aA ⟨by omega,by omega⟩,aA ⟨by omega,h⟩,alW,ak];cases ef q[k] q[k+1]with
     |false=>rfl
     | true=>
      simp only[bg,aq,cC];rw[aA ⟨by omega,h⟩,aaP _ _ (by omega),ak,Oe h (by simp),bA];cases (q.take (k+1)).any λx=>x.id==q[k+1].id<;>rfl) (by
   rw[di];unfold Mx ax aU xG xI;dsimp only;rw[aR,aq]) (by rw[di];exact bH)
  rw[cm]at e
  refine(bf (λo=>Option.bind o _) e).trans ?_
  rw[ak];cases (List.range q.length).all (sF n q)<;>rfl
 ·rw[aQ (show (q.length:Int) > 12 by omega),au,aR c,Bool.and_false]
def aCG(n:Int)(q:aa aN){i:Nat}(h:i<q.length)(hl:q.length<1073741824):
  iter Hf aT ((n,q,(),q,(q.length:Int),(i:Int),((q.take i).drop 0),(((q.take i).drop 0).length:Int),(0:Int),()),((q[i].id,q[i].c9,q[i].line,q[i].write,q[i].data,q[i].at_,()),()))=some (bif (q.take i).any (λx=>x.id==q[i].id)then .inl ((false,()),())else .inr (.inl ((n,q,q,(q.length:Int),(i:Int),()),()))):=by
 rw[List.drop_zero];have hlen:(q.take i).length=i:=by rw[fY];omega
 generalize C:q[i]=r;generalize D:q.take i=t at *
 have e:=ia (step:=Hf) t (λx=>!(x.id==r.id)) (λj=>((n,q,(),q,(q.length:Int),(i:Int),t,(t.length:Int),(j:Int),()),((r.id,r.c9,r.line,r.write,r.data,r.at_,()),()))) (.inl ((false,()),())) _ aT (λk h=>by
  unfold Hf ax aU xG xI;dsimp only;rw[aQ,au,aA ⟨by omega,by omega⟩];simp only[br];rw[bA];cases t[k].id==r.id<;>rfl) (by
  unfold Hf ax aU xG xI;dsimp only;rw[aR,aq]) (bH)
 grind
def aaR(n:Int)(q:aa aN)(hl:q.length<1073741824):D8 n q=some (gX n q):=by
 unfold D8 gX bE;have e:=ia (step:=Na) (List.range q.length) (sF n q) (λi=>((n,q,q,(q.length:Int),(i:Int),()),())) (.inl ((false,()),())) (.inr (.inl ((q,()),()))) aT (λk h=>by
   rw[di]at h;rw[jH];unfold Na ax aU xG xI bE;dsimp only;rw[aQ,au,aA ⟨by omega,by omega⟩];simp only[br,aCE,ak];have C:=aCG n q h hl;cases k with
   | zero=>
    rw[aaQ h];cases qt n q[0]with
    |false=>rfl
    | true=>
     simp only[bg,aq,au];rw[aR,aq,bJ ⟨by omega,by omega,by omega⟩]
     refine(bf (λo=>Option.bind o _) C).trans ?_
     simp;rfl
   | succ k=>
    rw[Of h];cases qt n q[k+1]with
    |false=>rfl
    | true=>
     simp only[bg,aq,cC];have D:W6 (((k+1:Nat):Int)-1)=(k:Int):=by rw[aK];omega
     simp only[D,br];rw[aQ,au,aA ⟨by omega,by omega⟩,Un,ak];cases ef q[k] q[k+1]with
     |false=>rfl
     | true=>
      simp only[bg,aq,cC];rw[bJ ⟨by omega,by omega,by omega⟩]
      refine(bf (λo=>Option.bind o _) C).trans ?_
      rw[ak];cases (q.take (k+1)).any λx=>x.id==q[k+1].id with
      |true=>rfl
      | false=>
       simp only[aq,Sum.elim_inr,eC];rw[bA];rfl) (by
   rw[di];unfold Na ax aU xG xI bE;dsimp only;rw[aR,aq]) (by rw[di];exact bH)
 rw[cm]at e
 refine(bf (λo=>Option.bind o _) e).trans ?_
 rw[ak];cases (List.range q.length).all (sF n q)<;>rfl
def jh(p:fk):Bool:=aM p.state 0 2&&(aM p.since 0 1000000&&aM p.idle 0 1000000)
def Og(p:fk):D9 p=some (jh p):=by
 unfold D9 jh;simp[cW]
 grind
def aaS(p:fk):yN p=some (jh p):=by
 unfold yN jh;simp[eS]
 grind
def zB(e:bV):Bool:=aM e.line 0 1023&&((e.code==1 ||e.code==2)&&aM e.times 1 999)
def mh(e x:bV):Bool:=x.line==e.line&&x.code==e.code
def HN(l:aa bV)(i:Nat):Bool:=match l[i]? with
 |some e=>zB e && !((l.take i).any (mh e))
 |none=>false
def Uo{l:aa bV}{i:Nat}(h:i<l.length):HN l i=(zB l[i] && !((l.take i).any (mh l[i]))):=by
 unfold HN;rw[bY h]
def lS(l:aa bV):Bool:=(List.range l.length).all (HN l)&&decide ((l.length:Int)<=6)
def alY(l:aa bV)(e:bV)(hl:l.length<1073741824):LI l e.line e.code=some (gD (mh e) l):=by
 unfold LI gD bE;have e:=sE (step:=LH) l (mh e) (λi=>((l,e.line,e.code,i,()),())) _ _ aT (λk h=>by
  unfold LH mh ax aU xG xI;dsimp only;rw[aQ,au,aA ⟨by omega,by omega⟩,aA ⟨by omega,by omega⟩];simp only[br];rw[bA];cases l[k].line==e.line<;>cases l[k].code==e.code<;>rfl) (by
  unfold LH ax aU xG xI;dsimp only;rw[aR,aq]) (bH hl)
 rw[cm]at e;rw[e];cases l.findIdx? _<;>rfl
def aCH(l:aa bV):RU l=some (lS l):=by
 unfold RU lS bE;by_cases c:(l.length:Int) <= 6
 ·rw[aR (show ¬ (l.length:Int) > 6 by omega),aq,aQ c,Bool.and_true];have e:=ia (step:=LJ) _ (HN l) (λi=>((l,(i:Int),()),())) _ _ aT (λk h=>by
   rw[di]at h;rw[jH,Uo h];unfold LJ Gy zB ax aU xG xI;dsimp only;rw[aQ,au,aA ⟨by omega,by omega⟩,aA ⟨by omega,by omega⟩,aA ⟨by omega,by omega⟩];simp only[br,eS,ak];rw[alY _ _ (by omega),ak,Oe h (by simp[mh]),bA];cases aM l[k].line 0 1023<;>cases l[k].code==1<;>cases l[k].code==2<;>cases aM l[k].times 1 999<;>cases (l.take k).any (mh l[k])<;>rfl) (by
   rw[di];unfold LJ ax aU xG xI;dsimp only;rw[aR,aq]) (by rw[di];exact bH)
  refine(bf (λo=>Option.bind o _) e).trans ?_
  rw[ak];cases (List.range l.length).all (HN l)<;>rfl
 ·rw[aQ (show (l.length:Int) > 6 by omega),au,aR c,Bool.and_false]
def aCI(l:aa bV){i:Nat}(h:i<l.length)(hl:l.length<1073741824):
  iter Hh aT ((l,(),l,(l.length:Int),(i:Int),((l.take i).drop 0),(((l.take i).drop 0).length:Int),(0:Int),()),((l[i].line,l[i].code,l[i].times,()),()))=some (bif (l.take i).any (mh l[i])then .inl ((false,()),())else .inr (.inl ((l,l,(l.length:Int),(i:Int),()),()))):=by
 rw[List.drop_zero];have hlen:(l.take i).length=i:=by rw[fY];omega
 generalize C:l[i]=r;generalize D:l.take i=t at *
 have e:=ia (step:=Hh) t (λx=>!(mh r x)) (λj=>((l,(),l,(l.length:Int),(i:Int),t,(t.length:Int),(j:Int),()),((r.line,r.code,r.times,()),()))) _ _ aT (λk h=>by
  unfold Hh mh ax aU xG xI;dsimp only;rw[aQ,au,aA ⟨by omega,by omega⟩];simp only[br];rw[bA,BEq.comm (a:=r.line),BEq.comm (a:=r.code)];cases t[k].line==r.line<;>cases t[k].code==r.code<;>rfl) (by
  unfold Hh ax aU xG xI;dsimp only;rw[aR,aq]) (bH)
 grind
def alZ(l:aa bV)(hl:l.length<1073741824):Nc l=some (lS l):=by
 unfold Nc lS bE;have e:=ia (step:=Nb) _ (HN l) (λi=>((l,l,l.length,i,()),())) _ _ aT (λk h=>by
   rw[di]at h;rw[jH,Uo h];have C:=aCI l h hl;unfold Nb zB ax aU xG xI bE;dsimp only;rw[aQ,au,aA ⟨by omega,by omega⟩];simp only[br,cW,ak,bne];rw[bJ ⟨by omega,by omega,by omega⟩];rw[show (0:Int).toNat=0 from rfl,C];cases aM l[k].line 0 1023<;>cases l[k].code==1<;>cases l[k].code==2<;>cases aM l[k].times 1 999<;>cases (l.take k).any (mh l[k])<;>first|rfl|(simp only[au,aq,bg,iw,ak,Sum.elim_inr,eC];rw[bA];rfl)) (by
   rw[di];unfold Nb ax aU xG xI bE;dsimp only;rw[aR,aq]) (by rw[di];exact bH)
 refine(bf (λo=>Option.bind o _) e).trans ?_
 cases (List.range _).all _<;>rfl
def Up(l:aa Int)(x:Int)(hl:l.length<1073741824):D6 l x=some (gD (λe=>x==e) l):=by
 unfold D6 gD;have e:=sE (step:=M6) l (λe=>x==e) (λi=>((l,x,l.length,i,()),())) _ _ aT (λk h=>by
  unfold M6 ax aU xG xI;dsimp only;rw[aQ,au,aA ⟨by omega,by omega⟩];simp only[br];rw[bA];cases x==l[k]<;>rfl) (by
  unfold M6 ax aU xG xI;dsimp only;rw[aR,aq]) (bH hl)
 rw[cm]at e;rw[e];cases l.findIdx? _<;>rfl
def Ey(t:bU)(i:Nat):Bool:=match t.rows[i]?,t.counts[i]? with
 |some r,some c=>aM r (-1) 15&&(aM c t.dx 100000&&((r != -1 ||c==0)&&(r == -1 ||!((t.rows.take i).any λx=>r==x))))
 |_,_=>false
def Uq{t:bU}{i:Nat}(h:i<t.rows.length)(C:i<t.counts.length):Ey t i=(aM t.rows[i] (-1) 15&&(aM t.counts[i] t.dx 100000&&((t.rows[i] != -1 || t.counts[i]==0)&&(t.rows[i] == -1 || !((t.rows.take i).any λx=>t.rows[i]==x))))):=by
 unfold Ey;rw[bY h,bY C]
def ld(t:bU):Bool:=aM (t.rows.length:Int) 1 16&&((t.rows.length:Int)==(t.counts.length:Int)&&(aM t.dx 0 100000&&(List.range t.rows.length).all (Ey t)))
def aaT(t:bU):Bg t=some (ld t):=by
 unfold Bg ld bE;simp only[cW,ak];cases D:aM (t.rows.length:Int) 1 16 with
 |false=>rfl
 | true=>
  have D:=bB.1 D;by_cases C:(t.rows.length:Int)=(t.counts.length:Int)
  ·simp only[C,eN,en,bg,aq,cC];cases T:aM t.dx 0 100000 with
   |false=>rfl
   | true=>
    have e:=ia (step:=M7) (List.range t.rows.length) (Ey t) (λi=>(((),t.rows,(t.rows.length:Int),(i:Int),()),((t.rows,t.counts,t.dx,()),()))) (.inl ((false,()),())) (.inr (.inl ((),()))) aT (λk h=>by
     rw[di]at h;have E:k<t.counts.length:=by omega
     rw[jH,Uq h E];unfold M7 ax aU xG xI;dsimp only;rw[aQ,au,aA ⟨by omega,by omega⟩,aA ⟨by omega,by omega⟩,aA ⟨by omega,by omega⟩];simp only[br,cW,ak,Up _ _ (show t.rows.length<1073741824 by omega)];rw[Oe (p:=λe=>t.rows[k]==e) h (by simp),bA];simp only[bne];cases aM t.rows[k] (-1) 15<;>cases aM t.counts[k] t.dx 100000<;>cases t.rows[k] == -1<;>cases t.counts[k]==0<;>cases (t.rows.take k).any (λe=>t.rows[k]==e)<;>rfl) (by
     rw[di];unfold M7 ax aU xG xI;dsimp only;rw[aR,aq]) (by rw[di];exact bH)
    rw[cm,C]at e;simp only[bg,aq,cC]
    refine(bf (λo=>Option.bind o _) e).trans ?_
    rw[ak];cases (List.range t.rows.length).all (Ey t)<;>rfl
  ·have L:((t.rows.length:Int)==(t.counts.length:Int))=false:=by simp[C]
   have O:((t.counts.length:Int) != (t.rows.length:Int))=true:=ic λh=>C h.symm
   rw[L,O];rfl
def aCJ(t:bU){i:Nat}(h:i<t.rows.length)(hl:t.rows.length<1073741824):
  iter GN aT (((),(i:Int),(0:Int),()),((t.rows,t.counts,t.dx,()),()))=some (bif decide (t.rows[i] >= 0)&&(t.rows.take i).any (λx=>t.rows[i]==x)then .inl ((false,()),())else .inr (.inl (((),(i:Int),()),((t.rows,t.counts,t.dx,()),())))):=by
 have hlen:(t.rows.take i).length=i:=by rw[fY];omega
 have e:=ia (step:=GN) (t.rows.take i) (λx=>!(decide (t.rows[i] >= 0)&&t.rows[i]==x)) (λj=>(((),(i:Int),(j:Int),()),((t.rows,t.counts,t.dx,()),()))) _ _ aT (λk C=>by
  unfold GN ax aU xG xI;dsimp only;rw[aQ,au,aA ⟨by omega,by omega⟩,aA ⟨by omega,by omega⟩,aA ⟨by omega,by omega⟩];simp only[br,List.getElem_take];rw[bA,BEq.comm (a:=t.rows[k])];cases decide (t.rows[i] >= 0)<;>cases t.rows[i]==t.rows[k]<;>rfl) (by
  rw[hlen];unfold GN ax aU xG xI;dsimp only;rw[aR,aq]) (bH)
 grind
def al0(t:bU):Me t=some (ld t):=by
 unfold Me ld bE;simp only[eS,ak];cases D:aM (t.rows.length:Int) 1 16 with
 |false=>rfl
 | true=>
  have D:=bB.1 D;by_cases C:(t.rows.length:Int)=(t.counts.length:Int)
  ·simp only[C,eN,en,bg,aq,cC];cases Y:aM t.dx 0 100000 with
   |false=>rfl
   | true=>
    have e:=ia (step:=Md) (List.range t.rows.length) (Ey t) (λi=>(((),(i:Int),()),((t.rows,t.counts,t.dx,()),()))) (.inl ((false,()),())) (.inr (.inl ((),()))) aT (λk h=>by
     rw[di]at h;have O:k<t.counts.length:=by omega
     have T:=aCJ t h (by omega);rw[jH,Uq h O];unfold Md ax aU xG xI bE;dsimp only;rw[aQ,au,aA ⟨by omega,by omega⟩,aA ⟨by omega,by omega⟩,aA ⟨by omega,by omega⟩,aA ⟨by omega,by omega⟩];simp only[br,eS,ak];rw[T,ak];cases E:aM t.rows[k] (-1) 15 with
     |false=>rfl
     | true=>
      have E:=bB.1 E;cases aM t.counts[k] t.dx 100000 with
      |false=>rfl
      | true=>
       simp only[bg,aq,cC,bne];by_cases L:t.rows[k] = -1
       ·rw[aQ (show t.rows[k]<0 by omega),aR (show ¬ t.rows[k] >= 0 by omega),show (t.rows[k] == -1)=true by simp[L]];simp;rw[bA]
        grind
       ·rw[aR (show ¬ t.rows[k]<0 by omega),aQ (show t.rows[k] >= 0 by omega),show (t.rows[k] == -1)=false by simp[L]];simp only[au,aq,cC];cases (t.rows.take k).any λx=>t.rows[k]==x with
        |true=>rfl
        | false=>
         simp;rw[bA];rfl) (by
     rw[di];unfold Md ax aU xG xI bE;dsimp only;rw[aR,aq]) (by rw[di];exact bH)
    rw[cm]at e;simp only[bg,aq,cC]
    refine(bf (λo=>Option.bind o _) e).trans ?_
    rw[ak];cases (List.range t.rows.length).all (Ey t)<;>rfl
  ·have U:((t.rows.length:Int)==(t.counts.length:Int))=false:=by simp[C]
   rw[U,ic C];rfl
def w9(g:aL):W6 ((9:Int)*(W6 (aY g+(1:Int))))=9*(aY g+1):=by
 have:=eY g;rw[aK (n:=aY g+1),aK]
def Oh(k:Int):zb k=some (aM k 1 5):=by
 unfold zb;rw[cW];rfl
def aCK(n:Int)(u:Bool)(k:Int):Ee n u k=some (bif u then aM n 0 (W6 (k-1))else n==0):=by
 unfold Ee;rw[cW];cases u<;>rfl
def pz(g:aL)(i:Nat):Bool:=decide ((i:Int) / 9<aY g)==decide ((i:Int) % 9+1<=5)
def aCL(g:aL){i:Nat}(hi:i<1000):Sk g (i:Int)=some (pz g i):=by
 unfold Sk pz;rw[q9,ak,pO (by omega),rH (by omega),aK,aK,BEq.comm]
def aCM(g:aL){i:Nat}(hi:i<1000):∃ c,D3 g (i:Int)=some (c,pz g i):=by
 unfold D3 pz;rw[kW,ak,pO (by omega),rH (by omega),aK,aK,Oh];have:aM (i % 9+1) 1 5=decide ((i:Int) % 9+1 <= 5):=by
  simp[aM];omega
 rw[this];cases decide (i / 9<aY g)<;>exact⟨_,rfl⟩
def Ez(g:aL)(l:aa Int)(i:Nat):Bool:=match l[i]? with
 |some e=>aM e (-1) 1000000&&(pz g i ||e == -1)
 |none=>false
def HO{g:aL}{l:aa Int}{i:Nat}(h:i<l.length):Ez g l i=(aM l[i] (-1) 1000000&&(pz g i || l[i] == -1)):=by
 unfold Ez;rw[bY h]
def pE(l:aa Int)(i:Nat):Bool:=match l[i]? with
 |some e=>aM e 0 1000000&&(i==0 ||(match l[i-1]? with|some x=>!(decide (x >= e))|none=>false))
 |none=>false
def Oi{l:aa Int}(h:0<l.length):pE l 0=aM l[0] 0 1000000:=by
 unfold pE;rw[bY h];simp
def HP{l:aa Int}{i:Nat}(h:i+1<l.length):pE l (i+1)=(aM l[i+1] 0 1000000 && !(decide (l[i] >= l[i+1]))):=by
 unfold pE
 grind
def lu(g:aL)(r:dJ):Bool:=cA g&&((r.last.length:Int)==9*(aY g+1)&&(!(decide ((r.aX.length:Int) > 4))&&((List.range r.last.length).all (Ez g r.last)&&(List.range r.aX.length).all (pE r.aX))))
def aaU(g:aL)(r:dJ):G7 g r=some (lu g r):=by
 unfold G7 lu bE;rw[tG,ak,kW];cases T:cA g with
 |false=>rfl
 | true=>
  simp only[bg,aq,ak,cC,w9];by_cases C:(r.last.length:Int)=9*(aY g+1)
  ·have U:=eY g;rw[C,eN,aq,en,cC,<-C];cases D:decide ((r.aX.length:Int) > 4)with
   |true=>rfl
   | false=>
    have D:=of_decide_eq_false D;have l1:=ia (step:=MU) (List.range r.last.length) (Ez g r.last) (λi=>(((),(),r.last,(r.last.length:Int),(i:Int),()),((g.cg,g.aC,g.rows,g.aO,()),(r.last,r.aX,()),()))) (.inl ((false,()),())) (.inr (.inl (((),()),((r.last,r.aX,()),())))) aT (λk h=>by
     rw[di]at h;obtain⟨c,E⟩:=aCM g (i:=k) (by omega);rw[jH,HO h];unfold MU ax aU xG xI;dsimp only;rw[aQ,au,aA ⟨by omega,by omega⟩];simp only[br,cW,ak,jr,E,bne];rw[bA];cases aM r.last[k] (-1) 1000000<;>cases pz g k<;>cases r.last[k] == -1<;>rfl) (by
     rw[di];unfold MU ax aU xG xI;dsimp only;rw[aR,aq]) (by rw[di];exact bH)
    have l2:=ia (step:=MV) (List.range r.aX.length) (pE r.aX) (λi=>(((),r.aX,(r.aX.length:Int),(i:Int),()),((r.last,r.aX,()),()))) (.inl ((false,()),())) (.inr (.inl ((),()))) aT (λk h=>by
     rw[di]at h;rw[jH];unfold MV ax aU xG xI;dsimp only;rw[aQ,au,aA ⟨by omega,by omega⟩];simp only[br,cW,ak];cases k with
     | zero=>
      rw[Oi h];cases aM r.aX[0] 0 1000000 with
      |false=>rfl
      | true=>
       rw[aR];rfl
     | succ k=>
      rw[HP h];have L:W6 (((k+1:Nat):Int)-1)=(k:Int):=by rw[aK];omega
      simp only[L,br];rw[aQ (show ((k+1:Nat):Int) > 0 by omega),aA ⟨by omega,by omega⟩,bA];cases aM r.aX[k+1] 0 1000000<;>cases decide (r.aX[k] >= r.aX[k+1])<;>rfl) (by
     rw[di];unfold MV ax aU xG xI;dsimp only;rw[aR,aq]) (by rw[di];exact bH)
    rw[cm]at l1 l2;simp only[iw,aq,cC]
    refine(bf (λo=>Option.bind o _) l1).trans ?_
    rw[ak];cases (List.range r.last.length).all (Ez g r.last)with
    |false=>rfl
    | true=>
     simp only[au,Sum.elim_inr,eC,cC]
     refine(bf (λo=>Option.bind o _) l2).trans ?_
     rw[ak];cases (List.range r.aX.length).all (pE r.aX)<;>rfl
  ·have O:((r.last.length:Int)==9*(aY g+1))=false:=by simp[C]
   rw[ic C,O];rfl
def aCN(g:aL)(r:dJ):Sl g r=some (lu g r):=by
 unfold Sl lu bE;rw[HJ,ak,q9];cases O:cA g with
 |false=>rfl
 | true=>
  simp only[bg,aq,ak,cC,w9];by_cases C:(r.last.length:Int)=9*(aY g+1)
  ·have T:=eY g;rw[C,eN,aq,en,cC];cases D:decide ((r.aX.length:Int) > 4)with
   |true=>rfl
   | false=>
    have D:=of_decide_eq_false D;have l1:=ia (step:=L9) (List.range r.last.length) (Ez g r.last) (λi=>(((),(),(i:Int),()),((g.cg,g.aC,g.rows,g.aO,()),(r.last,r.aX,()),()))) (.inl ((false,()),())) (.inr (.inl (((),()),((r.last,r.aX,()),())))) aT (λk h=>by
     rw[di]at h;rw[jH,HO h];unfold L9 ax aU xG xI;dsimp only;rw[aQ,au,aA ⟨by omega,by omega⟩,aA ⟨by omega,by omega⟩];simp only[br,eS,ak,jr,aCL g (show k<1000 by omega),bne];rw[bA];cases aM r.last[k] (-1) 1000000<;>cases pz g k<;>cases r.last[k] == -1<;>rfl) (by
     rw[di];unfold L9 ax aU xG xI;dsimp only;rw[aR,aq]) (by rw[di];exact bH)
    have l2:=ia (step:=Ma) (List.range r.aX.length) (pE r.aX) (λi=>(((),(i:Int),()),((r.last,r.aX,()),()))) (.inl ((false,()),())) (.inr (.inl ((),()))) aT (λk h=>by
     rw[di]at h;rw[jH];unfold Ma ax aU xG xI;dsimp only;rw[aQ,au,aA ⟨by omega,by omega⟩];simp only[br,eS,ak];cases k with
     | zero=>
      rw[Oi h];cases aM r.aX[0] 0 1000000 with
      |false=>rfl
      | true=>
       rw[aR];rfl
     | succ k=>
      rw[HP h];have E:W6 (((k+1:Nat):Int)-1)=(k:Int):=by rw[aK];omega
      simp only[E,br];rw[aQ (show ((k+1:Nat):Int) > 0 by omega),aA ⟨by omega,by omega⟩,aA ⟨by omega,by omega⟩,bA];cases aM r.aX[k+1] 0 1000000<;>cases decide (r.aX[k] >= r.aX[k+1])<;>rfl) (by
     rw[di];unfold Ma ax aU xG xI;dsimp only;rw[aR,aq]) (by rw[di];exact bH)
    rw[cm]at l1 l2;simp only[iw,aq,cC]
    refine(bf (λo=>Option.bind o _) l1).trans ?_
    rw[ak];cases (List.range r.last.length).all (Ez g r.last)with
    |false=>rfl
    | true=>
     simp only[au,Sum.elim_inr,eC,cC]
     refine(bf (λo=>Option.bind o _) l2).trans ?_
     rw[ak];cases (List.range r.aX.length).all (pE r.aX)<;>rfl
  ·have L:((r.last.length:Int)==9*(aY g+1))=false:=by simp[C]
   rw[ic C,L];rfl
def aCO(l:aa Int)(x:Int)(hl:l.length<1073741824):SK l x=some (l.any λe=>e==x):=by
 unfold SK bE;have e:=ia (step:=MA) l (λe=>!(e==x)) (λi=>((l,x,i,()),())) _ _ aT (λk h=>by
  unfold MA ax aU xG xI;dsimp only;rw[aQ,au,aA ⟨by omega,by omega⟩];simp only[br];rw[bA];cases l[k]==x<;>rfl) (by
  unfold MA ax aU xG xI;dsimp only;rw[aR,aq]) (bH hl)
 rw[cm]at e;rw[e];have:l.all (λe=>!(e==x)) = !l.any λe=>e==x:=by rw[List.any_eq_not_all_not,Bool.not_not]
 rw[this];cases l.any λe=>e==x<;>rfl
def aCP(l:aa Int)(x:Int)(hl:l.length<1073741824):S6 l x=some (l.count x:Int):=by
 unfold S6 bh;have e:=cv (step:=M0) _ (λi=>((x,((l.take i).count x),l,l.length,i,()),())) _ aT (λk h=>by
  unfold M0 ax xG xI;have C:(l.take k).count x <= k:=Nat.le_trans List.count_le_length (by rw[fY];omega);dsimp only;rw[aQ,au,aA ⟨by omega,by omega⟩];simp only[br];rw[List.take_succ_eq_append_getElem h,List.count_append,List.count_singleton,bA,bA];cases l[k]==x<;>rfl) (by
  unfold M0 ax xG xI;dsimp only;rw[aR,aq,iu]) (bH hl)
 simp_all
def al1{x:Int}:∀ (l:aa Int),(∀ j (h:j<l.length),l[j]=x -> x ∉ l.take j) -> l.count x <= 1
 |[],_=>by simp
 | y :: ys,h=>by
  rw[List.count_cons];by_cases e:y=x
  ·have:x ∉ ys:=by
    intro C;have⟨j,E,D⟩:=jw.1 C;refine h (j+1) (by simp;omega) (by simpa using D) ?_;simp_all
   grind
  ·have:=al1 ys λj E D C=>h (j+1) (by simp;omega) (by simpa using D) (by rw[List.take_succ_cons];exact List.mem_cons_of_mem _ C)
   simp_all
def aCQ{x:Int}:∀ (l:aa Int) (j:Nat) (h:j<l.length),l[j]=x -> x∈l.take j -> 2 <= l.count x:=by
 intro l j h e C;have D:=List.count_pos_iff.2 C;have E:1 <= (l.drop j).count x:=List.count_pos_iff.2 (by rw[<- e];exact jw.2 ⟨0,by simp;omega,by simp⟩);have:l.count x=(l.take j).count x+(l.drop j).count x:=by rw[<- List.count_append,List.take_append_drop]
 omega
def sG(R M:Int)(L:aa Int)(j:Nat):Bool:=match L[j]? with
 |some e=>e==(j:Int) ||(aM e R M && !(decide ((L.count e:Int) > 1)))
 |none=>false
def wZ(R M:Int)(L:aa Int)(j:Nat):Bool:=match L[j]? with
 |some e=>e==(j:Int) ||(aM e R M && !((L.take j).any λx=>x==e))
 |none=>false
def aaV(R M:Int)(L:aa Int)(hR:(L.length:Int)=R):(List.range L.length).all (sG R M L)=(List.range L.length).all (wZ R M L):=by
 rw[Bool.eq_iff_iff,cw,cw];simp only[fI];constructor
 ·intro h j C;have:=h j C;unfold sG at this;unfold wZ;rw[bY C]at *
  simp only[eR,aS,g9,qA]at *
  rcases this with D|⟨D,Y⟩
  ·simp_all
  ·refine .inr ⟨D,?_⟩;rw[oJ];intro x T O;have O:x=L[j]:=by simpa using O
   have:=aCQ L j C rfl (O ▸ T);omega
 ·intro h j C;have:=h j C;unfold wZ at this;unfold sG;rw[bY C]at *
  simp only[eR,aS,g9,qA]at *
  rcases this with D|⟨D,Y⟩
  ·simp_all
  ·refine .inr ⟨D,?_⟩;have Z:=(bB.1 D).1;have:=al1 (x:=L[j]) L λk U e T=>by
    have E:=h k U;unfold wZ at E;rw[bY U]at E;simp only[eR,aS,g9]at E;rcases E with h3|⟨_,h4⟩
    ·grind
    ·grind
   omega
def eZ(m:aa Int)(R b:Nat):aa Int:=(m.take ((b+1)*R)).drop (b*R)
def HQ(m:aa Int)(R b:Nat):eZ m R b=(m.drop (b*R)).take R:=by
 unfold eZ;rw[List.drop_take,iF,Nat.add_sub_cancel_left]
def HR{m:aa Int}{R b:Nat}(h:(b+1)*R<=m.length):(eZ m R b).length=R:=by
 rw[HQ,fY,List.length_drop];rw[iF]at h;omega
def BH{C R b j:Nat}(hb:b<C)(D:j <= R):b*R+j <= C*R:=by
 have:=iW R hb
 grind
def Oj(R:Nat)(M:Int)(m:aa Int)(i:Nat):Bool:=match m[i]? with
 |some e=>e==((i % R:Nat):Int) ||(aM e (R:Int) M && !(((m.take i).drop (i / R*R)).any λx=>x==e))
 |none=>false
def al2{R:Nat}{M:Int}{m:aa Int}{b j:Nat}(C:j<R):Oj R M m (b*R+j)=wZ (R:Int) M (eZ m R b) j:=by
 unfold Oj wZ;have D:(b*R+j) % R=j:=by rw[Nat.mul_comm,Nat.mul_add_mod,Nat.mod_eq_of_lt C]
 have E:(b*R+j) / R=b:=by rw[Nat.mul_comm,Nat.mul_add_div (by omega),Nat.div_eq_of_lt C,Nat.add_zero]
 have L:(eZ m R b)[j]?=m[b*R+j]?:=by rw[HQ,List.getElem?_take_of_lt C,List.getElem?_drop]
 have O:(eZ m R b).take j=(m.take (b*R+j)).drop (b*R):=by rw[HQ,List.take_take,List.drop_take,Nat.add_sub_cancel_left,Nat.min_eq_left (Nat.le_of_lt C)]
 simp_all
def al3{n:Nat}(h:n<4611686018427387904):W6 (n:Int)=(n:Int):=aK
def aCR(R D:Nat)(hR:0<R)(M:Int)(m:aa Int):(List.range (D*R)).all (Oj R M m)=(List.range D).all λb=>(List.range R).all (wZ (R:Int) M (eZ m R b)):=by
 rw[Bool.eq_iff_iff,cw];simp;constructor
 ·intro h b hb j C;rw[<- al2 C];refine h _ ?_;have:=BH hb (show j+1 <= R from C);omega
 ·intro h i hi;have hb:i / R<D:=Nat.div_lt_of_lt_mul (by rw[Nat.mul_comm];exact hi);have C:i % R<R:=Nat.mod_lt _ hR;have e:i / R*R+i % R=i:=by rw[Nat.mul_comm];exact Nat.div_add_mod i R
  have:=h _ hb _ C;rw[<- al2 C,e]at this;exact this
def mj(g:aL)(s:c8):Bool:=jD g s.bF&&((s.map.length:Int)==((aY g).toNat*(g.rows-s.bF).toNat:Nat)&&(List.range (aY g).toNat).all λb=>(List.range (g.rows-s.bF).toNat).all (sG (g.rows-s.bF) (g.rows-1) (eZ s.map (g.rows-s.bF).toNat b)))
def Ok{g:aL}{s:c8}{R C b:Nat}(hR:g.rows-s.bF=(R:Int))(D:R<=16)(E:C<=8)(hb:b<C)(hl:s.map.length=C*R):D5 g s (b:Int)=some (b*R,(b+1)*R):=by
 have U:C*R<=8*16:=Nat.mul_le_mul E D;have Y:b*R+R<=C*R:=BH hb (dW R);have L:W6 (g.rows-s.bF)=(R:Int):=by rw[hR];exact aK
 have O:W6 ((b:Int)*(R:Int))=((b*R:Nat):Int):=by rw[<-Int.natCast_mul];exact aK
 have T:W6 (((b+1:Nat):Int)*(R:Int))=(((b+1)*R:Nat):Int):=by
  rw[<-Int.natCast_mul];exact aK (by omega) (by rw[iF];omega)
 unfold D5;rw[L,bA,O,T,iF,bJ ⟨by omega,by omega,by omega⟩];simp only[br]
def aCS{g:aL}{s:c8}(R b:Int)(L:aa Int)(C:cA g=true)(D:L.length<1073741824):
  iter G8 aT (((),(),R,b,L,L,(L.length:Int),(0:Int),()),((g.cg,g.aC,g.rows,g.aO,()),(s.bF,s.map,()),()))=some (bif (List.range L.length).all (sG R (g.rows-1) L)then .inr (.inl (((),(),R,b,()),((g.cg,g.aC,g.rows,g.aO,()),(s.bF,s.map,()),())))else .inl ((false,()),())):=by
 have E:=fN C;have e:=ia (step:=G8) (List.range L.length) (sG R _ L) (λi=>(((),(),R,b,L,L,L.length,i,()),((g.cg,g.aC,g.rows,g.aO,()),(s.bF,s.map,()),()))) _ _ aT (λk h=>by
  rw[di]at h;rw[jH];unfold G8 sG ax aU xG xI;dsimp only;rw[aQ,au,aA ⟨by omega,by omega⟩,bY h];simp only[br,cW,ak,aCP _ _ D,bne];rw[bA,aK (n:=g.rows-1)];cases L[k]==(k:Int)<;>cases aM L[k] R (g.rows-1)<;>cases decide ((L.count L[k]:Int) > 1)<;>rfl) (by
  rw[di];unfold G8 ax aU xG xI;dsimp only;rw[aR,aq]) (by rw[di];exact bH)
 simp_all
def al4(g:aL)(s:c8):M3 g s=some (mj g s):=by
 unfold M3 mj bE;rw[aaG,ak,Ui];cases D:jD g s.bF with
 |false=>rfl
 | true=>
  obtain⟨L,s0,s2,E6,zC⟩:=Oa D;have O:=eY g;have T:((rq g s.bF).1.map.length:Int)=(((aY g).toNat*(g.rows-s.bF).toNat:Nat):Int):=by
   unfold rq;rw[D,au,Uh]
  rw[T];obtain⟨C,hb⟩:=eD O.1;obtain⟨R,hR⟩:=eD (show 0<=g.rows-s.bF by omega);rw[hb,hR];simp only[br,bg,aq,cC];by_cases hl:(s.map.length:Int)=((C*R:Nat):Int)
  ·have E:s.map.length=C*R:=by omega
   rw[hl,eN,aq,en,cC];have U:W6 (R:Int)=(R:Int):=aK;have e:=ia (step:=M1) (List.range C) (λb=>(List.range R).all (sG (R:Int) (g.rows-1) (eZ s.map R b))) (λi=>(((),(),(R:Int),(i:Int),()),((g.cg,g.aC,g.rows,g.aO,()),(s.bF,s.map,()),()))) (.inl ((false,()),())) (.inr (.inl ((),()))) aT (λk h=>by
    rw[di]at h;rw[jH];have Y:=BH (R:=R) h (dW R);have hlen:(eZ s.map R k).length=R:=HR (by rw[iF,E];exact Y);have Z:=aCS (g:=g) (s:=s) (R:Int) (k:Int) (eZ s.map R k) L (by omega);unfold M1 ax aU xG bE;dsimp only;rw[jr,kW,ak,hb,aQ,au];have hbr:D5 g (⟨s.bF,s.map⟩:c8) (k:Int)=some (k*R,(k+1)*R):=Ok (s:=⟨s.bF,s.map⟩) hR (by omega) (by omega) h E;rw[hbr,ak];have hc:(Nat.ble (k*R) ((k+1)*R)&&Nat.ble ((k+1)*R) s.map.length)=true:=by
     rw[aS];exact⟨jv (by rw[iF];omega),jv (by rw[iF];omega)⟩
    rw[hc,au]
    refine(bf (λo=>Option.bind o _) Z).trans ?_
    rw[ak,hlen];cases (List.range R).all (sG (R:Int) (g.rows-1) (eZ s.map R k))with
    |false=>rfl
    | true=>
     simp only[au,Sum.elim_inr,eC];rw[bA]) (by
    rw[di];unfold M1 ax aU xG bE;dsimp only;rw[jr,kW,ak,hb,aR,aq]) (by rw[di];exact bH)
   rw[cm]at e;rw[U]
   refine(bf (λo=>Option.bind o _) e).trans ?_
   rw[ak];cases (List.range C).all λb=>(List.range R).all (sG (R:Int) (g.rows-1) (eZ s.map R b))<;>rfl
  ·have e2:((s.map.length:Int)==((C*R:Nat):Int))=false:=by simp only[beq_eq_false_iff_ne];exact hl
   rw[ic hl,e2];rfl
def aCT(g:aL)(s:c8):SL g s=some (mj g s):=by
 unfold SL mj bE;rw[aaF,ak,Ui];cases L:jD g s.bF with
 |false=>rfl
 | true=>
  obtain⟨O,s0,s2,E6,zC⟩:=Oa L;have T:=eY g;have gb:=fN O;obtain⟨C,hb⟩:=eD T.1;obtain⟨R,hR⟩:=eD (show 0<=g.rows-s.bF by omega);have hm:C*R<=8*16:=Nat.mul_le_mul (by omega) (by omega);have U:W6 (R:Int)=(R:Int):=aK;have hmul:W6 ((C:Int)*(R:Int))=((C*R:Nat):Int):=by rw[<-Int.natCast_mul];exact aK
  rw[q9,ak,hb,hR,U,hmul];simp only[br,bg,aq,cC];by_cases hl:(s.map.length:Int)=((C*R:Nat):Int)
  ·have Y:s.map.length=C*R:=by omega
   rw[hl,eN,aq,en,cC];have e:=ia (step:=MB) (List.range (C*R)) (Oj R (g.rows-1) s.map) (λi=>(((),(),(R:Int),(i:Int),()),((g.cg,g.aC,g.rows,g.aO,()),(s.bF,s.map,()),()))) (.inl ((false,()),())) (.inr (.inl ((),()))) aT (λk h=>by
    rw[di]at h;rw[jH];have Z:k<s.map.length:=by omega
    have ht:(k:Int).tmod (R:Int)=((k % R:Nat):Int):=(Int.ofNat_tmod k R).symm;have hd:(k:Int).tdiv (R:Int)=((k / R:Nat):Int):=(Int.ofNat_tdiv k R).symm;have hdl:k / R<=k:=Nat.div_le_self k R;have E:k / R*R<=k:=Nat.div_mul_le_self k R;have w1:W6 (((k / R:Nat):Int))=((k / R:Nat):Int):=al3 (Nat.lt_of_le_of_lt hdl (by omega));have w2:W6 (((k / R:Nat):Int)*(R:Int))=((k / R*R:Nat):Int):=by rw[<-Int.natCast_mul];exact al3 (Nat.lt_of_le_of_lt E (by omega))
    unfold MB Oj ax aU xG xI;rw[bY Z];dsimp only;rw[aQ,au,aA ⟨by omega,by omega⟩,bQ,aA ⟨by omega,by omega⟩,bQ,ht,hd,w1,w2,bJ ⟨Int.natCast_nonneg _,Int.ofNat_le.2 E,by omega⟩,aA ⟨by omega,by omega⟩];simp only[br,eS,ak];rw[aCO _ _ (by rw[List.length_drop,fY];omega),ak,bA,aK (n:=g.rows-1)];cases s.map[k]==((k % R:Nat):Int)<;>cases aM s.map[k] (R:Int) (g.rows-1)<;>cases ((s.map.take k).drop (k / R*R)).any (λx=>x==s.map[k])<;>rfl) (by
    rw[di];unfold MB ax aU xG xI;dsimp only;rw[aR,aq]) (by rw[di];exact bH)
   rw[cm]at e
   refine(bf (λo=>Option.bind o _) e).trans ?_
   rw[ak,aCR R C (by omega)];have hAB:((List.range C).all λb=>(List.range R).all (wZ (R:Int) (g.rows-1) (eZ s.map R b)))=(List.range C).all λb=>(List.range R).all (sG (R:Int) (g.rows-1) (eZ s.map R b)):=by
    rw[Bool.eq_iff_iff,cw,cw]
    refine forall_congr' λb=>?_
    refine imp_congr_right λD=>?_
    have D:=fI.1 D;have hk:=BH (R:=R) D (dW R);have hlen:(eZ s.map R b).length=R:=HR (by rw[iF,Y];exact hk);have:=aaV (R:Int) (g.rows-1) (eZ s.map R b) (by rw[hlen]);rw[hlen]at this;rw[this]
   rw[hAB];cases (List.range C).all λb=>(List.range R).all (sG (R:Int) (g.rows-1) (eZ s.map R b))<;>rfl
  ·have e2:((s.map.length:Int)==((C*R:Nat):Int))=false:=by simp only[beq_eq_false_iff_ne];exact hl
   rw[ic hl,e2];rfl
def ei(g:aL)(s:c8):aL:=bif mj g s then ⟨g.cg,g.aC,W6 (g.rows-s.bF),g.aO⟩else ⟨0,0,0,0⟩
def zD(g:aL)(s:c8):ze g s=some (ei g s):=by
 unfold ze ei;rw[al4,ak];cases mj g s<;>rfl
def BI(c:av):av:=c
def iC(a x:aJ):Bool:=x.ay==a.ay&&(x.row==a.row&&(x.bR==a.bR&&true))
def al5(l:aa aJ)(a:aJ)(hl:l.length<1073741824):Mc l a=some (gD (iC a) l):=by
 unfold Mc gD bE;have e:=sE (step:=Mb) l (iC a) (λi=>((l,(),i,()),((a.ay,a.row,a.bR,()),()))) _ _ aT (λk h=>by
  unfold Mb iC ax aU xG xI;dsimp only;rw[aQ,au,aA ⟨by omega,by omega⟩];simp only[br];rw[bA];cases (l[k].ay==a.ay&&(l[k].row==a.row&&(l[k].bR==a.bR&&true)))<;>rfl) (by
  unfold Mb ax aU xG xI;dsimp only;rw[aR,aq]) (bH hl)
 rw[cm]at e;rw[e];cases l.findIdx? _<;>rfl
def al6(l:aa aJ)(a:aJ)(hl:l.length<1073741824):He l a=some (gD (iC a) l):=by
 unfold He gD;have e:=sE (step:=M8) l (iC a) (λi=>((l,(),l.length,i,()),((a.ay,a.row,a.bR,()),()))) _ _ aT (λk h=>by
  unfold M8 iC ax aU xG xI;dsimp only;rw[aQ,au,aA ⟨by omega,by omega⟩];simp only[br];rw[bA,BEq.comm (a:=a.ay),BEq.comm (a:=a.row),BEq.comm (a:=a.bR)];cases (l[k].ay==a.ay&&(l[k].row==a.row&&(l[k].bR==a.bR&&true)))<;>rfl) (by
  unfold M8 ax aU xG xI;dsimp only;rw[aR,aq]) (bH hl)
 rw[cm]at e;rw[e];cases l.findIdx? _<;>rfl
def partAt(c:av)(i:Nat):Bool:=match c.bL[i]?,c.guard[i]? with
 |some t,some x=>ld t&&aM x 3 1000
 |_,_=>false
def BJ(c:av)(i:Nat):Bool:=match c.pending[i]? with
 |some a=>dn c.config.az a&&(a.bR==0 && !((c.pending.take i).any (iC a)))
 |none=>false
def tK(c:av):Bool:=(c.aV.aI.length:Int)==aY c.config.az&&((c.bL.length:Int)==aY c.config.az&&((c.guard.length:Int)==aY c.config.az&&(!(decide ((c.pending.length:Int) > 128))&&((List.range c.bL.length).all (partAt c)&&(List.range c.pending.length).all (BJ c)))))
def al7(c:av)(G:(Int×Int×Int×Int×af))(n i:Int):S7 (((),(),n,i,()),(BI c,G,()))=(bif (decide (i<n))then if C:0<=i/\i.toNat<c.bL.length then (Bg (c.bL[i.toNat]'C.2)).bind λD=>bif (!D)then some (.inr (.inl ((false,()),())))else if E:0<=i/\i.toNat<c.guard.length then (cz (c.guard[i.toNat]'E.2) (3:Int) (1000:Int)).bind λL=>bif (!L)then some (.inr (.inl ((false,()),())))else some (.inl (((),(),n,(W6 (i+(1:Int))),()),(BI c,G,())))else none else none else some (.inr (.inr (.inl (((),(),()),(BI c,G,())))))):=rfl
def al8(c:av)(g:aL)(l:aa aJ)(n i:Int):S8 (((),(),l,n,i,()),(BI c,(g.cg,g.aC,g.rows,g.aO,()),()))=(bif (decide (i<n))then if C:0<=i/\i.toNat<l.length then (zc g (l[i.toNat]'C.2)).bind λD=>bif (!D)then some (.inr (.inl ((false,()),())))else bif ((l[i.toNat]'C.2).bR != (0:Int))then some (.inr (.inl ((false,()),())))else (He c.pending (l[i.toNat]'C.2)).bind λE=>bif (E != i)then some (.inr (.inl ((false,()),())))else some (.inl (((),(),l,n,(W6 (i+(1:Int))),()),(BI c,(g.cg,g.aC,g.rows,g.aO,()),())))else none else some (.inr (.inr (.inl ((),()))))):=rfl
def aCU(c:av)(T:c.aV.aI.length<1073741824):S9 c=some (dV c.aV&&tK c):=by
 unfold S9 tK bE;rw[kW,ak,BG _ T,ak];cases dV c.aV with
 |false=>rfl
 |true=>
 simp only[bg,aq,cC];have b1:=eY c.config.az;by_cases C:(c.aV.aI.length:Int)=aY c.config.az
 ·by_cases D:(c.bL.length:Int)=aY c.config.az
  ·by_cases E:(c.guard.length:Int)=aY c.config.az
   ·have U:((c.aV.aI.length:Int) != aY c.config.az)=false:=by simp[C]
    have Y:((c.bL.length:Int) != aY c.config.az)=false:=by simp[D]
    have Z:((c.guard.length:Int) != aY c.config.az)=false:=by simp[E]
    have q1:((c.aV.aI.length:Int)==aY c.config.az)=true:=by simp[C]
    have q2:((c.bL.length:Int)==aY c.config.az)=true:=by simp[D]
    have q3:((c.guard.length:Int)==aY c.config.az)=true:=by simp[E]
    rw[U,Y,Z,q1,q2,q3];simp only[aq,cC];cases L:decide ((c.pending.length:Int) > 128)with
    |true=>rfl
    | false=>
     have L:=of_decide_eq_false L;have l1:=ia (step:=S7) (List.range c.bL.length) (partAt c) (λi=>(((),(),(c.bL.length:Int),(i:Int),()),(BI c,(c.config.az.cg,c.config.az.aC,c.config.az.rows,c.config.az.aO,()),()))) (.inl ((false,()),())) (.inr (.inl (((),(),()),(BI c,(c.config.az.cg,c.config.az.aC,c.config.az.rows,c.config.az.aO,()),())))) aT (λk h=>by
      rw[di]at h;rw[jH,al7,aQ,au,aA ⟨by omega,by omega⟩,aA ⟨by omega,by omega⟩];simp only[br,aaT,cW,ak];unfold partAt;rw[bY h,bY (show k<c.guard.length by omega),bA];simp only;cases ld c.bL[k]<;>cases aM (c.guard[k]'(by omega)) 3 1000<;>rfl) (by
      rw[di,al7,aR,aq]) (by rw[di];exact bH)
     have l2:=ia (step:=S8) (List.range c.pending.length) (BJ c) (λi=>(((),(),c.pending,(c.pending.length:Int),(i:Int),()),(BI c,(c.config.az.cg,c.config.az.aC,c.config.az.rows,c.config.az.aO,()),()))) (.inl ((false,()),())) (.inr (.inl ((),()))) aT (λk h=>by
      rw[di]at h;rw[jH,al8,aQ,au,aA ⟨by omega,by omega⟩];simp only[br,By,ak,al6 _ _ (show c.pending.length<1073741824 by omega),bne];have O:=Oe (p:=iC c.pending[k]) h (by simp[iC]);rw[bne]at O;rw[O];unfold BJ;rw[bY h,bA];simp only;cases dn c.config.az c.pending[k]<;>cases c.pending[k].bR==0<;>cases (c.pending.take k).any (iC c.pending[k])<;>rfl) (by
      rw[di,al8,aR,aq]) (by rw[di];exact bH)
     rw[cm]at l1 l2;simp only[iw,aq,cC]
     refine(bf (λo=>Option.bind o _) l1).trans ?_
     rw[ak];cases (List.range c.bL.length).all (partAt c)with
     |false=>rfl
     | true=>
      simp only[au,Sum.elim_inr,eC,cC]
      refine(bf (λo=>Option.bind o _) l2).trans ?_
      rw[ak];cases (List.range c.pending.length).all (BJ c)<;>rfl
   ·simp[C,D,ic E,E]
  ·simp[C,ic D,D]
 ·simp[ic C,C]
def tL(n:Int)(u:Bool)(k:Int):Bool:=bif u then aM n 0 (k-1)else n==0
def dP(g:aL)(c:aH):Bool:=cA g&&(aM c.kind 1 9&&(tL c.ay (aM c.kind 1 5) (aY g)&&(tL c.row (c.kind==1) g.rows&&tL c.bR (c.kind==2 ||c.kind==3) g.aO)))
def aCV(k:Int):Tj k=some (k==1):=by
 unfold Tj;rfl
def aCW(k:Int):Tl k=some (k==2 || k==3):=by
 unfold Tl;cases k==2<;>rfl
def aaW{n k:Int}(u:Bool)(h:-1000<k/\k<1000):Ee n u k=some (tL n u k):=by
 rw[aCK,aK];rfl
def aaX(g:aL)(c:aH):Hl g c=some (dP g c):=by
 unfold Hl dP;rw[tG];cases C:cA g with
 |false=>rfl
 | true=>
  have D:=eY g;have E:=fN C;unfold aaa;simp only[au,kW,ak,cW,Oh,aCV,aCW,aaW _ (show -1000<aY g/\aY g<1000 by omega),aaW _ (show -1000<g.rows/\g.rows<1000 by omega),aaW _ (show -1000<g.aO/\g.aO<1000 by omega),cC]
  grind
def aCX(k:Int):Si k=some (aM k 1 5,k==1,(k==2 || k==3)):=by
 obtain⟨y,e,h⟩:=aCt k;rw[e,h]
def Ol(c:aH):Bool:=(aM c.kind 1 5 ||c.ay==0)&&((c.kind==1 ||c.row==0)&&(((c.kind==2 ||c.kind==3) ||c.bR==0)&&(aM c.kind 1 9&&(aM c.ay 0 7&&(aM c.row 0 15&&aM c.bR 0 7)))))
def aCY(c:aH):Sj c=some (Ol c):=by
 unfold Sj Ol;simp only[aCX,ak,eS,bne]
 grind
def al9(g:aL)(c:aH):L8 g c=some (dP g c):=by
 unfold L8;rw[aCY,ak,aat,ak];have key:(Ol c&&dn g ⟨c.ay,c.row,c.bR⟩)=dP g c:=by
  unfold dP dn;cases D:cA g with
  |false=>simp
  | true=>
   have L:=eY g;have O:=fN D;rw[Bool.eq_iff_iff];simp only[Ol,tL,aS,eR,fJ,bB,cC];constructor
   ·rintro⟨⟨h1,h2,h3,C,T,U,Y⟩,⟨Z,h9⟩,HS⟩;refine⟨C,?_,?_,?_⟩
    ·cases hu:aM c.kind 1 5 with
     |true=>simp[au,bB];omega
     | false=>simp only[aq,fJ];rcases h1 with h1 | h1
              ·exact absurd (bB.2 h1) (by rw[hu];simp)
              ·exact h1
    ·cases hu:c.kind==1 with
     |true=>simp[au,bB];omega
     | false=>simp only[aq,fJ];rcases h2 with h2 | h2
              ·simp_all
              ·exact h2
    ·cases hu:(c.kind==2 || c.kind==3)with
     |true=>simp[au,bB];omega
     | false=>simp only[aq,fJ];rcases h3 with (h3 | h3) | h3
              ·simp_all
              ·simp_all
              ·exact h3
   ·rintro⟨h1,h2,h3,C⟩;have f1:(1 <= c.kind/\c.kind <= 5 \/ c.ay=0)/\0 <= c.ay/\c.ay <= aY g-1:=by
     cases hu:aM c.kind 1 5 with
     |true=>rw[hu,au,bB]at h2;exact⟨.inl (bB.1 hu),h2⟩
     |false=>rw[hu,aq,fJ]at h2;have:=N1 D;exact⟨.inr h2,by omega⟩
    have f2:(c.kind=1 \/ c.row=0)/\0 <= c.row/\c.row <= g.rows-1:=by
     cases hu:c.kind==1 with
     |true=>rw[hu,au,bB]at h3;exact⟨.inl (by simpa using hu),h3⟩
     |false=>grind
    have E:((c.kind=2 \/ c.kind=3) \/ c.bR=0)/\0 <= c.bR/\c.bR <= g.aO-1:=by
     cases hu:(c.kind==2 ||c.kind==3)with
     |true=>rw[hu,au,bB]at C;exact⟨.inl (by simpa using hu),C⟩
     |false=>simp_all
    exact⟨⟨f1.1,f2.1,E.1,h1,by omega,by omega,by omega⟩,⟨by omega,by omega⟩,by omega⟩
 rw[<- key];cases Ol c<;>rfl
def EA{g:aL}{c:aH}(h:dP g c=true):cA g=true/\(1 <= c.kind/\c.kind <= 9)/\(c.kind <= 5 -> 0 <= c.ay/\c.ay<aY g)/\(5<c.kind -> c.ay=0):=by
 simp[dP,aS,bB]at h
 refine⟨h.1,h.2.1,λD=>?_,λD=>?_⟩
 ·have:=h.2.2.1;rw[tL,show aM _ 1 5=true from bB.2 ⟨h.2.1.1,D⟩,au,bB]at this;omega
 ·have:=h.2.2.1;have C:aM c.kind 1 5=false:=by
   cases C:aM _ 1 5 with
   |false=>rfl
   |true=>have:=bB.1 C;omega
  rwa [tL,C,aq,fJ]at this
def kinds{k:Int}(h:1<=k/\k<=9):k=1\/k=2\/k=3\/k=4\/k=5\/k=6\/k=7\/k=8\/k=9:=by omega
def jE(r:cH)(b:Int):dG:=r.aC.getD b.toNat ⟨false,0⟩
def nK(r:cH)(c:aH):Bool:=
 bif c.kind==1 ||c.kind==5 then r.bk==0 && !(jE r c.ay).open_ else
 bif c.kind==2 ||c.kind==3 ||c.kind==4 then r.bk==0&&(jE r c.ay).open_ else
 bif c.kind==6 then r.bk==0 else
 bif c.kind==8 then r.bk==0&&r.aC.all (λb=>!b.open_)else
 bif c.kind==7 then r.bk==1 else r.bk==2
def gk(r:cH)(c:aH):cH:=
 bif c.kind==1 then ⟨r.aC.set c.ay.toNat ⟨true,c.row⟩,r.bk⟩else
 bif c.kind==4 then ⟨r.aC.set c.ay.toNat ⟨false,0⟩,r.bk⟩else
 bif c.kind==6 then ⟨r.aC,1⟩else
 bif c.kind==8 then ⟨r.aC,2⟩else
 bif c.kind==7 ||c.kind==9 then ⟨r.aC,0⟩else r
def ama{r:cH}{b:Int}(h:b.toNat<r.aC.length):r.aC[b.toNat]=jE r b:=by
 simp[jE,h]
def amb(r:cH):(((opens 0 r.aC).length:Int)==0)=r.aC.all λb=>!b.open_:=by
 rw[<-alU 0 r.aC,Bool.eq_iff_iff];simp only[fJ];omega
def amc(r:cH)(h:r.aC.length<1073741823):LK r=some (opens 0 r.aC):=by
 unfold LK bh;have e:=wV (step:=Gz) (λi=>(((),(),(i:Int),()),((r.aC,r.bk,()),opens 0 (r.aC.take i),()))) (z:=.inl (((),()),(opens 0 r.aC,()))) r.aC.length 0 aT (λk _ C=>?_) ?_ (by unfold aT;omega)
 ·have e:iter Gz aT (((),(),0,()),((r.aC,r.bk,()),([]),()))=_:=e;simp_all
 ·have C:k<r.aC.length:=by omega
  unfold Gz ax xG xI;dsimp only;have D:decide ((k:Int)<(r.aC.length:Int))=true:=aQ;have E:0 <= (k:Int)/\(k:Int).toNat<r.aC.length:=⟨by omega,by simpa using C⟩
  have hl:=Ua 0 (r.aC.take k);rw[fY]at hl;have L:bI ((opens 0 (r.aC.take k)).length+([(k:Int)]:aa Int).length)=true:=by
   unfold bI;simp;omega
  rw[D,au,aA E,BA,oB C,aav];simp only[br,opens,fY,fT,Nat.min_eq_left (Nat.le_of_lt C)];cases r.aC[k].open_ with
  |true=>grind
  |false=>grind
 ·rw[fT];unfold Gz ax xG xI;simp_all
def aCZ{r:cH}{c:aH}(C:1 <= c.kind/\c.kind <= 9)(hb:c.kind <= 5 -> 0 <= c.ay/\c.ay.toNat<r.aC.length)(hl:r.aC.length<1073741823):RZ r c=some (nK r c):=by
 unfold RZ nK xI;rcases kinds C with h|h|h|h|h|h|h|h|h
 case inr.inr.inr.inr.inr.inr.inr.inl=>simp[h,amc r hl,amb];cases r.bk==0<;>rfl
 all_goals (try (have hb:=hb _))<;>simp[h,hb,ama]<;>(cases r.bk==0<;>rfl)
def aaY(g:aL)(r:cH)(c:aH):Nn g r c=some (mS g r&&(dP g c&&nK r c)):=by
 unfold Nn xI;rw[alV,ak];cases C:mS g r with
 |false=>rfl
 | true=>
  rw[aaX,ak];cases D:dP g c with
  |false=>rfl
  | true=>
   have⟨L,E,hb,_⟩:=EA D;have hlen:(r.aC.length:Int)=aY g:=by
    simp[mS,aS,fJ]at C;simp_all
   have O:=eY g;have hb:c.kind <= 5 -> 0 <= c.ay/\c.ay.toNat<r.aC.length:=λh=>by have:=hb h;omega
   have hl:r.aC.length<1073741823:=by omega
   simp only[bg,aq,cC];unfold nK;rcases kinds E with h|h|h|h|h|h|h|h|h
   case inr.inr.inr.inr.inr.inr.inr.inl=>simp[h,Ub r hl,amb];cases r.bk==0<;>rfl
   all_goals (try (have hb:=hb (by omega)))<;>simp[h,hb,ama]<;>(cases r.bk==0<;>rfl)
def nL(g:aL)(r:cH)(c:aH):Bool:=mS g r&&(dP g c&&nK r c)
def aaZ(g:aL)(r:cH)(c:aH):cH×Bool:=bif nL g r c then (gk r c,true)else (r,false)
def HT{g:aL}{r:cH}{c:aH}(h:nL g r c=true):cA g=true/\(r.aC.length:Int)=aY g/\(1 <= c.kind/\c.kind <= 9)/\(c.kind <= 5 -> 0 <= c.ay/\c.ay.toNat<r.aC.length):=by
 simp[nL,aS]at h;have⟨D,E,hb,_⟩:=EA h.2.1;have C:=h.1;simp[mS,aS,fJ]at C;simp_all
def aC0(r:cH)(h:r.aC.length<1073741824):GU r=some r:=by
 unfold GU xA xZ;rw[show ([]).length+r.aC.length=r.aC.length by simp,cD h];rfl
def aC1(g:aL)(r:cH)(c:aH)(h:r.aC.length<1073741824):NC g r c=some (aaZ g r c):=by
 unfold NC aaZ xL;rw[aC0 r h,aaY];change (bif !(nL g r c)then _ else _)=_;cases C:nL g r c with
 |false=>rfl
 | true=>
  have⟨D,hlen,E,hb⟩:=HT C;unfold gk
  grind
def EB(g:aL):cH:=⟨List.replicate (aY g).toNat ⟨false,0⟩,0⟩
def aC2(g:aL):T0 g=some (EB g):=by
 have D:=eY g;unfold T0 EB;rw[tG,ak];cases C:cA g with
 | false=>
  have:aY g=0:=by simp[aY,C]
  rw[this];rfl
 | true=>
  simp only[bg,aq,kW,ak];rw[bJ ⟨by omega,by omega,by omega⟩]
def aC3(g:aL):RE g=some (EB g):=by
 have C:=eY g;unfold RE EB;rw[q9,ak,bJ ⟨by omega,by omega,by omega⟩]
def amd(r:cH)(c:aH):(gk r c).aC.length=r.aC.length:=by
 unfold gk
 grind
def EC(t:dw)(a b:Int):Int:=
 bif a==1 then (bif b==2 ||b==3 then t.kF else bif b==4 then t.hD else bif b==1 ||b==5 then W6 (t.hD+t.rp)else 0)else
 bif a==2 then (bif b==4 then t.jI else bif b==1 ||b==5 then W6 (t.jI+t.rp)else 0)else
 bif a==3 then (bif b==4 then t.wr else bif b==1 ||b==5 then W6 (t.wr+t.rp)else 0)else
 bif a==4 then (bif b==1 ||b==5 then t.rp else 0)else
 bif a==5 then (bif b==1 ||b==5 then t.nZ else 0)else 0
def ED(t:dw)(a b:Int)(C:Bool):Int:=
 bif a==7 then t.xp else bif a==9 then t.xs else
 bif (a==6&&b==7) ||(a==8&&b==9)then t.oK else
 bif a==1&&b==1 then (bif C then t.kG else t.nT)else
 bif (a==2&&b==2) ||(a==3&&b==3)then (bif C then t.nW else t.nU)else
 bif a==3&&b==2 then (bif C then t.nY else t.nX)else
 bif a==2&&b==3 then t.qB else
 bif a==5&&b==5 then t.kG else
 bif a==2&&b==6 then t.jI else bif a==3&&b==6 then t.wr else
 bif b==8 then EC t a 1 else 0
def aC4(t:dw){a b:Int}(C:1<=a/\a<=9)(hb:1<=b/\b<=9):Tn t a b=some (EC t a b):=by
 rcases kinds C with rfl|rfl|rfl|rfl|rfl|rfl|rfl|rfl|rfl<;>rcases kinds hb with rfl|rfl|rfl|rfl|rfl|rfl|rfl|rfl|rfl<;>kernel_rfl
def aa0(t:dw){a b:Int}(C:Bool)(D:1<=a/\a<=9)(hb:1<=b/\b<=9):To t a b C=some (ED t a b C):=by
 cases C<;>rcases kinds D with rfl|rfl|rfl|rfl|rfl|rfl|rfl|rfl|rfl<;>rcases kinds hb with rfl|rfl|rfl|rfl|rfl|rfl|rfl|rfl|rfl<;>kernel_rfl
def ame{t:dw}(C:js t=true){a b:Int}(D:1 <= a/\a <= 9)(hb:1 <= b/\b <= 9):LL t a b=some (EC t a b):=by
 unfold LL;rw[Ug,ak,C,bg];rcases kinds D with rfl|rfl|rfl|rfl|rfl|rfl|rfl|rfl|rfl<;>rcases kinds hb with rfl|rfl|rfl|rfl|rfl|rfl|rfl|rfl|rfl<;>kernel_rfl
def aa1{t:dw}(E:js t=true){a b:Int}(D:Bool)(C:1 <= a/\a <= 9)(hb:1 <= b/\b <= 9):LM t a b D=some (ED t a b D):=by
 unfold LM;rw[Ug,ak,E,bg,aq,eS,ak,bB.2 C,bg,aq,eS,ak,bB.2 hb,bg];by_cases L:b=8/\a≠7/\a≠9
 ·obtain⟨rfl,O,T⟩:=L;have e:=ame E C (b:=1) (by omega);rcases kinds C with rfl|rfl|rfl|rfl|rfl|rfl|rfl|rfl|rfl<;>first|exact absurd rfl O|exact absurd rfl T|simp[e,ED]
 ·cases D<;>rcases kinds C with rfl|rfl|rfl|rfl|rfl|rfl|rfl|rfl|rfl<;>rcases kinds hb with rfl|rfl|rfl|rfl|rfl|rfl|rfl|rfl|rfl<;>first|exact absurd ⟨rfl,by omega,by omega⟩ L|kernel_rfl
def Ur(a b:aH):Bool:=aM a.kind 1 5&&aM b.kind 1 5
def Om(g:aL)(a b:aH):Bool:=Ur a b&&(W6 (a.ay.tdiv g.aC)==W6 (b.ay.tdiv g.aC))
def w5(g:aL)(t:dw)(a b:aH):Int:=
 bif Ur a b&&a.ay==b.ay then max (max 1 (ED t a.kind b.kind (Om g a b))) (EC t a.kind b.kind)else max 1 (ED t a.kind b.kind (Om g a b))
def Us(x y:Int):(if x > y then x else y)=max x y:=by
 rw[Int.max_def];split<;>split<;>omega
def amf{g:aL}{b:Int}(h:0<=b/\b<aY g)(C:cA g=true):Nq g b=some (W6 (b.tdiv g.aC)):=by
 have D:=eY g;have E:=fN C;unfold Nq;rw[kW,ak,cW,ak,aK,bB.2 ⟨h.1,by omega⟩,bg,aq,bQ]
def On{k:Int}(h:1<=k/\k<=9):aM k 1 5=decide (k<=5):=by
 unfold aM;rw[aQ h.1,cC]
def aC5{g:aL}(t:dw){a b:aH}(E:cA g=true)(C:1 <= a.kind/\a.kind <= 9)(D:1 <= b.kind/\b.kind <= 9)(L:a.kind <= 5 -> 0 <= a.ay/\a.ay<aY g)(O:b.kind <= 5 -> 0 <= b.ay/\b.ay<aY g):Nr g t a b=some (w5 g t a b):=by
 unfold Nr w5 Om Ur;simp only[Oh,ak];cases T:aM a.kind 1 5 with
 | false=>
  simp;rw[aa0 t false C D,ak,Us,Int.max_comm]
 | true=>
  cases U:aM b.kind 1 5 with
  | false=>
   simp;rw[aa0 t false C D,ak,Us,Int.max_comm]
  | true=>
   have Y:=bB.1 T;have Z:=bB.1 U;simp only[au,cC];rw[amf (L Y.2) E,ak,amf (O Z.2) E,ak,aa0 t _ C D,ak,aC4 t C D];cases a.ay==b.ay with
   |false=>grind
   |true =>grind
def aC6{g:aL}{t:dw}{a b:aH}(L:cA g=true)(E:js t=true)(C:1 <= a.kind/\a.kind <= 9)(D:1 <= b.kind/\b.kind <= 9):A4 g t a b=some (w5 g t a b):=by
 have O:=fN L;unfold A4 w5 Om Ur;rw[On C,On D];cases decide (a.kind <= 5)with
 | false=>
  simp;rw[aa1 E false C D,ak,Us]
 | true=>
  cases decide (b.kind <= 5)with
  | false=>
   simp;rw[aa1 E false C D,ak,Us]
  | true=>
   simp only[au,cC,Bool.and_self];rw[bQ,bQ,aa1 E _ C D,ak,ame E C D]
   grind
def aa2{t:dw}(h:js t=true):∀ x∈pn t,1 <= x/\x <= 64:=by
 simp[js,aS,cw]at h;exact λx C=>bB.1 (h.1 x C)
def amg{t:dw}(h:js t=true)(a b:Int):0 <= EC t a b/\EC t a b <= 128:=by
 have hb:=aa2 h;simp only[pn,iG,List.not_mem_nil,or_false,forall_eq_or_imp,forall_eq]at hb;have⟨C,D,E,L,O,T,U,Y,Z,HS,HU,uG,ve,BM,BN,nG,EE⟩:=hb;unfold EC;rw[aK (n:=t.hD+t.rp),aK (n:=t.jI+t.rp),aK (n:=t.wr+t.rp)]
 grind
def aC7{c:Bool}{x y a b:Int}(C:a<=x/\x<=b)(D:a<=y/\y<=b):a<=(bif c then x else y)/\(bif c then x else y)<=b:=by
 cases c
 ·exact D
 ·exact C
def aC8{t:dw}(h:js t=true)(a b:Int)(n:Bool):0 <= ED t a b n/\ED t a b n <= 128:=by
 have hb:=aa2 h;simp[pn,iG,forall_eq_or_imp,forall_eq]at hb;have C:=amg h a 1
 repeat' (first|exact C|refine aC7 ?_ ?_|omega)
def jF(g:aL)(c:aH):Int:=9*(bif aM c.kind 1 5 then c.ay else aY g)+c.kind-1
def aa3{g:aL}{c:aH}(h:dP g c=true):0 <= jF g c/\jF g c<9*(aY g+1):=by
 have⟨C,D,hb,_⟩:=EA h;have E:=eY g;unfold jF
 grind
def aC9{g:aL}{c:aH}(h:dP g c=true):TD g c=some (jF g c):=by
 have⟨C,D,hb,_⟩:=EA h;have E:=eY g;unfold TD jF;simp[kW,ak,Oh];cases hu:aM _ 1 5 with
 | true=>
  have:=bB.1 hu;simp;rw[aK (n:=9*c.ay),aK (n:=9*c.ay+c.kind),aK]
 | false=>
  simp;rw[aK (n:=9*aY g),aK (n:=9*aY g+c.kind),aK]
def amh(r:dJ)(C:r.last.length<1073741824)(D:r.aX.length<1073741824):GV r=some r:=by
 unfold GV xA xZ;rw[show ([]).length+r.last.length=r.last.length by simp,cD C,show ([]).length+r.aX.length=r.aX.length by simp,cD D];rfl
def ami(r:dJ)(C:r.last.length<1073741824)(D:r.aX.length<1073741824):uQ r=some r:=amh r C D
def EF(r:dJ)(x:Int):Bool:=match r.aX.getLast? with
 |some y=>decide (x<=y)
 |none=>false
def EG(l:aa Int)(x:Int):aa Int:=(l++[x]).drop (l.length+1-4)
def sH(g:aL)(r:dJ)(e:dA):dJ:=
 bif lu g r&&(dP g e.cmd&&(aM e.at_ 0 1000000 && !(e.cmd.kind==1&&EF r e.at_)))then ⟨r.last.set (jF g e.cmd).toNat e.at_,bif e.cmd.kind==1 then EG r.aX e.at_ else r.aX⟩else r
def Ut{g:aL}{r:dJ}(h:lu g r=true):cA g=true/\(r.last.length:Int)=9*(aY g+1)/\r.aX.length <= 4:=by
 simp[lu,aS,fJ,g9,qA]at h
 grind
def amj{l:aa Int}(h:0<l.length)(C:(W6 ((l.length:Int)-1)).toNat<l.length)(hl:l.length<1073741824):l.getLast?=some (l[(W6 ((l.length:Int)-1)).toNat]'C):=by
 have e:(W6 ((l.length:Int)-1)).toNat=l.length-1:=by rw[aK];omega
 simp only[e];rw[List.getLast?_eq_getElem?,bY (by omega)]
def aDa(g:aL)(r:dJ)(e:dA)(T:r.last.length<1073741824)(U:r.aX.length<1073741824):TE g r e=some (sH g r e):=by
 unfold TE sH xA xI xL xZ;rw[amh r T U,ak,aaU,ak];cases Y:lu g r with
 |false=>rfl
 | true=>
  simp only[bg,aq,cC];rw[aaX,ak];cases D:dP g e.cmd with
  |false=>rfl
  | true=>
   simp only[bg,aq,cC];rw[cW,ak];cases ha:aM e.at_ 0 1000000 with
   |false=>rfl
   | true=>
    obtain⟨hg,hl,h4⟩:=Ut Y;have E:=aa3 D;have b1:=eY g;simp only[bg,aq,cC,aC9 D,ak];cases hk:(e.cmd.kind==1)with
    | false=>
     simp only[aq,Bool.false_and,iw,au];rw[aA ⟨E.1,by omega⟩,aA]
    | true=>
     have tl:∀ (A B:ah dJ),(if uG:0<=jF g e.cmd/\(jF g e.cmd).toNat<r.last.length then if ve:(jF g e.cmd).toNat<r.last.length then (bif bI (r.aX.length+([e.at_]:aa Int).length)then if 0<=(if W6 (((r.aX++[e.at_]).length:Int)-4) > 0 then W6 (((r.aX++[e.at_]).length:Int)-4)else 0)/\(if W6 (((r.aX++[e.at_]).length:Int)-4) > 0 then W6 (((r.aX++[e.at_]).length:Int)-4)else 0)<=((r.aX++[e.at_]).length:Int)/\((r.aX++[e.at_]).length:Int)<=((r.aX++[e.at_]).length:Int)then bif bI (([]:aa Int).length+(((r.aX++[e.at_]).take (((r.aX++[e.at_]).length:Int).toNat)).drop ((if W6 (((r.aX++[e.at_]).length:Int)-4) > 0 then W6 (((r.aX++[e.at_]).length:Int)-4)else 0).toNat)).length)then some (⟨(r.last.set (jF g e.cmd).toNat e.at_),(([]:aa Int)++(((r.aX++[e.at_]).take (((r.aX++[e.at_]).length:Int).toNat)).drop ((if W6 (((r.aX++[e.at_]).length:Int)-4) > 0 then W6 (((r.aX++[e.at_]).length:Int)-4)else 0).toNat)))⟩:dJ)else none else none else none)else A else B)=some ⟨r.last.set (jF g e.cmd).toNat e.at_,EG r.aX e.at_⟩:=by
      intro A B;have L:(r.aX++[e.at_]).length=r.aX.length+1:=by simp
      have Z:(if W6 (((r.aX.length+1:Nat):Int)-4) > 0 then W6 (((r.aX.length+1:Nat):Int)-4)else 0)=((r.aX.length+1-4:Nat):Int):=by
       rw[aK];split<;>omega
      rw[aA ⟨E.1,by omega⟩,aA,cD (by simp;omega),au,L,Z,bJ ⟨by omega,by omega,by omega⟩,cD (by simp;omega),au];unfold EG;simp only[br,jX];rw[<-L,iu]
     simp only[au,cC];unfold EF;by_cases C:0<r.aX.length
     ·have O:(W6 ((r.aX.length:Int)-1))=((r.aX.length-1:Nat):Int):=by rw[aK];omega
      have hi:(W6 ((r.aX.length:Int)-1)).toNat<r.aX.length:=by rw[O];omega
      rw[aQ (show (r.aX.length:Int) > 0 by omega),au,aA ⟨by rw[O];omega,hi⟩,amj C hi (by omega)];dsimp only;cases decide (e.at_<=r.aX[(W6 ((r.aX.length:Int)-1)).toNat])with
      |true=>rfl
      | false=>
       simp only[aq,iw,au];exact tl _ _
     ·have C:r.aX=[]:=List.eq_nil_of_length_eq_zero (by omega);rw[aR (by rw[C];simp),aq];rw[show r.aX.getLast?=none by rw[C];rfl];simp only[iw,au];exact tl _ _
def aDb(g:aL)(r:dJ)(e:dA)(h1:r.last.length<1073741824)(h2:r.aX.length<1073741824):Sn g r e=some (sH g r e):=by
 unfold Sn sH xA xI xL xZ;rw[ami r h1 h2,ak,aCN,ak];cases hr:lu g r with
 |false=>rfl
 | true=>
  simp only[bg,aq,cC];rw[al9,ak];cases O:dP g e.cmd with
  |false=>rfl
  | true=>
   simp only[bg,aq,cC];rw[eS,ak];cases ha:aM e.at_ 0 1000000 with
   |false=>rfl
   | true=>
    obtain⟨hg,hl,h4⟩:=Ut hr;obtain⟨_,hk9,hb,_⟩:=EA O;have hp:=aa3 O;have b1:=eY g;have pl:jF g e.cmd=bif decide (e.cmd.kind<=5)then 9*e.cmd.ay+e.cmd.kind-1 else 9*aY g+e.cmd.kind-1:=by
     unfold jF;rw[On hk9];cases decide (e.cmd.kind<=5)<;>rfl
    have T:decide (e.cmd.kind<=5)=true->W6 (W6 (W6 (9*e.cmd.ay)+e.cmd.kind)-1)=jF g e.cmd:=by
     intro C;have:=hb (of_decide_eq_true C);rw[aK (n:=9*e.cmd.ay),aK (n:=9*e.cmd.ay+e.cmd.kind),aK,pl,C];rfl
    have hW2:decide (e.cmd.kind<=5)=false->W6 (W6 (W6 (9*aY g)+e.cmd.kind)-1)=jF g e.cmd:=by
     intro C;rw[aK (n:=9*aY g),aK (n:=9*aY g+e.cmd.kind),aK,pl,C];rfl
    have E:∀l:aa Int,l.length<1073741824->uQ ⟨r.last.set (jF g e.cmd).toNat e.at_,l⟩=some ⟨r.last.set (jF g e.cmd).toNat e.at_,l⟩:=λl CD=>ami _ (by simp;omega) CD
    have D:0<=jF g e.cmd/\(jF g e.cmd).toNat<r.last.length:=⟨hp.1,by omega⟩
    have o1:bI (([]:aa Int).length+r.aX.length)=true:=cD (by simp;omega);have o2:bI ((([]:aa Int)++r.aX).length+([e.at_]:aa Int).length)=true:=cD (by simp;omega);have U:((([]:aa Int)++r.aX)++([e.at_]:aa Int)).length=r.aX.length+1:=by simp
    have Y:(bif decide ((((r.aX.length+1:Nat):Int)) > 4)then if 0<=(1:Int)/\(1:Int)<=((r.aX.length+1:Nat):Int)/\((r.aX.length+1:Nat):Int)<=((r.aX.length+1:Nat):Int)then (uQ (⟨r.last.set (jF g e.cmd).toNat e.at_,(((([]:aa Int)++r.aX)++([e.at_]:aa Int)).take (((r.aX.length+1:Nat):Int).toNat)).drop ((1:Int).toNat)⟩:dJ)).bind λfW=>some fW else none else (uQ (⟨r.last.set (jF g e.cmd).toNat e.at_,((([]:aa Int)++r.aX)++([e.at_]:aa Int))⟩:dJ)).bind λjd=>some jd)=some ⟨r.last.set (jF g e.cmd).toNat e.at_,EG r.aX e.at_⟩:=by
     have et:((([]:aa Int)++r.aX)++([e.at_]:aa Int)).take (((r.aX.length+1:Nat):Int).toNat)=r.aX++[e.at_]:=by
      rw[br,<-U,iu,jX]
     rw[et];unfold EG;by_cases h5:4<=r.aX.length
     ·rw[aQ,au,bJ ⟨by omega,by omega,by omega⟩,E _ (by simp;omega),ak,show r.aX.length+1-4=1 by omega];rfl
     ·rw[aR,aq,E _ (by simp;omega),ak,show r.aX.length+1-4=0 by omega];rfl
    simp only[bg,aq,cC,q9,ak];cases hk:(e.cmd.kind==1)with
    | false=>
     cases C:decide (e.cmd.kind<=5)with
     | true=>
      simp only[aq,Bool.false_and,iw,au,T C];rw[aA D,aA D.2,E _ (by omega),ak]
     | false=>
      simp only[aq,Bool.false_and,iw,au,hW2 C];rw[aA D,aA D.2,E _ (by omega),ak]
    | true=>
     have C:decide (e.cmd.kind<=5)=true:=by
      have:e.cmd.kind=1:=by simpa using hk
      exact aQ
     simp only[au,cC,C,T C,o1,o2,U];unfold EF;by_cases L:0<r.aX.length
     ·have Z:(W6 ((r.aX.length:Int)-1))=((r.aX.length-1:Nat):Int):=by rw[aK];omega
      have hi:(W6 ((r.aX.length:Int)-1)).toNat<r.aX.length:=by rw[Z];omega
      rw[aQ (show (r.aX.length:Int) > 0 by omega),au,aA ⟨by rw[Z];omega,hi⟩,amj L hi (by omega)];dsimp only;rw[show decide (r.aX[(W6 ((r.aX.length:Int)-1)).toNat] >= e.at_)=decide (e.at_<=r.aX[(W6 ((r.aX.length:Int)-1)).toNat])from rfl];cases decide (e.at_<=r.aX[(W6 ((r.aX.length:Int)-1)).toNat])with
      |true=>rfl
      | false=>
       simp only[aq,iw,au];rw[aA D,aA D.2];exact Y
     ·have L:r.aX=[]:=List.eq_nil_of_length_eq_zero (by omega);rw[aR (by rw[L];simp),aq];rw[show r.aX.getLast?=none by rw[L];rfl];simp only[iw,au];rw[aA D,aA D.2];exact Y
def aa4{t:dw}(C:js t=true)(g:aL)(a b:aH):1 <= w5 g t a b/\w5 g t a b <= 128:=by
 have D:=aC8 C a.kind b.kind (Om g a b);have E:=amg C a.kind b.kind;unfold w5
 grind
def amk{t:dw}(C:js t=true):1<=t.kH/\t.kH<=64:=aa2 C _ (by simp[pn])
def aa5{T:Type}{p:T -> Bool}{l:aa T}{i:Nat}{x:T}(h:l.all p=true)(C:p x=true):(l.set i x).all p=true:=by grind
def vf{g:aL}{r:cH}(h:mS g r=true):cA g=true/\(r.aC.length:Int)=aY g/\(0 <= r.bk/\r.bk <= 2)/\r.aC.all (zy g)=true/\(r.bk=2 -> (r.aC.all λb=>!b.open_)=true):=by
 simp only[mS,aS,fJ,bB,eR,bne_iff_ne]at h
 grind
def HV{g:aL}{r:cH}(C:cA g=true)(D:(r.aC.length:Int)=aY g)(E:0 <= r.bk/\r.bk <= 2)(L:r.aC.all (zy g)=true)(O:r.bk=2 -> (r.aC.all λb=>!b.open_)=true):mS g r=true:=by
 simp only[mS,aS,fJ,bB,eR,bne_iff_ne]
 grind
def aml{g:aL}{r:cH}{c:aH}(O:mS g r=true)(L:dP g c=true)(D:nK r c=true):mS g (gk r c)=true:=by
 have⟨C,hlen,Z,E,hz⟩:=vf O;have⟨_,T,hb,_⟩:=EA L;have gb:=fN C;have U:c.kind=1 -> 0 <= c.row/\c.row <= g.rows-1:=by
  intro h;simp[dP,aS]at L;have:=L.2.2.2.1;rw[tL,h]at this
  simpa [bB]using this
 rcases kinds T with h|h|h|h|h|h|h|h|h
 ·have e:gk r c=⟨r.aC.set c.ay.toNat ⟨true,c.row⟩,r.bk⟩:=by simp[gk,h]
  have Y:r.bk=0:=by simp[nK,h]at D;exact D.1
  rw[e];exact HV C (by simpa using hlen) (by omega) (aa5 E (by simp only[zy,aS,bB];exact⟨U h,by simp⟩)) (λe=>by simp only at e;omega)
 ·have e:gk r c=r:=by simp[gk,h]
  simp_all
 ·have e:gk r c=r:=by simp[gk,h]
  simp_all
 ·have e:gk r c=⟨r.aC.set c.ay.toNat ⟨false,0⟩,r.bk⟩:=by simp[gk,h]
  have Y:r.bk=0:=by simp[nK,h]at D;exact D.1
  rw[e];exact HV C (by simpa using hlen) (by omega) (aa5 E (by simp only[zy,aS,bB];exact⟨by omega,by simp⟩)) (λe=>by simp only at e;omega)
 ·have e:gk r c=r:=by simp[gk,h]
  simp_all
 ·have e:gk r c=⟨r.aC,1⟩:=by simp[gk,h]
  rw[e];exact HV C hlen (by simp) E (λe=>by simp at e)
 ·have e:gk r c=⟨r.aC,0⟩:=by simp[gk,h]
  rw[e];exact HV C hlen (by simp) E (λe=>by simp at e)
 ·have e:gk r c=⟨r.aC,2⟩:=by simp[gk,h]
  rw[e];exact HV C hlen (by simp) E (λ_=>by simp[nK,h]at D;simpa using D.2)
 ·have e:gk r c=⟨r.aC,0⟩:=by simp[gk,h]
  rw[e];exact HV C hlen (by simp) E (λe=>by simp at e)
def tM(n k:Nat):aa Int:=List.replicate k (-1)++List.replicate (n-k) 0
def amm{n k:Nat}(h:k<=n):(tM n k).length=n:=by
 unfold tM;simp;omega
def amn{n k:Nat}(h:k<n):(tM n k).set k (-1)=tM n (k+1):=by
 obtain⟨m,rfl⟩:∃m,n=k+1+m:=⟨n-k-1,by omega⟩
 unfold tM;rw[show k+1+m-k=m+1 by omega,show k+1+m-(k+1)=m by omega,List.set_append_right _ _ (by simp),jk,Nat.sub_self,List.replicate_succ,List.replicate_succ',List.append_assoc];rfl
def amo(n:Nat):tM n 0=List.replicate n 0:=by simp[tM]
def amp(n:Nat):tM n n=List.replicate n (-1):=by simp[tM]
def amq(n:Nat)(C:n<1073741824):Lo (n:Int)=some (List.replicate n (-1)):=by
 have e:=cv (step:=Ln) n (λi=>((n,(),i,()),(tM n i,()))) _ aT (λk h=>by
  have hl:=amm (show k <= n by omega);unfold Ln ax xG xL;dsimp only;rw[aQ,au,aA ⟨by omega,by omega⟩,aA,bA,br,amn h]) (by
  unfold Ln ax xG xL;dsimp only;rw[aR,aq]) (bH)
 unfold Lo bh;rw[bJ ⟨by omega,by omega,by omega⟩];rw[amo,amp]at e;simp_all
def EH(g:aL):dJ:=⟨List.replicate (9*(aY g+1)).toNat (-1),[]⟩
def aDc{g:aL}(C:cA g=true):T1 g=some (EH g):=by
 have hb:=eY g;obtain⟨n,D⟩:∃n:Nat,9*(aY g+1)=(n:Int):=⟨(9*(aY g+1)).toNat,by omega⟩
 have E:n<1073741824:=by omega
 have e:=cv (step:=NV) n (λi=>(((),(),(n:Int),(i:Int),()),(((),(),()),((),(),()),([]:aa Int),([]:aa Int),tM n i,([]:aa Int),()))) (.inl (((),(),()),(((),(),()),((),(),()),([]:aa Int),([]:aa Int),tM n n,([]:aa Int),()))) aT (λk h=>by
  have hl:=amm (show k<=n by omega);unfold NV ax xG xL;dsimp only;rw[aQ,au,aA ⟨by omega,by omega⟩,aA,bA,br,amn h]) (by
  unfold NV ax xG xL;dsimp only;rw[aR,aq]) (bH)
 rw[amo,amp,cm]at e;unfold T1 EH bh;rw[tG,ak,C,bg,aq,kW,ak,w9,D,bJ ⟨by omega,by omega,by omega⟩,br,jk];exact(bf (λo=>Option.bind o _) e).trans rfl
def aDd{g:aL}(C:cA g=true):RG g=some (EH g):=by
 have hb:=eY g;obtain⟨n,D⟩:∃n:Nat,9*(aY g+1)=n:=⟨(9*(aY g+1)).toNat,by omega⟩
 unfold RG EH;rw[HJ,ak,C,bg,aq,q9,ak,w9,D,amq n (by omega),ak,br]
def aDe(g:aL)(r:dJ)(e:dA):(sH g r e).last.length=r.last.length/\(r.aX.length <= 4 -> (sH g r e).aX.length <= 4):=by
 unfold sH;cases (lu g r&&(dP g e.cmd&&(aM e.at_ 0 1000000 && !(e.cmd.kind==1&&EF r e.at_))))with
 |false=>simp_all
 | true=>
  refine⟨by simp,λh=>?_⟩
  cases e.cmd.kind==1 with
  |false=>exact h
  | true=>
   simp[au,EG,List.length_drop,pM,lV];omega
def aDf{α:Type}{cs:aa α}(o k:Nat):cs.drop o=(cs.drop o).take k++cs.drop (o+k):=by
 rw[<-List.drop_drop];exact(List.take_append_drop k _).symm
def w6{w:World}{B:Nat}{cs:aa Value}{n:Nat}(h:cs.length=n):cY w B [] (cs.drop n):=by
 rw[List.drop_of_length_le (by omega)];exact .nil
def cY.cut{w:World}{B:Nat}{C D:aa V}{cs:aa Value}{o k:Nat}(h:cY w B C ((cs.drop o).take k))(E:cY w B D (cs.drop (o+k))):cY w B (C++D) (cs.drop o):=by
 rw[aDf o k];exact cY.append h E
def oI{H:Type}{fF:TypeId×Value->H}{w:World}:cy fF Tryz.prog w 3 .int eF:=cy.int Tryz.underlying3
def amr(x:aN):Prop:=eF x.id/\eF x.c9/\eF x.line/\True/\eF x.data/\eF x.at_
def aDg{H:Type}{fF:TypeId×Value->H}{w:World}:cy fF Tryz.prog w 121 .dg amr:=λn cs x C=>by
 have D:=Tryz.underlying121;obtain⟨E,i0,L⟩:=cy.part D C (i:=0) rfl oI (off:=0) (k:=1) rfl (by kernel_rfl);obtain⟨O,T,U⟩:=cy.part D C (i:=1) rfl oI (off:=1) (k:=1) rfl (by kernel_rfl);obtain⟨Y,Z,r2⟩:=cy.part D C (i:=2) rfl oI (off:=2) (k:=1) rfl (by kernel_rfl);obtain⟨a3,i3,r3⟩:=cy.part D C (i:=3) rfl (cy.bool Tryz.underlying4) (off:=3) (k:=1) rfl (by kernel_rfl);obtain⟨a4,i4,r4⟩:=cy.part D C (i:=4) rfl oI (off:=4) (k:=1) rfl (by kernel_rfl);obtain⟨a5,i5,r5⟩:=cy.part D C (i:=5) rfl oI (off:=5) (k:=1) rfl (by kernel_rfl);have hl:=cy.len D C;have hc:Tryz.prog.cellsOf 121=6:=by kernel_rfl
 rw[hc]at hl;exact⟨⟨E,O,Y,a3,a4,a5⟩,⟨i0,T,Z,i3,i4,i5⟩,cY.cut L (cY.cut U (cY.cut r2 (cY.cut r3 (cY.cut r4 (cY.cut r5 ((w6 hl)))))))⟩
def ams(x:aJ):Prop:=eF x.ay/\eF x.row/\eF x.bR
def aDh{H:Type}{fF:TypeId×Value->H}{w:World}:cy fF Tryz.prog w 123 .Addr ams:=λn cs x C=>by
 have D:=Tryz.underlying123;obtain⟨E,i0,L⟩:=cy.part D C (i:=0) rfl oI (off:=0) (k:=1) rfl (by kernel_rfl);obtain⟨O,T,U⟩:=cy.part D C (i:=1) rfl oI (off:=1) (k:=1) rfl (by kernel_rfl);obtain⟨Y,Z,r2⟩:=cy.part D C (i:=2) rfl oI (off:=2) (k:=1) rfl (by kernel_rfl);have hl:=cy.len D C;have hc:Tryz.prog.cellsOf 123=3:=by kernel_rfl
 rw[hc]at hl;exact⟨⟨E,O,Y⟩,⟨i0,T,Z⟩,cY.cut L (cY.cut U (cY.cut r2 ((w6 hl))))⟩
def amt(x:lW):Prop:=eF x.down/\eF x.sleep
def aDi{H:Type}{fF:TypeId×Value->H}{w:World}:cy fF Tryz.prog w 34 .oM amt:=λn cs x C=>by
 have D:=Tryz.underlying34;obtain⟨E,i0,L⟩:=cy.part D C (i:=0) rfl oI (off:=0) (k:=1) rfl (by kernel_rfl);obtain⟨O,T,U⟩:=cy.part D C (i:=1) rfl oI (off:=1) (k:=1) rfl (by kernel_rfl);have hl:=cy.len D C;have Y:Tryz.prog.cellsOf 34=2:=by kernel_rfl
 rw[Y]at hl;exact⟨⟨E,O⟩,⟨i0,T⟩,cY.cut L (cY.cut U ((w6 hl)))⟩
def HW(x:dB):Prop:=eF x.dM/\eF x.cap/\eF x.dK/\eF x.low/\eF x.high/\(x.weights.length<=maxLen/\∀y∈x.weights,eF y)/\amt x.de
def amu{H:Type}{fF:TypeId×Value->H}{w:World}:cy fF Tryz.prog w 36 .jK HW:=λn cs x C=>by
 have D:=Tryz.underlying36;obtain⟨E,i0,L⟩:=cy.part D C (i:=0) rfl oI (off:=0) (k:=1) rfl (by kernel_rfl);obtain⟨O,T,U⟩:=cy.part D C (i:=1) rfl oI (off:=1) (k:=1) rfl (by kernel_rfl);obtain⟨Y,Z,r2⟩:=cy.part D C (i:=2) rfl oI (off:=2) (k:=1) rfl (by kernel_rfl);obtain⟨a3,i3,r3⟩:=cy.part D C (i:=3) rfl oI (off:=3) (k:=1) rfl (by kernel_rfl);obtain⟨a4,i4,r4⟩:=cy.part D C (i:=4) rfl oI (off:=4) (k:=1) rfl (by kernel_rfl);obtain⟨a5,i5,r5⟩:=cy.part D C (i:=5) rfl (cy.sl Tryz.underlying32 (by kernel_rfl) oI) (off:=5) (k:=1) rfl (by kernel_rfl);obtain⟨a6,i6,r6⟩:=cy.part D C (i:=6) rfl aDi (off:=6) (k:=2) rfl (by kernel_rfl);have hl:=cy.len D C;have hc:Tryz.prog.cellsOf 36=8:=by kernel_rfl
 rw[hc]at hl;exact⟨⟨E,O,Y,a3,a4,a5,a6⟩,⟨i0,T,Z,i3,i4,i5,i6⟩,cY.cut L (cY.cut U (cY.cut r2 (cY.cut r3 (cY.cut r4 (cY.cut r5 (cY.cut r6 ((w6 hl))))))))⟩
def HX(x:cV):Prop:=eF x.kind/\amr x.request/\eF x.n/\eF x.gB/\ams x.addr/\HW x.bW
def aDj{H:Type}{fF:TypeId×Value->H}{w:World}:cy fF Tryz.prog w 125 .Act HX:=λn cs x C=>by
 have D:=Tryz.underlying125;obtain⟨E,i0,L⟩:=cy.part D C (i:=0) rfl oI (off:=0) (k:=1) rfl (by kernel_rfl);obtain⟨O,T,U⟩:=cy.part D C (i:=1) rfl aDg (off:=1) (k:=6) rfl (by kernel_rfl);obtain⟨Y,Z,r2⟩:=cy.part D C (i:=2) rfl oI (off:=7) (k:=1) rfl (by kernel_rfl);obtain⟨a3,i3,r3⟩:=cy.part D C (i:=3) rfl oI (off:=8) (k:=1) rfl (by kernel_rfl);obtain⟨a4,i4,r4⟩:=cy.part D C (i:=4) rfl aDh (off:=9) (k:=3) rfl (by kernel_rfl);obtain⟨a5,i5,r5⟩:=cy.part D C (i:=5) rfl amu (off:=12) (k:=8) rfl (by kernel_rfl);have hl:=cy.len D C;have hc:Tryz.prog.cellsOf 125=20:=by kernel_rfl
 rw[hc]at hl;exact⟨⟨E,O,Y,a3,a4,a5⟩,⟨i0,T,Z,i3,i4,i5⟩,cY.cut L (cY.cut U (cY.cut r2 (cY.cut r3 (cY.cut r4 (cY.cut r5 ((w6 hl)))))))⟩
def amv{T:Type}(U:T)(f:T->ah T)(l:aa T)(hf:∀ x∈l,f x=some x)(hl:l.length<1073741824):
  iter (α:=((aa T×af×Int×af)×(aa T×af))) (β:=(((af×af)×(aa T×af))⊕Empty)) (λx=>bif (decide (x.1.2.2.1<(x.1.1.length:Int)))then if C:0<=x.1.2.2.1/\x.1.2.2.1.toNat<x.1.1.length then (let D:=x.1.1[x.1.2.2.1.toNat]'C.2;(f D).bind λE=>if h4:0<=x.1.2.2.1/\x.1.2.2.1.toNat<x.2.1.length then if L:x.1.2.2.1.toNat<x.2.1.length then (let e6:=x.2.1[x.1.2.2.1.toNat]'L;some (.inl ((x.1.1,(),(W6 (x.1.2.2.1+(1:Int))),()),((x.2.1.set x.1.2.2.1.toNat E),()))))else none else none)else none else some (.inr (.inl (((),()),(x.2.1,())))))
   aT ((l,(),(0:Int),()),((List.replicate (l.length:Int).toNat U),()))=some (.inl (((),()),(l,()))):=by
 obtain⟨z,C,h2⟩:=aar (step:=(λx:((aa T×af×Int×af)×(aa T×af))=>(bif (decide (x.1.2.2.1<(x.1.1.length:Int)))then if C:0<=x.1.2.2.1/\x.1.2.2.1.toNat<x.1.1.length then (let D:=x.1.1[x.1.2.2.1.toNat]'C.2;(f D).bind λE=>if h4:0<=x.1.2.2.1/\x.1.2.2.1.toNat<x.2.1.length then if L:x.1.2.2.1.toNat<x.2.1.length then (let e6:=x.2.1[x.1.2.2.1.toNat]'L;some (.inl ((x.1.1,(),(W6 (x.1.2.2.1+(1:Int))),()),((x.2.1.set x.1.2.2.1.toNat E),()))))else none else none)else none else some (.inr (.inl (((),()),(x.2.1,())))):ah (((aa T×af×Int×af)×(aa T×af))⊕(((af×af)×(aa T×af))⊕Empty)))))
  (λx=>∃(i:Nat) (a:aa T),x=((l,(),(i:Int),()),(a,()))/\i<=l.length/\a.length=l.length/\∀j,j<i->a[j]?=l[j]?)
  (λx=>l.length-x.1.2.2.1.toNat) (λz=>z = .inl (((),()),(l,()))) (by
   rintro x ⟨i,a,rfl,hi,Y,Z⟩;dsimp only;by_cases h:i<l.length
   ·left;have O:decide ((i:Int)<(l.length:Int))=true:=by simpa using h
    have c2:0<=(i:Int)/\(i:Int).toNat<l.length:=⟨by omega,by simpa using h⟩
    have c3:0<=(i:Int)/\(i:Int).toNat<a.length:=⟨by omega,by rw[Y];simpa using h⟩
    rw[O,au,aA c2,hf _ (cM _),ak,aA c3,aA c3.2]
    refine⟨_,rfl,⟨i+1,a.set i (l[i]'h),?_,by omega,by simpa using Y,λj rM=>?_⟩,?_⟩
    ·rw[aK];simp
    ·rw[List.getElem?_set];by_cases e:i=j
     ·subst e;rw[bJ rfl,bJ,bY h]
     ·rw[bQ e];exact Z j (by omega)
    ·dsimp only;rw[aK];omega
   ·right;have O:decide ((i:Int)<(l.length:Int))=false:=by simpa using h
    rw[O,aq];refine⟨_,rfl,?_⟩;have:a=l:=List.ext_getElem? λj=>by
     by_cases Cs:j<l.length
     ·exact Z j (by omega)
     ·rw[List.getElem?_eq_none (by omega),List.getElem?_eq_none (by omega)]
    rw[this])
  aT ((l,(),(0:Int),()),((List.replicate (l.length:Int).toNat U),())) ⟨0,_,rfl,by omega,by simp,λj h=>by omega⟩ (by dsimp only;unfold aT;omega)
 rw[C,h2]
def vg{T:Type}(f:T->T->ah Bool)(l:aa T)(Z:∀ x∈l,f x x=some true)(hl:l.length<1073741824):
  iter (α:=((aa T×aa T×Int×af)×af)) (β:=(((Bool×af)×af)⊕((af×af)⊕Empty))) (λx=>bif (decide (x.1.2.2.1<(x.1.1.length:Int)))then if C:0<=x.1.2.2.1/\x.1.2.2.1.toNat<x.1.1.length then (let D:=x.1.1[x.1.2.2.1.toNat]'C.2;if E:0<=x.1.2.2.1/\x.1.2.2.1.toNat<x.1.2.1.length then (let L:=x.1.2.1[x.1.2.2.1.toNat]'E.2;(f D L).bind λO=>bif (!O)then some (.inr (.inl ((false,()),())))else some (.inl ((x.1.1,x.1.2.1,(W6 (x.1.2.2.1+(1:Int))),()),())))else none)else none else some (.inr (.inr (.inl ((),())))))
   aT ((l,l,(0:Int),()),())=some (.inr (.inl ((),()))):=by
 obtain⟨z,C,h2⟩:=aar (step:=(λx:((aa T×aa T×Int×af)×af)=>(bif (decide (x.1.2.2.1<(x.1.1.length:Int)))then if C:0<=x.1.2.2.1/\x.1.2.2.1.toNat<x.1.1.length then (let D:=x.1.1[x.1.2.2.1.toNat]'C.2;if E:0<=x.1.2.2.1/\x.1.2.2.1.toNat<x.1.2.1.length then (let L:=x.1.2.1[x.1.2.2.1.toNat]'E.2;(f D L).bind λO=>bif (!O)then some (.inr (.inl ((false,()),())))else some (.inl ((x.1.1,x.1.2.1,(W6 (x.1.2.2.1+(1:Int))),()),())))else none)else none else some (.inr (.inr (.inl ((),())))):ah (((aa T×aa T×Int×af)×af)⊕(((Bool×af)×af)⊕((af×af)⊕Empty))))))
  (λx=>∃(i:Nat),x=((l,l,(i:Int),()),())/\i<=l.length)
  (λx=>l.length-x.1.2.2.1.toNat) (λz=>z = .inr (.inl ((),()))) (by
   rintro x ⟨i,rfl,hi⟩;dsimp only;by_cases h:i<l.length
   ·left;have U:decide ((i:Int)<(l.length:Int))=true:=by simpa using h
    have Y:0<=(i:Int)/\(i:Int).toNat<l.length:=⟨by omega,by simpa using h⟩
    rw[U,au,aA Y,aA Y,Z _ (cM _),ak];refine⟨_,rfl,⟨i+1,?_,by omega⟩,?_⟩
    ·rw[aK];simp
    ·dsimp only;rw[aK];omega
   ·right;have U:decide ((i:Int)<(l.length:Int))=false:=by simpa using h
    rw[U,aq];exact⟨_,rfl,rfl⟩)
  aT ((l,l,(0:Int),()),()) ⟨0,rfl,by omega⟩ (by dsimp only;unfold aT;omega)
 rw[C,h2]
def Sz(n:Int)(Q:Prop)(o:ah Int):Prop:=∃y,o=some y/\(y<0\/0<=y/\y<=n/\Q)
def Sz.bind{n:Int}{Q R:Prop}{o:ah Int}{g:Int->ah Int}(h:Sz n Q o)(C:∀ y,0<=y->y<=n->Q->Sz n R (g y)):Sz n R (o.bind λy=>bif (decide (y<(0:Int)))then some (-1:Int)else g y):=by
 obtain⟨y,rfl,h|⟨D,E,L⟩⟩:=h
 ·rw[ak,aQ h];exact⟨-1,rfl,.inl (by omega)⟩
 ·rw[ak,aR];exact C y D E L
def Sz.done{n:Int}{Q:Prop}{y:Int}(C:0<=y)(D:y<=n)(E:Q):Sz n Q (some y):=⟨y,rfl,.inr ⟨C,D,E⟩⟩
def Sz.le{n m:Int}{Q:Prop}{o:ah Int}(h:Sz n Q o)(E:n<=m):Sz m Q o:=by
 obtain⟨y,e,h|⟨C,L,D⟩⟩:=h
 ·exact⟨y,e,.inl h⟩
 ·exact⟨y,e,.inr ⟨C,by omega,D⟩⟩
def Sz.imp{n:Int}{Q R:Prop}{o:ah Int}(h:Sz n Q o)(C:Q->R):Sz n R o:=by
 obtain⟨y,e,h|⟨D,E,L⟩⟩:=h
 ·exact⟨y,e,.inl h⟩
 ·exact⟨y,e,.inr ⟨D,E,C L⟩⟩
def aDk{α:Type}{l:aa α}{n:Int}(hl:l.length<=maxLen)(C:0<=n)(D:n<=1048576):Sz n (l.length<=1048576) (bif (decide ((W6 (n-(l.length:Int)))<(0:Int)))then some (-1:Int)else some (W6 (n-(l.length:Int)))):=by
 unfold maxLen at hl;rw[aK];by_cases c:n-(l.length:Int)<0
 ·rw[aQ c];exact⟨-1,rfl,.inl (by omega)⟩
 ·rw[aR c];exact⟨_,rfl,.inr ⟨by omega,by omega,by omega⟩⟩
def aDl{T:Type}(f:T->Int->ah Int)(l:aa T){Q:T->Prop}(hl:l.length<=1048576)(hf:∀ x∈l,∀ n:Int,0<=n->n<=1048576->Sz n (Q x) (f x n)){n:Int}(h0:0<=n)(C:n<=1048576):
  Sz n (∀x∈l,Q x) ((iter (α:=((aa T×Int×Int×af)×af)) (β:=(((Int×af)×af)⊕(((Int×af)×af)⊕Empty))) (λx=>bif (decide (x.1.2.2.1<(x.1.1.length:Int)))then if C:0<=x.1.2.2.1/\x.1.2.2.1.toNat<x.1.1.length then (let L:=x.1.1[x.1.2.2.1.toNat]'C.2;(f L x.1.2.1).bind λD=>bif (decide (D<(0:Int)))then some (.inr (.inl (((-1:Int),()),())))else some (.inl ((x.1.1,D,(W6 (x.1.2.2.1+(1:Int))),()),())))else none else some (.inr (.inr (.inl ((x.1.2.1,()),()))))) aT ((l,n,(0:Int),()),())).bind (Sum.elim (λz4=>some z4.1.1) (Sum.elim (λz5=>some z5.1.1) (λz=>nomatch z)))):=by
 obtain⟨z,e,hz⟩:=aas (step:=(λx:((aa T×Int×Int×af)×af)=>(bif (decide (x.1.2.2.1<(x.1.1.length:Int)))then if C:0<=x.1.2.2.1/\x.1.2.2.1.toNat<x.1.1.length then (let L:=x.1.1[x.1.2.2.1.toNat]'C.2;(f L x.1.2.1).bind λD=>bif (decide (D<(0:Int)))then some (.inr (.inl (((-1:Int),()),())))else some (.inl ((x.1.1,D,(W6 (x.1.2.2.1+(1:Int))),()),())))else none else some (.inr (.inr (.inl ((x.1.2.1,()),())))):ah (((aa T×Int×Int×af)×af)⊕(((Int×af)×af)⊕(((Int×af)×af)⊕Empty))))))
  l.length (λi x=>i<=l.length/\∃m:Int,x=((l,m,(i:Int),()),())/\0<=m/\m<=n/\∀j (E:j<l.length),j<i->Q l[j]) (λz=>(∃y:Int,y<0/\z = .inl ((y,()),()))\/∃y:Int,0<=y/\y<=n/\z = .inr (.inl ((y,()),()))/\∀x∈l,Q x) (x:=((l,n,(0:Int),()),())) aT ⟨by omega,n,rfl,h0,by omega,λj _ h=>by omega⟩ (by
  rintro k hk x ⟨_,m,rfl,O,Z,U⟩;dsimp only;rw[aQ,au,aA ⟨by omega,by omega⟩];simp only[br];obtain⟨y,e,h⟩:=hf l[k] (cM hk) m O (by omega);rw[e,ak];rcases h with h|⟨C,h2,Y⟩
  ·right;rw[aQ h,au];exact⟨_,rfl,.inl ⟨-1,by omega,rfl⟩⟩
  ·left;rw[aR,aq,bA]
   refine⟨_,rfl,by omega,y,rfl,C,by omega,λj E hjk=>?_⟩
   by_cases e:j=k
   ·subst e;exact Y
   ·exact U j E (by omega)) (by
  rintro x ⟨_,m,rfl,O,Z,U⟩;dsimp only;rw[aR,aq]
  refine⟨_,rfl,.inr ⟨m,O,Z,rfl,λx hx=>?_⟩⟩
  obtain⟨j,E,rfl⟩:=jw.1 hx;exact U j E E) (bH)
 rw[e,ak];rcases hz with ⟨y,h,rfl⟩|⟨y,h2,Y,rfl,h4⟩
 ·exact⟨y,rfl,.inl h⟩
 ·exact⟨y,rfl,.inr ⟨h2,Y,h4⟩⟩
def BO(x:dB):Prop:=(x.weights.length<=1048576)
def HY(x:cV):Prop:=BO x.bW
def aDm(x:aN):SW x=some x:=by
 unfold SW;rfl
def amw(x:aN):F6 x x=some true:=by
 unfold F6;simp only[ak,eN,en,bg,aq]
def aDn(x:aJ):SX x=some x:=by
 unfold SX;rfl
def amx(x:aJ):F5 x x=some true:=by
 unfold F5;simp only[ak,eN,en,bg,aq]
def aDo(x:aa Int)(h:(x.length<=maxLen/\∀ y∈x,eF y)){n:Int}(C:0<=n)(D:n<=1048576):Sz n (x.length<=1048576) (Zi x n):=by
 exact aDk h.1 C D
def aDp(x:aa Int)(C:(x.length<=1048576)):SU x=some x:=by
 have hl:=C;have D:=amv ((0:Int):Int) some x (λy E=>rfl) (by omega);unfold SU bh;rw[bJ ⟨by omega,by omega,by omega⟩]
 refine(bf (λo=>Option.bind o _) D).trans ?_
 rfl
def vh(x:aa Int)(C:(x.length<=1048576)):qX x x=some true:=by
 have hl:=C;have D:=vg (λa b:Int=>some (a==b)) x (λy E=>by simp) (by omega);unfold qX bE;rw[show ((x.length:Int) != (x.length:Int))=false by simp,aq]
 refine(bf (λo=>Option.bind o _) D).trans ?_
 rfl
def aDq(x:lW):SV x=some x:=by
 unfold SV;rfl
def aDr(x:lW):Q4 x x=some true:=by
 unfold Q4;simp only[ak,eN,en,bg,aq]
def amy(x:dB)(h:HW x){n:Int}(C:0<=n)(D:n<=1048576):Sz n (BO x) (K8 x n):=by
 obtain⟨i0,U,Y,Z,i4,E,i6⟩:=h;unfold K8
 refine Sz.bind (aDo x.weights E C D) λy5 L O T=>?_
 exact Sz.done L O T
def amz(x:dB)(C:BO x):Bc x=some x:=by
 have D:=C;unfold Bc;rw[aDp x.weights D,ak,aDq x.de,ak]
def Uu(x:dB)(C:BO x):Dw x x=some true:=by
 have D:=C;unfold Dw;simp only[vh x.weights D,aDr x.de,ak,eN,en,bg,aq]
def aDs(x:cV)(h:HX x){n:Int}(C:0<=n)(D:n<=1048576):Sz n (HY x) (K9 x n):=by
 obtain⟨i0,U,Y,Z,i4,E⟩:=h;unfold K9
 refine Sz.bind (amy x.bW E C D) λy5 L O T=>?_
 exact Sz.done L O T
def aDt(x:cV)(C:HY x):MJ x=some x:=by
 have D:=C;unfold MJ;rw[aDm x.request,ak,aDn x.addr,ak,amz x.bW D,ak]
def aDu(x:cV)(C:HY x):NY x x=some true:=by
 have D:=C;unfold NY;simp only[amw x.request,amx x.addr,Uu x.bW D,ak,eN,en,bg,aq]
def place(l:aa aN)(id:Int):Int:=match l.findIdx? (λr=>r.id==id)with
 |some i=>(i:Int)
 |none=>-1
def aDv(l:aa (Int×Bool))(k j:Int):nj (om l k true) j=(j==k || nj l j):=by
 induction l with
 |nil =>rfl
 | cons p ps D=>
  simp only[om];cases C:(k==p.1)with
  | true=>
   have e:k=p.1:=by simpa using C
   rw[au];simp[nj]
   grind
  | false=>
   rw[aq];simp only[nj]
   grind
def aDw(x y:Int):(x==y)=(y==x):=Bool.eq_iff_iff.2 ⟨λh=>by simpa using (by simpa using h:x=y).symm,λh=>by simpa using (by simpa using h:y=x).symm⟩
def fO(g:aL)(a:aJ):Nat:=(rj g a).toNat
def w7{g:aL}{a:aJ}(h:dn g a=true):rj g a=(fO g a:Int)/\(fO g a:Int)<eI g:=by
 have:=aau h;unfold fO;omega
def dO.lt{g:aL}{B:Int}{a:cN}(C:dO g B a){at_:aJ}(h:dn g at_=true):fO g at_<a.cells.length:=by
 have:=w7 h;have:=C.cells;omega
def dO.zE{g:aL}{B:Int}{a:cN}(C:dO g B a)(k:Nat){c:bN}(D:Sy c.symbols):dO g B ⟨a.cells.set k c,a.bD,a.bC⟩:=
 ⟨by simp[C.cells],Sy.ck C.syms D,C.bD,C.bC,C.BB,C.jg⟩
def amA{g:aL}{B:Int}{a:cN}(C:dO g B a)(hB:B<=100000){at_:aJ}(h:dn g at_=true)(hl:fO g at_<a.cells.length){k:Nat}(Y:k<11)(D:k<a.cells[fO g at_].symbols.length){x:Int}(E:0<=x/\x<=15):
  HD g a at_ (k:Int) x=some ⟨a.cells.set (fO g at_) ⟨a.cells[fO g at_].symbols.set k (bits .xor .i64 a.cells[fO g at_].symbols[k] x),a.cells[fO g at_].hG⟩,a.bD,a.bC⟩:=by
 obtain⟨L,_⟩:=ri h;obtain⟨O,Z⟩:=w7 h;have T:aM (k:Int) 0 10=true:=by rw[bB];omega
 have U:aM x 0 15=true:=bB.2 E;unfold HD sy xC xL xM;simp[C.copy,C.ok L hB,By,h,cW,T,U,Bz,O,hl,D]
def mT(R row:Int):aa Int:=(bif decide (0<row)then [row-1]else [])++(bif decide (row<R-1)then [row+1]else [])
def aa6{R row:Int}(O:2<=R)(T:R<=16)(U:0<=row)(Y:row<R):Hz R row=some (mT R row):=by
 unfold Hz mT xA xZ;have C:aM R 2 16=true:=by rw[bB];omega
 have D:aM row 0 (R-1)=true:=by rw[bB];omega
 rw[cW,ak,C,aK (n:=R-1),cW,aK (n:=row-1),aK (n:=row+1)];by_cases E:0<row<;>by_cases L:row<R-1<;>simp[D,E,L,bI]
def amB{R row:Int}(D:0 <= row)(E:row<R):∀ n∈mT R row,0 <= n/\n<R:=by
 intro n C;unfold mT at C
 grind
def aDx(R row:Int):(mT R row).length <= 2:=by
 unfold mT
 grind
def aDy{R row k:Int}{i:Nat}(hi:k+row=(i:Int))(C:0 <= k)(D:0 <= row)(H:aa Int):(mT R row).foldl (λh n=>qq (k+n).toNat h) (H.set i 0)=wX R row i H:=by
 unfold mT wX BE
 grind
def amC(k:Int):∀ (l:aa Int) (H:aa Int),(l.foldl (λh n=>qq (k+n).toNat h) H).length=H.length
 |[],H=>rfl
 |x::l,H=>by rw[List.foldl_cons,amC k l,N8]
def amD(k:Int):∀ (l:aa Int) (H:aa Int),(∀ x∈H,0<=x/\x<=100000)->∀ x∈l.foldl (λh n=>qq (k+n).toNat h) H,0<=x/\x<=100000
 |[],H,h=>h
 |x::l,H,h=>by rw[List.foldl_cons];exact amD k l _ (Uf h)
def amE{g:aL}(D:cA g=true){B:Int}{a:cN}(C:dO g B a)(hB:B <= 100000){n:Int}(O:0 <= n)(T:n <= 100000):Eb g a n=some ⟨a.cells,a.bD.map (nJ n),a.bC⟩:=by
 have U:=oA g;have Y:=C.bD;have E:aM n 0 100000=true:=by rw[bB];omega
 unfold Eb bh;rw[C.copy,ak,C.ok D hB,ak,cW,ak,E];have e:=cv (step:=Nf) _ (λi=>((n,(),(),(a.bD.length:Int),(i:Int),()),(((),(),(),()),((),(),(),()),([]:aa bN),([]:aa Int),([]:aa Int),a.cells,upto (nJ n) a.bD i,a.bC,()))) (.inl (((),(),()),(((),(),(),()),((),(),(),()),([]:aa bN),([]:aa Int),([]),a.cells,a.bD.map (nJ n),a.bC,()))) aT (λk h=>by
  unfold Nf ax xG xL;have Z:=C.BB _ (cM h);have L:=Es (nJ n) a.bD k h;have D:=Er (nJ n) a.bD k h (by rw[zp];exact h);simp (disch:=omega) [zp,h,D,aK];rw[<- L];rfl) (by unfold Nf ax xG xL;simp[Ep]) (bH)
 rw[cm,N0]at e;simp_all
def aDz(y:Int):0 <= bits .and .i64 y 15/\bits .and .i64 y 15 <= 15:=by
 have e:bits .and .i64 y 15=IntKind.wrap .i64 ((BitVec.ofInt 64 y &&& BitVec.ofInt 64 15).toNat):=rfl;have h:(BitVec.ofInt 64 y &&& BitVec.ofInt 64 15).toNat <= 15:=by
  exact Nat.le_trans Nat.and_le_right (by decide)
 rw[e,IntKind.wrap_i64];omega
def amF{n:Int}(C:0 <= n)(D:n<18446744073709551616):IntKind.u64.wrap n=n:=by
 have:IntKind.u64.wrap n=n % 18446744073709551616:=rfl
 grind
def r9(x:Int):Prop:=0<=x/\x<=1000000000
def i0:eF 0:=⟨by decide,by decide⟩
def lg(a:Nat):Nat:=(14688061253356765440 / 2 ^ (4*a)) % 16
def okB(C s1 s2 i:Nat):Bool:=!Nat.beq C 0&&(Nat.beq (gm C (pw i)) s1&&Nat.beq (gm s1 (pw i)) s2)
def loc(C s1 s2:Nat):ah Nat:=(List.range 11).find? (okB C s1 s2)
def HZ:ah Nat->Nat
 |some n=>n
 |none=>99
def aDA:(jC λa=>Nat.beq a 0 ||Td (Int.ofNat a)==some (Int.ofNat (lg a)))=true:=by kernel_rfl
def amG:(jC λC=>jC λs1=>jC λs2=>bif Nat.beq C 0 || Nat.beq s1 0 then Nat.beq (HZ (loc C s1 s2)) 99 else
  (λx=>!Nat.beq x 0&&Nat.beq (HZ (loc C s1 s2)) (bif Nat.blt (lg x) 11&&Nat.beq (gm s1 x) s2 then lg x else 99)) (gm s1 (iv C)))=true:=by kernel_rfl
def aDB:((List.range 11).all λn=>Gr 2 (Int.ofNat n)==some (Int.ofNat (pw n)))=true:=by kernel_rfl
def Oo{n:Nat}(h:n<11):Gr 2 (n:Int)=some (pw n:Int):=eq_of_beq (cw.1 aDB n (fI.2 h))
def aDC:((List.range 11).all λi=>(List.range 3).all λj=>Nat.beq (gm (pw (i*j)) (pw i)) (pw (i*(j+1))))=true:=by kernel_rfl
def aDD{i j:Nat}(hi:i<11)(C:j<3):gm (pw (i*j)) (pw i)=pw (i*(j+1)):=cK (cw.1 (cw.1 aDC i (fI.2 hi)) j (fI.2 C))
def vi(w:aa Nat)(i:Nat):aa Int:=[(bT w 0 i:Int),(bT w 1 i:Int),(bT w 2 i:Int)]
def aa7(w:aa Nat)(i:Nat):Nat->aa Int
 |0=>[(bT w 0 i:Int),(bT w 1 i:Int),(bT w 2 i:Int)]
 |1=>[(bT w 0 (i+1):Int),(bT w 1 i:Int),(bT w 2 i:Int)]
 |2=>[(bT w 0 (i+1):Int),(bT w 1 (i+1):Int),(bT w 2 i:Int)]
 |_=>[(bT w 0 (i+1):Int),(bT w 1 (i+1):Int),(bT w 2 (i+1):Int)]
def aDE{w:aa Nat}(T:dY w)(hl:w.length=11){i:Nat}(hi:i<11):iter Gs aT ((bz w,(),(i:Int),(1:Int),(pw i:Int),(0:Int),()),(vi w i,()))=some (.inl ((bz w,(),(i:Int),()),(vi w (i+1),()))):=by
 have O:i<(bz w).length:=by rw[iB];omega
 have U:(bz w)[i]=((w.getD i 0:Nat):Int):=vb O;have Y:=T.get i;have C:∀ j,bits .xor .i64 ((bT w j i:Nat):Int) ((gm (w.getD i 0) (pw (i*j)):Nat):Int)=((bT w j (i+1):Nat):Int):=λj=>by
  rw[sC (sD w j i) (gM _ _)];rfl
 have D:=λj=>N2 Y (va (i*j))
 have E:∀ j,j<3 -> uR ((pw (i*j):Nat):Int) ((pw i:Nat):Int)=some ((pw (i*(j+1)):Nat):Int):=λj L=>by
  rw[N2 (va (i*j)) (va i),aDD hi L]
 generalize bz w=W at *
 generalize w.getD i 0=c at *
 have e:=cv (step:=Gs) 3 (λj=>((W,(),(i:Int),(pw (i*j):Int),(pw i:Int),(j:Int),()),(aa7 w i j,()))) (.inl ((W,(),(i:Int),()),(vi w (i+1),()))) aT (λj L=>by
  have D:=D j;have E:=E j L;have C:=C j;generalize pw (i*j)=d at D E C ⊢;unfold Gs ax xG xI xL;rcases(by omega:j=0 \/ j=1 \/ j=2)with rfl|rfl|rfl<;>simp[aa7,O,U,D,E,C]<;>rfl) (by unfold Gs ax xG xI xL;simp[aa7,vi]) (bH)
 have Z:pw (i*0)=1:=by rw[Nat.mul_zero];rfl
 rw[cm,Z]at e;exact e
def aDF{w:aa Nat}(C:dY w)(hl:w.length=11):RN (bz w)=some (vi w 11):=by
 have D:=(N6 C hl).ok;unfold RN bh;rw[Ue _ _ (by rw[iB];omega),D,ak];have e:=cv (step:=LB) 11 (λi=>((bz w,(),(i:Int),()),(vi w i,()))) (.inl (((),()),(vi w 11,()))) aT (λi hi=>by
  have E:i<w.length:=by omega
  unfold LB ax xG bh;simp (disch:=omega) [iB,E,Oo hi,aDE C hl hi,bA]) (by unfold LB ax xG bh;simp[ hl]) (bH)
 rw[cm]at e;have L:(List.replicate (3:Int).toNat (0:Int))=vi w 0:=rfl;simp_all
def oD(w:aa Nat):Bool:=Nat.beq (bT w 0 11) 0&&(Nat.beq (bT w 1 11) 0&&Nat.beq (bT w 2 11) 0)
def gJ(w:aa Nat):aa Nat×Int×Int:=bif oD w then (w,0,-1)else match loc (bT w 0 11) (bT w 1 11) (bT w 2 11)with
 |some k=>(w.set k (w.getD k 0 ^^^ bT w 0 11),1,(k:Int))
 |none=>(w,2,-1)
def H6(n m:Nat):((n:Int)==(m:Int))=Nat.beq n m:=by
 cases h:Nat.beq n m with
 |true=>simp_all
 | false=>
  have:n≠m:=by rintro rfl;simp at h
  grind
def aDG{C s1 s2:Nat}(h:loc C s1 s2=none):∀ i,i<11 -> okB C s1 s2 i=false:=by
 intro i hi;have:=List.find?_eq_none.1 h i (fI.2 hi);simp_all
def Uv{D s1 s2 k:Nat}(h:loc D s1 s2=some k):k<11/\okB D s1 s2 k=true /\ ∀ i,i<k -> okB D s1 s2 i=false:=by
 refine⟨fI.1 (List.mem_of_find?_eq_some h),List.find?_some h,λi hi=>?_⟩
 have⟨O,l1,l2,E,T⟩:=List.find?_eq_some_iff_append.1 h;have U:l1.length=k/\l1=List.range k:=by
  have C:(List.range 11)[l1.length]?=some k:=by rw[E];simp
  have L:l1.length<11:=by have:=bf List.length E;simp at this;omega
  rw[List.getElem?_range L]at C;injection C with C;refine⟨C,?_⟩;have Y:(List.range 11).take l1.length=l1:=by rw[E];simp
  grind
 simp_all
def aDH{w:aa Nat}(U:dY w)(hl:w.length=11):RO (bz w)=some (bz (gJ w).1,(gJ w).2.1,(gJ w).2.2):=by
 have hs:=(N6 U hl).ok;have ho:bI w.length=true:=cD;have h0:∀n:Nat,((n:Int)==(0:Int))=Nat.beq n 0:=λn=>H6 n 0
 have V8:=sD w 0 11;have rS:=sD w 1 11;unfold RO Gt xA bE xZ xI;rw[Ue _ _ (by rw[iB];omega),hs,ak,aDF U hl];have e0:Gt (vi w 11)=some (oD w):=by
  unfold Gt oD xI;cases h1:Nat.beq (bT w 0 11) 0<;>cases h2:Nat.beq (bT w 1 11) 0<;>simp[vi,h0,h1,h2]
 have E:∀i (h:i<(bz w).length),(bz w)[i]=((w.getD i 0:Nat):Int):=λi h=>vb h
 have D:∀ k,(bz w).set k (bits .xor .i64 ((w.getD k 0:Nat):Int) ((bT w 0 11:Nat):Int))=bz (w.set k (w.getD k 0 ^^^ bT w 0 11)):=λk=>by
  rw[sC (U.get k) V8,Ud]
 have hlen:(bz w).length=11:=by rw[iB,hl]
 unfold Gt xI at e0;unfold gJ oD at *
 simp only[bg,aq,ak];rw[e0,ak,cD (by simp[hlen])];cases hz:(Nat.beq (bT w 0 11) 0&&(Nat.beq (bT w 1 11) 0&&Nat.beq (bT w 2 11) 0))with
 |true=>simp
 | false=>
  simp only[aq,au,jX];unfold vi;generalize hW:bz w=W at E D hlen ⊢;generalize hg0:bT w 0 11=C at *
  generalize YJ:bT w 1 11=s1 at *
  generalize qH:bT w 2 11=s2 at *
  have step:∀ i:Nat,i<11->DE (((),(),(i:Int),()),(W,[(C:Int),(s1:Int),(s2:Int)],()))=some (bif okB C s1 s2 i then .inr (.inl (((),1,(i:Int),()),(bz (w.set i (w.getD i 0 ^^^ C)),())))else .inl (((),(),((i+1:Nat):Int),()),(W,[(C:Int),(s1:Int),(s2:Int)],()))):=by
   intro i hi;have dQ:i<W.length:=by omega
   have L:(i:Int)<11:=by omega
   have Y:=N2 V8 (va i);have m2:=N2 rS (va i);have E:=E i dQ;have D:=D i;generalize w.getD i 0=c at E D ⊢;generalize bz (w.set i (c ^^^ C))=R at D ⊢;unfold DE okB ax aU xG xL;have O:((C:Int) != (0:Int)) = !Nat.beq C 0:=by rw[bne,h0]
   cases T:Nat.beq C 0 with
   |true=>simp (disch:=omega) [L,Oo hi,O,T,bA]
   | false=>
    cases Z:Nat.beq (gm C (pw i)) s1 with
    |false=>simp (disch:=omega) [L,Oo hi,O,T,Y,H6,Z,bA]
    | true=>
     cases q2:Nat.beq (gm s1 (pw i)) s2 with
     |false=>simp (disch:=omega) [L,Oo hi,O,T,Y,m2,H6,Z,q2,bA]
     |true=>simp (disch:=omega) [L,Oo hi,O,T,Y,m2,H6,Z,q2,dQ,E,D]
  cases Fs:loc C s1 s2 with
  | none=>
   have hn:=aDG Fs;have e:=cv (step:=DE) 11 (λi=>(((),(),(i:Int),()),(W,[(C:Int),(s1:Int),(s2:Int)],()))) (.inr (.inl (((),()),(W,())))) aT (λi hi=>by rw[step i hi,hn i hi];rfl) (by unfold DE ax aU xG xL;simp) (bH);rw[cm]at e;rw[e];simp only[Option.bind_some,Sum.elim_inr,eC];rw[hW]
  | some k=>
   obtain⟨hk,jP,hlo⟩:=Uv Fs;have e:=cv (step:=DE) k (λi=>(((),(),(i:Int),()),(W,[(C:Int),(s1:Int),(s2:Int)],()))) (.inl (((),1,(k:Int),()),(bz (w.set k (w.getD k 0 ^^^ C)),()))) aT (λi hi=>by rw[step i (by omega),hlo i hi];rfl) (by rw[step k hk,jP];rfl) (bH);rw[cm]at e;rw[e];rfl
def amH{C s1 s2:Nat}(D:C<16)(E:s1<16)(L:s2<16)(h:C=0 \/ s1=0):loc C s1 s2=none:=by
 have t:=gS (gS (gS amG D) E) L;have O:(Nat.beq C 0 ||Nat.beq s1 0)=true:=by rcases h with rfl|rfl<;>simp
 rw[O]at t;have t:=cK t;cases hl:loc C s1 s2 with
 |none=>rfl
 | some k=>
  rw[hl]at t;have:=(Uv hl).1;simp[HZ]at t;omega
def aDI{C s1 s2:Nat}(E:C<16)(L:s1<16)(O:s2<16)(T:C≠0)(U:s1≠0):gm s1 (iv C)≠0/\loc C s1 s2=bif Nat.blt (lg (gm s1 (iv C))) 11&&Nat.beq (gm s1 (gm s1 (iv C))) s2 then some (lg (gm s1 (iv C)))else none:=by
 have t:=gS (gS (gS amG E) L) O;have c0:Nat.beq C 0=false:=by cases h:Nat.beq C 0 with|false=>rfl|true=>exact absurd (cK h) T
 have Y:Nat.beq s1 0=false:=by cases h:Nat.beq s1 0 with|false=>rfl|true=>exact absurd (cK h) U
 dsimp only at t;rw[c0,Y,Bool.or_false,aq,aS]at t;have⟨t1,D⟩:=t;have D:=cK D;refine⟨(by rintro e;rw[e]at t1;cases t1),?_⟩;cases hb:(Nat.blt (lg (gm s1 (iv C))) 11&&Nat.beq (gm s1 (gm s1 (iv C))) s2)with
 | true=>
  rw[hb,au]at D;rw[aS]at hb;have Z:lg (gm s1 (iv C))<11:=cX hb.1;cases hl:loc C s1 s2 with
  |none=>rw[hl]at D;simp[HZ]at D;omega
  |some k=>rw[hl]at D;simp[HZ]at D;rw[D];rfl
 | false=>
  rw[hb,aq]at D;cases hl:loc C s1 s2 with
  |none=>rfl
  | some k=>
   have:=(Uv hl).1;rw[hl]at D;simp[HZ]at D;omega
def aDJ{a:Nat}(h:a<16)(C:a≠0):Ed (a:Int)=some (iv a:Int):=by
 have t:=gS aCc h;simp_all
def aDK{a:Nat}(h:a<16)(C:a≠0):Td (a:Int)=some (lg a:Int):=by
 have t:=gS aDA h;simp_all
def amI{w:aa Nat}(U:dY w)(hl:w.length=11):Nj (bz w)=some (bz (gJ w).1,(gJ w).2.1,(gJ w).2.2):=by
 have ho:bI (([]:aa Int).length+(bz w).length)=true:=cD (by simp[iB,hl]);have h0:∀n:Nat,((n:Int)==(0:Int))=Nat.beq n 0:=λn=>H6 n 0
 have C:=sD w 0 11;have D:=sD w 1 11;have Y:=sD w 2 11;have O:∀i (h:i<(bz w).length),(bz w)[i]=((w.getD i 0:Nat):Int):=λi h=>vb h
 have T:∀ k,(bz w).set k (bits .xor .i64 ((w.getD k 0:Nat):Int) ((bT w 0 11:Nat):Int))=bz (w.set k (w.getD k 0 ^^^ bT w 0 11)):=λk=>by
  rw[sC (U.get k) C,Ud]
 have hlen:(bz w).length=11:=by rw[iB,hl]
 unfold Nj xA xC xL xZ;rw[aax U hl,ak,aB8 U hl,ho];have aDL:ke [((bT w 0 11:Nat):Int),((bT w 1 11:Nat):Int),((bT w 2 11:Nat):Int)]=false:=rfl;rw[aDL,aq,au,ak];unfold gJ oD;cases hz:(Nat.beq (bT w 0 11) 0&&(Nat.beq (bT w 1 11) 0&&Nat.beq (bT w 2 11) 0))with
 |true=>simp
 | false=>
  simp only[aq,jX];generalize Z:bz w=W at O T hlen ⊢;generalize hg0:bT w 0 11=E at *
  generalize YJ:bT w 1 11=s1 at *
  generalize qH:bT w 2 11=s2 at *
  have dH:∀n:Nat,((n:Int) != (0:Int)) = !Nat.beq n 0:=λn=>by rw[bne,h0]
  by_cases L:E=0
  ·rw[amH C D Y (.inl L)];subst L;simp[Z]
  ·have c0:Nat.beq E 0=false:=by cases h:Nat.beq E 0 with | false=>rfl | true=>exact absurd (cK h) L
   by_cases n1:s1=0
   ·rw[amH C D Y (.inr n1)];simp_all
   ·have c1:Nat.beq s1 0=false:=by cases h:Nat.beq s1 0 with | false=>rfl | true=>exact absurd (cK h) n1
    have⟨nx,Fs⟩:=aDI C D Y L n1;have e1:=aDJ C L;have e2:=Et D (aCb E);rw[Fs];generalize hx:gm s1 (iv E)=x at *
    have amJ:x<16:=by rw[<- hx];exact gM _ _
    have e3:=aDK amJ nx;have e4:=Et D amJ;generalize hn:lg x=n at *
    by_cases q1:n<11
    ·have d1:Nat.blt n 11=true:=jv q1;have d2:(n:Int)<11:=by omega
     have dQ:n<W.length:=by omega
     have O:=O n dQ;have T:=T n;cases q2:Nat.beq (gm s1 x) s2 with
     | true=>
      simp only[d1,cC,au];generalize w.getD n 0=c at O T ⊢;simp_all
     | false=>
      simp[ e1,e2,e3,e4,H6,q2,Z]
    ·have d1:Nat.blt n 11=false:=by
      cases h:Nat.blt n 11 with
      |false=>rfl
      |true=>exact absurd (cX h) (by omega)
     have d2:¬ (n:Int)<11:=by omega
     simp only[d1,Bool.false_and,aq];simp[dH,c0,c1,e1,e2,e3,d2,Z]
def EI{w:aa Nat}(C:dY w)(hl:w.length=11):(gJ w).1.length=11/\dY (gJ w).1/\((gJ w).2.1=0 \/ (gJ w).2.1=1 \/ (gJ w).2.1=2):=by
 have D:=sD w 0 11;unfold gJ;cases oD w with
 |true=>simp_all
 | false=>
  cases loc _ _ _ with
  |none=>simp_all
  |some k=>exact⟨by simp[hl],C.set (mR (C.get k) D),.inr (.inl rfl)⟩
def aDM:(jC λa=>(List.range 11).all λk=>Nat.beq (gm (gm a (pw k)) (pw k)) (gm a (pw (k*2))))=true:=by kernel_rfl
def aDN{w:aa Nat}(O:dY w)(hl:w.length=11)(h:(gJ w).2.1≠2):oD (gJ w).1=true:=by
 unfold gJ at h ⊢;cases T:oD w with
 |true=>grind
 | false=>
  rw[T,aq]at h;simp only[aq];cases U:loc (bT w 0 11) (bT w 1 11) (bT w 2 11)with
  |none=>grind
  | some k=>
   have⟨E,C,_⟩:=Uv U;have D:=sD w 0 11;simp only[okB,aS]at C;have L:=cK C.2.1;have Y:=cK C.2.2;have u:=λj=>alF O hl D E j
   have Z:gm (bT w 0 11) (pw (k*0))=bT w 0 11:=by rw[Nat.mul_zero];exact aB6 D
   have p2:gm (bT w 0 11) (pw (k*2))=bT w 2 11:=by
    rw[<- cK (cw.1 (gS aDM D) k (fI.2 E)),L,Y]
   simp only[oD,aS];rw[u 0,u 1,u 2,Z,Nat.mul_one,L,p2,Nat.xor_self,Nat.xor_self,Nat.xor_self];exact⟨rfl,rfl,rfl⟩
def aDO{w:aa Nat}(C:dY w)(hl:w.length=11):Tf (bz w)=some (bz (w.drop 3)):=by
 unfold Tf xA xZ;have c0:((w.length:Int)==(11:Int))=true:=by rw[hl];rfl
 have D:(bz w).length=11:=by rw[iB,hl]
 rw[aaw C (by omega),ak,c0,show (!true)=false from rfl,aq,D];have e:((bz w).take ((11:Nat):Int).toNat).drop (3:Int).toNat=bz (w.drop 3):=by
  rw[List.take_of_length_le (by omega)];simp_all
 have E:bI (([]:aa Int).length+(bz (w.drop 3)).length)=true:=by
  rw[iB,List.length_drop,hl];rfl
 simp_all
def amK(x:aL):Prop:=eF x.cg/\eF x.aC/\eF x.rows/\eF x.aO
def aDP{H:Type}{fF:TypeId×Value->H}{w:World}:cy fF Tryz.prog w 23 .ga amK:=λn cs x C=>by
 have D:=Tryz.underlying23;obtain⟨E,i0,L⟩:=cy.part D C (i:=0) rfl oI (off:=0) (k:=1) rfl (by kernel_rfl);obtain⟨O,T,U⟩:=cy.part D C (i:=1) rfl oI (off:=1) (k:=1) rfl (by kernel_rfl);obtain⟨Y,Z,r2⟩:=cy.part D C (i:=2) rfl oI (off:=2) (k:=1) rfl (by kernel_rfl);obtain⟨a3,i3,r3⟩:=cy.part D C (i:=3) rfl oI (off:=3) (k:=1) rfl (by kernel_rfl);have hl:=cy.len D C;have hc:Tryz.prog.cellsOf 23=4:=by kernel_rfl
 rw[hc]at hl;exact⟨⟨E,O,Y,a3⟩,⟨i0,T,Z,i3⟩,cY.cut L (cY.cut U (cY.cut r2 (cY.cut r3 ((w6 hl)))))⟩
def amL(x:dw):Prop:=eF x.kF/\eF x.rp/\eF x.hD/\eF x.nT/\eF x.kG/\eF x.kH/\eF x.nU/\eF x.nW/\eF x.jI/\eF x.wr/\eF x.nX/\eF x.nY/\eF x.qB/\eF x.nZ/\eF x.oK/\eF x.xp/\eF x.xs
def aDQ{H:Type}{fF:TypeId×Value->H}{w:World}:cy fF Tryz.prog w 25 .kI amL:=λn cs x C=>by
 have D:=Tryz.underlying25;obtain⟨E,i0,L⟩:=cy.part D C (i:=0) rfl oI (off:=0) (k:=1) rfl (by kernel_rfl);obtain⟨O,T,U⟩:=cy.part D C (i:=1) rfl oI (off:=1) (k:=1) rfl (by kernel_rfl);obtain⟨Y,Z,r2⟩:=cy.part D C (i:=2) rfl oI (off:=2) (k:=1) rfl (by kernel_rfl);obtain⟨a3,i3,r3⟩:=cy.part D C (i:=3) rfl oI (off:=3) (k:=1) rfl (by kernel_rfl);obtain⟨a4,i4,r4⟩:=cy.part D C (i:=4) rfl oI (off:=4) (k:=1) rfl (by kernel_rfl);obtain⟨a5,i5,r5⟩:=cy.part D C (i:=5) rfl oI (off:=5) (k:=1) rfl (by kernel_rfl);obtain⟨a6,i6,r6⟩:=cy.part D C (i:=6) rfl oI (off:=6) (k:=1) rfl (by kernel_rfl);obtain⟨a7,i7,r7⟩:=cy.part D C (i:=7) rfl oI (off:=7) (k:=1) rfl (by kernel_rfl);obtain⟨a8,i8,r8⟩:=cy.part D C (i:=8) rfl oI (off:=8) (k:=1) rfl (by kernel_rfl);obtain⟨a9,i9,r9⟩:=cy.part D C (i:=9) rfl oI (off:=9) (k:=1) rfl (by kernel_rfl);obtain⟨a10,i10,BP⟩:=cy.part D C (i:=10) rfl oI (off:=10) (k:=1) rfl (by kernel_rfl);obtain⟨a11,i11,BQ⟩:=cy.part D C (i:=11) rfl oI (off:=11) (k:=1) rfl (by kernel_rfl);obtain⟨a12,i12,BR⟩:=cy.part D C (i:=12) rfl oI (off:=12) (k:=1) rfl (by kernel_rfl);obtain⟨a13,i13,BS⟩:=cy.part D C (i:=13) rfl oI (off:=13) (k:=1) rfl (by kernel_rfl);obtain⟨a14,i14,BU⟩:=cy.part D C (i:=14) rfl oI (off:=14) (k:=1) rfl (by kernel_rfl);obtain⟨a15,i15,BV⟩:=cy.part D C (i:=15) rfl oI (off:=15) (k:=1) rfl (by kernel_rfl);obtain⟨a16,i16,BW⟩:=cy.part D C (i:=16) rfl oI (off:=16) (k:=1) rfl (by kernel_rfl);have hl:=cy.len D C;have hc:Tryz.prog.cellsOf 25=17:=by kernel_rfl
 rw[hc]at hl;exact⟨⟨E,O,Y,a3,a4,a5,a6,a7,a8,a9,a10,a11,a12,a13,a14,a15,a16⟩,⟨i0,T,Z,i3,i4,i5,i6,i7,i8,i9,i10,i11,i12,i13,i14,i15,i16⟩,cY.cut L (cY.cut U (cY.cut r2 (cY.cut r3 (cY.cut r4 (cY.cut r5 (cY.cut r6 (cY.cut r7 (cY.cut r8 (cY.cut r9 (cY.cut BP (cY.cut BQ (cY.cut BR (cY.cut BS (cY.cut BU (cY.cut BV (cY.cut BW ((w6 hl))))))))))))))))))⟩
def amM(x:kE):Prop:=eF x.order/\True
def aDR{H:Type}{fF:TypeId×Value->H}{w:World}:cy fF Tryz.prog w 27 .oL amM:=λn cs x C=>by
 have D:=Tryz.underlying27;obtain⟨E,i0,L⟩:=cy.part D C (i:=0) rfl oI (off:=0) (k:=1) rfl (by kernel_rfl);obtain⟨O,T,U⟩:=cy.part D C (i:=1) rfl (cy.bool Tryz.underlying4) (off:=1) (k:=1) rfl (by kernel_rfl);have hl:=cy.len D C;have Y:Tryz.prog.cellsOf 27=2:=by kernel_rfl
 rw[Y]at hl;exact⟨⟨E,O⟩,⟨i0,T⟩,cY.cut L (cY.cut U ((w6 hl)))⟩
def amN(x:jx):Prop:=eF x.bD/\eF x.bC
def aDS{H:Type}{fF:TypeId×Value->H}{w:World}:cy fF Tryz.prog w 29 .n5 amN:=λn cs x C=>by
 have D:=Tryz.underlying29;obtain⟨E,i0,L⟩:=cy.part D C (i:=0) rfl oI (off:=0) (k:=1) rfl (by kernel_rfl);obtain⟨O,T,U⟩:=cy.part D C (i:=1) rfl oI (off:=1) (k:=1) rfl (by kernel_rfl);have hl:=cy.len D C;have Y:Tryz.prog.cellsOf 29=2:=by kernel_rfl
 rw[Y]at hl;exact⟨⟨E,O⟩,⟨i0,T⟩,cY.cut L (cY.cut U ((w6 hl)))⟩
def aa8(x:eT):Prop:=amK x.az/\amL x.cq/\amM x.mapping/\eF x.bF/\eF x.interval/\eF x.fZ/\amN x.ep
def aDT{H:Type}{fF:TypeId×Value->H}{w:World}:cy fF Tryz.prog w 31 .Config aa8:=λn cs x C=>by
 have D:=Tryz.underlying31;obtain⟨E,i0,L⟩:=cy.part D C (i:=0) rfl aDP (off:=0) (k:=4) rfl (by kernel_rfl);obtain⟨O,T,U⟩:=cy.part D C (i:=1) rfl aDQ (off:=4) (k:=17) rfl (by kernel_rfl);obtain⟨Y,Z,r2⟩:=cy.part D C (i:=2) rfl aDR (off:=21) (k:=2) rfl (by kernel_rfl);obtain⟨a3,i3,r3⟩:=cy.part D C (i:=3) rfl oI (off:=23) (k:=1) rfl (by kernel_rfl);obtain⟨a4,i4,r4⟩:=cy.part D C (i:=4) rfl oI (off:=24) (k:=1) rfl (by kernel_rfl);obtain⟨a5,i5,r5⟩:=cy.part D C (i:=5) rfl oI (off:=25) (k:=1) rfl (by kernel_rfl);obtain⟨a6,i6,r6⟩:=cy.part D C (i:=6) rfl aDS (off:=26) (k:=2) rfl (by kernel_rfl);have hl:=cy.len D C;have hc:Tryz.prog.cellsOf 31=28:=by kernel_rfl
 rw[hc]at hl;exact⟨⟨E,O,Y,a3,a4,a5,a6⟩,⟨i0,T,Z,i3,i4,i5,i6⟩,cY.cut L (cY.cut U (cY.cut r2 (cY.cut r3 (cY.cut r4 (cY.cut r5 (cY.cut r6 ((w6 hl))))))))⟩
def w8(x:fL):Prop:=BO x.bK/\BO x.next
def aa9(x:cH):Prop:=(x.aC.length<=1048576)
def amO(x:dJ):Prop:=(x.last.length<=1048576)/\(x.aX.length<=1048576)
def Oq(x:bN):Prop:=(x.symbols.length<=1048576)
def Ot(x:cN):Prop:=(x.cells.length<=1048576/\∀y∈x.cells,Oq y)/\(x.bD.length<=1048576)/\(x.bC.length<=1048576)
def amP(x:c8):Prop:=(x.map.length<=1048576)
def xb(x:cO):Prop:=(x.aI.length<=1048576)
def jT(x:bU):Prop:=(x.rows.length<=1048576)/\(x.counts.length<=1048576)
def cF(x:av):Prop:=w8 x.box/\aa9 x.bq/\amO x.ready/\Ot x.array/\amP x.spare/\xb x.aV/\(x.bL.length<=1048576/\∀y∈x.bL,jT y)/\(x.guard.length<=1048576)/\(x.pending.length<=1048576)/\(x.queue.length<=1048576)/\(x.shares.length<=1048576)/\(x.errors.length<=1048576)/\(x.trace.length<=1048576)/\(x.cr.length<=1048576)
def aDU(x:aL):SP x=some x:=by
 unfold SP;rfl
def aDV(x:aL):QZ x x=some true:=by
 unfold QZ;simp only[ak,eN,en,bg,aq]
def aDW(x:dw):SQ x=some x:=by
 unfold SQ;rfl
def aDX(x:dw):Q0 x x=some true:=by
 unfold Q0;simp only[ak,eN,en,bg,aq]
def aDY(x:kE):SR x=some x:=by
 unfold SR;rfl
def aDZ(x:kE):Q1 x x=some true:=by
 unfold Q1;simp only[ak,eN,en,bg,aq]
def aD0(x:jx):SS x=some x:=by
 unfold SS;rfl
def aD1(x:jx):Q2 x x=some true:=by
 unfold Q2;simp only[ak,eN,en,bg,aq]
def toConfig(x:eT):GR x=some x:=by
 unfold GR;rw[aDU x.az,ak,aDW x.cq,ak,aDY x.mapping,ak,aD0 x.ep,ak]
def aD2(x:eT):Q3 x x=some true:=by
 unfold Q3;simp only[aDV x.az,aDX x.cq,aDZ x.mapping,aD1 x.ep,ak,eN,en,bg,aq]
def aD3(x:fL)(C:w8 x):Q5 x x=some true:=by
 obtain⟨D,E⟩:=C;unfold Q5;simp only[Uu x.bK D,Uu x.next E,ak,eN,en,bg,aq]
def aD4(x:dG):Kk x x=some true:=by
 unfold Kk;simp only[ak,eN,en,bg,aq]
def aD5(x:aa dG)(C:(x.length<=1048576)):Q6 x x=some true:=by
 have hl:=C;have D:=vg Kk x (λy E=>aD4 y) (by omega);unfold Q6 bE;rw[show ((x.length:Int) != (x.length:Int))=false by simp,aq]
 refine(bf (λo=>Option.bind o _) D).trans ?_
 rfl
def aD6(x:cH)(C:aa9 x):Q7 x x=some true:=by
 have D:=C;unfold Q7;simp only[aD5 x.aC D,ak,eN,en,bg,aq]
def aD7(x:dJ)(C:amO x):Q8 x x=some true:=by
 obtain⟨D,E⟩:=C;unfold Q8;simp only[vh x.last D,vh x.aX E,ak,eN,en,bg,aq]
def aD8(x:bN)(C:Oq x):Kl x x=some true:=by
 have D:=C;unfold Kl;simp only[vh x.symbols D,ak,eN,en,bg,aq]
def aD9(x:aa bN)(C:(x.length<=1048576/\∀ y∈x,Oq y)):Q9 x x=some true:=by
 have hl:=C.1;have D:=vg Kl x (λy E=>aD8 y (C.2 y E)) (by omega);unfold Q9 bE;rw[show ((x.length:Int) != (x.length:Int))=false by simp,aq]
 refine(bf (λo=>Option.bind o _) D).trans ?_
 rfl
def aEa(x:cN)(C:Ot x):Ra x x=some true:=by
 obtain⟨D,E,L⟩:=C;unfold Ra;simp only[aD9 x.cells D,vh x.bD E,vh x.bC L,ak,eN,en,bg,aq]
def aEb(x:c8)(C:amP x):Rb x x=some true:=by
 have D:=C;unfold Rb;simp only[vh x.map D,ak,eN,en,bg,aq]
def aEc(x:cO)(C:xb x):Rc x x=some true:=by
 have D:=C;unfold Rc;simp only[vh x.aI D,ak,eN,en,bg,aq]
def aEd(x:bU)(C:jT x):Km x x=some true:=by
 obtain⟨D,E⟩:=C;unfold Km;simp only[vh x.rows D,vh x.counts E,ak,eN,en,bg,aq]
def aEe(x:aa bU)(C:(x.length<=1048576/\∀ y∈x,jT y)):Rd x x=some true:=by
 have hl:=C.1;have D:=vg Km x (λy E=>aEd y (C.2 y E)) (by omega);unfold Rd bE;rw[show ((x.length:Int) != (x.length:Int))=false by simp,aq]
 refine(bf (λo=>Option.bind o _) D).trans ?_
 rfl
def aEf(x:aa aJ)(C:(x.length<=1048576)):Re x x=some true:=by
 have hl:=C;have D:=vg F5 x (λy E=>amx y) (by omega);unfold Re bE;rw[show ((x.length:Int) != (x.length:Int))=false by simp,aq]
 refine(bf (λo=>Option.bind o _) D).trans ?_
 rfl
def aEg(x:aa aN)(C:(x.length<=1048576)):Rf x x=some true:=by
 have hl:=C;have D:=vg F6 x (λy E=>amw y) (by omega);unfold Rf bE;rw[show ((x.length:Int) != (x.length:Int))=false by simp,aq]
 refine(bf (λo=>Option.bind o _) D).trans ?_
 rfl
def aEh(x:bZ):Ko x x=some true:=by
 unfold Ko;simp only[ak,eN,en,bg,aq]
def aEi(x:aa bZ)(C:(x.length<=1048576)):Rg x x=some true:=by
 have hl:=C;have D:=vg Ko x (λy E=>aEh y) (by omega);unfold Rg bE;rw[show ((x.length:Int) != (x.length:Int))=false by simp,aq]
 refine(bf (λo=>Option.bind o _) D).trans ?_
 rfl
def aEj(x:gV):Rh x x=some true:=by
 unfold Rh;simp only[ak,eN,en,bg,aq]
def aEk(x:fk):Ri x x=some true:=by
 unfold Ri;simp only[ak,eN,en,bg,aq]
def aEl(x:jY):Rj x x=some true:=by
 unfold Rj;simp only[ak,eN,en,bg,aq]
def aEm(x:bV):Kq x x=some true:=by
 unfold Kq;simp only[ak,eN,en,bg,aq]
def aEn(x:aa bV)(C:(x.length<=1048576)):Rk x x=some true:=by
 have hl:=C;have D:=vg Kq x (λy E=>aEm y) (by omega);unfold Rk bE;rw[show ((x.length:Int) != (x.length:Int))=false by simp,aq]
 refine(bf (λo=>Option.bind o _) D).trans ?_
 rfl
def aEo(x:aH):Ro x x=some true:=by
 unfold Ro;simp only[ak,eN,en,bg,aq]
def aEp(x:dA):Kr x x=some true:=by
 unfold Kr;simp only[aEo x.cmd,ak,eN,en,bg,aq]
def aEq(x:aa dA)(C:(x.length<=1048576)):Rp x x=some true:=by
 have hl:=C;have D:=vg Kr x (λy E=>aEp y) (by omega);unfold Rp bE;rw[show ((x.length:Int) != (x.length:Int))=false by simp,aq]
 refine(bf (λo=>Option.bind o _) D).trans ?_
 rfl
def aEr(x:cR):Ks x x=some true:=by
 unfold Ks;simp only[ak,eN,en,bg,aq]
def aEs(x:aa cR)(C:(x.length<=1048576)):Rq x x=some true:=by
 have hl:=C;have D:=vg Ks x (λy E=>aEr y) (by omega);unfold Rq bE;rw[show ((x.length:Int) != (x.length:Int))=false by simp,aq]
 refine(bf (λo=>Option.bind o _) D).trans ?_
 rfl
def aEt(x:av)(C:cF x):F7 x x=some true:=by
 obtain⟨D,E,L,O,T,U,Y,Z,aEu,aEv,aEw,aEx,aEy,aEz⟩:=C;unfold F7;simp only[aD2 x.config,aD3 x.box D,aD6 x.bq E,aD7 x.ready L,aEa x.array O,aEb x.spare T,aEc x.aV U,aEe x.bL Y,vh x.guard Z,aEf x.pending aEu,aEg x.queue aEv,aEi x.shares aEw,aEj x.drain,aEk x.bk,aEl x.cB,aEn x.errors aEx,aEq x.trace aEy,aEs x.cr aEz,ak,eN,en,bg,aq]
def jU(c:eT)(p:dB):Bool:=(tF c p).getD false
def BX(c:eT)(p:dB)(hl:p.weights.length<1073741823):tF c p=some (jU c p):=by
 obtain⟨b,e,_⟩:=aaO c p hl;unfold jU;rw[e];rfl
def aba(c:eT)(p:dB)(hl:p.weights.length<1073741823):Gm c p=some (jU c p):=by
 have⟨b,e,C,_⟩:=aCD c p hl;unfold jU;simp_all
def ba1(a x:Bool):(bif a then some x else some false)=some (a&&x):=by cases a<;>rfl
def ba2(a x:Bool):(bif !a then some false else some x)=some (a&&x):=by cases a<;>rfl
def ba3(a b:Int)(x:Bool):(bif a != b then some false else some x)=some (a==b&&x):=by
 rw[bne];cases a==b<;>rfl
theorem ba4(p:Prop)[Decidable p](x:Bool):(bif decide p then some false else some x)=some (!decide p&&x):=by cases decide p<;>rfl
def cZ(c:av):Bool:=
 jU c.config c.box.bK&&(jU c.config c.box.next&&(aM c.now 0 1000000&&(mS c.config.az c.bq&&(lu c.config.az c.ready&&(kY c.config.az c.array&&(mj c.config.az c.spare&&(c.spare.bF==c.config.bF&&((dV c.aV&&tK c)&&(gX (eI (ei c.config.az c.spare)) c.queue&&(iL c.shares&&((c.shares.length:Int)==4&&(me c.drain&&(jh c.bk&&(c.bk.state==c.bq.bk&&(!decide (c.bk.since > c.now)&&(aM c.cB.every 1 100000&&(aM c.cB.wait 1 c.cB.every&&(aM c.cB.next 0 (W6 (eI c.config.az-1))&&(lS c.errors&&(decide ((c.trace.length:Int)<=2000)&&decide ((c.cr.length:Int)<=400)))))))))))))))))))))
def zF(c:av)(C:cF c):Bh c=some (cZ c):=by
 have⟨⟨D,E⟩,Y,⟨Z,z5⟩,⟨⟨z6,L⟩,z7,z8⟩,z9,O,⟨gy,amQ⟩,gK,gx,gE,ig,z16,SA,z18⟩:=C;unfold BO at D E;have T:∀ x∈c.array.cells,x.symbols.length<1073741824:=λx U=>by
  have:=L x U;unfold Oq at this;omega
 unfold xb at O;unfold Bh cZ;simp only[BX _ _ (show c.box.bK.weights.length<1073741823 by omega),BX _ _ (show c.box.next.weights.length<1073741823 by omega),cW,alV,aaU,alN _ _ T,al4,aCU _ (show c.aV.aI.length<1073741824 by omega),zD,wS,aaR _ _ (show c.queue.length<1073741824 by omega),Ob _ (show c.shares.length<1073741824 by omega),Oc,Og,alZ _ (show c.errors.length<1073741824 by omega),ak,ba1,ba2,ba3,ba4]
def Ou{g:aL}{a:cN}(h:kY g a=true):cA g=true/\(a.bD.length:Int)=gj g/\(a.bC.length:Int)=gj g:=by
 simp[kY,aS,iN]at h;simp_all
def gz(p:aN->Bool)(q:aa aN):Nat:=(q.findIdx? p).getD q.length
def Uw(p:aN -> Bool)(q:aa aN):gz p q <= q.length:=by
 unfold gz;cases h:q.findIdx? p with
 |none=>simp_all
 | some k=>
  have⟨C,_⟩:=mY.1 h
  grind
def jV(p:aN->Bool)(q:aa aN)(r:aN):aa aN:=(q.take (gz p q)++[r])++q.drop (gz p q)
def abb(p:aN->Bool)(q:aa aN)(r:aN):(jV p q r).length=q.length+1:=by
 have:=Uw p q;simp[jV];omega
def amR{p:aN -> Bool}{q:aa aN}{i:Nat}(h:i<gz p q)(hi:i<q.length):p q[i]=false:=by
 unfold gz at h;cases C:q.findIdx? p with
 |none =>simp_all
 | some k=>
  rw[C]at h;have⟨_,_,D⟩:=mY.1 C;simp_all
def amS{p:aN -> Bool}{q:aa aN}(h:gz p q<q.length):p q[gz p q]=true:=by
 unfold gz at h;cases C:q.findIdx? p with
 |none=>grind
 | some k=>
  have⟨D,E,_⟩:=mY.1 C;have e:gz p q=k:=by unfold gz;rw[C];rfl
  simp_all
def abc{n:Int}{l:aa aN}(h:gX n l=true){i j:Nat}(E:i<j)(D:j<l.length):(l[i].id==l[j].id)=false:=by
 unfold gX at h;rw[aS,cw]at h;have C:=h.1 j (fI.2 D);unfold sF at C;rw[bY D]at C;simp at C;have:=C.2.2 l[i] (jw.2 ⟨i,by simp;omega,by simp⟩);simp_all
def amT{n:Int}{p:aN->Bool}{q:aa aN}{r:aN}(h:gX n (jV p q r)=true):∀ x∈q,(x.id==r.id)=false:=by
 intro x D;have E:=Uw p q;have hl:=abb p q r;obtain⟨i,hi,rfl⟩:=jw.1 D;have C:(jV p q r)[gz p q]'(by omega)=r:=by
  unfold jV;rw[List.getElem_append_left (by simp;omega),List.getElem_append_right (by simp;omega)];simp
 by_cases c:i<gz p q
 ·have e:(jV p q r)[i]'(by omega)=q[i]:=by
   unfold jV;rw[List.getElem_append_left (by simp;omega),List.getElem_append_left (by simp;omega),List.getElem_take]
  have:=abc h c (by omega);rw[e,C]at this;exact this
 ·have e:(jV p q r)[i+1]'(by omega)=q[i]:=by
   unfold jV;rw[List.getElem_append_right (by simp;omega),List.getElem_drop];congr 1;simp;omega
  have:=abc h (show gz p q<i+1 by omega) (by omega);rw[e,C]at this;rw[aDw];exact this
def amU{p C:aN->Bool}:∀ {q:aa aN},(∀ x∈q,p x=C x)->q.findIdx? p=q.findIdx? C
 |[],_=>rfl
 | y :: q,h=>by
  rw[List.findIdx?_cons,List.findIdx?_cons,h y (.head _),amU λx D=>h x (.tail _ D)]
def amV{n:Int}{q:aa aN}{r:aN}(h:gX n (jV (λx=>!ef x r) q r)=true\/gX n (jV (λx=>ef r x) q r)=true):jV (λx=>!ef x r) q r=jV (λx=>ef r x) q r:=by
 have E:∀ x∈q,(x.id==r.id)=false:=by
  rcases h with h|h
  ·exact amT h
  ·exact amT h
 have C:∀ x∈q,(!ef x r)=ef r x:=by
  intro x C;have D:=E x C;have D:¬ x.id=r.id:=by simpa using D
  unfold ef;rw[Bool.eq_iff_iff];simp only[g9,pN,Bool.and_eq_false_iff,qA,beq_eq_false_iff_ne,eR,aS,iN,fJ];omega
 have e:gz (λx=>!ef x r) q=gz (λx=>ef r x) q:=by
  unfold gz;rw[amU C]
 unfold jV;rw[e]
def BY(n:Int)(q:aa aN)(r:aN):aa aN×Bool:=bif gX n q&&gX n (jV (λx=>ef r x) q r)then (jV (λx=>ef r x) q r,true)else (q,false)
def abd(q:aa aN)(h:q.length<1073741824):NR q=some q:=by
 unfold NR xA xZ;rw[cD (by simpa using h)];rfl
def Ov(r:aN):(⟨r.id,r.c9,r.line,r.write,r.data,r.at_⟩:aN)=r:=rfl
def aEA(n:Int)(q:aa aN)(r:aN)(hl:q.length<1000000000):TV n q r=some (BY n q r):=by
 have E:=Uw (λx=>!ef x r) q;unfold TV bh;have e:=cv (step:=NS) (gz (λx=>!ef x r) q) (λi=>((n,q,(),(i:Int),()),((r.id,r.c9,r.line,r.write,r.data,r.at_,()),()))) (.inl ((n,q,(),((gz (λx=>!ef x r) q:Nat):Int),()),((r.id,r.c9,r.line,r.write,r.data,r.at_,()),()))) aT (λk h=>by
  have C:=amR h (by omega);have C:ef q[k] r=true:=by simpa using C
  unfold NS ax xG xI;dsimp only;rw[aQ,au,aA ⟨by omega,by omega⟩];simp only[br];rw[Ov,Un,ak,C,au,bA]) (by
  unfold NS ax xG xI;dsimp only;by_cases c:gz (λx=>!ef x r) q<q.length
  ·have C:=amS c;have C:ef q[gz (λx=>!ef x r) q] r=false:=by simpa using C
   rw[aQ,au,aA ⟨by omega,by omega⟩];simp only[br];rw[Ov,Un,ak,C,aq]
  ·rw[aR,aq]) (bH)
 rw[cm]at e;rw[e,ak];simp only[eC];rw[bJ ⟨by omega,by omega,by omega⟩,bJ ⟨by omega,by omega,by omega⟩];simp only[br,Int.toNat_zero,List.drop_zero,iu];rw[Ov,abd _ (by simp;omega),ak,cD (by simp;omega),au,cD (by simp;omega),au,aaR n q (by omega),ak];unfold BY;have L:=abb (λx=>!ef x r) q r;cases O:gX n q with
 | false=>
  rw[iw,au,abd _ (by omega),ak];rfl
 | true=>
  rw[bg,aq];show (D8 n (jV (λx=>!ef x r) q r)).bind _=_;rw[aaR n _ (by omega),ak,cC];cases C:gX n (jV (λx=>!ef x r) q r)with
  | false=>
   have D:gX n (jV (λx=>ef r x) q r)=false:=by
    cases D:gX n (jV (λx=>ef r x) q r)with
    |false=>rfl
    |true=>rw[amV (.inr D),D]at C;cases C
   rw[D,iw,au,abd _ (by omega),ak];rfl
  | true=>
   have D:=amV (.inl C);rw[<-D,C,bg,aq,au];rfl
def nM(r:aN)(q:aa aN)(i:Nat):aa aN:=if gz (λx=>ef r x) q<i then (q.take (gz (λx=>ef r x) q)++[r])++(q.take i).drop (gz (λx=>ef r x) q)else q.take i
def amW(r:aN)(q:aa aN)(i:Nat)(h:i <= q.length):(nM r q i).length <= i+1:=by
 unfold nM
 grind
def aEB{r:aN}{q:aa aN}{k:Nat}(C:k<q.length)(h:k=gz (λx=>ef r x) q):nM r q (k+1)=(q.take k++[r])++[q[k]]:=by
 unfold nM;rw[bJ,<- h,oB,List.drop_left' (by simp;omega)]
def aEC{r:aN}{q:aa aN}{k:Nat}(C:k<q.length)(h:gz (λx=>ef r x) q<k):nM r q (k+1)=nM r q k++[q[k]]:=by
 unfold nM;rw[bJ,bJ h,oB C,List.drop_append_of_le_length (by simp;omega)];simp_all
def aED{r:aN}{q:aa aN}{k:Nat}(C:k<q.length)(h:k<gz (λx=>ef r x) q):nM r q (k+1)=nM r q k++[q[k]]:=by
 unfold nM;rw[bQ,bQ,oB C]
def aEE(n:Int)(q:aa aN)(r:aN)(hl:q.length<1000000000):SG n q r=some (BY n q r):=by
 have Y:=Uw (λx=>ef r x) q;unfold SG xA bh xZ;have e:=cv (step:=My) q.length (λi=>((n,q,(),(),decide (gz (λx=>ef r x) q<i),(i:Int),()),((r.id,r.c9,r.line,r.write,r.data,r.at_,()),nM r q i,()))) (.inl ((n,q,(),(),decide (gz (λx=>ef r x) q<q.length),()),((r.id,r.c9,r.line,r.write,r.data,r.at_,()),nM r q q.length,()))) aT (λk h=>by
  have L:=amW r q k (by omega);unfold My ax xG xI;dsimp only;rw[aQ (show (k:Int)<(q.length:Int) by omega),au];by_cases c:gz (λx=>ef r x) q<k
  ·rw[aQ c,bg,aq,aA ⟨by omega,by omega⟩];simp only[br];rw[cD (by simp;omega),au,bA,aEC h c,aQ (show gz _ q<k+1 by omega)]
  ·rw[aR c,iw,au,aA ⟨by omega,by omega⟩];simp only[br];rw[Ov,alW,ak];by_cases O:k=gz (λx=>ef r x) q
   ·have C:ef r q[k]=true:=by
     have:=amS (p:=λx=>ef r x) (q:=q) (by omega);simp_all
    have D:nM r q k=q.take k:=by unfold nM;rw[bQ c]
    rw[C,au,cD (by simp;omega),au,aA ⟨by omega,by omega⟩,cD (by simp;omega),au,bA,aQ (show gz _ q<k+1 by omega),aEB h O,D]
   ·have C:=amR (p:=λx=>ef r x) (by omega) h;rw[C,aq,aA ⟨by omega,by omega⟩,cD (by simp;omega),au,bA,aR (show ¬ gz _ q<k+1 by omega),aED h (by omega)]) (by
  unfold My ax xG xI;dsimp only;rw[aR,aq]) (bH)
 have D:nM r q 0=[]:=by
  unfold nM;simp[*]
 rw[cm,D,aR (show ¬ gz (λx=>ef r x) q<0 by omega)]at e;rw[e,ak];simp only[eC];have Z:=abb (λx=>ef r x) q r;have E:∀l:aa aN,l.length<1073741824 -> bI (([]:aa aN).length+l.length)=true:=λl h=>cD (by simpa using h)
 have key:∀ o:aa aN,o=jV (λx=>ef r x) q r -> ((yW n q).bind λT=>bif (!T)then bif bI (([]:aa aN).length+q.length)then some ((([]:aa aN)++q),false)else none else (yW n o).bind λU=>bif (!U)then bif bI (([]:aa aN).length+q.length)then some ((([]:aa aN)++q),false)else none else some (o,true))=some (BY n q r):=by
  rintro o rfl;rw[alX,ak];unfold BY;cases h1:gX n q with
  |false=>rw[iw,au,E q (by omega)];rfl
  | true=>
   rw[bg,aq,alX,ak,cC];cases C:gX n (jV (λx=>ef r x) q r)with
   |false=>rw[iw,au,E q (by omega)];rfl
   |true=>rfl
 have L:=amW r q q.length (dW _);by_cases c:gz (λx=>ef r x) q<q.length
 ·rw[aQ c,bg];refine key _ ?_;unfold nM jV;simp[*]
 ·rw[aR c,iw,au,cD (by simp only[lV];omega),au,Ov];refine key _ ?_;unfold nM jV;have:gz (λx=>ef r x) q=q.length:=by omega
  rw[bQ c,this,iu,List.drop_length,List.append_nil]
abbrev aEF:=((af×af×af×Int×af)×(av×(Int×Int×Int×Int×Int×Int×Int×Int×Int×Int×Int×Int×Int×Int×Int×Int×Int×Int×Int×Int×Int×Int×Bool×Int×Int×Int×Int×Int×Int×Int×Int×Int×Int×af×Int×Int×Int×Int×Int×Int×Int×af×Int×Int×Bool×Int×af×Int×af×af×af×af×af×Int×af×af×Int×Bool×(aa bU)×(aa Int)×(aa aJ)×(aa aN)×(aa bZ)×Bool×Int×Int×Int×Int×Int×Int×Int×Int×(aa bV)×(aa dA)×(aa cR)×af)×(aa bU)×(aa Int)×(aa Int)×(aa dG)×(aa Int)×(aa Int)×(aa bN)×(aa Int)×(aa Int)×(aa Int)×(aa Int)×af))
abbrev aEG:=((af×af×af×(aa bU)×Int×Int×af)×(av×av×(Int×Int×Int×Int×Int×Int×Int×Int×Int×Int×Int×Int×Int×Int×Int×Int×Int×Int×Int×Int×Int×Int×Bool×Int×Int×Int×Int×Int×Int×Int×Int×Int×Int×af×Int×Int×Int×Int×Int×Int×Int×af×Int×Int×Bool×Int×af×Int×af×af×af×af×af×Int×af×af×Int×Bool×af×(aa Int)×(aa aJ)×(aa aN)×(aa bZ)×Bool×Int×Int×Int×Int×Int×Int×Int×Int×(aa bV)×(aa dA)×(aa cR)×af)×(aa Int)×(aa Int)×(aa dG)×(aa Int)×(aa Int)×(aa bN)×(aa Int)×(aa Int)×(aa Int)×(aa Int)×(aa bU)×af))
def ij{α:Type}(l:aa α)(h:l.length<=1048577:=by omega):bI (([]:aa α).length+l.length)=true:=cD (by simp;omega)
def abe(t:bU)(h:jT t):GW t=some t:=by
 unfold GW xA xZ;have C:=h.1;have D:=h.2;rw[ij _,ij _];rfl
def amX(t:bU)(h:jT t):Le t=some t:=abe t h
def aEH(s:aEF)(T:aa bU)(C:s.1.2.2.2.1=0)(D:s.2.2.2.1=[])(E:s.2.2.1.2.2.2.2.2.2.2.2.2.2.2.2.2.2.2.2.2.2.2.2.2.2.2.2.2.2.2.2.2.2.2.2.2.2.2.2.2.2.2.2.2.2.2.2.2.2.2.2.2.2.2.2.2.2.2.2.2.2.1=T)(L:T.length<=1048576/\∀ y∈T,jT y):iter Gf aT s=some (.inl (((),(),(),()),(s.2.1,s.2.2.1,T,s.2.2.2.2))):=by
 subst E;have e:=cv (step:=Gf) (s.2.2.1.2.2.2.2.2.2.2.2.2.2.2.2.2.2.2.2.2.2.2.2.2.2.2.2.2.2.2.2.2.2.2.2.2.2.2.2.2.2.2.2.2.2.2.2.2.2.2.2.2.2.2.2.2.2.2.2.2.2.1).length (λi=>(((),(),(),(i:Int),()),(s.2.1,s.2.2.1,(s.2.2.1.2.2.2.2.2.2.2.2.2.2.2.2.2.2.2.2.2.2.2.2.2.2.2.2.2.2.2.2.2.2.2.2.2.2.2.2.2.2.2.2.2.2.2.2.2.2.2.2.2.2.2.2.2.2.2.2.2.2.1).take i,s.2.2.2.2))) (.inl (((),(),(),()),(s.2.1,s.2.2.1,s.2.2.1.2.2.2.2.2.2.2.2.2.2.2.2.2.2.2.2.2.2.2.2.2.2.2.2.2.2.2.2.2.2.2.2.2.2.2.2.2.2.2.2.2.2.2.2.2.2.2.2.2.2.2.2.2.2.2.2.2.2.1,s.2.2.2.2))) aT (λk h=>by
  unfold Gf ax xG xI;dsimp only;rw[aQ,au,aA ⟨by omega,by omega⟩];simp only[br];rw[amX _ (L.2 _ (cM _)),ak,cD (by simp;omega),au,bA,oB h]) (by
  unfold Gf ax xG xI;dsimp only;rw[aR,aq,iu]) (bH)
 have O:s=(((),(),(),((0:Nat):Int),()),(s.2.1,s.2.2.1,(s.2.2.1.2.2.2.2.2.2.2.2.2.2.2.2.2.2.2.2.2.2.2.2.2.2.2.2.2.2.2.2.2.2.2.2.2.2.2.2.2.2.2.2.2.2.2.2.2.2.2.2.2.2.2.2.2.2.2.2.2.2.1).take 0,s.2.2.2.2)):=by
  rw[List.take_zero,<-D,cm,<-C]
 rw[<-e,<-O]
def aEI(s:aEG)(D:s.1.2.2.2.2.2.1=0)(E:s.1.2.2.2.2.1=(s.1.2.2.2.1.length:Int))(L:s.2.2.2.2.2.2.2.2.2.2.2.2.2.2.1=[])(C:s.1.2.2.2.1.length <= 1048576 /\ ∀ y∈s.1.2.2.2.1,jT y):iter GX aT s=some (.inl (((),(),(),()),(s.2.1,s.2.2.1,s.2.2.2.1,s.2.2.2.2.1,s.2.2.2.2.2.1,s.2.2.2.2.2.2.1,s.2.2.2.2.2.2.2.1,s.2.2.2.2.2.2.2.2.1,s.2.2.2.2.2.2.2.2.2.1,s.2.2.2.2.2.2.2.2.2.2.1,s.2.2.2.2.2.2.2.2.2.2.2.1,s.2.2.2.2.2.2.2.2.2.2.2.2.1,s.2.2.2.2.2.2.2.2.2.2.2.2.2.1,s.1.2.2.2.1,s.2.2.2.2.2.2.2.2.2.2.2.2.2.2.2))):=by
 have e:=cv (step:=GX) s.1.2.2.2.1.length (λi=>(((),(),(),s.1.2.2.2.1,s.1.2.2.2.1.length,i,()),(s.2.1,s.2.2.1,s.2.2.2.1,s.2.2.2.2.1,s.2.2.2.2.2.1,s.2.2.2.2.2.2.1,s.2.2.2.2.2.2.2.1,s.2.2.2.2.2.2.2.2.1,s.2.2.2.2.2.2.2.2.2.1,s.2.2.2.2.2.2.2.2.2.2.1,s.2.2.2.2.2.2.2.2.2.2.2.1,s.2.2.2.2.2.2.2.2.2.2.2.2.1,s.2.2.2.2.2.2.2.2.2.2.2.2.2.1,s.1.2.2.2.1.take i,s.2.2.2.2.2.2.2.2.2.2.2.2.2.2.2))) _ aT (λk h=>by
  unfold GX ax xG xI;dsimp only;rw[aQ,au,aA ⟨by omega,by omega⟩];simp only[br];rw[abe _ (C.2 _ (cM _)),ak,cD (by simp;omega),au,bA,oB h]) (by
  unfold GX ax xG xI;dsimp only;rw[aR,aq,iu]) (bH)
 grind
def amY(l:aa Int)(h:l.length <= 1048577):SZ l=some l:=by
 cases l with
 |nil=>rfl
 | cons a l=>
  show (bif bI _ then some _ else none)=_;rw[ij _ h];rfl
def aEJ(l:aa aJ)(h:l.length <= 1048577):ZQ l=some l:=by
 cases l with
 |nil=>rfl
 | cons a l=>
  show (bif bI _ then some _ else none)=_;rw[ij _ h];rfl
def aEK(l:aa aN)(h:l.length <= 1048577):ZR l=some l:=by
 cases l with
 |nil=>rfl
 | cons a l=>
  show (bif bI _ then some _ else none)=_;rw[ij _ h];rfl
def aEL(l:aa bZ)(h:l.length <= 1048577):ZS l=some l:=by
 cases l with
 |nil=>rfl
 | cons a l=>
  show (bif bI _ then some _ else none)=_;rw[ij _ h];rfl
def aEM(l:aa bV)(h:l.length <= 1048577):ZT l=some l:=by
 cases l with
 |nil=>rfl
 | cons a l=>
  show (bif bI _ then some _ else none)=_;rw[ij _ h];rfl
def aEN(l:aa dA)(h:l.length <= 1048577):ZU l=some l:=by
 cases l with
 |nil=>rfl
 | cons a l=>
  show (bif bI _ then some _ else none)=_;rw[ij _ h];rfl
def aEO(l:aa cR)(h:l.length <= 1048577):ZV l=some l:=by
 cases l with
 |nil=>rfl
 | cons a l=>
  show (bif bI _ then some _ else none)=_;rw[ij _ h];rfl
def Ow(b:fL)(h:w8 b):GS b=some b:=by
 have C:b.bK.weights.length <= 1048576:=h.1;have D:b.next.weights.length <= 1048576:=h.2
 unfold GS sx xA xZ;rw[ij _,au,ij _];rfl
def abf(b:fL)(h:w8 b):La b=some b:=Ow b h
def aEP(c:av)(D:cF c):Ry c=some c:=by
 obtain⟨E,L,O,C,T,U,Y,z8,z9,fy,gy,gK,gx,gE⟩:=D;have y2:c.bq.aC.length<=1048576:=L;obtain⟨y3,y3'⟩:=O;have y5:c.spare.map.length<=1048576:=T;have y6:c.aV.aI.length<=1048576:=U;unfold Ry xA bh xZ;rw[abf _ E,ak];unfold Zk uQ Ld Dy xA xZ;rw[ij _,au,ak,ij _,au,ij _,au,ak,aCl _ (by have:=C.1.1;omega) (by have:=C.2.1;omega) (by have:=C.2.2;omega) (λx Z=>by have:x.symbols.length<=1048576:=C.1.2 x Z;omega),ak,ij _,au,ak,ij _,au,ak]
 refine(bf (λo=>Option.bind o _) (aEH _ c.bL rfl rfl rfl Y)).trans ?_
 rw[ak];simp only[eC];rw[ij c.guard,au,ij c.pending,au,ij c.queue,au,ij c.shares,au,ij c.errors,au,ij c.trace,au,ij c.cr,au];rfl
def zG(c:av)(D:cF c):Bd c=some c:=by
 obtain⟨E,L,O,C,T,U,Y,z8,z9,fy,gy,gK,gx,gE⟩:=D;have y2:c.bq.aC.length<=1048576:=L;obtain⟨y3,y3'⟩:=O;have y5:c.spare.map.length<=1048576:=T;have y6:c.aV.aI.length<=1048576:=U;unfold Bd bh;rw[Ow _ E,ak];unfold GU GV uX xA xZ;rw[ij _,au,ak,ij _,au,ij _,au,ak,alM _ (by have:=C.1.1;omega) (by have:=C.2.1;omega) (by have:=C.2.2;omega) (λx Z=>by have:x.symbols.length<=1048576:=C.1.2 x Z;omega),ak,amY _ (by omega),ak,ij _,au,ak]
 refine(bf (λo=>Option.bind o _) (aEI _ rfl rfl rfl Y)).trans ?_
 rw[ak];simp only[eC];rw[amY c.guard (by omega),ak,aEJ c.pending (by omega),ak,aEK c.queue (by omega),ak,aEL c.shares (by omega),ak,aEM c.errors (by omega),ak,aEN c.trace (by omega),ak,aEO c.cr (by omega),ak];rfl
def dj{α:Type}(p:α->Bool)(q:aa α):Nat:=(q.findIdx? p).getD q.length
def tN{α:Type}(p:α -> Bool)(q:aa α):dj p q <= q.length:=by
 unfold dj;cases h:q.findIdx? p with
 |none=>simp_all
 | some k=>
  have⟨C,_⟩:=mY.1 h
  grind
def mU{α:Type}{p:α -> Bool}{q:aa α}{i:Nat}(h:i<dj p q)(hi:i<q.length):p q[i]=false:=by
 unfold dj at h;cases C:q.findIdx? p with
 |none =>simp_all
 | some k=>
  rw[C]at h;have⟨_,_,D⟩:=mY.1 C;simp_all
def qv{α:Type}{p:α -> Bool}{q:aa α}(h:dj p q<q.length):p q[dj p q]=true:=by
 unfold dj at h;cases C:q.findIdx? p with
 |none=>grind
 | some k=>
  have⟨D,E,_⟩:=mY.1 C;have e:dj p q=k:=by unfold dj;rw[C];rfl
  simp_all
def H7{α:Type}(p:α -> Bool)(q:aa α):q.any p=decide (dj p q<q.length):=by
 by_cases c:dj p q<q.length
 ·rw[aQ c,List.any_eq_true];exact⟨_,cM c,qv c⟩
 ·rw[aR c,oJ];intro x C;obtain⟨i,hi,rfl⟩:=jw.1 C;rw[mU (p:=p) (by omega) hi];simp
def aEQ(l:aa cR)(r:aN)(hl:l.length<=1048576):TW l r=some (l.any λx=>x.id==r.id):=by
 have D:=tN (λx:cR=>x.id==r.id) l;unfold TW aao;rw[H7];have e:=cv (step:=NT) (dj (λx:cR=>x.id==r.id) l) (λi=>((l,r,(l.length:Int),(i:Int),()),())) (if dj (λx:cR=>x.id==r.id) l<l.length then .inl ((((dj (λx:cR=>x.id==r.id) l:Nat):Int),()),())else .inr (.inl ((),()))) aT (λk h=>by
  have C:=mU h (by omega);unfold NT ax aU xG xI;dsimp only;rw[aQ,au,aA ⟨by omega,by omega⟩];simp only[br];rw[C,aq,bA]) (by
  unfold NT ax aU xG xI;dsimp only;by_cases c:dj (λx:cR=>x.id==r.id) l<l.length
  ·rw[aQ,au,aA ⟨by omega,by omega⟩,bJ c];simp only[br];rw[qv c,au]
  ·rw[aR,aq,bQ c]) (bH)
 rw[cm]at e;rw[e,ak];by_cases c:dj (λx:cR=>x.id==r.id) l<l.length
 ·rw[bJ c,aQ c,eC,ak];dsimp only;rw[aQ]
 ·rw[bQ c,aR c,Sum.elim_inr,eC,ak];rfl
def aER(c:av)(r:aN):aN:=⟨r.id,r.c9,r.line,r.write,r.data,c.now⟩
def mm(c:av)(r:aN):aa aN×Bool:=BY (eI (ei c.config.az c.spare)) c.queue (aER c r)
def tO(c:av)(r:aN):av×Bool:=bif (!cZ c) ||((!(mm c r).2) ||(c.cr.any λx=>x.id==r.id))then (c,false)else ({ c with queue:=(mm c r).1 },true)
def amZ(c:av)(r:aN)(C:cF c):TX c r=some (tO c r):=by
 unfold TX tO;rw[zG c C,ak,zF c C,ak];obtain⟨E,L,O,T,U,Y,Z,z8,z9,fy,gy,gK,gx,D⟩:=C;cases h:cZ c with
 |false=>rfl
 | true=>
  rw[bg,aq,Bool.false_or,zD,ak,wS,ak,aEA _ _ _ (by omega),ak,aEQ _ _ D,ak];show (bif !(mm c r).2 then some (c,false)else bif (c.cr.any λx=>x.id==r.id)then some (c,false)else some ({ c with queue:=(mm c r).1 },true))=_;cases (mm c r).2<;>cases (c.cr.any λx=>x.id==r.id)<;>rfl
def aES(c:av)(h:cZ c=true):eI ⟨c.config.az.cg,c.config.az.aC,W6 (c.config.az.rows-c.config.bF),c.config.az.aO⟩=eI (ei c.config.az c.spare):=by
 simp only[cZ,aS,fJ]at h;obtain⟨_,_,_,_,_,_,C,D,_⟩:=h;unfold ei;rw[C,au,D]
def aET(c:av)(r:aN)(h:c.queue.length <= 1048576):(mm c r).1.length <= 1048576:=by
 unfold mm BY;cases C:(gX _ _&&gX _ _)with
 |false=>exact h
 | true=>
  rw[au];rw[aS]at C;have:=C.2;unfold gX at this
  grind
def am0(c:av)(r:aN)(C:cF c):cF (tO c r).1:=by
 unfold tO;cases hb:((!cZ c) ||((!(mm c r).2) ||(c.cr.any λx=>x.id==r.id)))with
 |true=>exact C
 | false=>
  have⟨D,E,L,O,T,U,Y,Z,z9,fy,gy,gK,gx,gE⟩:=C;exact⟨D,E,L,O,T,U,Y,Z,z9,aET c r fy,gy,gK,gx,gE⟩
def EJ(c:av)(r:aN):Bool×av:=bif (c.cr.any λx=>x.id==r.id)then (false,c)else bif (mm c r).2 then (true,{ c with queue:=(mm c r).1 })else (false,c)
def aEU(c:av)(r:aN)(C:cF c)(D:cZ c=true):SH c r=some ((EJ c r).1,((EJ c r).2,())):=by
 obtain⟨L,O,T,U,Y,Z,z7,z8,z9,fy,gy,gK,gx,gE⟩:=C;have hk:=tN (λx:cR=>x.id==r.id) c.cr;unfold SH EJ bE;rw[H7];have e:=cv (step:=Mz) (dj (λx:cR=>x.id==r.id) c.cr) (λi=>(((),(),(),(i:Int),()),(c,(r.id,r.c9,r.line,r.write,r.data,r.at_,()),(c.config.az.cg,c.config.az.aC,(W6 (c.config.az.rows-c.config.bF)),c.config.az.aO,()),()))) (if dj (λx:cR=>x.id==r.id) c.cr<c.cr.length then .inl ((false,()),(c,()))else .inr (.inl (((),(),(),()),(c,(r.id,r.c9,r.line,r.write,r.data,r.at_,()),(c.config.az.cg,c.config.az.aC,(W6 (c.config.az.rows-c.config.bF)),c.config.az.aO,()),())))) aT (λk h=>by
  have E:=mU h (by omega);unfold Mz ax aU xG xL;dsimp only;rw[aQ,au,aA ⟨by omega,by omega⟩,aA];simp only[br];rw[E,aq,bA]) (by
  unfold Mz ax aU xG xL;dsimp only;by_cases k:dj (λx:cR=>x.id==r.id) c.cr<c.cr.length
  ·rw[aQ,au,aA ⟨by omega,by omega⟩,aA,bJ k];simp only[br];rw[qv k,au]
  ·rw[aR,aq,bQ k]) (bH)
 rw[cm]at e;rw[e,ak];by_cases k:dj (λx:cR=>x.id==r.id) c.cr<c.cr.length
 ·rw[bJ k,aQ k,eC];rfl
 ·rw[bQ k,aR k,Sum.elim_inr,eC,HK,ak];dsimp only;rw[aES c D,aEE _ _ _ (by omega),ak];show (bif (mm c r).2 then some ((mm c r).2,({ c with queue:=(mm c r).1 },()))else some ((mm c r).2,(c,())))=_;cases (mm c r).2<;>rfl
def cc{T:Type}(g:T->Int->T×Int):aa T->Int->aa T×Int
 |[],k=>([],k)
 |x::l,k=>((g x k).1::(cc g l (g x k).2).1,(cc g l (g x k).2).2)
def am1{T:Type}(g:T->Int->T×Int)(x:T):∀ (l:aa T) (k:Int),cc g (l++[x]) k=((cc g l k).1++[(g x (cc g l k).2).1],(g x (cc g l k).2).2)
 |[],k=>rfl
 | y :: l,k=>by
  rw[List.cons_append];unfold cc;rw[am1 g x l];rfl
def H8{T:Type}(g:T->Int->T×Int):∀ (l:aa T) (k:Int),(cc g l k).1.length=l.length
 |[],k=>rfl
 | y :: l,k=>by
  unfold cc;rw[List.length_cons,List.length_cons,H8 g l]
def H9{T:Type}(g:T->Int->T×Int)(s:Nat):∀ (l:aa T) (k:Int),(∀ x∈l,∀ k,k<=(g x k).2/\(g x k).2<=k+s)->k<=(cc g l k).2/\(cc g l k).2<=k+((s*l.length:Nat):Int)
 |[],k,_=>by simp[cc]
 | y :: l,k,h=>by
  have E:=h y (.head _) k;have L:=H9 g s l (g y k).2 λx C=>h x (.tail _ C)
  have D:s*(y::l).length=s*l.length+s:=by rw[List.length_cons,Nat.mul_succ]
  show k<=(cc g l (g y k).2).2/\(cc g l (g y k).2).2<=_;rw[D];omega
def am2{T:Type}(g:T->Int->T×Int)(l:aa T)(k:Int){i:Nat}(hi:i<l.length):cc g (l.take (i+1)) k=((cc g (l.take i) k).1++[(g l[i] (cc g (l.take i) k).2).1],(g l[i] (cc g (l.take i) k).2).2):=by
 rw[oB hi,am1]
def am3{T:Type}(g:T->Int->T×Int):∀ (l:aa T) (k:Int) (i:Nat) (hi:i<l.length) (C:i<(cc g l k).1.length),(cc g l k).1[i]=(g l[i] (cc g (l.take i) k).2).1
 |[],k,i,hi,C=>by simp at hi
 |y::l,k,0,hi,C=>rfl
 |y::l,k,i+1,hi,C=>am3 g l (g y k).2 i (by simpa using hi) (by rw[H8];simpa using hi)
def abg{s n i:Nat}(C:s<=2097154)(hi:i<=n)(D:n<=1048576):s*i<=2199025352704:=Nat.le_trans (Nat.mul_le_mul C (Nat.le_trans hi D)) (by decide)
def vj{T:Type}(g:T->Int->T×Int)(s:Nat)(B:Int)(st:((af×Int×Int×af)×(aa T×af))->ah (((af×Int×Int×af)×(aa T×af))⊕(((Int×af)×(aa T×af))⊕Empty)))(l:aa T)(hl:l.length<=1048576)(O:s<=2097154)(hb:∀ x∈l,∀ k,k<=(g x k).2/\(g x k).2<=k+s)
  (U:∀(a:aa T) (i:Nat) (k:Int) (h:i<a.length),i<1048576->a[i]∈l->0<=k->k<=B+2199025352704->st (((),k,(i:Int),()),(a,()))=some (.inl (((),(g a[i] k).2,((i+1:Nat):Int),()),(a.set i (g a[i] k).1,()))))
  (Y:∀(a:aa T) (k:Int),st (((),k,(a.length:Int),()),(a,()))=some (.inr (.inl ((k,()),(a,()))))) (k:Int) (h0:0<=k) (h1:k<=B):iter st aT (((),k,(0:Int),()),(l,()))=some (.inl (((cc g l k).2,()),((cc g l k).1,()))):=by
 have e:=cv (step:=st) l.length (λi=>(((),(cc g (l.take i) k).2,(i:Int),()),((cc g (l.take i) k).1++l.drop i,()))) (.inl (((cc g l k).2,()),((cc g l k).1,()))) aT (λi hi=>by
  have Z:=H9 g s (l.take i) k λx D=>hb x (List.mem_of_mem_take D)
  have hm:=abg O (Nat.le_of_lt hi) hl;have E:(l.take i).length=i:=by rw[fY];omega
  have L:(cc g (l.take i) k).1.length=i:=by rw[H8,E]
  rw[E]at Z;have ha:((cc g (l.take i) k).1++l.drop i).length=l.length:=by rw[pM,L,List.length_drop];omega
  have D:((cc g (l.take i) k).1++l.drop i)[i]'(by omega)=l[i]:=by
   rw[List.getElem_append_right (by omega),List.getElem_drop];congr 1;omega
  have C:=U _ i (cc g (l.take i) k).2 (by omega:i<((cc g (l.take i) k).1++l.drop i).length) (by omega) (by rw[D];exact cM _) (by omega) (by omega);rw[D]at C;refine C.trans ?_;rw[am2 g l k hi,List.set_append_right _ _ (by omega),L,Nat.sub_self,List.drop_eq_getElem_cons hi,List.set_cons_zero,List.append_assoc];rfl) (by
  have C:=Y (cc g l k).1 (cc g l k).2;rw[H8]at C;rw[iu,List.drop_length,List.append_nil];exact C) (bH)
 exact e
def xd{T:Type}(g:T->Int->T×Int)(s:Nat)(B:Int)(st:((aa T×Int×Int×af)×af)->ah (((aa T×Int×Int×af)×af)⊕(((Int×af)×af)⊕(((Int×af)×af)⊕Empty))))(l:aa T)(hl:l.length<=1048576)(D:s<=2097154)(hb:∀ x∈l,∀ k,k<=(g x k).2/\(g x k).2<=k+s)
  (E:∀(a:aa T) (x:T) (i:Nat) (k:Int) (h:i<a.length),i<1048576->x∈l->a[i]=(g x k).1->0<=k->k<=B+2199025352704->st ((a,k,(i:Int),()),())=some (.inl ((a,(g x k).2,((i+1:Nat):Int),()),())))
  (L:∀(a:aa T) (k:Int),st ((a,k,(a.length:Int),()),())=some (.inr (.inr (.inl ((k,()),()))))) (k:Int) (Z:0<=k) (h1:k<=B):iter st aT (((cc g l k).1,k,(0:Int),()),())=some (.inr (.inl (((cc g l k).2,()),()))):=by
 have e:=cv (step:=st) l.length (λi=>(((cc g l k).1,(cc g (l.take i) k).2,(i:Int),()),())) (.inr (.inl (((cc g l k).2,()),()))) aT (λi hi=>by
  have O:=H9 g s (l.take i) k λx U=>hb x (List.mem_of_mem_take U)
  have hm:=abg D (Nat.le_of_lt hi) hl;have Y:(l.take i).length=i:=by rw[fY];omega
  rw[Y]at O;have hg:=H8 g l k;have C:=E (cc g l k).1 l[i] i (cc g (l.take i) k).2 (by omega) (by omega) (cM _) (am3 g l k i hi (by omega)) (by omega) (by omega);rw[am2 g l k hi];exact C) (by
  have C:=L (cc g l k).1 (cc g l k).2;rw[H8]at C;rw[iu];exact C) (bH)
 exact e
def MH{T:Type}(mark:aa T->Int->ah (Int×(aa T×af)))(held:aa T->Int->ah Int)(l:aa T):Prop:=∀k:Int,0<=k->k<=1152921504606846976->∃m C,mark l k=some (m,(C,()))/\held C k=some m/\k<=m/\m<=k+2199025352704
def xe{T:Type}{mark:aa T->Int->ah (Int×(aa T×af))}{held:aa T->Int->ah Int}{l:aa T}(g:T->Int->T×Int)(s:Nat)(hl:l.length<=1048576)(E:s<=2097154)(hb:∀ x∈l,∀ k,k<=(g x k).2/\(g x k).2<=k+s)(L:∀ k:Int,0<=k->k<=1152921504606846976->mark l k=some ((cc g l k).2,((cc g l k).1,())))(O:∀ k:Int,0<=k->k<=1152921504606846976->held (cc g l k).1 k=some (cc g l k).2):MH mark held l:=λk C D=>by
 have:=H9 g s l k hb;have:=abg E (dW _) hl;exact⟨_,_,L k C D,O k C D,by omega,by omega⟩
def fH(_ k:Int):Int×Int:=(k,k+1)
def Ux(x k:Int):k<=(fH x k).2/\(fH x k).2<=k+(1:Nat):=by
 unfold fH;dsimp only;omega
def Ox(l:aa Int)(hl:l.length<=1048576)(k:Int)(C:0<=k)(D:k<=2305843009213693952):jf l k=some ((cc fH l k).2,((cc fH l k).1,())):=by
 unfold jf bh;rw[vj fH 1 2305843009213693952 Kt l hl (by omega) (λx _=>Ux x) (λa i k h hi _ C D=>by
  have E:0<=(i:Int):=by omega
  unfold Kt ax xG xL;dsimp only[fq];rw[aQ,au];simp only[eM,br,E,h,and_self,dite_true,gA,gU];rw[bA,aK (n:=k+1)];rfl) (λa k=>by
  unfold Kt ax xG xL;dsimp only[fq];rw[aR,aq]) k C D]
 rfl
def Uy(l:aa Int)(hl:l.length<=1048576)(k:Int)(C:0<=k)(D:k<=2305843009213693952):qk (cc fH l k).1 k=some (cc fH l k).2:=by
 unfold qk bE;rw[xd fH 1 2305843009213693952 KP l hl (by omega) (λx _=>Ux x) (λa x i k h hi _ E C D=>by
  have L:0<=(i:Int):=by omega
  unfold KP ax aU xG xI;dsimp only;rw[aQ,au];simp only[br,L,h,and_self,dite_true,E];rw[bA,aK (n:=k+1)];simp only[fH,eN,en,bg,aq]) (λa k=>by
  unfold KP ax aU xG xI;dsimp only;rw[aR,aq]) k C D]
 rfl
def xg(l:aa Int)(hl:l.length<=1048576):MH jf qk l:=xe fH 1 hl (by omega) (λx _=>Ux x) (λk C D=>Ox l hl k C (by omega)) (λk C D=>Uy l hl k C (by omega))
def vk(_:dG)(k:Int):dG×Int:=(⟨((k).tmod 3==0),k+1⟩,k+1+1)
def abh(x:dG)(k:Int):k<=(vk x k).2/\(vk x k).2<=k+(2:Nat):=by
 unfold vk;dsimp only;omega
def aEV(l:aa dG)(hl:l.length<=1048576)(k:Int)(C:0<=k)(D:k<=1152921504606846976):F8 l k=some ((cc vk l k).2,((cc vk l k).1,())):=by
 unfold F8 bh;rw[vj vk 2 1152921504606846976 Ku l hl (by omega) (λx _=>abh x) (λa i k h hi _ C D=>by
  have E:0<=(i:Int):=by omega
  unfold Ku ax xG xL;dsimp only[fq];rw[aQ,au];simp only[eM,br,E,h,and_self,dite_true,gA,gU];rw[bA,aK (n:=k+1),aK (n:=k+1+1)];rfl) (λa k=>by
  unfold Ku ax xG xL;dsimp only[fq];rw[aR,aq]) k C D]
 rfl
def aEW(l:aa dG)(hl:l.length<=1048576)(k:Int)(C:0<=k)(D:k<=1152921504606846976):KR (cc vk l k).1 k=some (cc vk l k).2:=by
 unfold KR bE;rw[xd vk 2 1152921504606846976 KQ l hl (by omega) (λx _=>abh x) (λa x i k h hi _ E C D=>by
  have L:0<=(i:Int):=by omega
  unfold KQ ax aU xG xI;dsimp only;rw[aQ,au];simp only[br,L,h,and_self,dite_true,E];rw[bA,aK (n:=k+1),aK (n:=k+1+1)];simp only[vk,eN,en,bg,aq]) (λa k=>by
  unfold KQ ax aU xG xI;dsimp only;rw[aR,aq]) k C D]
 rfl
def aEX(l:aa dG)(hl:l.length<=1048576):MH F8 KR l:=xe vk 2 hl (by omega) (λx _=>abh x) (λk C D=>aEV l hl k C (by omega)) (λk C D=>aEW l hl k C (by omega))
def vm(_:aJ)(k:Int):aJ×Int:=(⟨k,k+1,k+1+1⟩,k+1+1+1)
def abi(x:aJ)(k:Int):k<=(vm x k).2/\(vm x k).2<=k+(3:Nat):=by
 unfold vm;dsimp only;omega
def aEY(l:aa aJ)(hl:l.length<=1048576)(k:Int)(C:0<=k)(D:k<=1152921504606846976):F9 l k=some ((cc vm l k).2,((cc vm l k).1,())):=by
 unfold F9 bh;rw[vj vm 3 1152921504606846976 KA l hl (by omega) (λx _=>abi x) (λa i k h hi _ C D=>by
  have E:0<=(i:Int):=by omega
  unfold KA ax xG xL;dsimp only[fq];rw[aQ,au];simp only[eM,br,E,h,and_self,dite_true,gA,gU];rw[bA,aK (n:=k+1),aK (n:=k+1+1),aK (n:=k+1+1+1)];rfl) (λa k=>by
  unfold KA ax xG xL;dsimp only[fq];rw[aR,aq]) k C D]
 rfl
def aEZ(l:aa aJ)(hl:l.length<=1048576)(k:Int)(C:0<=k)(D:k<=1152921504606846976):KV (cc vm l k).1 k=some (cc vm l k).2:=by
 unfold KV bE;rw[xd vm 3 1152921504606846976 KU l hl (by omega) (λx _=>abi x) (λa x i k h hi _ E C D=>by
  have L:0<=(i:Int):=by omega
  unfold KU ax aU xG xI;dsimp only;rw[aQ,au];simp only[br,L,h,and_self,dite_true,E];rw[bA,aK (n:=k+1),aK (n:=k+1+1),aK (n:=k+1+1+1)];simp only[vm,eN,en,bg,aq]) (λa k=>by
  unfold KU ax aU xG xI;dsimp only;rw[aR,aq]) k C D]
 rfl
def aE0(l:aa aJ)(hl:l.length<=1048576):MH F9 KV l:=xe vm 3 hl (by omega) (λx _=>abi x) (λk C D=>aEY l hl k C (by omega)) (λk C D=>aEZ l hl k C (by omega))
def vn(_:aN)(k:Int):aN×Int:=(⟨k,k+1,k+1+1,((k+1+1+1).tmod 3==0),k+1+1+1+1,k+1+1+1+1+1⟩,k+1+1+1+1+1+1)
def abj(x:aN)(k:Int):k<=(vn x k).2/\(vn x k).2<=k+(6:Nat):=by
 unfold vn;dsimp only;omega
def aE1(l:aa aN)(hl:l.length<=1048576)(k:Int)(C:0<=k)(D:k<=1152921504606846976):Ga l k=some ((cc vn l k).2,((cc vn l k).1,())):=by
 unfold Ga bh;rw[vj vn 6 1152921504606846976 KD l hl (by omega) (λx _=>abj x) (λa i k h hi _ C D=>by
  have E:0<=(i:Int):=by omega
  unfold KD ax xG xL;dsimp only[fq];rw[aQ,au];simp only[eM,br,E,h,and_self,dite_true,gA,gU];rw[bA,aK (n:=k+1),aK (n:=k+1+1),aK (n:=k+1+1+1),aK (n:=k+1+1+1+1),aK (n:=k+1+1+1+1+1),aK (n:=k+1+1+1+1+1+1)];rfl) (λa k=>by
  unfold KD ax xG xL;dsimp only[fq];rw[aR,aq]) k C D]
 rfl
def aE2(l:aa aN)(hl:l.length<=1048576)(k:Int)(C:0<=k)(D:k<=1152921504606846976):KZ (cc vn l k).1 k=some (cc vn l k).2:=by
 unfold KZ bE;rw[xd vn 6 1152921504606846976 KW l hl (by omega) (λx _=>abj x) (λa x i k h hi _ E C D=>by
  have L:0<=(i:Int):=by omega
  unfold KW ax aU xG xI;dsimp only;rw[aQ,au];simp only[br,L,h,and_self,dite_true,E];rw[bA,aK (n:=k+1),aK (n:=k+1+1),aK (n:=k+1+1+1),aK (n:=k+1+1+1+1),aK (n:=k+1+1+1+1+1),aK (n:=k+1+1+1+1+1+1)];simp only[vn,eN,en,bg,aq]) (λa k=>by
  unfold KW ax aU xG xI;dsimp only;rw[aR,aq]) k C D]
 rfl
def aE3(l:aa aN)(hl:l.length<=1048576):MH Ga KZ l:=xe vn 6 hl (by omega) (λx _=>abj x) (λk C D=>aE1 l hl k C (by omega)) (λk C D=>aE2 l hl k C (by omega))
def vo(_:bZ)(k:Int):bZ×Int:=(⟨k,k+1⟩,k+1+1)
def abk(x:bZ)(k:Int):k<=(vo x k).2/\(vo x k).2<=k+(2:Nat):=by
 unfold vo;dsimp only;omega
def aE4(l:aa bZ)(hl:l.length<=1048576)(k:Int)(C:0<=k)(D:k<=1152921504606846976):Gb l k=some ((cc vo l k).2,((cc vo l k).1,())):=by
 unfold Gb bh;rw[vj vo 2 1152921504606846976 KF l hl (by omega) (λx _=>abk x) (λa i k h hi _ C D=>by
  have E:0<=(i:Int):=by omega
  unfold KF ax xG xL;dsimp only[fq];rw[aQ,au];simp only[eM,br,E,h,and_self,dite_true,gA,gU];rw[bA,aK (n:=k+1),aK (n:=k+1+1)];rfl) (λa k=>by
  unfold KF ax xG xL;dsimp only[fq];rw[aR,aq]) k C D]
 rfl
def aE5(l:aa bZ)(hl:l.length<=1048576)(k:Int)(C:0<=k)(D:k<=1152921504606846976):K1 (cc vo l k).1 k=some (cc vo l k).2:=by
 unfold K1 bE;rw[xd vo 2 1152921504606846976 K0 l hl (by omega) (λx _=>abk x) (λa x i k h hi _ E C D=>by
  have L:0<=(i:Int):=by omega
  unfold K0 ax aU xG xI;dsimp only;rw[aQ,au];simp only[br,L,h,and_self,dite_true,E];rw[bA,aK (n:=k+1),aK (n:=k+1+1)];simp only[vo,eN,en,bg,aq]) (λa k=>by
  unfold K0 ax aU xG xI;dsimp only;rw[aR,aq]) k C D]
 rfl
def aE6(l:aa bZ)(hl:l.length<=1048576):MH Gb K1 l:=xe vo 2 hl (by omega) (λx _=>abk x) (λk C D=>aE4 l hl k C (by omega)) (λk C D=>aE5 l hl k C (by omega))
def vp(_:bV)(k:Int):bV×Int:=(⟨k,k+1,k+1+1⟩,k+1+1+1)
def abl(x:bV)(k:Int):k<=(vp x k).2/\(vp x k).2<=k+(3:Nat):=by
 unfold vp;dsimp only;omega
def aE7(l:aa bV)(hl:l.length<=1048576)(k:Int)(C:0<=k)(D:k<=1152921504606846976):Gc l k=some ((cc vp l k).2,((cc vp l k).1,())):=by
 unfold Gc bh;rw[vj vp 3 1152921504606846976 KH l hl (by omega) (λx _=>abl x) (λa i k h hi _ C D=>by
  have E:0<=(i:Int):=by omega
  unfold KH ax xG xL;dsimp only[fq];rw[aQ,au];simp only[eM,br,E,h,and_self,dite_true,gA,gU];rw[bA,aK (n:=k+1),aK (n:=k+1+1),aK (n:=k+1+1+1)];rfl) (λa k=>by
  unfold KH ax xG xL;dsimp only[fq];rw[aR,aq]) k C D]
 rfl
def aE8(l:aa bV)(hl:l.length<=1048576)(k:Int)(C:0<=k)(D:k<=1152921504606846976):K3 (cc vp l k).1 k=some (cc vp l k).2:=by
 unfold K3 bE;rw[xd vp 3 1152921504606846976 K2 l hl (by omega) (λx _=>abl x) (λa x i k h hi _ E C D=>by
  have L:0<=(i:Int):=by omega
  unfold K2 ax aU xG xI;dsimp only;rw[aQ,au];simp only[br,L,h,and_self,dite_true,E];rw[bA,aK (n:=k+1),aK (n:=k+1+1),aK (n:=k+1+1+1)];simp only[vp,eN,en,bg,aq]) (λa k=>by
  unfold K2 ax aU xG xI;dsimp only;rw[aR,aq]) k C D]
 rfl
def aE9(l:aa bV)(hl:l.length<=1048576):MH Gc K3 l:=xe vp 3 hl (by omega) (λx _=>abl x) (λk C D=>aE7 l hl k C (by omega)) (λk C D=>aE8 l hl k C (by omega))
def vr(_:dA)(k:Int):dA×Int:=(⟨k,⟨k+1,k+1+1,k+1+1+1,k+1+1+1+1⟩⟩,k+1+1+1+1+1)
def abm(x:dA)(k:Int):k<=(vr x k).2/\(vr x k).2<=k+(5:Nat):=by
 unfold vr;dsimp only;omega
def aFa(l:aa dA)(hl:l.length<=1048576)(k:Int)(C:0<=k)(D:k<=1152921504606846976):Gd l k=some ((cc vr l k).2,((cc vr l k).1,())):=by
 unfold Gd bh;rw[vj vr 5 1152921504606846976 KJ l hl (by omega) (λx _=>abm x) (λa i k h hi _ C D=>by
  have E:0<=(i:Int):=by omega
  unfold KJ ax xG xL;dsimp only[fq];rw[aQ,au];simp only[eM,br,E,h,and_self,dite_true,gA,gU];rw[bA,aK (n:=k+1),aK (n:=k+1+1),aK (n:=k+1+1+1),aK (n:=k+1+1+1+1),aK (n:=k+1+1+1+1+1)];rfl) (λa k=>by
  unfold KJ ax xG xL;dsimp only[fq];rw[aR,aq]) k C D]
 rfl
def aFb(l:aa dA)(hl:l.length<=1048576)(k:Int)(C:0<=k)(D:k<=1152921504606846976):K5 (cc vr l k).1 k=some (cc vr l k).2:=by
 unfold K5 bE;rw[xd vr 5 1152921504606846976 K4 l hl (by omega) (λx _=>abm x) (λa x i k h hi _ E C D=>by
  have L:0<=(i:Int):=by omega
  unfold K4 ax aU xG xI;dsimp only;rw[aQ,au];simp only[br,L,h,and_self,dite_true,E];rw[bA,aK (n:=k+1),aK (n:=k+1+1),aK (n:=k+1+1+1),aK (n:=k+1+1+1+1),aK (n:=k+1+1+1+1+1)];simp only[vr,eN,en,bg,aq]) (λa k=>by
  unfold K4 ax aU xG xI;dsimp only;rw[aR,aq]) k C D]
 rfl
def aFc(l:aa dA)(hl:l.length<=1048576):MH Gd K5 l:=xe vr 5 hl (by omega) (λx _=>abm x) (λk C D=>aFa l hl k C (by omega)) (λk C D=>aFb l hl k C (by omega))
def vt(_:cR)(k:Int):cR×Int:=(⟨k,k+1,k+1+1,k+1+1+1⟩,k+1+1+1+1)
def abn(x:cR)(k:Int):k<=(vt x k).2/\(vt x k).2<=k+(4:Nat):=by
 unfold vt;dsimp only;omega
def aFd(l:aa cR)(hl:l.length<=1048576)(k:Int)(C:0<=k)(D:k<=1152921504606846976):Ge l k=some ((cc vt l k).2,((cc vt l k).1,())):=by
 unfold Ge bh;rw[vj vt 4 1152921504606846976 KN l hl (by omega) (λx _=>abn x) (λa i k h hi _ C D=>by
  have E:0<=(i:Int):=by omega
  unfold KN ax xG xL;dsimp only[fq];rw[aQ,au];simp only[eM,br,E,h,and_self,dite_true,gA,gU];rw[bA,aK (n:=k+1),aK (n:=k+1+1),aK (n:=k+1+1+1),aK (n:=k+1+1+1+1)];rfl) (λa k=>by
  unfold KN ax xG xL;dsimp only[fq];rw[aR,aq]) k C D]
 rfl
def aFe(l:aa cR)(hl:l.length<=1048576)(k:Int)(C:0<=k)(D:k<=1152921504606846976):K7 (cc vt l k).1 k=some (cc vt l k).2:=by
 unfold K7 bE;rw[xd vt 4 1152921504606846976 K6 l hl (by omega) (λx _=>abn x) (λa x i k h hi _ E C D=>by
  have L:0<=(i:Int):=by omega
  unfold K6 ax aU xG xI;dsimp only;rw[aQ,au];simp only[br,L,h,and_self,dite_true,E];rw[bA,aK (n:=k+1),aK (n:=k+1+1),aK (n:=k+1+1+1),aK (n:=k+1+1+1+1)];simp only[vt,eN,en,bg,aq]) (λa k=>by
  unfold K6 ax aU xG xI;dsimp only;rw[aR,aq]) k C D]
 rfl
def aFf(l:aa cR)(hl:l.length<=1048576):MH Ge K7 l:=xe vt 4 hl (by omega) (λx _=>abn x) (λk C D=>aFd l hl k C (by omega)) (λk C D=>aFe l hl k C (by omega))
def vu(l:aa Int)(h:l.length<=1048576)(k:Int):k<=(cc fH l k).2/\(cc fH l k).2<=k+1048576:=by
 have:=H9 fH 1 l k λx _=>Ux x
 omega
def BZ(x:bN)(k:Int):bN×Int:=(⟨(cc fH x.symbols k).1,((cc fH x.symbols k).2.tmod 3==0)⟩,(cc fH x.symbols k).2+1)
def abo(x:bN)(h:x.symbols.length<=1048576)(k:Int):k<=(BZ x k).2/\(BZ x k).2<=k+(1048577:Nat):=by
 have:=vu x.symbols h k;unfold BZ;dsimp only;omega
def aFg(l:aa bN)(hl:l.length<=1048576)(D:∀ y∈l,y.symbols.length<=1048576):MH Kw Rs l:=xe BZ 1048577 hl (by omega) (λx C=>abo x (D x C)) (λk E L=>by
 unfold Kw bh;rw[vj BZ 1048577 1152921504606846976 Kv l hl (by omega) (λx C=>abo x (D x C)) (λa i k h hi C E L=>by
  have O:0<=(i:Int):=by omega
  have hb:=vu a[i].symbols (D _ C) k;unfold Kv ax xG xL xM;dsimp only[fq];rw[aQ,au];simp only[eM,br,O,h,and_self,dite_true];rw[Ox _ (D _ C) k E (by omega),ak];simp only[gA,gU];rw[bA,aK (n:=(cc fH a[i].symbols k).2+1)];rfl) (λa k=>by
  unfold Kv ax xG xL xM;dsimp only[fq];rw[aR,aq]) k E L]
 rfl) (λk E L=>by
 unfold Rs bE;rw[xd BZ 1048577 1152921504606846976 KS l hl (by omega) (λx C=>abo x (D x C)) (λa x i k h hi T C E L=>by
  have O:0<=(i:Int):=by omega
  have hb:=vu x.symbols (D _ T) k;unfold KS ax aU xG xI;dsimp only;rw[aQ,au];simp only[br,O,h,and_self,dite_true,C];rw[show (BZ x k).1.symbols=(cc fH x.symbols k).1 from rfl,Uy _ (D _ T) k E (by omega),ak,aR,bA,aK (n:=(cc fH x.symbols k).2+1)];simp only[BZ,en,bg,aq]) (λa k=>by
  unfold KS ax aU xG xI;dsimp only;rw[aR,aq]) k E L]
 rfl)
def zH(x:bU)(k:Int):bU×Int:=(⟨(cc fH x.rows k).1,(cc fH x.counts (cc fH x.rows k).2).1,(cc fH x.counts (cc fH x.rows k).2).2⟩,(cc fH x.counts (cc fH x.rows k).2).2+1)
def abp(x:bU)(h:x.rows.length<=1048576/\x.counts.length<=1048576)(k:Int):k<=(zH x k).2/\(zH x k).2<=k+(2097153:Nat):=by
 have:=vu x.rows h.1 k;have:=vu x.counts h.2 (cc fH x.rows k).2;unfold zH;dsimp only;omega
def aFh(l:aa bU)(hl:l.length<=1048576)(D:∀ y∈l,y.rows.length<=1048576/\y.counts.length<=1048576):MH Ky Rt l:=xe zH 2097153 hl (by omega) (λx C=>abp x (D x C)) (λk E L=>by
 unfold Ky bh;rw[vj zH 2097153 1152921504606846976 Kx l hl (by omega) (λx C=>abp x (D x C)) (λa i k h hi C E L=>by
  have T:0<=(i:Int):=by omega
  have hb:=vu a[i].rows (D _ C).1 k;have U:=vu a[i].counts (D _ C).2 (cc fH a[i].rows k).2;unfold Kx ax xG xL xM;dsimp only[fq];rw[aQ,au];simp only[eM,br,T,h,and_self,dite_true];rw[Ox _ (D _ C).1 k E (by omega),ak];simp only[gA,gU];rw[Ox _ (D _ C).2 _ (by omega) (by omega),ak];simp only[gA,gU];rw[bA,aK (n:=(cc fH a[i].counts (cc fH a[i].rows k).2).2+1)];rfl) (λa k=>by
  unfold Kx ax xG xL xM;dsimp only[fq];rw[aR,aq]) k E L]
 rfl) (λk E L=>by
 unfold Rt bE;rw[xd zH 2097153 1152921504606846976 KT l hl (by omega) (λx C=>abp x (D x C)) (λa x i k h hi O C E L=>by
  have T:0<=(i:Int):=by omega
  have hb:=vu x.rows (D _ O).1 k;have U:=vu x.counts (D _ O).2 (cc fH x.rows k).2;unfold KT ax aU xG xI;dsimp only;rw[aQ,au];simp only[br,T,h,and_self,dite_true,C];rw[show (zH x k).1.rows=(cc fH x.rows k).1 from rfl,Uy _ (D _ O).1 k E (by omega),ak,aR,aq,show (zH x k).1.counts=(cc fH x.counts (cc fH x.rows k).2).1 from rfl,Uy _ (D _ O).2 _ (by omega) (by omega),ak,aR,bA,aK (n:=(cc fH x.counts (cc fH x.rows k).2).2+1)];simp only[zH,eN,aq]) (λa k=>by
  unfold KT ax aU xG xI;dsimp only;rw[aR,aq]) k E L]
 rfl)
def aFi{β:Type}(c:av)(hz:cF c)(B:(Int×(aa Int×af))->(Int×(aa Int×af))->(Int×(aa dG×af))->(Int×(aa Int×af))->(Int×(aa Int×af))->(Int×(aa bN×af))->(Int×(aa Int×af))->(Int×(aa Int×af))->(Int×(aa Int×af))->(Int×(aa Int×af))->(Int×(aa bU×af))->(Int×(aa Int×af))->(Int×(aa aJ×af))->(Int×(aa aN×af))->(Int×(aa bZ×af))->(Int×(aa bV×af))->(Int×(aa dA×af))->(Int×(aa cR×af))->ah β)(z:ah β)(h:∀ D E L O T U Y Z r8 r9 BP BQ BR BS BU BV BW C,0<=C.1/\C.1<=100000000000000->Ru (⟨c.config,⟨⟨c.box.bK.dM,c.box.bK.cap,c.box.bK.dK,c.box.bK.low,c.box.bK.high,D.2.1,c.box.bK.de⟩,⟨c.box.next.dM,c.box.next.cap,c.box.next.dK,c.box.next.low,c.box.next.high,E.2.1,c.box.next.de⟩,c.box.waits⟩,c.now,⟨L.2.1,c.bq.bk⟩,⟨O.2.1,T.2.1⟩,⟨U.2.1,Y.2.1,Z.2.1⟩,⟨c.spare.bF,r8.2.1⟩,⟨r9.2.1,c.aV.wait,c.aV.dy⟩,BP.2.1,BQ.2.1,BR.2.1,BS.2.1,BU.2.1,c.drain,c.bk,c.cB,BV.2.1,BW.2.1,C.2.1⟩:av) (1:Int)=some C.1->B D E L O T U Y Z r8 r9 BP BQ BR BS BU BV BW C=z):((jf c.box.bK.weights (1:Int)).bind λD=>(jf c.box.next.weights D.1).bind λE=>(F8 c.bq.aC E.1).bind λL=>(jf c.ready.last L.1).bind λO=>(jf c.ready.aX O.1).bind λT=>(Kw c.array.cells T.1).bind λU=>(jf c.array.bD U.1).bind λY=>(jf c.array.bC Y.1).bind λZ=>(jf c.spare.map Z.1).bind λr8=>(jf c.aV.aI r8.1).bind λr9=>(Ky c.bL r9.1).bind λBP=>(jf c.guard BP.1).bind λBQ=>(F9 c.pending BQ.1).bind λBR=>(Ga c.queue BR.1).bind λBS=>(Gb c.shares BS.1).bind λBU=>(Gc c.errors BU.1).bind λBV=>(Gd c.trace BV.1).bind λBW=>(Ge c.cr BW.1).bind λC=>B D E L O T U Y Z r8 r9 BP BQ BR BS BU BV BW C)=z:=by
 obtain⟨⟨z1,z2⟩,z3,⟨z4,z5⟩,⟨⟨z6,z6'⟩,z7,z8⟩,z9,fy,⟨gy,amQ⟩,gK,gx,gE,ig,z16,SA,z18⟩:=hz;obtain⟨m0,l0,e0,d0,a0,b0⟩:=xg c.box.bK.weights z1 1 (by omega) (by omega);obtain⟨m1,l1,e1,d1,a1,b1⟩:=xg c.box.next.weights z2 m0 (by omega) (by omega)
 obtain⟨m2,l2,e2,d2,a2,b2⟩:=aEX c.bq.aC z3 m1 (by omega) (by omega);obtain⟨m3,l3,e3,d3,a3,b3⟩:=xg c.ready.last z4 m2 (by omega) (by omega);obtain⟨m4,l4,e4,d4,a4,b4⟩:=xg c.ready.aX z5 m3 (by omega) (by omega);obtain⟨m5,l5,e5,d5,a5,b5⟩:=aFg c.array.cells z6 z6' m4 (by omega) (by omega);obtain⟨m6,l6,e6,d6,a6,b6⟩:=xg c.array.bD z7 m5 (by omega) (by omega);obtain⟨m7,l7,e7,d7,a7,b7⟩:=xg c.array.bC z8 m6 (by omega) (by omega);obtain⟨m8,l8,e8,d8,a8,b8⟩:=xg c.spare.map z9 m7 (by omega) (by omega);obtain⟨m9,l9,e9,d9,a9,b9⟩:=xg c.aV.aI fy m8 (by omega) (by omega);obtain⟨m10,l10,gR,d10,a10,b10⟩:=aFh c.bL gy amQ m9 (by omega) (by omega);obtain⟨m11,l11,uU,d11,a11,b11⟩:=xg c.guard gK m10 (by omega) (by omega);obtain⟨m12,l12,mQ,d12,a12,b12⟩:=aE0 c.pending gx m11 (by omega) (by omega);obtain⟨HL,l13,ZN,d13,a13,b13⟩:=aE3 c.queue gE m12 (by omega) (by omega);obtain⟨m14,l14,iA,d14,a14,b14⟩:=aE6 c.shares ig HL (by omega) (by omega);obtain⟨m15,l15,So,d15,a15,b15⟩:=aE9 c.errors z16 m14 (by omega) (by omega);obtain⟨m16,l16,oy,d16,a16,b16⟩:=aFc c.trace SA m15 (by omega) (by omega);obtain⟨m17,l17,DP,d17,a17,b17⟩:=aFf c.cr z18 m16 (by omega) (by omega)
 refine(bf (λo=>Option.bind o _) e0).trans ?_
 rw[ak]
 refine(bf (λo=>Option.bind o _) e1).trans ?_
 rw[ak]
 refine(bf (λo=>Option.bind o _) e2).trans ?_
 rw[ak]
 refine(bf (λo=>Option.bind o _) e3).trans ?_
 rw[ak]
 refine(bf (λo=>Option.bind o _) e4).trans ?_
 rw[ak]
 refine(bf (λo=>Option.bind o _) e5).trans ?_
 rw[ak]
 refine(bf (λo=>Option.bind o _) e6).trans ?_
 rw[ak]
 refine(bf (λo=>Option.bind o _) e7).trans ?_
 rw[ak]
 refine(bf (λo=>Option.bind o _) e8).trans ?_
 rw[ak]
 refine(bf (λo=>Option.bind o _) e9).trans ?_
 rw[ak]
 refine(bf (λo=>Option.bind o _) gR).trans ?_
 rw[ak]
 refine(bf (λo=>Option.bind o _) uU).trans ?_
 rw[ak]
 refine(bf (λo=>Option.bind o _) mQ).trans ?_
 rw[ak]
 refine(bf (λo=>Option.bind o _) ZN).trans ?_
 rw[ak]
 refine(bf (λo=>Option.bind o _) iA).trans ?_
 rw[ak]
 refine(bf (λo=>Option.bind o _) So).trans ?_
 rw[ak]
 refine(bf (λo=>Option.bind o _) oy).trans ?_
 rw[ak]
 refine(bf (λo=>Option.bind o _) DP).trans ?_
 rw[ak];refine h (m0,(l0,())) (m1,(l1,())) (m2,(l2,())) (m3,(l3,())) (m4,(l4,())) (m5,(l5,())) (m6,(l6,())) (m7,(l7,())) (m8,(l8,())) (m9,(l9,())) (m10,(l10,())) (m11,(l11,())) (m12,(l12,())) (HL,(l13,())) (m14,(l14,())) (m15,(l15,())) (m16,(l16,())) (m17,(l17,())) (by dsimp only;omega) ?_;unfold Ru Zc Rr Zd Ze Zf Zg Zh;simp only[d0,d1,d2,d3,d4,d5,d6,d7,d8,d9,d10,d11,d12,d13,d14,d15,d16,d17,ak,aR (show ¬ m0<0 by omega),aR (show ¬ m1<0 by omega),aR (show ¬ m2<0 by omega),aR (show ¬ m3<0 by omega),aR (show ¬ m4<0 by omega),aR (show ¬ m5<0 by omega),aR (show ¬ m6<0 by omega),aR (show ¬ m7<0 by omega),aR (show ¬ m8<0 by omega),aR (show ¬ m9<0 by omega),aR (show ¬ m10<0 by omega),aR (show ¬ m11<0 by omega),aR (show ¬ m12<0 by omega),aR (show ¬ HL<0 by omega),aR (show ¬ m14<0 by omega),aR (show ¬ m15<0 by omega),aR (show ¬ m16<0 by omega),aR (show ¬ m17<0 by omega),aq]
def nb(l:aa UInt8):aa Int:=l.map λb=>(b.toNat:Int)
def cx(c:av)(a:cN):av:=⟨c.config,c.box,c.now,c.bq,c.ready,a,c.spare,c.aV,c.bL,c.guard,c.pending,c.queue,c.shares,c.drain,c.bk,c.cB,c.errors,c.trace,c.cr⟩
def xh:bN:=⟨[],false⟩
def EK(d:bN):bN:=⟨(d.symbols.set 0 (bits .xor .i64 (d.symbols.getD 0 0) 5)).set 1 (bits .xor .i64 (d.symbols.getD 1 0) 10),d.hG⟩
def lz(base:Nat):Nat->aa bN->aa bN
 |0,cs=>cs
 |n+1,cs=>(lz base n cs).set (base+n) (EK ((lz base n cs).getD (base+n) xh))
def Oy(base:Nat):∀ (n:Nat) (cs:aa bN),(lz base n cs).length=cs.length
 |0,_=>rfl
 | n+1,cs=>by
  show ((lz base n cs).set _ _).length=_;rw[eM,Oy]
def aFj{d:bN}(h:Sy d.symbols):Sy (EK d).symbols:=by
 have C:0<d.symbols.length:=by rw[h.1];omega
 have l1:1<d.symbols.length:=by rw[h.1];omega
 have L:d.symbols.getD 0 0=d.symbols[0]:=by rw[fA,bY C];rfl
 have O:d.symbols.getD 1 0=d.symbols[1]:=by rw[fA,bY l1];rfl
 have D:=aaA (h.get (k:=0) C) (b:=5) ⟨by omega,by omega⟩;have E:=aaA (h.get l1) (b:=10) ⟨by omega,by omega⟩;unfold EK;rw[L,O];exact(h.set ⟨D.1,D.2.1⟩).set ⟨E.1,E.2.1⟩
def Uz{base:Nat}:∀ (n:Nat) {cs:aa bN},base+n <= cs.length -> (∀ c∈cs,Sy c.symbols) -> ∀ c∈lz base n cs,Sy c.symbols
 |0,cs,_,h=>h
 | n+1,cs,hl,h=>by
  have C:=Uz (base:=base) n (by omega) h;have hlen:=Oy base n cs;refine Sy.ck C (aFj ?_)
  grind
def vw(g:aL)(l:jx)(a:cN)(b r:Int):cN:=
 ⟨bif zu l a (b*g.rows+r).toNat then lz ((b*g.rows+r)*g.aO).toNat g.aO.toNat a.cells else a.cells,a.bD.set (b*g.rows+r).toNat 0,wX g.rows r (b*g.rows+r).toNat a.bC⟩
def Oz{g:aL}(C:cA g=true){b r k:Int}(E:0 <= b)(L:b<aY g)(O:0 <= r)(T:r<g.rows)(U:0 <= k)(Y:k<g.aO):0 <= (b*g.rows+r)*g.aO/\(b*g.rows+r)*g.aO+k<eI g/\0 <= b*g.rows+r/\b*g.rows+r<gj g:=by
 have er:aY g*g.rows=gj g:=by simp[gj,C]
 have⟨r0,Z,D⟩:=wU E L O T;rw[er]at D;have⟨q0,q1,q2⟩:=wU Z D U Y;have el:gj g*g.aO=eI g:=by simp[gj,eI,C]
 simp_all
def aFk{g:aL}(C:cA g=true)(c:av){b r:Int}(hc:(c.array.cells.length:Int)=eI g)(Y:∀ x∈c.array.cells,Sy x.symbols)(E:0<=b)(L:b<aY g)(O:0<=r)(T:r<g.rows):
  iter Em aT (((),b,r,(),(0:Int),()),(c,(g.cg,g.aC,g.rows,g.aO,()),()))=some (.inl (((),b,r,(),()),(cx c ⟨lz ((b*g.rows+r)*g.aO).toNat g.aO.toNat c.array.cells,c.array.bD,c.array.bC⟩,(g.cg,g.aC,g.rows,g.aO,()),()))):=by
 obtain⟨_,_,_,_,g5,g6,g7,g8⟩:=fN C;have b1:=kX g;obtain⟨n,Z⟩:=eD (show 0<=g.aO by omega);obtain⟨B,hB⟩:∃B,B=((b*g.rows+r)*g.aO).toNat:=⟨_,rfl⟩
 have rN:g.aO.toNat=n:=by omega
 rw[<-hB,rN];have mF:B+n<=c.array.cells.length:=by
  have:=Oz C E L O T (show 0<=g.aO-1 by omega) (by omega);omega
 have e:=cv (step:=Em) n (λk=>(((),b,r,(),(k:Int),()),(cx c ⟨lz B k c.array.cells,c.array.bD,c.array.bC⟩,(g.cg,g.aC,g.rows,g.aO,()),()))) (.inl (((),b,r,(),()),(cx c ⟨lz B n c.array.cells,c.array.bD,c.array.bC⟩,(g.cg,g.aC,g.rows,g.aO,()),()))) aT (λk hk=>by
  have Dm:dn g ⟨b,r,(k:Int)⟩=true:=wT C E L O T (by dsimp only;omega) (by dsimp only;omega);have hix:rj g ⟨b,r,(k:Int)⟩=((B+k:Nat):Int):=by
   have:=Oz C E L O T (show 0<=(k:Int) by omega) (by omega);unfold rj;rw[Dm,au];dsimp only;omega
  have hlen:=Oy B k c.array.cells;have U:=Uz k (by omega:B+k<=c.array.cells.length) Y;show Em (((),b,r,(),(k:Int),()),(cx c ⟨lz B k c.array.cells,c.array.bD,c.array.bC⟩,(g.cg,g.aC,g.rows,g.aO,()),()))=some (.inl (((),b,r,(),((k+1:Nat):Int),()),(cx c ⟨(lz B k c.array.cells).set (B+k) (EK ((lz B k c.array.cells).getD (B+k) xh)),c.array.bD,c.array.bC⟩,(g.cg,g.aC,g.rows,g.aO,()),())));generalize lz B k c.array.cells=cs at hlen U;have D:B+k<cs.length:=by omega
  have s1:=Sy.mem U D;have l1:(0:Nat)<cs[B+k].symbols.length:=by rw[s1.1];omega
  have l2:(1:Nat)<cs[B+k].symbols.length:=by rw[s1.1];omega
  have c2:decide ((k:Int)<g.aO)=true:=aQ;have C9:cs.getD (B+k) xh=cs[B+k]:=by rw[fA,bY D];rfl
  have f0:cs[B+k].symbols.getD 0 0=cs[B+k].symbols[0]:=by rw[fA,bY l1];rfl
  have f1:cs[B+k].symbols.getD 1 0=cs[B+k].symbols[1]:=by rw[fA,bY l2];rfl
  rw[C9];unfold EK;rw[f0,f1];unfold Em cx xC ax xG xL xM;dsimp only;rw[c2,au,jr g,Bz,ak,hix];generalize B+k=j at D s1 l1 l2;simp (disch:=omega) [D,bA,l1,l2]) (by unfold Em xC ax xG xL xM;simp[Z]) (bH)
 exact e
def aFl(c:av){R k:Int}{nb:aa Int}(hl:nb.length<1000)(E:∀ n∈nb,0<=n/\n<R)(U:0<=k)(Y:k+R<=(c.array.bC.length:Int))(Z:c.array.bC.length<1000000)(hb:∀ x∈c.array.bC,0<=x/\x<=100000):
  iter Br aT (((),k,(),(nb.length:Int),(0:Int),()),(c,nb,()))=some (.inl ((),(cx c ⟨c.array.cells,c.array.bD,nb.foldl (λh n=>qq (k+n).toNat h) c.array.bC⟩,()))):=by
 have e:=cv (step:=Br) nb.length (λi=>(((),k,(),(nb.length:Int),(i:Int),()),(cx c ⟨c.array.cells,c.array.bD,(nb.take i).foldl (λh n=>qq (k+n).toNat h) c.array.bC⟩,nb,()))) (.inl ((),(cx c ⟨c.array.cells,c.array.bD,nb.foldl (λh n=>qq (k+n).toNat h) c.array.bC⟩,()))) aT (λj h=>by
  have hx:=E _ (cM h);have L:=amC k (nb.take j) c.array.bC;have hB:=amD k (nb.take j) c.array.bC hb;rw[List.take_succ_eq_append_getElem h,List.foldl_append];simp only[List.foldl_cons,List.foldl_nil];generalize (nb.take j).foldl (λh n=>qq (k+n).toNat h) c.array.bC=G at L hB;obtain⟨q,D⟩:=eD (show 0<=k+nb[j] by omega);have C:q<G.length:=by omega
  have hg:=hB _ (cM C);have O:W6 (k+nb[j])=(q:Int):=by rw[D];exact aK
  have T:W6 (G[q]+1)=G[q]+1:=aK;rw[D,br,aaE C];unfold Br cx ax xG xL;simp (disch:=omega) [h,O,C,T,bA,nJ]) (by unfold Br ax xG xL;simp) (bH)
 rw[cm,List.take_zero,List.foldl_nil]at e;exact e
def abq{g:aL}(D:cA g=true)(l:jx){B:Int}(hB:0 <= B){a:cN}(C:dO g B a){b r:Int}(E:0 <= b)(L:b<aY g)(O:0 <= r)(T:r<g.rows):dO g B (vw g l a b r):=by
 have⟨_,_,_,_,Y,Z,g7,g8⟩:=fN D;have U:((b*g.rows+r)*g.aO).toNat+g.aO.toNat <= a.cells.length:=by
  have:=Oz D E L O T (show 0 <= g.aO-1 by omega) (by omega);have:=C.cells;omega
 unfold vw;refine⟨?_,?_,by simp[C.bD],by simp[aCp,C.bC],N7 C.BB ⟨by omega,by omega⟩,aCr C.jg⟩
 ·dsimp only;cases zu l a (b*g.rows+r).toNat with
  |false=>exact C.cells
  |true=>rw[au,Oy];exact C.cells
 ·dsimp only;cases zu l a (b*g.rows+r).toNat with
  |false=>exact C.syms
  |true=>rw[au];exact Uz _ U C.syms
def am4{g:aL}(Y:cA g=true)(l:jx){B:Int}(c:av)(C:dO g B c.array){b r:Int}(Z:0<=b)(h2:b<aY g)(D:0<=r)(E:r<g.rows):ND g l c b r=some ((),(cx c (vw g l c.array b r),())):=by
 obtain⟨_,_,_,_,g5,g6,g7,g8⟩:=fN Y;have b2:=oA g;have er:aY g*g.rows=gj g:=by simp[gj,Y]
 obtain⟨r0,r1,r2⟩:=wU Z h2 D E;rw[er]at r2;have hk:b*g.rows+g.rows<=gj g:=by
  have:=(wU Z h2 (show 0<=g.rows-1 by omega) (show g.rows-1<g.rows by omega)).2.2;omega
 have a1:=C.bD;have a2:=C.bC;have L:W6 (b*g.rows)=b*g.rows:=aK;have e2:W6 (b*g.rows+r)=b*g.rows+r:=aK;have eL:=aFk Y c C.cells C.syms Z h2 D E;unfold vw;generalize lz ((b*g.rows+r)*g.aO).toNat g.aO.toNat c.array.cells=cs at eL;obtain⟨i,hi⟩:=eD r1;obtain⟨k,O⟩:∃k,k=b*g.rows:=⟨_,rfl⟩
 rw[<-O]at hi hk L e2 r0 r1 r2;unfold ND bh xL;rw[<-O,L,e2];rw[hi]at r2;rw[hi,br];have T:i<c.array.bD.length:=by omega
 have U:i<c.array.bC.length:=by omega
 have W0:TG g l c.array b r=some (zu l c.array i):=by
  unfold TG xI;have e2':W6 (i:Int)=i:=aK;simp only[<-O,L,hi,e2'];unfold zu;simp only[fA,bY T,bY U,Option.getD_some];by_cases h:c.array.bD[i] > l.bD<;>simp[T,U,h]
 rw[W0,ak];have b1:=N7 C.jg (k:=i) (v:=0) ⟨by omega,by omega⟩;have Fy:=aa6 g5 g6 D E;have rR:=aDx g.rows r;have abr:∀ cells:aa bN,iter Br aT (((),k,(),((mT g.rows r).length:Int),(0:Int),()),(cx c ⟨cells,c.array.bD.set i 0,c.array.bC.set i 0⟩,mT g.rows r,()))=some (.inl ((),(cx c ⟨cells,c.array.bD.set i 0,wX g.rows r i c.array.bC⟩,()))):=λcells=>by
  have:=aFl (cx c ⟨cells,c.array.bD.set i 0,c.array.bC.set i 0⟩) (R:=g.rows) (k:=k) (nb:=mT g.rows r) (by omega) (amB D E) r0 (by simp[cx];omega) (by simp[cx];omega) b1;simp only[cx]at this ⊢;rw[aDy hi r0 D]at this;exact this
 have h2x:aam=Br:=rfl;unfold cx at abr eL ⊢;cases zu l c.array i with
 | false=>
  simp[T,U,Fy,h2x,abr]
 | true=>
  rw[au,eL];have e2':W6 (i:Int)=i:=aK;simp[<-O,L,e2',hi,T,U,Fy,abr]
def aFm{g:aL}(C:cA g=true)(c:av){b r:Int}(hc:(c.array.cells.length:Int)=eI g)(Y:∀ x∈c.array.cells,Sy x.symbols)(E:0<=b)(L:b<aY g)(O:0<=r)(T:r<g.rows):
  iter A8 aT (((),r,(),b*g.rows+r,(0:Int),()),(c,(g.cg,g.aC,g.rows,g.aO,()),()))=some (.inl (((),r,(),b*g.rows+r,()),(cx c ⟨lz ((b*g.rows+r)*g.aO).toNat g.aO.toNat c.array.cells,c.array.bD,c.array.bC⟩,(g.cg,g.aC,g.rows,g.aO,()),()))):=by
 obtain⟨_,_,_,_,g5,g6,g7,g8⟩:=fN C;have b1:=kX g;have b2:=oA g;obtain⟨n,Z⟩:=eD (show 0<=g.aO by omega);obtain⟨B,hB⟩:∃B,B=((b*g.rows+r)*g.aO).toNat:=⟨_,rfl⟩
 have rN:g.aO.toNat=n:=by omega
 rw[<-hB,rN];have mF:B+n<=c.array.cells.length:=by
  have:=Oz C E L O T (show 0<=g.aO-1 by omega) (by omega);omega
 have e:=cv (step:=A8) n (λk=>(((),r,(),b*g.rows+r,(k:Int),()),(cx c ⟨lz B k c.array.cells,c.array.bD,c.array.bC⟩,(g.cg,g.aC,g.rows,g.aO,()),()))) (.inl (((),r,(),b*g.rows+r,()),(cx c ⟨lz B n c.array.cells,c.array.bD,c.array.bC⟩,(g.cg,g.aC,g.rows,g.aO,()),()))) aT (λk hk=>by
  have Dm:=Oz C E L O T (show 0<=(k:Int) by omega) (by omega);have e1:W6 ((b*g.rows+r)*g.aO)=(b*g.rows+r)*g.aO:=aK;have e2:W6 ((b*g.rows+r)*g.aO+(k:Int))=((B+k:Nat):Int):=by rw[aK];omega
  have hlen:=Oy B k c.array.cells;have U:=Uz k (by omega:B+k<=c.array.cells.length) Y;show A8 (((),r,(),b*g.rows+r,(k:Int),()),(cx c ⟨lz B k c.array.cells,c.array.bD,c.array.bC⟩,(g.cg,g.aC,g.rows,g.aO,()),()))=some (.inl (((),r,(),b*g.rows+r,((k+1:Nat):Int),()),(cx c ⟨(lz B k c.array.cells).set (B+k) (EK ((lz B k c.array.cells).getD (B+k) xh)),c.array.bD,c.array.bC⟩,(g.cg,g.aC,g.rows,g.aO,()),())));generalize lz B k c.array.cells=cs at hlen U;have D:B+k<cs.length:=by omega
  have s1:=Sy.mem U D;have l1:(0:Nat)<cs[B+k].symbols.length:=by rw[s1.1];omega
  have l2:(1:Nat)<cs[B+k].symbols.length:=by rw[s1.1];omega
  have c2:decide ((k:Int)<g.aO)=true:=aQ;have C9:cs.getD (B+k) xh=cs[B+k]:=by rw[fA,bY D];rfl
  have f0:cs[B+k].symbols.getD 0 0=cs[B+k].symbols[0]:=by rw[fA,bY l1];rfl
  have f1:cs[B+k].symbols.getD 1 0=cs[B+k].symbols[1]:=by rw[fA,bY l2];rfl
  rw[C9];unfold EK;rw[f0,f1];unfold A8 cx xC ax xG xL xM;dsimp only;have t0:(0:Int).toNat=0:=rfl;have t1:(1:Int).toNat=1:=rfl;have p0:(0:Int)<=0:=Int.le_refl 0;have p1:(0:Int)<=1:=by omega
  rw[c2,au];simp only[e1,e2,br];have cj:(0:Int)<=((B+k:Nat):Int):=by omega
  simp only[cj,D,p0,p1,t0,t1,l1,l2,and_self,dite_true,eM,gA,gU,fq];have w:=bA (i:=k);simp only[w,List.getElem_set_ne (show (0:Nat)≠1 by decide)]) (by unfold A8 xC ax xG xL xM;simp[Z]) (bH)
 exact e
def am5{x:Int}(h:0<=x/\x<=100000):(if (100000:Int)<W6 (x+1)then (100000:Int)else W6 (x+1))=nJ 1 x:=by
 rw[aK (n:=x+1)];rfl
def UA(C:av)(O D T:Int)(E:aa Int):ah (af×(av×af)):=bif (decide (O<(W6 (T-(1:Int)))))then if Z:0<=(W6 (D+(1:Int)))/\(W6 (D+(1:Int))).toNat<E.length then if U:(W6 (D+(1:Int))).toNat<E.length then (let L:=E[(W6 (D+(1:Int))).toNat]'U;if h61:0<=(W6 (D+(1:Int)))/\(W6 (D+(1:Int))).toNat<E.length then if Y:(W6 (D+(1:Int))).toNat<E.length then (let e63:=E[(W6 (D+(1:Int))).toNat]'Y;some ((),((⟨C.config,C.box,C.now,C.bq,C.ready,⟨C.array.cells,(C.array.bD.set D.toNat (0:Int)),(E.set (W6 (D+(1:Int))).toNat (if (100000:Int)<(W6 (L+(1:Int)))then (100000:Int)else (W6 (L+(1:Int)))))⟩,C.spare,C.aV,C.bL,C.guard,C.pending,C.queue,C.shares,C.drain,C.bk,C.cB,C.errors,C.trace,C.cr⟩:av),())))else none else none)else none else none else some ((),((⟨C.config,C.box,C.now,C.bq,C.ready,⟨C.array.cells,(C.array.bD.set D.toNat (0:Int)),E⟩,C.spare,C.aV,C.bL,C.guard,C.pending,C.queue,C.shares,C.drain,C.bk,C.cB,C.errors,C.trace,C.cr⟩:av),()))
def UB(D:av)(E C L:Int):ah (af×(av×af)):=if h45:0<=C/\C.toNat<D.array.bD.length then if T:C.toNat<D.array.bD.length then (let e47:=D.array.bD[C.toNat]'T;if h48:0<=C/\C.toNat<D.array.bC.length then if U:C.toNat<D.array.bC.length then (let e50:=D.array.bC[C.toNat]'U;(bif (decide (E > (0:Int)))then if h51:0<=(W6 (C-(1:Int)))/\(W6 (C-(1:Int))).toNat<(D.array.bC.set C.toNat (0:Int)).length then if Y:(W6 (C-(1:Int))).toNat<(D.array.bC.set C.toNat (0:Int)).length then (let O:=(D.array.bC.set C.toNat (0:Int))[(W6 (C-(1:Int))).toNat]'Y;if h54:0<=(W6 (C-(1:Int)))/\(W6 (C-(1:Int))).toNat<(D.array.bC.set C.toNat (0:Int)).length then if Z:(W6 (C-(1:Int))).toNat<(D.array.bC.set C.toNat (0:Int)).length then (let ZJ:=(D.array.bC.set C.toNat (0:Int))[(W6 (C-(1:Int))).toNat]'Z;(UA D E C L ((D.array.bC.set C.toNat (0:Int)).set (W6 (C-(1:Int))).toNat (if (100000:Int)<(W6 (O+(1:Int)))then (100000:Int)else (W6 (O+(1:Int)))))))else none else none)else none else none else (UA D E C L (D.array.bC.set C.toNat (0:Int)))))else none else none)else none else none
def am6{d:av}{R r:Int}{i:Nat}{H:aa Int}(hl:H.length<1000000)(D:r<R-1->i+1<H.length)(E:W6 (R-1)=R-1)(L:∀ x∈H,0<=x/\x<=100000)(hi:i<1000000):UA d r (i:Int) R H=some ((),(cx d ⟨d.array.cells,d.array.bD.set i 0,bif decide (r<R-1)then qq (i+1) H else H⟩,())):=by
 have O:W6 ((i:Int)+1)=((i+1:Nat):Int):=bA;unfold UA cx;rw[E,O];simp only[br];by_cases C:r<R-1
 ·have q:i+1<H.length:=D C;rw[aQ C,au,au,aA ⟨by omega,q⟩,aA q,aA ⟨by omega,q⟩,aA q,am5 (L _ (cM q)),aaE q]
 ·rw[aR C,aq,aq]
def am7{d:av}{R r:Int}{i:Nat}(E:i<d.array.bD.length)(L:i<d.array.bC.length)(hl:d.array.bC.length<1000000)(Y:0<r->1<=i)(O:r<R-1->i+1<d.array.bC.length)(T:W6 (R-1)=R-1)(Z:∀ x∈d.array.bC,0<=x/\x<=100000):UB d r (i:Int) R=some ((),(cx d ⟨d.array.cells,d.array.bD.set i 0,wX R r i d.array.bC⟩,())):=by
 have C:=N7 Z (k:=i) (v:=0) ⟨by omega,by omega⟩;have hL:(d.array.bC.set i 0).length=d.array.bC.length:=by simp
 unfold UB wX BE;simp only[br];rw[aA ⟨by omega,E⟩,aA E,aA ⟨by omega,L⟩,aA L];obtain⟨H,U⟩:∃H,d.array.bC.set i 0=H:=⟨_,rfl⟩
 rw[U]at C hL;simp only[U];by_cases D:0<r
 ·have p1':=Y D;have w1:W6 ((i:Int)-1)=((i-1:Nat):Int):=by rw[aK];omega
  have q:i-1<H.length:=by omega
  simp only[w1,br];rw[aQ D,au,au,aA ⟨by omega,q⟩,aA q,aA ⟨by omega,q⟩,aA q,am5 (C _ (cM q)),<-aaE q];exact am6 (by rw[N8];omega) (λh=>by rw[N8];have:=O h;omega) T (Uf C) (by omega)
 ·rw[aR D,aq,aq];exact am6 (by omega) (λh=>by have:=O h;omega) T C (by omega)
def am8{g:aL}(E:cA g=true)(l:jx){B:Int}(c:av)(C:dO g B c.array){b r:Int}(L:0<=b)(O:b<aY g)(Z:0<=r)(h4:r<g.rows):Mi g l c b r=some ((),(cx c (vw g l c.array b r),())):=by
 obtain⟨_,_,_,_,g5,g6,g7,g8⟩:=fN E;have b2:=oA g;have er:aY g*g.rows=gj g:=by simp[gj,E]
 obtain⟨r0,r1,r2⟩:=wU L O Z h4;rw[er]at r2;have T:r<g.rows-1->b*g.rows+r+1<gj g:=λh=>by
  have:=(wU L O (show 0<=r+1 by omega) (show r+1<g.rows by omega)).2.2;omega
 have U:0<r->1<=b*g.rows+r:=λh=>by omega
 have a1:=C.bD;have a2:=C.bC;have e1:W6 (b*g.rows)=b*g.rows:=aK;have e2:W6 (b*g.rows+r)=b*g.rows+r:=aK;have w3:W6 (g.rows-1)=g.rows-1:=aK;have Y:=aFm E c C.cells C.syms L O Z h4;unfold vw;generalize lz ((b*g.rows+r)*g.aO).toNat g.aO.toNat c.array.cells=cs at Y;have hx:Mi g l c b r=(GK g l c.array (W6 (W6 (b*g.rows)+r))).bind λy1=>bif y1 then (iter A8 aT (((),r,(),W6 (W6 (b*g.rows)+r),(0:Int),()),(c,(g.cg,g.aC,g.rows,g.aO,()),()))).bind (Sum.elim (λD=>UB D.2.1 D.1.2.1 D.1.2.2.2.1 D.2.2.1.2.2.1) (λz=>nomatch z))else UB c r (W6 (W6 (b*g.rows)+r)) g.rows:=rfl
 rw[hx,e1,e2];obtain⟨i,hi⟩:=eD r1;rw[hi]at Y U T r2 ⊢;rw[br,aCm g l c.array i (by omega) (by omega),ak];cases zu l c.array i with
 |false=>exact am7 (d:=c) (r:=r) (R:=g.rows) (i:=i) (by omega) (by omega) (by omega) (λh=>by have:=U h;omega) (λh=>by have:=T h;omega) w3 C.jg
 | true=>
  rw[au,Y,ak];exact am7 (d:=cx c ⟨cs,c.array.bD,c.array.bC⟩) (r:=r) (R:=g.rows) (i:=i) (by show i<c.array.bD.length;omega) (by show i<c.array.bC.length;omega) (by show c.array.bC.length<_;omega) (λh=>by have:=U h;omega) (λh=>by show _<c.array.bC.length;have:=T h;omega) w3 C.jg
def aFn{c:eT}{p:dB}(hl:p.weights.length<1073741823)(h:jU c p=true):js c.cq=true:=by
 have⟨b,e,C⟩:=aaO c p hl;have hb:b=true:=by
  rw[BX c p hl]at e;simp_all
 have:=C hb;simp[pq,aS]at this;simp_all
def jW(i:Nat):aH:=⟨(i:Int) % 9+1,if (i:Int) % 9+1<=5 then (i:Int) / 9 else 0,0,0⟩
def zI(n m:Int):Int:=if n > m then n else m
def UC(g:aL)(t:dw)(l:aa Int)(c:aH)(m:Int)(i:Nat):Int:=match l[i]? with
 |some n=>bif decide (n<0)then m else zI (n+w5 g t (jW i) c) m
 |none=>m
def vA(g:aL)(t:dw)(l:aa Int)(c:aH)(k:Nat):Int:=(List.range k).foldl (UC g t l c) 0
def tP(g:aL)(t:dw)(r:dJ)(c:aH):Int:=
 bif c.kind==1&&(r.aX.length:Int)==4 then zI (r.aX.getD 0 0+t.kH) (vA g t r.last c r.last.length)else vA g t r.last c r.last.length
def abt(g:aL)(t:dw)(l:aa Int)(c:aH)(k:Nat):vA g t l c (k+1)=UC g t l c (vA g t l c k) k:=by
 unfold vA;rw[List.range_succ,List.foldl_append];rfl
def abu{g:aL}{t:dw}{l:aa Int}{c:aH}{m:Int}{i:Nat}(h:i<l.length):UC g t l c m i=bif decide (l[i]<0)then m else zI (l[i]+w5 g t (jW i) c) m:=by
 unfold UC;rw[bY h]
def aFo{a b C:Int}(D:a<=C)(hb:0<=b/\b<=C):0<=zI a b/\zI a b<=C:=by
 unfold zI;split<;>omega
structure Ia (g:aL) (t:dw) (r:dJ):Prop where
 tQ:cA g=true
 EL:js t=true
 len:r.last.length<1000
 last:∀(i:Nat) (h:i<r.last.length),(-1<=r.last[i]/\r.last[i]<=1000000)/\(r.last[i] = -1\/pz g i=true)
 a4:r.aX.length<=4
 act:∀x∈r.aX,0<=x/\x<=1000000
def aFp{g:aL}{t:dw}{r:dJ}(E:js t=true)(h:lu g r=true):Ia g t r:=by
 have hb:=eY g;simp only[lu,aS,cw,fI]at h;have⟨L,C,D,O,T⟩:=h;have C:(r.last.length:Int)=9*(aY g+1):=by simpa using C
 have D:¬ (r.aX.length:Int) > 4:=by simpa using D
 refine⟨L,E,by omega,λi hi=>?_,by omega,λx U=>?_⟩
 ·have e:=O i hi;rw[HO hi]at e;simp only[aS,eR]at e;refine⟨bB.1 e.1,?_⟩
  grind
 ·obtain⟨i,hi,rfl⟩:=jw.1 U;have e:=T i hi;cases i with
  |zero=>rw[Oi hi]at e;exact bB.1 e
  |succ i=>rw[HP hi]at e;simp at e;exact bB.1 e.1
def am9(i:Nat):1<=(jW i).kind/\(jW i).kind<=9:=by
 unfold jW;dsimp only;omega
def aFq{g:aL}{i:Nat}(C:pz g i=true):(jW i).kind <= 5 -> 0 <= (jW i).ay/\(jW i).ay<aY g:=by
 unfold pz at C;unfold jW
 grind
def aFr{g:aL}{i:Nat}(hi:i<1000)(C:pz g i=true):∃ b,D3 g (i:Int)=some (jW i,b):=by
 have E:=C;unfold pz at C;unfold D3 jW;rw[kW,ak,pO (by omega),rH (by omega),aK,aK,Oh,ak];cases D:decide ((i:Int) / 9<aY g)with
 |true =>simp_all
 | false=>
  rw[D]at C;have L:¬ (i:Int) % 9+1 <= 5:=by
   simp_all
  simp[*]
def UD{g:aL}{t:dw}{r:dJ}(h:Ia g t r)(c:aH):∀ k,k <= r.last.length -> 0 <= vA g t r.last c k/\vA g t r.last c k <= 1000128
 |0,_=>⟨Int.le_refl _,by show 0 <= _;omega⟩
 | k+1,D=>by
  have C:=UD h c k (by omega);rw[abt,abu (by omega)];have E:=aa4 h.EL g (jW k) c;have hl:=(h.last k (by omega)).1;cases decide (r.last[k]<0)with
  |true=>exact C
  |false=>exact aFo (by omega) C
def aFs{g:aL}{t:dw}{r:dJ}{c:aH}(h:Ia g t r)(T:dP g c=true):R1 g t r c=some (tP g t r c):=by
 have hb:=λk E=>UD h c k E
 have Y:1<=c.kind/\c.kind<=9:=by
  simp only[dP,aS]at T;exact bB.1 T.2.1
 have e:=cv (step:=LO) r.last.length (λi=>(((),(),(),(),vA g t r.last c i,(i:Int),()),((g.cg,g.aC,g.rows,g.aO,()),t,(r.last,r.aX,()),(c.kind,c.ay,c.row,c.bR,()),()))) (.inl (((),(),(),vA g t r.last c r.last.length,()),(t,(r.last,r.aX,()),(c.kind,c.ay,c.row,c.bR,()),()))) aT (λk E=>by
  have h1:=h.len;have h2:=(h.last k E).1;have h3:=hb k (by omega);have D:=aa4 h.EL g (jW k) c;unfold LO ax xG xI;dsimp only;rw[aQ,au,aA ⟨by omega,by omega⟩,bA];simp only[br];rw[abt,abu E];cases hd:decide (r.last[k]<0)with
  |true=>rfl
  | false=>
   have L:A4 g t (jW k) c=some (w5 g t (jW k) c):=aC6 h.tQ h.EL (am9 k) Y;have Z:W6 ((k:Int).tmod 9+1)=(k:Int) % 9+1:=by rw[rH (by omega),aK]
   have e2:W6 ((k:Int).tdiv 9)=(k:Int) / 9:=by rw[pO (by omega),aK]
   unfold jW at L;rw[aq,aq,Z,e2];by_cases C:(k:Int) % 9+1<=5
   ·rw[bJ C]at L;rw[aQ C,au,aA ⟨by omega,E⟩,jr];show Option.bind (A4 g t _ c) _=_;rw[L,ak,aK (n:=r.last[k]+_) (by unfold jW at D;rw[bJ C]at D;omega) (by unfold jW at D;rw[bJ C]at D;omega)];unfold jW zI;rw[bJ C]
   ·rw[bQ C]at L;rw[aR C,aq,aA ⟨by omega,E⟩,jr];show Option.bind (A4 g t _ c) _=_;rw[L,ak,aK (n:=r.last[k]+_) (by unfold jW at D;rw[bQ C]at D;omega) (by unfold jW at D;rw[bQ C]at D;omega)];unfold jW zI;rw[bQ C]) (by
  unfold LO ax xG xI;dsimp only;rw[aR,aq]) (bH (by have:=h.len;omega))
 rw[cm]at e;unfold R1 tP xI bh
 refine(bf (λo=>Option.bind o _) e).trans ?_
 rw[ak];simp only[eC];have hL:=hb r.last.length (dW _);have hf:=amk h.EL;cases c.kind==(1:Int)with
 |false=>rfl
 | true=>
  cases U:(r.aX.length:Int)==(4:Int)with
  |false=>rfl
  | true=>
   have U:(r.aX.length:Int)=4:=by simpa using U
   have O:0<r.aX.length:=by omega
   have ha:=h.act _ (cM O);rw[au,au,aA ⟨by omega,O⟩];show some (if W6 (r.aX[0]+t.kH) > _ then W6 (r.aX[0]+t.kH)else _)=_;rw[aK,fA,bY O];rfl
def aFt{g:aL}{t:dw}{r:dJ}(h:Ia g t r)(c:aH):0 <= tP g t r c:=by
 have C:=UD h c _ (dW _);unfold tP zI
 grind
def aFu{g:aL}{t:dw}{r:dJ}{c:aH}(h:Ia g t r)(Z:lu g r=true)(C:dP g c=true):Tp g t r c=some (bif decide (tP g t r c > 1000000)then -1 else tP g t r c):=by
 have hb:=λk D=>UD h c k D
 have T:(1<=c.kind/\c.kind<=9)/\(c.kind<=5->0<=c.ay/\c.ay<aY g):=by
  simp only[dP,aS]at C
  refine⟨bB.1 C.2.1,λh5=>?_⟩
  have E:=C.2.2.1;rw[On (bB.1 C.2.1),aQ h5]at E;have:=bB.1 E;omega
 have e:=cv (step:=Ns) r.last.length (λi=>(((),(),(),(),vA g t r.last c i,r.last,(r.last.length:Int),(i:Int),()),((g.cg,g.aC,g.rows,g.aO,()),t,(r.last,r.aX,()),(c.kind,c.ay,c.row,c.bR,()),()))) (.inl (((),(),(),vA g t r.last c r.last.length,()),(t,(r.last,r.aX,()),(c.kind,c.ay,c.row,c.bR,()),()))) aT (λk D=>by
  have E:=h.len;have h2:=(h.last k D).1;have h3:=hb k (by omega);have hg:=aa4 h.EL g (jW k) c;unfold Ns ax xG xI;dsimp only;rw[aQ,au,aA ⟨by omega,by omega⟩,bA];simp only[br];rw[abt,abu D];cases hd:decide (r.last[k]<0)with
  |true=>rfl
  | false=>
   have aIQ:¬ r.last[k]<0:=by simpa using hd
   have U:pz g k=true:=by
    rcases(h.last k D).2 with h9|h9
    ·omega
    ·exact h9
   obtain⟨b,eb⟩:=aFr (g:=g) (i:=k) (by omega) U;rw[aq,aq,jr,eb,ak];show Option.bind (Nr g t (jW k) c) _=_;rw[aC5 t h.tQ (am9 k) T.1 (aFq U) T.2,ak,aK (n:=r.last[k]+_)];rfl) (by
  unfold Ns ax xG xI;dsimp only;rw[aR,aq]) (bH (by have:=h.len;omega))
 rw[cm]at e;unfold Tp tP xI bh;rw[N9,ak,h.EL,bg,aq,aaU,ak,Z,bg,aq,aaX,ak,C,bg,aq]
 refine(bf (λo=>Option.bind o _) e).trans ?_
 rw[ak];simp only[eC];have hL:=hb r.last.length (dW _);have hf:=amk h.EL;have L:∀m:Int,(bif decide (m > 1000000)then some (-1:Int)else some m)=some (bif decide (m > 1000000)then -1 else m):=λm=>by cases decide (m > 1000000)<;>rfl
 cases c.kind==(1:Int)with
 |false=>exact L _
 | true=>
  cases Y:(r.aX.length:Int)==(4:Int)with
  |false=>exact L _
  | true=>
   have Y:(r.aX.length:Int)=4:=by simpa using Y
   have O:0<r.aX.length:=by omega
   have ha:=h.act _ (cM O);rw[au,au,aA ⟨by omega,O⟩];show (bif decide ((if W6 (r.aX[0]+t.kH) > _ then W6 (r.aX[0]+t.kH)else _) > 1000000)then _ else some (if W6 (r.aX[0]+t.kH) > _ then W6 (r.aX[0]+t.kH)else _))=_;rw[aK,fA,bY O];exact L _
def dL(c:av)(x:aH):Bool:=nK c.bq x&&(decide (tP c.config.az c.config.cq c.ready x<=1000000)&&decide (tP c.config.az c.config.cq c.ready x<=c.now))
structure Pk (c:av):Prop where
 z:cF c
 ok:cZ c=true
 rk:mS c.config.az c.bq=true
 rdy:lu c.config.az c.ready=true
 R:Ia c.config.az c.config.cq c.ready
 bl:(c.bq.aC.length:Int)=aY c.config.az
def Pk.of{c:av}(C:cF c)(h:cZ c=true):Pk c:=by
 have T:c.box.bK.weights.length <= 1048576:=C.1.1;have L:=h;simp[cZ,aS]at h;have⟨O,U,Y,D,E,Z,h7,h8,h9,HS,HU,uG,ve,BM,BN,nG,EE,Ib,Ic,OA,yR,OB⟩:=h;have hb:c.bq.aC.length=aY c.config.az:=by
  simp[mS,aS]at D;simp_all
 exact⟨C,L,D,E,aFp (aFn (by omega) O) E,hb⟩
def aFv{g:aL}{x:aH}(C:dP g x=true):(1 <= x.kind/\x.kind <= 9)/\(x.kind <= 5 -> 0 <= x.ay/\x.ay<aY g):=by
 simp[dP,aS]at C
 refine⟨bB.1 C.2.1,λE=>?_⟩
 have D:=C.2.2.1;rw[On (bB.1 C.2.1),aQ E]at D;have:=bB.1 D;omega
def UE{c:av}(h:Pk c){x:aH}(C:dP c.config.az x=true):DM c x=some (dL c x):=by
 have⟨L,D⟩:=aFv C;have hb:=eY c.config.az;have hl:=h.bl;unfold DM dL;rw[aCZ L (λE=>⟨(D E).1,by have:=D E;omega⟩) (by omega),ak,aFs h.R C,ak]
 grind
def zJ{c:av}(h:Pk c){x:aH}(C:dP c.config.az x=true):jq c x=some (dL c x):=by
 have D:=aFt h.R x;unfold jq dL;rw[aaY,ak,h.rk,C,cC,cC,aFu h.R h.rdy C,ak]
 grind
def cI(i:Nat):aa Int->aa Int
 |[]=>[]
 |d::l=>bif decide (d >= 4)then (i:Int)::cI (i+1) l else cI (i+1) l
def aFw(i:Nat)(a b:aa Int):cI i (a++b)=cI i a++cI (i+a.length) b:=by
 induction a generalizing i with
 |nil=>rfl
 | cons d a C=>
  rw[List.cons_append,cI,cI,C,show i+1+a.length=i+(a.length+1) by omega]
  grind
def EM(i:Nat)(l:aa Int):(cI i l).length <= l.length:=by
 induction l generalizing i with
 |nil=>exact dW _
 | cons d l C=>
  have:=C (i+1);unfold cI
  grind
def abv{l:aa Int}{i:Nat}(h:i<l.length):cI 0 (l.take (i+1))=bif decide (l[i] >= 4)then cI 0 (l.take i)++[(i:Int)]else cI 0 (l.take i):=by
 rw[oB h,aFw,fY,Nat.min_eq_left (by omega),fT];show _++(bif decide _ then _::cI _ []else cI _ [])=_;cases decide (l[i] >= 4)with
 |true=>rfl
 |false=>exact List.append_nil _
def ana{l:aa Int}{i:Nat}{b:Int}(h:b∈cI i l):∃ j:Nat,b=((i+j:Nat):Int)/\j<l.length/\l.getD j 0 >= 4:=by
 induction l generalizing i with
 |nil=>cases h
 | cons d l D=>
  unfold cI at h;have tl:b∈cI (i+1) l -> ∃ j:Nat,b=((i+j):Int)/\j<(d :: l).length/\(d :: l).getD j 0 >= 4:=λh=>by
   have⟨j,E,L,O⟩:=D h;exact⟨j+1,by rw[E];omega,by simpa using L,by simpa using O⟩
  cases C:decide (d >= 4)with
  | true=>
   rw[C]at h;rcases iG.1 h with rfl|h
   ·exact⟨0,rfl,by simp,by simpa using C⟩
   ·exact tl h
  |false =>grind
def mq{r:cO}(h:dV r=true):r.aI.length<=8/\1<=r.aI.length:=by
 simp only[dV,aS]at h;have:=bB.1 h.2.1;omega
def abw{r:cO}(C:dV r=true):Hi r=some (cI 0 r.aI):=by
 have hl:=mq C;unfold Hi bh;rw[BG _ (by omega),ak,C,bg,aq];have e:=cv (step:=Ng) r.aI.length (λi=>(((),r.aI,(r.aI.length:Int),(i:Int),()),(cI 0 (r.aI.take i),()))) (.inl (((),()),(cI 0 r.aI,()))) aT (λi h=>by
  have D:=EM 0 (r.aI.take i);rw[fY]at D;unfold Ng ax xG xI;dsimp only;rw[aQ,au,aA ⟨by omega,by omega⟩,bA,abv h];simp only[br];cases decide (r.aI[i] >= 4)with
  |true=>rw[au,au,lV,cD,au]
  |false=>rfl) (by
  unfold Ng ax xG xI;dsimp only;rw[aR,aq,iu]) (bH)
 rw[cm]at e
 refine(bf (λo=>Option.bind o _) e).trans ?_
 rfl
def anb{r:cO}(C:dV r=true):Lx r=some (cI 0 r.aI):=by
 have hl:=mq C;unfold Lx bh;have e:=cv (step:=Lw) r.aI.length (λi=>(((),(),(i:Int),()),((r.aI,r.wait,r.dy,()),cI 0 (r.aI.take i),()))) (.inl (((),()),(cI 0 r.aI,()))) aT (λi h=>by
  have D:=EM 0 (r.aI.take i);rw[fY]at D;unfold Lw ax xG xI;dsimp only;rw[aQ,au,show (⟨r.aI,r.wait,r.dy⟩:cO)=r from rfl,Ul _ (by omega),ak,C,au,aA ⟨by omega,by omega⟩,bA,abv h];simp only[br];cases decide (r.aI[i] >= 4)with
  |true=>rw[au,au,lV,cD,au]
  |false=>rfl) (by
  unfold Lw ax xG xI;dsimp only;rw[aR,aq,iu]) (bH)
 rw[cm,List.take_zero]at e
 refine(bf (λo=>Option.bind o _) e).trans ?_
 rfl
def tR(c:av):Bool:=decide ((c.queue.length:Int) > 0) ||(decide ((c.pending.length:Int) > 0) ||decide (((cI 0 c.aV.aI).length:Int) > 0))
def abx{c:av}(C:dV c.aV=true):wO c=some (tR c):=by
 unfold wO tR;rw[abw C]
 grind
def anc{c:av}(C:dV c.aV=true):DC c=some (tR c):=by
 unfold DC tR;rw[anb C]
 grind
def vB(r:lW)(p:fk)(b:Bool):Int:=
 bif b then (bif p.state==1 then 7 else bif p.state==2 then 9 else 0)else bif p.state==0&&decide (p.idle >= r.sleep)then 8 else bif p.state==0&&decide (p.idle >= r.down)then 6 else bif p.state==1&&decide (p.idle >= r.sleep)then 7 else 0
def aFx(r:lW)(p:fk)(b:Bool)(C:BF r=true)(D:jh p=true):Tq r p b=some (vB r p b):=by
 unfold Tq vB;rw[alS,ak,C,bg,Og,ak,D,bg]
 grind
def aFy(r:lW)(p:fk)(b:Bool)(C:BF r=true)(D:jh p=true):RY r p b=some (vB r p b):=by
 unfold RY vB;simp[alT,aaS,C,D,aq]
 grind
def aFz(r:lW)(p:fk)(b:Bool):vB r p b=0 \/ 6 <= vB r p b/\vB r p b <= 9:=by
 unfold vB
 grind
def B0(D:Nat->Bool)(v:Nat->Int)(C:Int)(i:Nat):Int:=bif D i&&(decide (C<0) ||decide (v i > v C.toNat))then (i:Int)else C
def lT(C:Nat->Bool)(v:Nat->Int)(k:Nat):Int:=(List.range k).foldl (B0 C v) (-1)
def Ie(C:Nat->Bool)(v:Nat->Int)(k:Nat):lT C v (k+1)=B0 C v (lT C v k) k:=by
 unfold lT;rw[List.range_succ,List.foldl_append];rfl
def xj(C:Nat -> Bool)(v:Nat -> Int):∀ k,-1 <= lT C v k/\lT C v k<k
 |0=>⟨Int.le_refl _,by show (-1)<0;omega⟩
 | k+1=>by
  have D:=xj C v k;rw[Ie];unfold B0
  grind
def aby(C:Nat -> Bool)(v:Nat -> Int):∀ k,lT C v k = -1 \/ C (lT C v k).toNat=true
 |0=>.inl rfl
 | k+1=>by
  have D:=aby C v k;rw[Ie];unfold B0
  grind
def abz{C:Nat -> Bool}(v:Nat -> Int){i:Nat}(h:C i=true):∀ k,i<k -> 0 <= lT C v k
 |0,D=>by omega
 | k+1,D=>by
  have hb:=xj C v k;rw[Ie];unfold B0;by_cases E:i=k
  ·grind
  ·have L:=abz v h k (by omega)
   grind
def vC(l:aa bZ)(w:aa Bool):Int:=lT (λi=>w.getD i false) (λi=>(l.getD i ⟨0,0⟩).fK) (min l.length w.length)
def OC(l:aa bZ)(w:aa Bool)(hl:l.length<1073741824):Hs l w=some (vC l w):=by
 unfold Hs vC bh;generalize T:min l.length w.length=n;have e:=cv (step:=Nv) n (λi=>((l,w,lT (λi=>w.getD i false) (λi=>(l.getD i ⟨0,0⟩).fK) i,(i:Int),()),())) (.inl ((lT (λi=>w.getD i false) (λi=>(l.getD i ⟨0,0⟩).fK) n,()),())) aT (λi h=>by
  have C:i<l.length:=by omega
  have O:i<w.length:=by omega
  have hb:=xj (λi=>w.getD i false) (λi=>(l.getD i ⟨0,0⟩).fK) i;rw[Ie];generalize lT (λi=>w.getD i false) (λi=>(l.getD i ⟨0,0⟩).fK) i=D at hb;unfold Nv B0 ax xG xI;dsimp only;rw[aQ,au,aQ,au,aA ⟨by omega,by omega⟩,bA];simp only[br,fA,bY O,bY C,Option.getD_some];cases w[i]with
  |false=>rfl
  | true=>
   rw[au,cC];by_cases E:D<0
   ·rw[aQ E];rfl
   ·have L:D.toNat<l.length:=by omega
    rw[aR E,aA ⟨by omega,C⟩,aA ⟨by omega,L⟩,bY L,Option.getD_some];cases decide (l[i].fK > l[D.toNat].fK)<;>rfl) (by
  unfold Nv ax xG xI;dsimp only;by_cases C:n<l.length
  ·rw[aQ,au,aR,aq]
  ·rw[aR,aq]) (bH)
 rw[cm]at e
 refine(bf (λo=>Option.bind o _) e).trans ?_
 rfl
def aFA:Sb=Hs:=rfl
def tS(s:bZ):bZ:=⟨s.weight,s.weight⟩
def jt(l:aa bZ):aa bZ:=l.map tS
def abA(l:aa bZ)(w:aa Bool)(hl:l.length<1073741824):iter Ht aT ((w,(),(l.length:Int),(0:Int),()),(l,()))=some (.inl ((w,(),()),(jt l,()))):=by
 have e:=cv (step:=Ht) _ (λi=>((w,(),l.length,i,()),(upto tS l i,()))) (.inl ((w,(),()),(jt l,()))) aT (λi h=>by
  have hlen:=zp tS l i;unfold Ht ax xG xL;dsimp only;rw[aQ,au,aA ⟨by omega,by omega⟩,aA,aA ⟨by omega,by omega⟩,aA,bA];simp only[br];rw[Er tS l i h,<- Es tS l i h];rfl) (by
  unfold Ht ax xG xL;dsimp only;rw[aR,aq,Ep];rfl) (bH hl)
 exact e
def aFB(l:aa bZ)(w:aa Bool)(hl:l.length<1073741824):iter GH aT ((w,(),(0:Int),()),(l,()))=some (.inl ((w,(),()),(jt l,()))):=by
 have e:=cv (step:=GH) _ (λi=>((w,(),i,()),(upto tS l i,()))) (.inl ((w,(),()),(jt l,()))) aT (λi h=>by
  have hlen:=zp tS l i;unfold GH ax xG xL;dsimp only;rw[aQ,au,aA ⟨by omega,by omega⟩,aA,aA ⟨by omega,by omega⟩,aA,bA];simp only[br];rw[Er tS l i h,<- Es tS l i h];rfl) (by
  have hlen:=zp tS l l.length;unfold GH ax xG xL;dsimp only;rw[aR,aq,Ep];rfl) (bH hl)
 exact e
def ane(l:aa bZ)(w:aa Bool)(hl:l.length<1073741823):L1 l w=q5 l w:=by
 unfold L1 q5 xA xC bh xL xZ;rw[jX,aFA,OC l w (by omega),Ob _ (by omega),alP _ (by omega),ak];rw[abA l w (by omega),aFB l w (by omega)];rfl
def abC{l:aa bZ}(w:aa Bool)(hl:l.length<1073741823)(D:iL l=true)(U:l.length=w.length):∃ y t,q5 l w=some (y,t)/\y.length=l.length:=by
 unfold q5 xA xC bh xL xZ;have hb:=xj (λi=>w.getD i false) (λi=>(l.getD i ⟨0,0⟩).fK) (min l.length w.length);have E:(jt l).length=l.length:=by simp[jt]
 have L:=xj (λi=>w.getD i false) (λi=>((jt l).getD i ⟨0,0⟩).fK) (min (jt l).length w.length);have O:=aby (λi=>w.getD i false) (λi=>(l.getD i ⟨0,0⟩).fK) (min l.length w.length);rw[jX,OC l w (by omega),ak,Ob _ (by omega),ak,D,bg,aq,List.length_nil,fT,cD,au];unfold vC;generalize Y:lT (λi=>w.getD i false) (λi=>(l.getD i ⟨0,0⟩).fK) (min l.length w.length)=b at *
 by_cases T:b<0
 ·simp_all
 ·have C:b.toNat<l.length:=by omega
  rw[aR T,aq,aA ⟨by omega,C⟩,aA C];dsimp only;cases l[b.toNat].fK==0 with
  |false =>simp_all
  | true=>
   rw[au,abA l w (by omega),ak];simp only[eC];rw[OC _ w (by omega),ak];have Z:0 <= vC (jt l) w:=abz _ (i:=b.toNat) (by rcases O with h|h;exact absurd h (by omega);exact h) _ (by rw[E];omega);have hq:vC (jt l) w<((min (jt l).length w.length:Nat):Int):=L.2;simp_all
def B1(m:kE)(n:Int)(a:aJ):aJ:=bif m.hash then ⟨(a.ay+a.row) % n,a.row,a.bR⟩else a
def zK(g:aL)(m:kE)(l:Int):aJ:=B1 m (aY g)
 (bif m.order==0 then ⟨l / g.aO % aY g,l / g.aO / aY g,l % g.aO⟩else bif m.order==1 then ⟨l % aY g,l / aY g / g.aO,l / aY g % g.aO⟩else ⟨l / g.aO / g.rows,l / g.aO % g.rows,l % g.aO⟩)
def Ig{l a b:Int}(C:0<=l)(hb:0<b)(h:l<a*b):0<=l / b/\l / b<a/\l / b<=l:=by
 refine⟨Int.ediv_nonneg C (by omega),Int.ediv_lt_of_lt_mul hb h,?_⟩;exact Int.ediv_le_self _ C
def B2{l b:Int}(hb:0<b):0<=l % b/\l % b<b:=⟨Int.emod_nonneg _ (by omega),Int.emod_lt_of_pos _ hb⟩
def abD{m:kE}{n:Int}{a:aJ}(C:0<n)(hb:0 <= a.ay/\a.ay<n):0 <= (B1 m n a).ay/\(B1 m n a).ay<n/\(B1 m n a).row=a.row/\(B1 m n a).bR=a.bR:=by
 unfold B1;cases m.hash with
 |false=>simp_all
 |true=>exact⟨(B2 C).1,(B2 C).2,rfl,rfl⟩
def abE{m:kE}{n b r c:Int}(C:0<n)(D:n<=8)(E:0<=b/\b<=100000)(L:0<=r/\r<=100000):(bif m.hash then if n=0 then none else some ((⟨(W6 (b+r)).tmod n,r,c⟩:aJ),true)else some ((⟨b,r,c⟩:aJ),true))=some (B1 m n ⟨b,r,c⟩,true):=by
 unfold B1;cases m.hash with
 |false=>rfl
 |true=>rw[au,bQ,aK,rH (by omega),au]
def anf{g:aL}{m:kE}{l:Int}(T:cA g=true)(hm:aM m.order 0 2=true)(D:0<=l)(hl:l<eI g):∀ (f:ah (aJ×Bool)),f=(bif (m.order==(0:Int))then if g.aO=0 then none else if g.aO=0 then none else if aY g=0 then none else if g.aO=0 then none else if aY g=0 then none else bif m.hash then if aY g=0 then none else some ((⟨((W6 (((W6 (l.tdiv g.aO)).tmod (aY g))+(W6 ((W6 (l.tdiv g.aO)).tdiv (aY g))))).tmod (aY g)),(W6 ((W6 (l.tdiv g.aO)).tdiv (aY g))),(l.tmod g.aO)⟩:aJ),true)else some ((⟨((W6 (l.tdiv g.aO)).tmod (aY g)),(W6 ((W6 (l.tdiv g.aO)).tdiv (aY g))),(l.tmod g.aO)⟩:aJ),true)else bif (m.order==(1:Int))then if aY g=0 then none else if aY g=0 then none else if g.aO=0 then none else if aY g=0 then none else if g.aO=0 then none else bif m.hash then if aY g=0 then none else some ((⟨((W6 ((l.tmod (aY g))+(W6 ((W6 (l.tdiv (aY g))).tdiv g.aO)))).tmod (aY g)),(W6 ((W6 (l.tdiv (aY g))).tdiv g.aO)),((W6 (l.tdiv (aY g))).tmod g.aO)⟩:aJ),true)else some ((⟨(l.tmod (aY g)),(W6 ((W6 (l.tdiv (aY g))).tdiv g.aO)),((W6 (l.tdiv (aY g))).tmod g.aO)⟩:aJ),true)else if g.aO=0 then none else if g.aO=0 then none else if g.rows=0 then none else if g.aO=0 then none else if g.rows=0 then none else bif m.hash then if aY g=0 then none else some ((⟨((W6 ((W6 ((W6 (l.tdiv g.aO)).tdiv g.rows))+((W6 (l.tdiv g.aO)).tmod g.rows))).tmod (aY g)),((W6 (l.tdiv g.aO)).tmod g.rows),(l.tmod g.aO)⟩:aJ),true)else some ((⟨(W6 ((W6 (l.tdiv g.aO)).tdiv g.rows)),((W6 (l.tdiv g.aO)).tmod g.rows),(l.tmod g.aO)⟩:aJ),true))->f=some (zK g m l,true)/\dn g (zK g m l)=true:=by
 have hb:=eY g;have hp:=N1 T;have hL:=kX g;have gb:=fN T;have eL:eI g=aY g*g.rows*g.aO:=by simp[eI,T]
 have Cr:aM l 0 (W6 (eI g-1))=true:=by rw[aK];exact bB.2 ⟨D,by omega⟩
 have ho:=bB.1 hm;rw[eL]at hl;have UF:¬ aY g=0:=by omega
 have x4:¬ g.aO=0:=by omega
 have iZ:¬ g.rows=0:=by omega
 rintro f rfl;simp only[bQ UF,bQ x4,bQ iZ];unfold zK;by_cases o0:m.order=0
 ·have C:=Ig (a:=aY g*g.rows) D (show 0<g.aO by omega) hl;have E:=Ig (l:=l / g.aO) (a:=g.rows) (b:=aY g) C.1 (by omega) (by rw[Int.mul_comm];exact C.2.1);have U:=B2 (l:=l / g.aO) (b:=aY g) (by omega);have a4:=B2 (l:=l) (b:=g.aO) (by omega);rw[o0,en,au,au,pO D,rH D,aK (n:=l / g.aO),pO C.1,rH C.1,aK (n:=l / g.aO / aY g)];obtain⟨Y,Z,L,O⟩:=abD (m:=m) (n:=aY g) (a:=⟨l / g.aO % aY g,l / g.aO / aY g,l % g.aO⟩) (by omega) U;refine⟨?_,wT T Y Z (by rw[L];exact E.1) (by rw[L];exact E.2.1) (by rw[O];exact a4.1) (by rw[O];exact a4.2)⟩;refine Eq.trans ?_ (abE (by omega) (by omega) (by omega) (by omega));rw[bQ UF]
 ·rw[kA o0,aq,aq];by_cases o1:m.order=1
  ·have C:=Ig (a:=g.rows*g.aO) D (show 0<aY g by omega) (by rw[Int.mul_comm,<-Int.mul_assoc];exact hl);have E:=Ig (l:=l / aY g) (a:=g.rows) (b:=g.aO) C.1 (by omega) C.2.1;have U:=B2 (l:=l) (b:=aY g) (by omega);have a4:=B2 (l:=l / aY g) (b:=g.aO) (by omega);rw[o1,en,au,au,pO D,rH D,aK (n:=l / aY g),pO C.1,rH C.1,aK (n:=l / aY g / g.aO)];obtain⟨Y,Z,L,O⟩:=abD (m:=m) (n:=aY g) (a:=⟨l % aY g,l / aY g / g.aO,l / aY g % g.aO⟩) (by omega) U;refine⟨?_,wT T Y Z (by rw[L];exact E.1) (by rw[L];exact E.2.1) (by rw[O];exact a4.1) (by rw[O];exact a4.2)⟩;refine Eq.trans ?_ (abE (by omega) (by omega) (by omega) (by omega));rw[bQ UF]
  ·have C:=Ig (a:=aY g*g.rows) D (show 0<g.aO by omega) hl;have E:=Ig (l:=l / g.aO) (a:=aY g) (b:=g.rows) C.1 (by omega) C.2.1;have U:=B2 (l:=l / g.aO) (b:=g.rows) (by omega);have a4:=B2 (l:=l) (b:=g.aO) (by omega);rw[kA o1,aq,aq,pO D,rH D,aK (n:=l / g.aO),pO C.1,rH C.1,aK (n:=l / g.aO / g.rows)];obtain⟨Y,Z,L,O⟩:=abD (m:=m) (n:=aY g) (a:=⟨l / g.aO / g.rows,l / g.aO % g.rows,l % g.aO⟩) (by omega) ⟨E.1,E.2.1⟩;refine⟨?_,wT T Y Z (by rw[L];exact U.1) (by rw[L];exact U.2) (by rw[O];exact a4.1) (by rw[O];exact a4.2)⟩;refine Eq.trans ?_ (abE (by omega) (by omega) (by omega) (by omega));rw[bQ UF]
def ang{g:aL}{m:kE}{l:Int}(C:cA g=true)(D:aM m.order 0 2=true)(E:0<=l)(hl:l<eI g):Ts g m l=some (zK g m l,true)/\dn g (zK g m l)=true:=by
 have O:=kX g;have L:aM l 0 (W6 (eI g-1))=true:=by rw[aK];exact bB.2 ⟨E,by omega⟩
 refine anf C D E hl _ ?_;unfold Ts;rw[tG,ak,C,bg,aq,aaI,ak,D,bg,aq,wS,ak,cW,ak,L,bg,aq,kW,ak]
def aFC{g:aL}{m:kE}{l:Int}(E:cA g=true)(C:aM m.order 0 2=true)(D:0<=l)(hl:l<eI g):R5 g m l=some (zK g m l,true):=by
 have O:=kX g;have L:aM l 0 (W6 (eI g-1))=true:=by rw[aK];exact bB.2 ⟨D,by omega⟩
 refine(anf E C D hl _ ?_).1;unfold R5;rw[show Gj m=some (aM m.order 0 2)from aaI m,ak,C,bg,aq,HK,ak,eS,ak,L,bg,aq,q9,ak]
def gY(c:av)(l:Int):aJ:=
 let a:=zK (ei c.config.az c.spare) c.config.mapping l
 ⟨a.ay,c.spare.map.getD (a.ay*(c.config.az.rows-c.spare.bF)+a.row).toNat 0,a.bR⟩
def OD{g:aL}{s:c8}(h:mj g s=true):ei g s=⟨g.cg,g.aC,g.rows-s.bF,g.aO⟩/\cA g=true/\cA (ei g s)=true/\aY (ei g s)=aY g/\0 <= s.bF/\s.bF <= 2/\2 <= g.rows-s.bF/\g.rows <= 16:=by
 have D:=h;simp[mj,aS]at h;have⟨C,E,L,O,T⟩:=Oa h.1;have Y:=fN C;have e:ei g s=⟨g.cg,g.aC,g.rows-s.bF,g.aO⟩:=by
  unfold ei;rw[D,au,aK]
 have U:cA (ei g s)=true:=by
  rw[e];unfold cA;simp[aS,bB];omega
 refine⟨e,C,U,?_,E,L,O,T⟩;unfold aY;simp_all
def anh{g:aL}{s:c8}(h:mj g s=true){b r:Int}(hb:0 <= b/\b<aY g)(E:0 <= r/\r<g.rows-s.bF):(b*(g.rows-s.bF)+r).toNat<s.map.length/\0 <= s.map.getD (b*(g.rows-s.bF)+r).toNat 0/\s.map.getD (b*(g.rows-s.bF)+r).toNat 0<g.rows:=by
 have⟨_,Z,_,_,h1,h2,h3,h4⟩:=OD h;have L:=eY g;simp only[mj,aS,fJ,cw,fI]at h;have⟨_,hl,O⟩:=h;obtain⟨b,rfl⟩:=eD hb.1;obtain⟨r,rfl⟩:=eD E.1;have⟨R,hR⟩:=eD (show 0 <= g.rows-s.bF by omega);have⟨C,T⟩:=eD L.1;rw[hR,T,br,br]at hl;have hl:s.map.length=C*R:=by exact_mod_cast hl
 have U:b<C:=by omega
 have D:r<R:=by omega
 have e:((b:Int)*(g.rows-s.bF)+(r:Int)).toNat=b*R+r:=by rw[hR,<- Int.natCast_mul,<- Int.natCast_add,br]
 have dQ:=BH (R:=R) U (show r+1 <= R from D);have hi:b*R+r<s.map.length:=by omega
 have h5:=O b (by omega) r (by omega);rw[e];refine⟨hi,?_⟩;rw[fA,bY hi,Option.getD_some];have Y:(eZ s.map R b)[r]?=some s.map[b*R+r]:=by rw[HQ,List.getElem?_take_of_lt D,List.getElem?_drop,bY hi]
 rw[hR,br]at h5;unfold sG at h5;rw[Y]at h5;simp only[eR,aS,fJ,bB]at h5;rcases h5 with h5|h5
 ·omega
 ·grind
def aFD{c:av}(h:Pk c)(E:mj c.config.az c.spare=true)(he:c.spare.bF=c.config.bF)(hm:aM c.config.mapping.order 0 2=true){l:Int}(h0:0 <= l)(hl:l<eI (ei c.config.az c.spare)):wQ c l=some (gY c l,true)/\dn c.config.az (gY c l)=true:=by
 have⟨Z,hg,qH,eb,s1,s2,s3,s4⟩:=OD E;have⟨m1,m3⟩:=ang qH hm h0 hl;have⟨_,C,D,L,O,b5,b6⟩:=ri m3;rw[eb]at D;have gb:=fN hg;have hb:=eY c.config.az;have er:(ei c.config.az c.spare).rows=c.config.az.rows-c.spare.bF:=by rw[Z]
 have ec:(ei c.config.az c.spare).aO=c.config.az.aO:=by rw[Z]
 rw[er]at O;rw[ec]at b6;have⟨k1,k2,k3⟩:=anh E ⟨C,D⟩ ⟨L,O⟩;have hmul:=wU C D L O;have hM:=T8 (a:=aY c.config.az) (b:=c.config.az.rows-c.spare.bF) (A:=8) (B:=16) hb.1 hb.2 (by omega) (by omega);unfold gY;generalize hA:zK (ei c.config.az c.spare) c.config.mapping l=A at *
 dsimp only;refine⟨?_,wT hg C D k2 k3 b5 b6⟩;unfold wQ;rw[zD,ak,m1,ak];dsimp only;rw[bg,aq];unfold zj xI;have hx:Bn (ei c.config.az c.spare) A.ay A.row=some true:=by
  unfold Bn;rw[By,ak,wT (a:=⟨A.ay,A.row,0⟩) qH C (by rw[eb];exact D) L (by rw[er];exact O) (Int.le_refl 0) (by rw[ec];show 0<_;omega)]
 have⟨b,hbN⟩:=eD C;have⟨r,hrN⟩:=eD L;have⟨R,hR⟩:=eD (show 0 <= c.config.az.rows-c.spare.bF by omega);have⟨bn,hn⟩:=eD hb.1;have U:c.spare.map.length=bn*R:=by
  simp only[mj,aS,fJ]at E;have:=E.2.1
  grind
 have T:b<bn:=by omega
 have Y:r<R:=by omega
 have dQ:=BH (R:=R) T (show r+1 <= R from Y);have aFE:=BH (R:=R) T (dW R);have hi:b*R+r<c.spare.map.length:=by omega
 rw[zD,ak,hx,ak,bg,aq,hbN,Ok hR (by omega) (by omega) T U,ak];have ht:((c.spare.map.take ((b+1)*R)).drop (b*R))=eZ c.spare.map R b:=rfl;have kO:(eZ c.spare.map R b).length=R:=HR (by rw[U];exact iW R T);have hgx:(eZ c.spare.map R b)[r]?=some c.spare.map[b*R+r]:=by rw[HQ,List.getElem?_take_of_lt Y,List.getElem?_drop,bY hi]
 have OE:(eZ c.spare.map R b)[r]'(by omega)=c.spare.map[b*R+r]:=by
  grind
 dsimp only;rw[jv (by rw[iF];omega),jv (by rw[iF,U];omega),cC,au,hrN,aA ⟨by omega,by rw[ht,kO,br];exact Y⟩];simp only[br,ht,OE,ak];rw[hR,<- Int.natCast_mul,<- Int.natCast_add,br,fA,bY hi,Option.getD_some]
def aFF{c:av}(h:Pk c)(L:mj c.config.az c.spare=true)(he:c.spare.bF=c.config.bF)(O:aM c.config.mapping.order 0 2=true){l:Int}(T:0<=l)(hl:l<eI (ei c.config.az c.spare)):yQ c l=some (gY c l):=by
 obtain⟨C,hg,U,eb,s1,s2,s3,s4⟩:=OD L;obtain⟨m1,m3⟩:=ang U O T hl;have m2:=aFC U O T hl;obtain⟨_,Y,D,Z,E,b5,b6⟩:=ri m3;rw[eb]at D;have gb:=fN hg;have hb:=eY c.config.az;have er:(ei c.config.az c.spare).rows=c.config.az.rows-c.spare.bF:=by rw[C]
 have ec:(ei c.config.az c.spare).aO=c.config.az.aO:=by rw[C]
 rw[er]at E;rw[ec]at b6;obtain⟨k1,k2,k3⟩:=anh L ⟨Y,D⟩ ⟨Z,E⟩;have hmul:=wU Y D Z E;have hM:=T8 (a:=aY c.config.az) (b:=c.config.az.rows-c.spare.bF) (A:=8) (B:=16) hb.1 hb.2 (by omega) (by omega);unfold gY;generalize hA:zK (ei c.config.az c.spare) c.config.mapping l=A at *
 dsimp only;unfold yQ xI;have hw:W6 (c.config.az.rows-c.config.bF)=c.config.az.rows-c.spare.bF:=by rw[<-he];exact aK
 have OF:W6 (A.ay*(c.config.az.rows-c.spare.bF))=A.ay*(c.config.az.rows-c.spare.bF):=aK;have Ih:W6 (A.ay*(c.config.az.rows-c.spare.bF)+A.row)=A.ay*(c.config.az.rows-c.spare.bF)+A.row:=aK;simp only[hw];rw[<-C,m2,ak];simp only[OF,Ih];rw[aA ⟨hmul.2.1,k1⟩,fA,bY k1,Option.getD_some]
def xk{c:eT}{p:dB}(hl:p.weights.length<1073741823)(h:jU c p=true):pq c=true/\mg p=true:=by
 have⟨b,e,D⟩:=aaO c p hl;have hb:b=true:=by
  rw[BX c p hl]at e;simp_all
 subst hb;have C:=D rfl;refine⟨C,?_⟩;unfold tF at e;have⟨y,E⟩:=aaN p.dK;simp[aaJ,Od _ hl,C]at e
 grind
structure Pq (c:av):Prop where
 p:Pk c
 sp:mj c.config.az c.spare=true
 se:c.spare.bF=c.config.bF
 mo:aM c.config.mapping.order 0 2=true
 q:∀r∈c.queue,(0<=r.line/\r.line<eI (ei c.config.az c.spare))/\(0<=r.c9/\r.c9<=3)/\(0<=r.at_/\r.at_<=1000000)
 ql:c.queue.length<=12
 pe:∀a∈c.pending,dn c.config.az a=true
 pl:c.pending.length<=128
 rf:dV c.aV=true
 dl:(c.aV.aI.length:Int)=aY c.config.az
 sh:iL c.shares=true
 shl:c.shares.length=4
 dr:me c.drain=true
 pw:jh c.bk=true
 ps:c.bk.state=c.bq.bk
 nw:0<=c.now/\c.now<=1000000
 cap:0<=c.box.bK.cap/\c.box.bK.cap<=100000
 de:BF c.box.bK.de=true
def Pq.of{c:av}(D:cF c)(h:cZ c=true):Pq c:=by
 have L:=Pk.of D h;have z1:c.box.bK.weights.length <= 1048576:=D.1.1;simp only[cZ,aS]at h;have⟨O,h2,T,h4,h5,h6,U,Y,C,E,Z,uG,ve,BM,BN,nG,EE,Ib,Ic,OA,yR,OB⟩:=h;have⟨f1,f2⟩:=xk (by omega) O;simp only[pq,aS]at f1;simp only[mg,aS]at f2;have⟨f3,f4,f5,f6,f7,f8,f9⟩:=f2;simp only[tK,aS,fJ,g9,qA,cw,fI]at C;have⟨C,g1,g2,g3,g4,g5,g6⟩:=C;simp only[gX,aS,cw,fI,iN]at E;have⟨q1,q2⟩:=E;have mQ:c.shares.length=4:=by
  grind
 refine⟨L,U,by simpa using Y,f1.2.2.1,λr hr=>?_,by omega,λa ha=>?_,by omega,C,g1,Z,mQ,ve,BM,by simpa using BN,bB.1 T,bB.1 f4,f9⟩
 ·obtain⟨i,hi,rfl⟩:=jw.1 hr;have hb:=q1 i hi;unfold sF at hb;rw[bY hi]at hb;simp[qt,aS,iN]at hb;have⟨⟨k1,k2,k3,k4,k5,k6,k7⟩,_⟩:=hb;exact⟨⟨k3,k4⟩,bB.1 k2,bB.1 k7⟩
 ·obtain⟨i,hi,rfl⟩:=jw.1 ha;have hb:=g6 i hi;unfold BJ at hb;simp_all
def xl(r:cH)(a:aJ):Bool:=(jE r a.ay).open_&&((jE r a.ay).row==a.row)
def EN(r:cH)(a:aJ)(w:Bool):aH:=
 bif !(jE r a.ay).open_ then ⟨1,a.ay,a.row,0⟩else bif (jE r a.ay).row != a.row then ⟨4,a.ay,0,0⟩else bif w then ⟨3,a.ay,0,a.bR⟩else ⟨2,a.ay,0,a.bR⟩
def B3{r:cH}{b:Int}(h:b.toNat<r.aC.length):jE r b=r.aC[b.toNat]:=by
 unfold jE;rw[fA,bY h];rfl
def OG{b:Int}{n:Nat}(C:0<=b)(h:b.toNat<n)(D:n<=1048576):aM b 0 (W6 ((n:Int)-1))=true:=by
 rw[aK];exact bB.2 ⟨C,by omega⟩
def UG{r:cH}{a:aJ}(w:Bool)(C:0 <= a.ay)(h:a.ay.toNat<r.aC.length)(hl:r.aC.length <= 1048576):zk r a w=some (EN r a w):=by
 unfold zk EN xI;rw[cW,ak,OG C h hl,bg,aA ⟨C,h⟩,B3 h]
 grind
def ani:A5=zk:=rfl
def anj{r:cH}{b:Int}(C:0 <= b)(h:b.toNat<r.aC.length)(hl:r.aC.length <= 1048576):Nu r b=some (bif (jE r b).open_ then (jE r b).row else -1):=by
 unfold Nu xI;rw[cW,ak,OG C h hl,bg,aA ⟨C,h⟩,B3 h]
 grind
def aFG:R9=Nu:=rfl
def aFH{r:cH}{a:aJ}(D:0 <= a.row)(C:0 <= a.ay)(h:a.ay.toNat<r.aC.length)(hl:r.aC.length <= 1048576):Hr r a=some (xl r a):=by
 unfold Hr xl;rw[ic (by omega:¬ a.row = -1),anj C h hl,ak];cases (jE r _).open_ with
 |false=>rw[aq,kA (by omega:¬ (-1)=a.row)];rfl
 |true=>rfl
def ank{r:cH}{a:aJ}(D:0 <= a.row)(C:0 <= a.ay)(h:a.ay.toNat<r.aC.length)(hl:r.aC.length <= 1048576):LY r a=some (xl r a):=by
 unfold LY xl;rw[aFG,anj C h hl,ak,ak];cases (jE r _).open_ with
 |false=>simp_all
 | true=>
  rw[au,cC];by_cases e:(jE r a.ay).row=a.row
  ·rw[e,en,au,ic (by omega:¬ a.row = -1)]
  ·grind
def aFI{g:aL}{r:cH}{a:aJ}(w:Bool)(h:dn g a=true):dP g (EN r a w)=true:=by
 have⟨D,E,Y,L,Z,O,b6⟩:=ri h;have T:aM _ 0 (aY g-1)=true:=bB.2 ⟨E,by omega⟩;have C:aM a.row 0 (g.rows-1)=true:=bB.2 ⟨L,by omega⟩;have U:aM a.bR 0 (g.aO-1)=true:=bB.2 ⟨O,by omega⟩;unfold EN dP tL;cases (jE r _).open_<;>cases (jE r _).row != a.row<;>cases w<;>simp[D,aM,C]<;>simp[aM,iN]at T C U<;>omega
def B4{g:aL}{k b:Int}(C:cA g=true)(D:k=4 \/ k=5)(hb:0 <= b/\b<aY g):dP g ⟨k,b,0,0⟩=true:=by
 have E:aM b 0 (aY g-1)=true:=bB.2 ⟨hb.1,by omega⟩;unfold dP tL;rcases D with rfl|rfl<;>simp[C,aM]<;>simp[aM,iN]at E<;>omega
def aFJ{g:aL}{a:aJ}(h:dn g a=true):dP g ⟨1,a.ay,a.row,0⟩=true:=by
 have⟨C,D,E,L,O,T,U⟩:=ri h;unfold dP tL;simp[C,aM];omega
def UH{g:aL}{k:Int}(C:cA g=true)(D:6<=k/\k<=9):dP g ⟨k,0,0,0⟩=true:=by
 obtain⟨n,rfl⟩:=eD (show 0<=k by omega);have:n=6\/n=7\/n=8\/n=9:=by omega
 unfold dP;rw[C];rcases this with rfl|rfl|rfl|rfl<;>rfl
def abF(l:aa aJ)(b:Int)(hl:l.length<=1048576):Ef l b=some (l.any λa=>a.ay==b):=by
 have E:=tN (λa:aJ=>a.ay==b) l;unfold Ef aaf aae;rw[H7];have e:=cv (step:=Hp) (dj (λa:aJ=>a.ay==b) l) (λi=>((l,b,(l.length:Int),(i:Int),()),())) (if dj (λa:aJ=>a.ay==b) l<l.length then .inl ((((dj (λa:aJ=>a.ay==b) l:Nat):Int),()),())else .inr (.inl ((),()))) aT (λk h=>by
  have D:=mU h (by omega);unfold Hp ax aU xG xI;dsimp only;rw[aQ,au,aA ⟨by omega,by omega⟩];simp only[br];rw[D,aq,bA]) (by
  by_cases C:dj (λa:aJ=>a.ay==b) l<l.length
  ·have D:=qv C;unfold Hp ax aU xG xI;dsimp only;rw[aQ,au,aA ⟨by omega,by omega⟩];simp only[br];rw[D,au,bJ C]
  ·unfold Hp ax aU xG xI;dsimp only;rw[aR,aq,bQ C]) (bH)
 rw[cm]at e;rw[e];by_cases C:dj (λa:aJ=>a.ay==b) l<l.length
 ·rw[bJ C,aQ C];simp
 ·rw[bQ C,aR C];rfl
def qw(t:bU)(row:Int):ah Nat:=match t.rows.findIdx? (λe=>e==row)with
 |some i=>some i
 |none=>t.counts.findIdx? (λe=>e==t.dx)
def lA(t:bU)(row:Int):bU:=match t.rows.findIdx? (λe=>e==row)with
 |some i=>⟨t.rows,t.counts.set i (t.counts.getD i 0+1),t.dx⟩
 | none=>match t.counts.findIdx? (λe=>e==t.dx)with
  |some i=>⟨t.rows.set i row,t.counts.set i (t.dx+1),t.dx⟩
  |none=>⟨t.rows,t.counts,t.dx+1⟩
def vD(t:bU)(row dN:Int):bU×Bool:=bif ld t&&(aM row 0 15&&aM dN 2 1000)then (bif ld (lA t row)then (lA t row,match qw t row with
    |some i=>((lA t row).counts.getD i 0).tmod dN==0
    |none=>false)else (t,false))else (t,false)
structure Tk (t:bU):Prop where
 rl:t.rows.length<=16
 cl:t.counts.length=t.rows.length
 sp:0<=t.dx/\t.dx<=100000
 cs:∀i (h:i<t.counts.length),0<=t.counts[i]/\t.counts[i]<=100000
def Tk.of{t:bU}(h:ld t=true):Tk t:=by
 simp[ld,aS,fJ,cw,fI]at h;have⟨D,L,C,E⟩:=h;have D:=bB.1 D;have C:=bB.1 C
 refine⟨by omega,by omega,C,λi hi=>?_⟩
 have hb:=E i (by omega);rw[Uq (by omega) hi,aS,aS]at hb;have:=bB.1 hb.2.1;omega
def OH{T:Type}{p:T -> Bool}{l:aa T}{i:Nat}(h:l.findIdx? p=some i):∃ hi:i<l.length,p l[i]=true:=by
 have⟨hi,C,_⟩:=mY.1 h;simp_all
def aFK{t:bU}(h:Tk t)(row:Int):Sq t row=some ((match qw t row with | some i=>(i:Int) | none=>-1),(lA t row,())):=by
 have T:=h.rl;have U:=h.cl;have E:=sE (step:=Mf) t.rows (λe=>e==row) (λi=>(((),row,(i:Int),()),(((),(),t.dx,()),t.rows,t.counts,()))) (λi=>.inl (((i:Int),()),(((),(),t.dx,()),t.rows,t.counts.set i (t.counts.getD i 0+1),()))) (.inr (.inl (((),row,()),(((),(),t.dx,()),t.rows,t.counts,())))) aT (λk D=>by
  have C:k<t.counts.length:=by omega
  have L:=h.cs k C;unfold Mf ax aU xG xL;dsimp only;rw[aQ,au,aA ⟨by omega,by omega⟩,aA];simp only[br];cases t.rows[k]==row with
  |false=>rw[aq,aq,bA]
  | true=>
   rw[ aA ⟨by omega,C⟩,aA C,aA ⟨by omega,C⟩,aA C,aK (n:=t.counts[k]+1),fA,bY C];rfl) (by
  unfold Mf ax aU xG xL;dsimp only;rw[aR,aq]) (bH)
 have O:=sE (step:=Mg) t.counts (λe=>e==t.dx) (λi=>(((),row,(i:Int),()),(((),(),t.dx,()),t.rows,t.counts,()))) (λi=>.inl (((i:Int),()),(((),(),t.dx,()),t.rows.set i row,t.counts.set i (t.dx+1),()))) (.inr (.inl (((),()),(((),(),t.dx,()),t.rows,t.counts,())))) aT (λk D=>by
  have C:k<t.rows.length:=by omega
  have L:=h.sp;unfold Mg ax aU xG xL;dsimp only;rw[aQ,au,aA ⟨by omega,by omega⟩,aA];simp only[br];cases t.counts[k]==t.dx with
  |false=>rw[aq,aq,bA]
  |true=>rw[au,au,aA ⟨by omega,C⟩,aA C,aA ⟨by omega,D⟩,aA D,aK]) (by
  unfold Mg ax aU xG xL;dsimp only;rw[aR,aq]) (bH)
 have Y:=h.sp;unfold Sq qw lA bE
 refine(bf (λo=>Option.bind o _) E).trans ?_
 rw[ak];cases Z:t.rows.findIdx? (λe=>e==row)with
 |some i=>rfl
 | none=>
  simp only[eC,Sum.elim_inr]
  refine(bf (λo=>Option.bind o _) O).trans ?_
  rw[ak];cases h2:t.counts.findIdx? (λe=>e==t.dx)with
  |some i=>rfl
  | none=>
   simp;rw[aK]
def abG{t:bU}(row:Int):(lA t row).rows.length=t.rows.length/\(lA t row).counts.length=t.counts.length:=by
 unfold lA
 grind
def anl{t:bU}(h:Tk t){row:Int}{i:Nat}(hi:qw t row=some i):i<t.counts.length:=by
 have:=h.cl;unfold qw at hi;split at hi
 next j C=>cases hi;have⟨D,_⟩:=OH C;omega
 ·exact(OH hi).1
def anm(t:bU)(D:jT t)(row dN:Int):Mh t row dN=some (vD t row dN):=by
 unfold Mh vD xL;rw[amX t D,ak,al0,ak];cases E:ld t with
 |false=>rfl
 | true=>
  have C:=Tk.of E;rw[bg,aq,eS,ak,cC];cases T:aM row 0 15 with
  |false=>rfl
  | true=>
   rw[bg,aq,eS,ak,cC];cases L:aM dN 2 1000 with
   |false=>rfl
   | true=>
    have hl:=bB.1 L;rw[bg,aq,au,aFK C,ak,al0,ak];dsimp only;cases U:ld (lA t row)with
    |false =>simp_all
    | true=>
     rw[bg,aq,au];cases O:qw t row with
     |none=>rfl
     | some i=>
      have hi:i<(lA t row).counts.length:=by rw[(abG row).2];exact anl C O
      grind
def aFL(t:bU)(hz:jT t)(row dN:Int):TH t row dN=some (vD t row dN):=by
 have sw:∀x:Int,(λe:Int=>x==e)=λe=>e==x:=λx=>funext λe=>by rw[Bool.eq_iff_iff,fJ,fJ];exact eq_comm
 unfold TH vD xL;rw[abe t hz,ak,aaT,ak];dsimp only;cases ht:ld t with
 |false=>rfl
 | true=>
  have T:=Tk.of ht;have r1:=T.rl;have r2:=T.cl;have vS:=T.sp;rw[bg,aq,cW,ak,cC];cases h1:aM row 0 15 with
  |false=>rfl
  | true=>
   rw[bg,aq,cW,ak,cC];cases h2:aM dN 2 1000 with
   |false=>rfl
   | true=>
    have hl:=bB.1 h2;rw[bg,aq,au,Up _ _ (by omega),ak,sw row];have abH:∀ (E:Int) (D:bU),D=lA t row->(E=match qw t row with | some i=>(i:Int) | none=>-1)->
      ((Bg D).bind λkz=>bif (!kz)then ((some t).bind λq6=>some (q6,false))else (bif (decide (E >= (0:Int)))then if Sc:0<=E/\E.toNat<D.counts.length then if h25:E.toNat<D.counts.length then (if dN=0 then none else some (D,(D.counts[E.toNat]'h25).tmod dN==(0:Int)))else none else none else some (D,false)))=some (bif ld (lA t row)then (lA t row,match qw t row with
        |some i=>((lA t row).counts.getD i 0).tmod dN==0
        |none=>false)else (t,false)):=by
     intro E D U e2;subst U;rw[aaT,ak];cases h3:ld (lA t row)with
     |false=>rfl
     | true=>
      rw[bg,aq,au,e2];cases h4:qw t row with
      |none=>rfl
      | some i=>
       have hi:i<(lA t row).counts.length:=by rw[(abG row).2];exact anl T h4
       simp only[br];rw[aQ,au,aA ⟨by omega,hi⟩,aA hi,bQ,fA,bY hi];rfl
    cases C:t.rows.findIdx? (λe=>e==row)with
    | some i=>
     obtain⟨hi,_⟩:=OH C;have O:i<t.counts.length:=by omega
     have hc:=T.cs i O;have Y:qw t row=some i:=by unfold qw;rw[C]
     have Z:lA t row=⟨t.rows,t.counts.set i (t.counts[i]+1),t.dx⟩:=by unfold lA;simp only[C];rw[fA,bY O];rfl
     have U:gD (λe=>e==row) t.rows=(i:Int):=by unfold gD;rw[C]
     rw[U,aR,aq];simp only[br];rw[aQ,au,aA ⟨by omega,O⟩,aA O,aA ⟨by omega,O⟩,aA O];have hw:W6 (t.counts[i]+1)=t.counts[i]+1:=aK;simp only[hw];exact abH (i:Int) ⟨t.rows,t.counts.set i (t.counts[i]+1),t.dx⟩ Z.symm (by rw[Y])
    | none=>
     have U:gD (λe=>e==row) t.rows = -1:=by unfold gD;rw[C]
     rw[U,aQ,au,Up _ _ (by omega),ak,sw t.dx];cases L:t.counts.findIdx? (λe=>e==t.dx)with
     | some i=>
      obtain⟨hi,hp⟩:=OH L;have hir:i<t.rows.length:=by omega
      have hp:t.counts[i]=t.dx:=by simpa using hp
      have Y:qw t row=some i:=by unfold qw;rw[C];exact L
      have Z:lA t row=⟨t.rows.set i row,t.counts.set i (t.dx+1),t.dx⟩:=by unfold lA;rw[C];simp only[L]
      have e3:gD (λe=>e==t.dx) t.counts=(i:Int):=by unfold gD;rw[L]
      rw[e3];simp only[br];rw[aQ,au,aA ⟨by omega,hir⟩,aA hir,au,aA ⟨by omega,hi⟩,aA hi,aA ⟨by omega,hi⟩,aA hi];have hw:W6 (t.dx+1)=t.dx+1:=aK;simp only[hp,hw];exact abH (i:Int) ⟨t.rows.set i row,t.counts.set i (t.dx+1),t.dx⟩ Z.symm (by rw[Y])
     | none=>
      have Y:qw t row=none:=by unfold qw;rw[C];exact L
      have Z:lA t row=⟨t.rows,t.counts,t.dx+1⟩:=by unfold lA;rw[C];simp only[L]
      have e3:gD (λe=>e==t.dx) t.counts = -1:=by unfold gD;rw[L]
      have hw:W6 (t.dx+1)=t.dx+1:=aK;rw[e3,aR,aq,aq];simp only[hw];exact abH (-1) ⟨t.rows,t.counts,t.dx+1⟩ Z.symm (by rw[Y])
end Go.Proofs.YtnilicojgkhpnaaGreat
