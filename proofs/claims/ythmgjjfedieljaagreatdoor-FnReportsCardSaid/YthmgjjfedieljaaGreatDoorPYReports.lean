/-
  Plain laws. Nothing here is a claim.
-/
import Derived.Test.YthmgjjfedieljaaGreatDoorVZ
import Derived.Test.YthmgjjfedieljaaGreatDoorOpenV
import Derived.Test.YthmgjjfedieljaaGreatDoorG1
import Derived.Test.YthmgjjfedieljaaGreatDoorG2
import Derived.Test.YthmgjjfedieljaaGreatDoorG3
import Derived.Test.YthmgjjfedieljaaGreatDoorG4
import Derived.Test.YthmgjjfedieljaaGreatDoorG5
import Derived.Test.YthmgjjfedieljaaGreatDoorG6
import Derived.Test.YthmgjjfedieljaaGreatDoorGX
namespace Go.Proofs.YthmgjjfedieljaaGreatDoor
set_option linter.defProp false
open Go.RowKit
set_option linter.unusedVariables false
set_option linter.unusedSimpArgs false
set_option maxRecDepth 100000
def aR{n:Int}(C:-9223372036854775808<=n:=by omega)(D:n<9223372036854775808:=by omega):W6 n=n:=by
 exact(IntKind.wrap_i64 n).trans (by omega)
def adD{α β:Type}{step:α -> ah (α⊕β)}(I:α -> Prop)(m:α -> Nat)(Q:β -> Prop)
  (h:∀x,I x -> (∃y,step x=some (.inl y)/\I y/\m y<m x) \/ ∃z,step x=some (.inr z)/\Q z):
  ∀(n:Nat) (x:α),I x -> m x<n -> ∃z,iter step n x=some z/\Q z
 |0,x,_,E=>by omega
 | n+1,x,F,E=>by
  unfold iter;rcases h x F with ⟨y,C,D,L⟩|⟨z,C,D⟩
  ·rw[C];exact adD I m Q h n y D (by omega)
  ·simp_all
def aq{α β:Type}(x:α)(f:α->ah β):(some x).bind f=f x:=rfl
def fU{α β T:Type}{step:α -> ah (α⊕β)}(l:aa T)(q:T -> Bool)(S:Nat -> α)(D z:β)(fuel:Nat)(F:∀ k (h:k<l.length),step (S k)=some (bif q l[k]then .inl (S (k+1))else .inr D))(I:step (S l.length)=some (.inr z))(C:l.length<fuel):
  iter step fuel (S 0)=some (bif l.all q then z else D):=by
 have key:∀ (n i fuel:Nat),i+n=l.length -> n<fuel -> iter step fuel (S i)=some (bif (l.drop i).all q then z else D):=by
  intro n
  induction n with
  | zero=>
   intro i fuel hi C
   match fuel,C with
   | f+1,_=>
    have:i=l.length:=by omega
    subst this;unfold iter;simp_all
  | succ n L=>
   intro i fuel hi C
   match fuel,C with
   | f+1,C=>
    have E:i<l.length:=by omega
    unfold iter;rw[F i E,List.drop_eq_getElem_cons E,List.all_cons];cases q l[i]with
    |true=>grind
    |false=>rfl
 exact key l.length 0 fuel (by omega) C
def dn{α β:Type}{step:α -> ah (α⊕β)}(n:Nat)(S:Nat -> α)(z:β)(fuel:Nat)(E:∀ k,k<n -> step (S k)=some (.inl (S (k+1))))(D:step (S n)=some (.inr z))(C:n<fuel):iter step fuel (S 0)=some z:=by
 have key:∀ (m i fuel),i+m=n -> m<fuel -> iter step fuel (S i)=some z:=by
  intro m
  induction m with
  | zero=>
   intro i fuel hi C
   match fuel,C with
   | f+1,_=>
    have:i=n:=by omega
    subst this;unfold iter;rw[D]
  | succ m F=>
   intro i fuel hi C
   match fuel,C with
   | f+1,C=>
    unfold iter
    grind
 simp_all
def T0{α β:Type}{step:α -> ah (α⊕β)}(n:Nat)(I:Nat -> α -> Prop)(Q:β -> Prop){x:α}(fuel:Nat)(T:I 0 x)(E:∀ k,k<n -> ∀ x,I k x -> ∃ y,step x=some (.inl y)/\I (k+1) y)(F:∀ x,I n x -> ∃ z,step x=some (.inr z)/\Q z)(C:n<fuel):∃ z,iter step fuel x=some z/\Q z:=by
 have key:∀ (m i fuel:Nat) (x:α),i+m=n -> m<fuel -> I i x -> ∃ z,iter step fuel x=some z/\Q z:=by
  intro m
  induction m with
  | zero=>
   intro i fuel x hi C D
   match fuel,C with
   | f+1,_=>
    have:i=n:=by omega
    subst this;have⟨z,L,O⟩:=F x D;unfold iter;simp_all
  | succ m U=>
   intro i fuel x hi C D
   match fuel,C with
   | f+1,C=>
    have⟨y,L,O⟩:=E i (by omega) x D;unfold iter
    grind
 grind
def T3{α β:Type}{step:α -> ah (α⊕β)}(n:Nat)(I:Nat -> α -> Prop)(Q:β -> Prop){x:α}(fuel:Nat)(E:I 0 x)(L:∀ k,k<n -> ∀ x,I k x -> (∃ y,step x=some (.inl y)/\I (k+1) y) \/ ∃ z,step x=some (.inr z)/\Q z)(F:∀ x,I n x -> ∃ z,step x=some (.inr z)/\Q z)(C:n<fuel):∃ z,iter step fuel x=some z/\Q z:=by
 have key:∀ (m i fuel:Nat) (x:α),i+m=n -> m<fuel -> I i x -> ∃ z,iter step fuel x=some z/\Q z:=by
  intro m
  induction m with
  | zero=>
   intro i fuel x hi C D
   match fuel,C with
   | f+1,_=>
    have:i=n:=by omega
    subst this;have⟨z,O,T⟩:=F x D;unfold iter;simp_all
  | succ m U=>
   intro i fuel x hi C D
   match fuel,C with
   | f+1,C=>
    unfold iter
    grind
 exact key n 0 fuel x (by omega) C E
def upto{α:Type}(f:α->α)(l:aa α)(i:Nat):aa α:=(l.take i).map f++l.drop i
def IC{α:Type}(f:α->α)(l:aa α)(i:Nat):(upto f l i).length=l.length:=by
 simp[upto];omega
def adE{α:Type}(f:α->α)(l:aa α):upto f l 0=l:=by simp[upto]
def Nr{α:Type}(f:α->α)(l:aa α):upto f l l.length=l.map f:=by simp[upto]
def Ns{α:Type}(f:α -> α)(l:aa α)(i:Nat)(h:i<l.length)(C:i<(upto f l i).length):(upto f l i)[i]=l[i]:=by
 simp[upto]
 grind
def Nt{α:Type}(f:α -> α)(l:aa α)(i:Nat)(h:i<l.length):(upto f l i).set i (f l[i])=upto f l (i+1):=by
 have C:min i l.length=i:=by omega
 have e:=List.drop_eq_getElem_cons h;simp only[upto];rw[List.set_append_right _ _ (by simp;omega),e,List.take_succ_eq_append_getElem h];simp only[jP,List.map_cons,List.map_nil,eE,fX,C,Nat.sub_self,List.set_cons_zero,List.append_assoc,List.cons_append,List.nil_append]
def sx{x y:Int}(h:¬ x=y):(x==y)=false:=by simp[h]
def je{x y:Int}(h:¬ x=y):(x != y)=true:=by simp[h]
def cq{n:Nat}(h:n<1073741824:=by omega):aT n=true:=aV h
def bG{i:Nat}(h:i<4611686018427387904:=by omega):W6 ((i:Int)+1)=((i+1:Nat):Int):=by
 rw[aR];simp
def bM{n:Nat}(h:n<1073741824:=by omega):n<big:=by unfold big;omega
def aJ(x a b:Int):Bool:=decide (a<=x)&&decide (x<=b)
def bq{x a b:Int}:aJ x a b=true ↔ a<=x/\x<=b:=by simp[aJ]
def eN(x a b:Int):ck x a b=some (aJ x a b):=by
 unfold ck aJ;by_cases h:a<=x<;>simp[h]
def dK(x a b:Int):cx x a b=some (aJ x a b):=eN x a b
def cy(g:aL):Bool:=aJ g.bX 1 2&&aJ g.aB 1 4&&aJ g.rows 2 16&&aJ g.aK 1 8
def yF(g:aL):qO g=some (cy g):=by
 unfold qO cy;simp[eN]
 grind
def DG(g:aL):vF g=some (cy g):=by
 unfold vF cy;simp[dK]
 grind
def fE{g:aL}(h:cy g=true):1<=g.bX/\g.bX<=2/\1<=g.aB/\g.aB<=4/\2<=g.rows/\g.rows<=16/\1<=g.aK/\g.aK<=8:=by
 simp only[cy,aJ,aH,fY]at h;omega
def aQ(g:aL):Int:=bif cy g then g.bX*g.aB else 0
def fy(g:aL):0 <= aQ g/\aQ g <= 8:=by
 unfold aQ;cases h:cy g with
 |false=>simp
 | true=>
  have⟨C,D,E,F,_⟩:=fE h;simp;rcases(by omega:g.bX=1 \/ g.bX=2)with e|e<;>rw[e]<;>omega
def ID{g:aL}(h:cy g=true):1 <= aQ g:=by
 have⟨C,D,E,F,_⟩:=fE h;simp[aQ,h,aj];rcases(by omega:g.bX=1 \/ g.bX=2)with e|e<;>rw[e]<;>omega
def qS(g:aL):mN g=some (aQ g):=by
 have hb:=fy g;unfold mN;rw[yF,aq];unfold aQ at hb ⊢;cases h:cy g with
 |false=>rfl
 | true=>
  rw[h]at hb;simp at hb;simp;rw[aR]
def mO(g:aL):kV g=some (aQ g):=by
 have hb:=fy g;unfold kV;rw[DG,aq];unfold aQ at hb ⊢;cases h:cy g with
 |false=>rfl
 | true=>
  rw[h]at hb;simp at hb;simp;rw[aR]
def fV(g:aL):Int:=bif cy g then aQ g*g.rows else 0
def dW(g:aL):Int:=bif cy g then aQ g*g.rows*g.aK else 0
def Nu{a b A B:Int}(D:0<=a)(E:a<=A)(C:0<=b)(F:b<=B):0<=a*b/\a*b<=A*B:=
 ⟨Int.mul_nonneg D C,Int.le_trans (Int.mul_le_mul_of_nonneg_right E C) (Int.mul_le_mul_of_nonneg_left F (by omega))⟩
def sy(g:aL):0 <= fV g/\fV g <= 128:=by
 unfold fV;cases h:cy g with
 |false=>simp
 | true=>
  have⟨_,_,_,_,D,C,_⟩:=fE h;have:=fy g;exact Nu this.1 this.2 (by omega) C
def n6(g:aL):0 <= dW g/\dW g <= 1024:=by
 have C:=sy g;unfold dW fV at *
 cases h:cy g with
 |false=>simp
 | true=>
  rw[h]at C;have⟨_,_,_,_,E,F,I,D⟩:=fE h;exact Nu C.1 C.2 (by omega) D
def T4(g:aL):yz g=some (dW g):=by
 have C:=n6 g;have D:=sy g;unfold yz;rw[qS,aq];unfold dW fV at *
 cases h:cy g with
 |false=>simp only[aQ,h,au,Int.zero_mul];rw[show W6 0=0 from rfl,Int.zero_mul];rfl
 | true=>
  rw[h]at C D;simp only[aj]at C D;simp only[aj];rw[aR (n:=aQ g*g.rows),aR]
def A9(g:aL):sj g=some (dW g):=by
 have C:=n6 g;have D:=sy g;unfold sj;rw[DG,aq,mO,aq];unfold dW fV at *
 cases h:cy g with
 |false=>rfl
 | true=>
  rw[h]at C D;simp at C D;simp;rw[aR (n:=aQ g*g.rows),aR]
def cZ(g:aL)(a:aG):Bool:=cy g&&aJ a.az 0 (aQ g-1)&&aJ a.row 0 (g.rows-1)&&aJ a.bL 0 (g.aK-1)
def qT{g:aL}{a:aG}(h:cZ g a=true):cy g=true/\0 <= a.az/\a.az<aQ g/\0 <= a.row/\a.row<g.rows/\0 <= a.bL/\a.bL<g.aK:=by
 simp[cZ,aJ,aH,fY]at h
 grind
def vT{g:aL}{a:aG}(h:cy g=true)(C:0 <= a.az)(D:a.az<aQ g)(E:0 <= a.row)(F:a.row<g.rows)(I:0 <= a.bL)(L:a.bL<g.aK):cZ g a=true:=by
 simp[cZ,aJ,aH,fY]
 grind
def adF(g:aL)(a:aG):A3 g a=some (cZ g a):=by
 unfold A3 cZ;simp[yF,qS,eN,aq];have hb:=fy g;cases h:cy g with
 |false=>rfl
 | true=>
  have⟨_,_,_,_,C,D,E,F⟩:=fE h;rw[aR,aR,aR]
  grind
def T5(g:aL)(a:aG):Db g a=some (cZ g a):=by
 unfold Db cZ;simp only[mO,dK,aq];have hb:=fy g;rw[aR];cases h:cy g with
 | false=>
  have:aJ a.az 0 (aQ g-1)=false:=by
   simp[aQ,h,aJ]
   grind
  simp_all
 | true=>
  have⟨_,_,_,_,C,D,E,F⟩:=fE h;rw[aR,aR]
  grind
def yG{b n r R:Int}(C:0 <= b)(D:b<n)(E:0 <= r)(F:r<R):0 <= b*R/\0 <= b*R+r/\b*R+r<n*R:=by
 have I:0 <= b*R:=Int.mul_nonneg C (by omega);have L:(b+1)*R <= n*R:=Int.mul_le_mul_of_nonneg_right (by omega) (by omega)
 grind
def vU(g:aL)(a:aG):Int:=bif cZ g a then (a.az*g.rows+a.row)*g.aK+a.bL else -1
def adG{g:aL}{a:aG}(h:cZ g a=true):0 <= vU g a/\vU g a<dW g/\0 <= a.az*g.rows/\0 <= a.az*g.rows+a.row/\a.az*g.rows+a.row<fV g/\0 <= (a.az*g.rows+a.row)*g.aK:=by
 have⟨C,D,E,F,I,L,O⟩:=qT h;have⟨Y,T,U⟩:=yG D E F I;have⟨Z,l1,l2⟩:=yG T U L O;simp[vU,h,dW,fV,C,aj];omega
def Nv(g:aL)(a:aG):AO g a=some (vU g a):=by
 unfold AO;rw[T5,aq];cases h:cZ g a with
 |false=>simp[vU,h]
 | true=>
  have hb:=adG h;have D:=n6 g;have E:=sy g;have⟨C,F,I,L,O,T,U⟩:=qT h;have⟨_,_,_,_,g5,g6,g7,g8⟩:=fE C;simp only[vU,h,aj]at hb ⊢;simp only[bR,au];rw[aR (n:=a.az*g.rows),aR (n:=a.az*g.rows+a.row),aR (n:=(a.az*g.rows+a.row)*g.aK),aR]
def tV{α β:Type}{step:α -> ah (α⊕β)}(S:Nat -> α){z:β}:∀ (n i fuel:Nat),(∀ k,i <= k -> k<i+n -> step (S k)=some (.inl (S (k+1)))) -> step (S (i+n))=some (.inr z) -> n<fuel -> iter step fuel (S i)=some z
 | 0,i,fuel,_,C,D=>by
  match fuel,D with
  |f+1,_=>unfold iter;rw[Nat.add_zero]at C;rw[C]
 | n+1,i,fuel,E,C,D=>by
  match fuel,D with
  | f+1,D=>
   unfold iter;rw[E i (c9 _) (by omega)];exact tV S n _ f (λk F I=>E k (by omega) (by omega)) (by rw[show i+1+n=i+(n+1) by omega];exact C) (by omega)
def tW{i:Nat}(h:i<4611686018427387904:=by omega):W6 ((i:Int)+1)=((i+1:Nat):Int):=by
 rw[aR];simp
def adH(y:Int):0 <= bits .and .i64 y 255/\bits .and .i64 y 255 <= 255:=by
 have e:bits .and .i64 y 255=IntKind.wrap .i64 ((BitVec.ofInt 64 y &&& BitVec.ofInt 64 255).toNat):=rfl;have h:(BitVec.ofInt 64 y &&& BitVec.ofInt 64 255).toNat <= 255:=by
  exact Nat.le_trans Nat.and_le_right (by decide)
 rw[e,IntKind.wrap_i64];omega
structure iS (b:List Int) (c:bA):Prop where
 eq:c.b=b
 lo:0<=c.i
 hi:c.i<=b.length
 len:b.length<=1073741823
def iS.eta{b:aa Int}{c:bA}(h:iS b c):(⟨b,c.i,c.h⟩:bA)=c:=by
 have⟨C,i,D⟩:=c;have:=h.eq;simp_all
def Dr{α:Type}(b:aa Int)(f:ah (α×(bA×af)))(P:α->Prop):Prop:=∃x c,f=some (x,(c,()))/\iS b c/\P x
def Dr.bind{α β:Type}{b:aa Int}{f:ah (α×(bA×af))}{g:α×(bA×af) -> ah (β×(bA×af))}{P:α -> Prop}{Q:β -> Prop}(h:Dr b f P)(C:∀ x c,P x -> iS b c -> Dr b (g (x,(c,()))) Q):Dr b (f.bind g) Q:=by
 have⟨x,c,D,E,F⟩:=h;simp_all
def Dr.pure{α:Type}{b:aa Int}{x:α}{c:bA}{P:α->Prop}(C:iS b c)(D:P x):Dr b (some (x,(c,()))) P:=⟨x,c,rfl,C,D⟩
def adJ(l:aa Int)(h:l.length<=1073741823):∃ y,At l=some y:=by
 unfold At aZ;obtain⟨z,C,F⟩:=adD (step:=F8)
  (λx=>∃(i:Nat) (y:Int),x=(((),y,(i:Int),()),(l,()))/\i<=l.length)
  (λx=>l.length-x.1.2.2.1.toNat) (λz=>∃ y,(Sum.elim (λI:((af×Int×af)×((aa Int)×af))=>some I.1.2.1) (λz=>nomatch z)) z=some y) (by
   rintro x ⟨i,y,rfl,hi⟩;unfold F8 ay xG xI;dsimp only;by_cases D:i<l.length
   ·have E:decide ((i:Int)<(l.length:Int))=true:=by simpa using D
    have L:0<=(i:Int)/\(i:Int).toNat<l.length:=⟨by omega,by simpa using D⟩
    rw[E,aj];cases O:decide ((i:Int)<4000)with
    | true=>
     rw[aj,aD L];left;refine⟨_,rfl,⟨i+1,_,by rw[tW],by omega⟩,?_⟩;dsimp only;rw[tW];omega
    | false=>
     rw[au];right;exact⟨_,rfl,_,rfl⟩
   ·have E:decide ((i:Int)<(l.length:Int))=false:=by simpa using D
    rw[E,au];right;exact⟨_,rfl,_,rfl⟩)
  big (((),(W6 ((97301:Int)+(l.length:Int))),((0:Nat):Int),()),(l,())) ⟨0,_,rfl,by omega⟩ (by dsimp only;unfold big;omega)
 have C:iter F8 big (((),(W6 ((97301:Int)+(l.length:Int))),(0:Int),()),(l,()))=some z:=C;rw[C];exact F
def adK(l:aa Int)(y:Int)(h:l.length<=1073741823):iS l ⟨l,0,y⟩:=⟨rfl,Int.le_refl _,by simp,h⟩
def IE{b:aa Int}{c:bA}(C:iS b c):Dr b (xY c) λx=>0<=x/\x<=255:=by
 have hb:=C.eq;have E:=C.lo;have I:=C.hi;have F:=C.len;unfold xY xI;by_cases h:c.i<(c.b.length:Int)
 ·have D:decide (c.i<(c.b.length:Int))=true:=by simpa using h
  rw[D,aj,aD ⟨E,by omega⟩];refine Dr.pure ⟨hb,?_,?_,F⟩ (adH _)
  ·show 0<=W6 (c.i+1);rw[hb]at h;rw[aR];omega
  ·show W6 (c.i+1)<=_;rw[hb]at h;rw[aR];omega
 ·have D:decide (c.i<(c.b.length:Int))=false:=by simpa using h
  rw[D,au];exact Dr.pure ⟨hb,E,I,F⟩ (adH _)
def adL{x n:Int}(h:0<=x)(C:0<n):0<=x.tmod n/\x.tmod n<n:=by
 rw[oS h];exact⟨Int.emod_nonneg _ (by omega),Int.emod_lt_of_pos _ C⟩
def dY{b:aa Int}{c:bA}(C:iS b c)(n:Int):Dr b (eC c n) λx=>0 <= x/\(n <= 0 -> x=0)/\(0<n -> x<n):=by
 unfold eC;by_cases O:n <= 0
 ·have I:decide (n <= 0)=true:=by simpa using O
  rw[I];exact Dr.pure C ⟨Int.le_refl _,λ_=>rfl,λh=>by omega⟩
 ·have I:decide (n <= 0)=false:=by simpa using O
  have T:¬ n=0:=by omega
  rw[I];by_cases U:n <= 256
  ·have L:decide (n <= 256)=true:=by simpa using U
   rw[L,aj]
   refine(IE C).bind λx c' hx Y=>?_
   rw[bx T];rw[C.eq,Y.eta];have:=adL hx.1 (show 0<n by omega);exact Dr.pure Y ⟨this.1,λh=>by omega,λ_=>this.2⟩
  ·have L:decide (n <= 256)=false:=by simpa using U
   rw[L,au,C.eq]
   refine(IE C).bind λD k1 Qc Z=>?_
   dsimp only;rw[Z.eta]
   refine(IE Z).bind λE k2 JI vr=>?_
   dsimp only;rw[vr.eta]
   refine(IE vr).bind λF k3 Y6 r4=>?_
   dsimp only;rw[r4.eta]
   refine(IE r4).bind λx4 k4 hx4 tG=>?_
   rw[bx T];dsimp only;rw[tG.eta];rw[aR (n:=D*16777216),aR (n:=E*65536),aR (n:=D*16777216+E*65536),aR (n:=F*256),aR (n:=D*16777216+E*65536+F*256),aR (n:=D*16777216+E*65536+F*256+x4)];have:=adL (x:=D*16777216+E*65536+F*256+x4) (by omega) (show 0<n by omega);exact Dr.pure tG ⟨this.1,λh=>by omega,λ_=>this.2⟩
def arc(x a b:Int):ck x a b=some (decide (a <= x)&&decide (x <= b)):=by
 unfold ck
 grind
def adM{x a b:Int}(h:a<=x)(C:x<=b):ck x a b=some true:=by
 rw[arc,aV h,aV C];rfl
def ard{x a b:Int}(h:a<=x)(C:x<=b):cx x a b=some true:=adM h C
def opens:Nat->aa ep->aa Int
 |_,[]=>[]
 |i,b::bs=>bif b.open_ then (i:Int)::opens (i+1) bs else opens (i+1) bs
def adN(i:Nat)(a b:aa ep):opens i (a++b)=opens i a++opens (i+a.length) b:=by
 induction a generalizing i with
 |nil=>simp[opens]
 | cons x a C=>
  simp[List.cons_append,opens]
  grind
def T6(i:Nat)(l:aa ep):(opens i l).length <= l.length:=by
 induction l generalizing i with
 |nil=>simp[opens]
 | cons x a C=>
  have:=C (i+1);simp[opens]
  grind
def tX{α:Type}{l:aa α}{i:Nat}(h:i<l.length):l.take (i+1)=l.take i++[l[i]]:=by
 rw[List.take_succ_eq_append_getElem h]
def arf(r:cB)(h:r.aB.length<1073741823):AV r=some (opens 0 r.aB):=by
 unfold AV aZ;have e:=tV (step:=Dv) (λi=>(((),r.aB,(r.aB.length:Int),(i:Int),()),(opens 0 (r.aB.take i),()))) (z:=.inl (((),()),(opens 0 r.aB,()))) r.aB.length 0 big (λk _ C=>?_) ?_ (by unfold big;omega)
 ·have e:iter Dv big (((),r.aB,r.aB.length,0,()),(([]),()))=_:=e;simp_all
 ·have C:k<r.aB.length:=by omega
  unfold Dv ay xG xI;dsimp only;have D:decide ((k:Int)<(r.aB.length:Int))=true:=aV;have E:0 <= (k:Int)/\(k:Int).toNat<r.aB.length:=⟨by omega,by simpa using C⟩
  have hl:=T6 0 (r.aB.take k);rw[fX]at hl;have F:aT ((opens 0 (r.aB.take k)).length+([(k:Int)]:aa Int).length)=true:=by
   unfold aT;simp;omega
  rw[D,aj,aD E,tW,tX C,adN];simp only[bH,opens,fX,eS,Nat.min_eq_left (Nat.le_of_lt C)];cases r.aB[k].open_ with
  |true=>grind
  |false=>grind
 ·rw[eS];unfold Dv ay xG xI;simp_all
def gmT:Nat:=116196760129267793630862849262464326346044543732748708940920453221664288556434379745879494961270582141731748813355742142288220638766218855867759359510984593843506004200114943278699875244065120512813025380665946106619127097398772031257643617143689515450995722003729973585221105779229319991106539050771048038400
def gm(a b:Nat):Nat:=(gmT / 2 ^ (4*(16*a+b))) % 16
def pwT:Nat:=44684875893970114885940500792407720993
def pw(n:Nat):Nat:=(pwT / 2 ^ (4*n)) % 16
def jL(f:Nat->Bool):Bool:=(List.range 16).all f
def iy{f:Nat->Bool}(h:jL f=true){a:Nat}(C:a<16):f a=true:=by
 have:=bW.1 h a (eJ.2 C);exact this
def fN(a b:Nat):gm a b<16:=Nat.mod_lt _ (by decide)
def sA(n:Nat):pw n<16:=Nat.mod_lt _ (by decide)
def arh:(jL λa=>jL λb=>iR (Int.ofNat a) (Int.ofNat b)==some (Int.ofNat (gm a b)))=true:=by kernel_rfl
def ari:((List.range 31).all λn=>Nj 2 (Int.ofNat n)==some (Int.ofNat (pw n)))=true:=by kernel_rfl
def adO:(jL λa=>jL λb=>decide (bits .xor .i64 (Int.ofNat a) (Int.ofNat b)=Int.ofNat (a ^^^ b))&&Nat.blt (a ^^^ b) 16)=true:=by kernel_rfl
def arj:(jL λa=>jL λb=>jL λc=>Nat.beq (gm (a ^^^ b) c) (gm a c ^^^ gm b c))=true:=by kernel_rfl
def adP:(jL λa=>Nat.beq (gm a 1) a&&Nat.beq (gm 0 a) 0)=true:=by kernel_rfl
def ark:(jL λC=>jL λs1=>jL λs2=>
  (λy z=>(λx=>Nat.beq (gm x 1 ^^^ (gm y 1 ^^^ (gm z 1 ^^^ C))) 0&&Nat.beq (gm x 1 ^^^ (gm y 2 ^^^ (gm z 4 ^^^ s1))) 0&&Nat.beq (gm x 1 ^^^ (gm y 4 ^^^ (gm z 3 ^^^ s2))) 0) (C ^^^ y ^^^ z))
   (gm (gm 2 (C ^^^ s1) ^^^ gm 5 (C ^^^ s2)) 13) (gm (gm 3 (C ^^^ s2) ^^^ gm 5 (C ^^^ s1)) 13))=true:=by kernel_rfl
def arl:Nk 4=some 13:=by kernel_rfl
def IF{a b:Nat}(C:a<16)(hb:b<16):iR (a:Int) (b:Int)=some (gm a b:Int):=by
 have h:=iy (iy arh C) hb;exact eq_of_beq h
def arn{n:Nat}(h:n<31):Nj 2 (n:Int)=some (pw n:Int):=eq_of_beq (bW.1 ari n (eJ.2 h))
def qU{a b:Nat}(C:a<16)(hb:b<16):bits .xor .i64 (a:Int) (b:Int)=((a ^^^ b:Nat):Int):=by
 have h:=iy (iy adO C) hb;simp_all
def kq{a b:Nat}(C:a<16)(hb:b<16):a ^^^ b<16:=by
 have h:=iy (iy adO C) hb;simp_all
def aro{a b c:Nat}(C:a<16)(hb:b<16)(D:c<16):gm (a ^^^ b) c=gm a c ^^^ gm b c:=cv (iy (iy (iy arj C) hb) D)
def arp{a:Nat}(C:a<16):gm a 1=a:=by
 have h:=iy adP C;rw[aH]at h;exact cv h.1
def Nw{a:Nat}(C:a<16):gm 0 a=0:=by
 have h:=iy adP C;rw[aH]at h;exact cv h.2
abbrev aW (w:aa Nat):aa Int:=w.map λ(n:Nat)=>(n:Int)
def dj(w:aa Nat):Prop:=∀x∈w,x<16
def gX(w:aa Nat):(aW w).length=w.length:=by simp[aW]
def tY{w:aa Nat}{k:Nat}(h:k<(aW w).length):(aW w)[k]=((w.getD k 0:Nat):Int):=by grind
def dj.get{w:aa Nat}(h:dj w)(k:Nat):w.getD k 0<16:=by
 by_cases C:k<w.length
 ·simp[fQ,bQ C];exact h _ (cR C)
 ·simp_all
def adQ{w:aa Nat}(E:dj w)(hl:w.length<1000)(n:Int):tT (aW w) n=some ((w.length:Int)==n):=by
 unfold tT bO;have e:=tV (step:=yA) (λi=>((aW w,n,aW w,((aW w).length),i,()),())) (z:=.inr (.inl ((aW w,n,()),()))) w.length 0 big (λk _ C=>?_) ?_ (by unfold big;omega)
 ·simp_all
 ·have C:k<(aW w).length:=by rw[gX];omega
  unfold yA ay aY xG xI;dsimp only;have F:decide ((k:Int)<((aW w).length:Int))=true:=aV;have D:0 <= (k:Int)/\(k:Int).toNat<(aW w).length:=⟨by omega,by simpa using C⟩
  rw[F,aj,aD D];have I:(aW w)[(k:Int).toNat]'D.2=((w.getD k 0:Nat):Int):=tY C;rw[I];have:=E.get k;unfold AX;rw[adM (by omega) (by omega),aq,aq,tW];rfl
 ·unfold yA ay aY xG xI;simp_all
def bP(w:aa Nat)(j:Nat):Nat->Nat
 |0=>0
 |i+1=>bP w j i ^^^ gm (w.getD i 0) (pw (i*j))
def tZ(w:aa Nat)(j:Nat):∀ i,bP w j i<16
 |0=>Nat.zero_lt_succ _
 |i+1=>kq (tZ w j i) (fN _ _)
def arq{w:aa Nat}(I:dj w)(hl:w.length=11)(j:Nat)(hj:j<3)(a b:Int)(o:aa Int)(L:j<o.length)(O:o.set j 0=o):
  iter DF big ((aW w,(),(j:Int),a,b,aW w,((aW w).length:Int),(0:Int),()),(o,()))=some (.inl ((aW w,(),a,b,()),(o.set j (bP w j 11:Int),()))):=by
 have e:=tV (step:=DF) (λi=>((aW w,(),(j:Int),a,b,aW w,((aW w).length:Int),(i:Int),()),(o.set j (bP w j i:Int),()))) (z:=.inl ((aW w,(),a,b,()),(o.set j (bP w j 11:Int),()))) 11 0 big (λk _ D=>?_) ?_ (by unfold big;omega)
 ·have e:iter DF big ((aW w,(),(j:Int),a,b,aW w,((aW w).length:Int),(0:Int),()),(o.set j 0,()))=_:=e;rw[O]at e;exact e
 ·have D:k<(aW w).length:=by rw[gX];omega
  unfold DF ay xG xI xL;dsimp only;have E:decide ((k:Int)<((aW w).length:Int))=true:=aV;have F:0<=(k:Int)/\(k:Int).toNat<(aW w).length:=⟨by omega,by simpa using D⟩
  have C:0<=(j:Int)/\(j:Int).toNat<(o.set j (bP w j k:Int)).length:=⟨by omega,by simpa using L⟩
  have T:(aW w)[(k:Int).toNat]'F.2=((w.getD k 0:Nat):Int):=tY D;have U:(o.set j (bP w j k:Int))[(j:Int).toNat]'C.2=(bP w j k:Int):=List.getElem_set_self _;rw[E,aj,aD F,aD C,aD C.2,T,U];have VY:k*j<=20:=Nat.le_trans (Nat.mul_le_mul (show k<=10 by omega) (show j<=2 by omega)) (by decide);have Y:W6 ((k:Int)*(j:Int))=((k*j:Nat):Int):=by
   rw[<-Int.natCast_mul,aR]
  rw[Y,arn (by omega),aq,IF (I.get k) (sA _),aq,aD C,aD C.2,qU (tZ _ _ _) (fN _ _),tW];have Z:(o.set j (bP w j k:Int)).set (j:Int).toNat ((bP w j k ^^^ gm (w.getD k 0) (pw (k*j)):Nat):Int)=o.set j (bP w j (k+1):Int):=List.set_set ..;rw[Z]
 ·unfold DF ay xG xI xL;dsimp only;have E:decide (((0+11:Nat):Int)<((aW w).length:Int))=false:=bh (by rw[gX];omega);rw[E,au]
def qV(w:aa Nat):Nat->aa Int
 |0=>[0,0,0]
 |1=>[(bP w 0 11:Int),0,0]
 |2=>[(bP w 0 11:Int),(bP w 1 11:Int),0]
 |_=>[(bP w 0 11:Int),(bP w 1 11:Int),(bP w 2 11:Int)]
def ars{w:aa Nat}(D:dj w)(hl:w.length=11):A8 (aW w)=some [(bP w 0 11:Int),(bP w 1 11:Int),(bP w 2 11:Int)]:=by
 unfold A8 aZ;have c0:((w.length:Int)==(11:Int))=true:=by rw[hl];rfl
 rw[adQ D (by omega),c0,aq];have e:=tV (step:=Iy) (λj=>((aW w,(),(3:Int),(j:Int),()),(qV w j,()))) (z:=.inl (((),()),(qV w 3,()))) 3 0 big (λk _ F=>?_) ?_ (by unfold big;omega)
 ·have e:iter Iy big ((aW w,(),((List.replicate (3:Int).toNat (0:Int)).length:Int),(0:Int),()),(List.replicate (3:Int).toNat (0:Int),()))=_:=e;rw[show (!true)=false from rfl,au,bJ (by decide),e];rfl
 ·unfold Iy ay xG aZ;dsimp only;have E:decide ((k:Int)<(3:Int))=true:=aV;have C:qV w k=(qV w k).set k 0/\k<(qV w k).length/\(qV w k).set k (bP w k 11:Int)=qV w (k+1):=by
   have:k=0\/k=1\/k=2:=by omega
   rcases this with rfl|rfl|rfl
   ·exact⟨rfl,by simp[qV],rfl⟩
   ·exact⟨rfl,by simp[qV],rfl⟩
   ·exact⟨rfl,by simp[qV],rfl⟩
  rw[E,aj,arq D hl k (by omega) (3:Int) (k:Int) (qV w k) C.2.1 C.1.symm,C.2.2];show some (Sum.inl ((aW w,(),(3:Int),W6 ((k:Int)+1),()),(qV w (k+1),())))=_;rw[tW]
 ·unfold Iy ay xG aZ;dsimp only;rfl
def art(C D E:Nat)(F:C<16)(I:D<16)(L:E<16):
  (λy z=>(λx=>(gm x 1 ^^^ (gm y 1 ^^^ (gm z 1 ^^^ C)))=0/\(gm x 1 ^^^ (gm y 2 ^^^ (gm z 4 ^^^ D)))=0/\(gm x 1 ^^^ (gm y 4 ^^^ (gm z 3 ^^^ E)))=0) (C ^^^ y ^^^ z))
   (gm (gm 2 (C ^^^ D) ^^^ gm 5 (C ^^^ E)) 13) (gm (gm 3 (C ^^^ E) ^^^ gm 5 (C ^^^ D)) 13):=by
 have h:=iy (iy (iy ark F) I) L;simp_all
def aru{d:aa Nat}(O:dj d)(hl:d.length=8):∃ w,Nl (aW d)=some (aW w)/\w.length=11/\dj w/\w.drop 3=d/\bP w 0 11=0/\bP w 1 11=0/\bP w 2 11=0:=by
 have U:dj (0 :: 0 :: 0 :: d):=by
  intro x hx;simp only[fH]at hx;rcases hx with rfl|rfl|rfl|hx
  ·decide
  ·decide
  ·decide
  ·exact O x hx
 have key:∀ j x y z,j<3->x<16->y<16->z<16->bP (x :: y :: z :: d) j 11=gm x (pw (0*j)) ^^^ (gm y (pw (1*j)) ^^^ (gm z (pw (2*j)) ^^^ bP (0 :: 0 :: 0 :: d) j 11)):=by
  intro j x y z hj hx hy U;simp only[bP,List.getD_cons_zero,List.getD_cons_succ,Nat.xor_assoc,Nat.zero_xor,Nw (sA _)]
 have e0:∀ C E F:Nat,C<16->E<16->F<16->A8 (aW (0 :: 0 :: 0 :: d))=some [(C:Int),(E:Int),(F:Int)]->
   Nl (aW d)=some (aW ((C ^^^ gm (gm 2 (C ^^^ E) ^^^ gm 5 (C ^^^ F)) 13 ^^^ gm (gm 3 (C ^^^ F) ^^^ gm 5 (C ^^^ E)) 13)::gm (gm 2 (C ^^^ E) ^^^ gm 5 (C ^^^ F)) 13::gm (gm 3 (C ^^^ F) ^^^ gm 5 (C ^^^ E)) 13::d)):=by
  intro C E F D I L hs;unfold Nl xL;have c0:((d.length:Int)==(8:Int))=true:=by rw[hl];rfl
  have c1:aT ((List.replicate (3:Int).toNat (0:Int)).length+(aW d).length)=true:=by
   rw[gX,hl];rfl
  rw[adQ O (by omega),aq,c0,show (!true)=false from rfl,au,bJ (by decide),c1,aj];have T:A8 (List.replicate (3:Int).toNat (0:Int)++aW d)=some [(C:Int),(E:Int),(F:Int)]:=hs;rw[T,aq];show (Nk (4:Int)).bind (λY=>(iR (2:Int) (bits .xor .i64 (C:Int) (E:Int))).bind λmL=>(iR (5:Int) (bits .xor .i64 (C:Int) (F:Int))).bind λjl=>(iR (bits .xor .i64 mL jl) Y).bind λZ=>(iR (3:Int) (bits .xor .i64 (C:Int) (F:Int))).bind λkW=>(iR (5:Int) (bits .xor .i64 (C:Int) (E:Int))).bind λvS=>(iR (bits .xor .i64 kW vS) Y).bind λtS=>some (bits .xor .i64 (bits .xor .i64 (C:Int) Z) tS::Z::tS::aW d))=_;have m2:∀b:Nat,b<16->iR (2:Int) (b:Int)=some (gm 2 b:Int):=λb hb=>IF (a:=2) (by decide) hb
  have m3:∀b:Nat,b<16->iR (3:Int) (b:Int)=some (gm 3 b:Int):=λb hb=>IF (a:=3) (by decide) hb
  have m5:∀b:Nat,b<16->iR (5:Int) (b:Int)=some (gm 5 b:Int):=λb hb=>IF (a:=5) (by decide) hb
  have m13:∀b:Nat,b<16->iR (b:Int) (13:Int)=some (gm b 13:Int):=λb hb=>IF (b:=13) hb (by decide)
  rw[arl,aq,qU D I,qU D L,m2 _ (kq D I),aq,m5 _ (kq D L),aq,qU (fN _ _) (fN _ _),m13 _ (kq (fN _ _) (fN _ _)),aq,m3 _ (kq D L),aq,m5 _ (kq D I),aq,qU (fN _ _) (fN _ _),m13 _ (kq (fN _ _) (fN _ _)),aq,qU D (fN _ _),qU (kq D (fN _ _)) (fN _ _)];rfl
 have D:=tZ (0::0::0::d) 0 11;have I:=tZ (0::0::0::d) 1 11;have L:=tZ (0::0::0::d) 2 11;have T:=e0 _ _ _ D I L (ars U (by simp[hl]));have f:=art _ _ _ D I L;dsimp only at f;refine⟨_,T,by simp[hl],?_,rfl,?_,?_,?_⟩
 ·intro x hx;simp only[fH]at hx;rcases hx with rfl | rfl | rfl | hx
  ·exact kq (kq D (fN _ _)) (fN _ _)
  ·exact fN _ _
  ·exact fN _ _
  ·exact O x hx
 ·rw[key 0 _ _ _ (by decide) (kq (kq D (fN _ _)) (fN _ _)) (fN _ _) (fN _ _)];exact f.1
 ·rw[key 1 _ _ _ (by decide) (kq (kq D (fN _ _)) (fN _ _)) (fN _ _) (fN _ _)];exact f.2.1
 ·rw[key 2 _ _ _ (by decide) (kq (kq D (fN _ _)) (fN _ _)) (fN _ _) (fN _ _)];exact f.2.2
def adR{w:aa Nat}(C:dj w){k e:Nat}(D:e<16)(F:k<w.length)(j:Nat):∀ i,bP (w.set k (w.getD k 0 ^^^ e)) j i=if i <= k then bP w j i else bP w j i ^^^ gm e (pw (k*j))
 |0=>by rw[bJ (gF _)];rfl
 | i+1=>by
  have I:=adR C D F j i;have L:(w.set k (w.getD k 0 ^^^ e)).getD i 0=if i=k then w.getD k 0 ^^^ e else w.getD i 0:=by
   grind
  show bP _ j i ^^^ gm _ (pw (i*j))=_;rw[I,L];by_cases O:i<k
  ·rw[bJ,bx,bJ];rfl
  ·by_cases E:i=k
   ·subst E;rw[bJ (c9 _),bJ rfl,bx,aro (C.get _) D (sA _),<- Nat.xor_assoc];rfl
   ·rw[bx,bx E,bx];show _=bP w j i ^^^ gm _ _ ^^^ gm e _
    grind
def dj.set{w:aa Nat}(h:dj w){k v:Nat}(D:v<16):dj (w.set k v):=by
 intro x C;rcases List.mem_or_eq_of_mem_set C with C|rfl
 ·exact h x C
 ·exact D
def mP:aa Nat:=[8,14,7,1]
def arv:((List.range 8).all λm=>jL λf=>(List.range 3).all λj=>
  Nat.beq (gm (gm 8 f) (pw (m*j)) ^^^ (gm (gm 14 f) (pw ((m+1)*j)) ^^^ (gm (gm 7 f) (pw ((m+2)*j)) ^^^ gm f (pw ((m+3)*j))))) 0)=true:=by kernel_rfl
def arw:(jL λa=>jL λb=>sk (Int.ofNat a) (Int.ofNat b)==some (Int.ofNat (gm a b)))=true:=by kernel_rfl
def IG{a b:Nat}(C:a<16)(hb:b<16):sk (a:Int) (b:Int)=some (gm a b:Int):=by
 have h:=iy (iy arw C) hb;exact eq_of_beq h
def adS(W:aa Int):iter S7 big (((),(),(1:Int),()),(W,([(1:Int),(1:Int)]:aa Int),()))=some (.inl (((),(),()),(W,aW mP,()))):=by kernel_rfl
def adT{w:aa Nat}(E:dj w)(hl:w.length<1000)(n:Int):tQ (aW w) n=some ((w.length:Int)==n):=by
 unfold tQ bO;have e:=tV (step:=ya) (λi=>((aW w,n,i,()),())) (z:=.inr (.inl ((aW w,n,()),()))) w.length 0 big (λk _ C=>?_) ?_ (by unfold big;omega)
 ·simp_all
 ·have C:k<(aW w).length:=by rw[gX];omega
  unfold ya ay aY xG xI;dsimp only;have F:decide ((k:Int)<((aW w).length:Int))=true:=aV;have D:0 <= (k:Int)/\(k:Int).toNat<(aW w).length:=⟨by omega,by simpa using C⟩
  rw[F,aj,aD D];have I:(aW w)[(k:Int).toNat]'D.2=((w.getD k 0:Nat):Int):=tY C;rw[I];have:=E.get k;unfold vI;rw[ard (by omega) (by omega),aq,aq,tW];rfl
 ·unfold ya ay aY xG xI;simp_all
def sB(k:Nat):Nat:=mP.getD k 0
def arx(k:Nat):sB k<16:=by
 have:dj mP:=by
  intro x C;simp[mP,fH,List.not_mem_nil,or_false]at C;omega
 exact this.get k
def jn(r:aa Nat)(m f:Nat):Nat->aa Nat
 |0=>r
 |k+1=>(jn r m f k).set (m+k) ((jn r m f k).getD (m+k) 0 ^^^ gm (sB k) f)
def II(r:aa Nat)(m f:Nat):∀ k,(jn r m f k).length=r.length
 |0=>rfl
 |k+1=>by show (List.set _ _ _).length=_;rw[js,II]
def IJ{r:aa Nat}(C:dj r)(m f:Nat):∀ k,dj (jn r m f k)
 |0=>C
 |k+1=>(IJ C m f k).set (kq ((IJ C m f k).get _) (fN _ _))
def T7(w:aa Nat)(k v:Nat):(aW w).set k (v:Int)=aW (w.set k v):=(List.map_set ..).symm
def ary{r:aa Nat}(L:dj r)(hl:r.length=11){m f:Nat}(hm:m<8)(O:f<16)(W:aa Int):
  iter CZ big (((),(),(),((m+3:Nat):Int),(f:Int),(0:Int),()),(W,aW mP,aW r,()))=some (.inl (((),(),(),((m+3:Nat):Int),()),(W,aW mP,aW (jn r m f 4),()))):=by
 have e:=tV (step:=CZ) (λk=>(((),(),(),((m+3:Nat):Int),(f:Int),(k:Int),()),(W,aW mP,aW (jn r m f k),()))) (z:=.inl (((),(),(),((m+3:Nat):Int),()),(W,aW mP,aW (jn r m f 4),()))) 4 0 big (λk _ hk=>?_) ?_ (by unfold big;omega)
 ·exact e
 ·unfold CZ ay xG xL;dsimp only;have D:decide ((k:Int)<((aW mP).length:Int))=true:=aV (by show (k:Int)<4;omega);have T:W6 (W6 (((m+3:Nat):Int)-3)+(k:Int))=((m+k:Nat):Int):=by
   rw[aR (n:=((m+3:Nat):Int)-3),aR];omega
  have F:m+k<(aW (jn r m f k)).length:=by rw[gX,II,hl];omega
  have C:0<=((m+k:Nat):Int)/\((m+k:Nat):Int).toNat<(aW (jn r m f k)).length:=⟨by omega,F⟩
  have I:k<(aW mP).length:=by show k<4;omega
  have E:0<=(k:Int)/\(k:Int).toNat<(aW mP).length:=⟨by omega,I⟩
  have U:(aW (jn r m f k))[((m+k:Nat):Int).toNat]'C.2=(((jn r m f k).getD (m+k) 0:Nat):Int):=tY F;have Y:(aW mP)[(k:Int).toNat]'E.2=((sB k:Nat):Int):=tY I;rw[D,aj];simp only[T];rw[aD C,aD C.2];rw[aD E,aD E.2,Y,IG (arx k) O,aq,aD C,aD C.2,U,qU ((IJ L m f k).get _) (fN _ _),tW];have Z:(aW (jn r m f k)).set ((m+k:Nat):Int).toNat (((jn r m f k).getD (m+k) 0 ^^^ gm (sB k) f:Nat):Int)=aW (jn r m f (k+1)):=T7 _ _ _;rw[Z]
 ·unfold CZ ay xG xL;dsimp only;have D:decide (((0+4:Nat):Int)<((aW mP).length:Int))=false:=rfl;rw[D,au]
def out(r:aa Nat):Nat->aa Nat
 |0=>r
 |t+1=>jn (out r t) (7-t) ((out r t).getD (10-t) 0) 4
def Ba(r:aa Nat):∀ t,(out r t).length=r.length
 |0=>rfl
 |t+1=>by show (jn _ _ _ _).length=_;rw[II,Ba]
def Bb{r:aa Nat}(C:dj r):∀ t,dj (out r t)
 |0=>C
 |t+1=>IJ (Bb C t) _ _ _
def adU{r:aa Nat}(D:dj r)(hl:r.length=11)(W:aa Int):
  iter C0 big (((),(),(),(10:Int),()),(W,aW mP,aW r,()))=some (.inl (((),(),()),(W,aW (out r 8),()))):=by
 have e:=tV (step:=C0) (λt=>(((),(),(),(10:Int)-(t:Int),()),(W,aW mP,aW (out r t),()))) (z:=.inl (((),(),()),(W,aW (out r 8),()))) 8 0 big (λt _ L=>?_) ?_ (by unfold big;omega)
 ·exact e
 ·unfold C0 ay xG aZ xL;dsimp only;have hi:(10:Int)-(t:Int)=((7-t+3:Nat):Int):=by omega
  have F:decide ((10:Int)-(t:Int) >= 3)=true:=aV;have E:7-t+3<(aW (out r t)).length:=by rw[gX,Ba,hl];omega
  have C:0<=((7-t+3:Nat):Int)/\((7-t+3:Nat):Int).toNat<(aW (out r t)).length:=⟨by omega,E⟩
  have I:(aW (out r t))[((7-t+3:Nat):Int).toNat]'C.2=(((out r t).getD (10-t) 0:Nat):Int):=(tY E).trans (by rw[show 7-t+3=10-t by omega]);rw[F,aj];simp only[hi];rw[aD C,aD C.2,I,ary (Bb D t) (by rw[Ba,hl]) (by omega) ((Bb D t).get _)];show some (Sum.inl (((),(),(),W6 (((7-t+3:Nat):Int)-1),()),(W,aW mP,aW (out r (t+1)),())))=_;rw[aR,show ((7-t+3:Nat):Int)-1=10-((t+1:Nat):Int) by omega]
 ·unfold C0 ay xG aZ xL;dsimp only;rfl
def arz:(jL λa=>Nat.beq (gm 1 a) a)=true:=by kernel_rfl
def adV{a:Nat}(C:a<16):gm 1 a=a:=cv (iy arz C)
def adW{r:aa Nat}(C:dj r)(hl:r.length=11){k e:Nat}(D:e<16)(E:k<11)(j:Nat):bP (r.set k (r.getD k 0 ^^^ e)) j 11=bP r j 11 ^^^ gm e (pw (k*j)):=by
 rw[adR C D (by omega) j 11,bx]
def arB{r:aa Nat}(D:dj r)(hl:r.length=11){m f j:Nat}(E:m<8)(C:f<16)(F:j<3):bP (jn r m f 4) j 11=bP r j 11:=by
 have st:∀ k,k<4 -> bP (jn r m f (k+1)) j 11=bP _ j 11 ^^^ gm _ _:=λk L=>
  adW (IJ D m f k) (by rw[II,hl]) (fN _ _) (by omega) j
 have h:=bW.1 (iy (bW.1 arv m (eJ.2 E)) C) j (eJ.2 F);have h:gm (gm (sB 0) f) (pw ((m+0)*j)) ^^^ (gm (gm (sB 1) f) (pw ((m+1)*j)) ^^^ (gm (gm (sB 2) f) (pw ((m+2)*j)) ^^^ gm (gm (sB 3) f) (pw ((m+3)*j))))=0:=by
  have I:gm (sB 3) f=f:=adV C;rw[I];exact cv h
 rw[st 3 (by decide),st 2 (by decide),st 1 (by decide),st 0 (by decide),Nat.xor_assoc,Nat.xor_assoc,Nat.xor_assoc,h,Nat.xor_zero];rfl
def adX{r:aa Nat}(C:dj r)(hl:r.length=11){j:Nat}(D:j<3):∀ t,t<=8->bP (out r t) j 11=bP r j 11
 |0,_=>rfl
 |t+1,E=>(arB (Bb C t) (by rw[Ba,hl]) (by omega) ((Bb C t).get _) D).trans (adX C hl D t (by omega))
def adY(r:aa Nat)(k v n:Nat):(r.set k v).getD n 0=if n=k/\k<r.length then v else r.getD n 0:=by grind
def T8(r:aa Nat)(m f:Nat):∀ k n,m+k<=n->(jn r m f k).getD n 0=r.getD n 0
 |0,n,_=>rfl
 | k+1,n,h=>by
  show (List.set _ _ _).getD n 0=_;rw[adY,bx,T8 r m f k n (by omega)]
def arC{r:aa Nat}{m f:Nat}(h:m+3<r.length):(jn r m f 4).getD (m+3) 0=r.getD (m+3) 0 ^^^ gm (sB 3) f:=by
 show (List.set _ _ _).getD _ 0=_;rw[adY,bJ ⟨rfl,by rw[II];exact h⟩,T8 r m f 3 _ (c9 _)]
def adZ{r:aa Nat}(C:dj r)(hl:r.length=11):∀ t,t <= 8 -> ∀ n,10-t<n -> n<11 -> (out r t).getD n 0=0
 |0,_,n,h,D=>by omega
 | t+1,F,n,h,D=>by
  show (jn _ _ _ 4).getD n 0=0;by_cases E:n=10-t
  ·have e:n=7-t+3:=by omega
   subst e;rw[arC (by rw[Ba];omega),<- E];have:gm (sB 3) _=(out r t).getD (7-t+3) 0:=adV ((Bb C t).get _);simp_all
  ·rw[T8 _ _ _ 4 n (by omega)];exact adZ C hl t (by omega) n (by omega) D
def oF(w r:aa Nat):Nat->aa Nat
 |0=>w
 |k+1=>(oF w r k).set k (r.getD k 0)
def T9(w r:aa Nat):∀ k,(oF w r k).length=w.length
 |0=>rfl
 |k+1=>by show (List.set _ _ _).length=_;rw[js,T9]
def ad0{w r:aa Nat}(T:w.length=11)(U:r.length=11):
  iter GI big (((),(),(0:Int),()),(aW w,aW r,()))=some (.inl (((),()),(aW (oF w r 3),()))):=by
 have e:=tV (step:=GI) (λi=>(((),(),i,()),(aW (oF w r i),aW r,()))) (z:=.inl (((),()),(aW (oF w r 3),()))) 3 0 big (λk _ Y=>?_) ?_ (by unfold big;omega)
 ·exact e
 ·unfold GI ay xG xL;dsimp only;have F:decide ((k:Int)<(3:Int))=true:=aV;have D:k<(aW r).length:=by rw[gX];omega
  have I:k<(aW (oF w r k)).length:=by rw[gX,T9];omega
  have C:0 <= (k:Int)/\(k:Int).toNat<(aW r).length:=⟨by omega,D⟩
  have E:0 <= (k:Int)/\(k:Int).toNat<(aW (oF w r k)).length:=⟨by omega,I⟩
  have L:(aW r)[(k:Int).toNat]'C.2=((r.getD k 0:Nat):Int):=tY D;rw[F,aj,aD C,aD C.2,L,aD E,aD E.2,tW];have O:(aW (oF w r k)).set (k:Int).toNat ((r.getD k 0:Nat):Int)=aW (oF w r (k+1)):=T7 _ _ _;rw[O]
 ·rfl
def arD{d:aa Nat}(L:dj d)(hl:d.length=8):∃ w,yb (aW d)=some (aW w)/\w.length=11/\dj w/\bP w 0 11=0/\bP w 1 11=0/\bP w 2 11=0:=by
 have D:dj (0 :: 0 :: 0 :: d):=by
  intro x hx;simp only[fH]at hx;rcases hx with rfl|rfl|rfl|hx
  ·decide
  ·decide
  ·decide
  ·exact L x hx
 have C:(0::0::0::d).length=11:=by simp[hl]
 have O:yb (aW d)=some (aW (oF (0 :: 0 :: 0 :: d) (out (0 :: 0 :: 0 :: d) 8) 3)):=by
  unfold yb xA aZ xZ;have c0:((d.length:Int)==(8:Int))=true:=by rw[hl];rfl
  have T:aT ((List.replicate (3:Int).toNat (0:Int)).length+(aW d).length)=true:=by
   rw[gX,hl];rfl
  have U:aT (([]:aa Int).length+(aW (0 :: 0 :: 0 :: d)).length)=true:=by
   rw[gX,C];rfl
  have Y:W6 (((aW (0 :: 0 :: 0 :: d)).length:Int)-(1:Int))=10:=by
   rw[gX,C];rfl
  have Z:List.replicate (3:Int).toNat (0:Int)++aW d=aW (0::0::0::d):=rfl;rw[adT L (by omega),aq,c0,show (!true)=false from rfl,au,bJ (by decide),T,aj,Z,adS,aq,eR];dsimp only;rw[List.nil_append,U,aj,Y,adU D C,aq,eR];dsimp only;rw[ad0 C (by rw[Ba,C]),aq,eR]
 have E:=Bb D 8;have F:∀ j,j<3->bP (oF (0 :: 0 :: 0 :: d) (out (0 :: 0 :: 0 :: d) 8) 3) j 11=0:=by
  intro j hj;have I:=adX D C hj 8 (c9 _);have z:=adZ D C 8 (c9 _);revert I z;generalize out (0 :: 0 :: 0 :: d) 8=r;intro I z;have h2:bP (oF (0 :: 0 :: 0 :: d) r 3) j 11=gm (r.getD 0 0) (pw (0*j)) ^^^ (gm (r.getD 1 0) (pw (1*j)) ^^^ (gm (r.getD 2 0) (pw (2*j)) ^^^ bP (0 :: 0 :: 0 :: d) j 11)):=by
   show bP (r.getD 0 0::r.getD 1 0::r.getD 2 0::d) j 11=_;simp only[bP,List.getD_cons_zero,List.getD_cons_succ,Nat.xor_assoc,Nat.zero_xor,Nw (sA _)]
  have h3:bP r j 11=gm (r.getD 0 0) (pw (0*j)) ^^^ (gm (r.getD 1 0) (pw (1*j)) ^^^ gm (r.getD 2 0) (pw (2*j))):=by
   simp only[bP,z 3 (by decide) (by decide),z 4 (by decide) (by decide),z 5 (by decide) (by decide),z 6 (by decide) (by decide),z 7 (by decide) (by decide),z 8 (by decide) (by decide),z 9 (by decide) (by decide),z 10 (by decide) (by decide),Nat.xor_assoc,Nat.zero_xor,Nat.xor_zero,Nw (sA _)]
  rw[h2,<-I,h3,<-Nat.xor_assoc (gm (r.getD 1 0) _) (gm (r.getD 2 0) _),<-Nat.xor_assoc (gm (r.getD 0 0) _),Nat.xor_self]
 refine⟨_,O,by rw[T9,C],?_,F 0 (by decide),F 1 (by decide),F 2 (by decide)⟩;exact((D.set (E.get _)).set (E.get _)).set (E.get _)
def ua(s:Int):Bool:=aJ s 0 15
def qW(l:aa Int)(n:Int):Bool:=l.all ua&&decide ((l.length:Int)=n)
def arE(l:aa Int)(n:Int)(hl:l.length<1073741824):tT l n=some (qW l n):=by
 unfold tT qW bO;have e:=fU (step:=yA) l ua (λi=>((l,n,l,l.length,i,()),())) _ (.inr (.inl ((l,n,()),()))) big (λk h=>by
  unfold yA AX ay aY xG xI;simp (disch:=omega) [h,bG,eN,ua];cases aJ l[k] 0 15<;>rfl) (by unfold yA ay aY xG xI;simp) (bM hl)
 rw[cH]at e;rw[e];cases l.all ua<;>simp;rfl
def Ny(l:aa Int)(n:Int)(hl:l.length<1073741824):tQ l n=some (qW l n):=by
 unfold tQ qW bO;have e:=fU (step:=ya) l ua (λi=>((l,n,i,()),())) _ (.inr (.inl ((l,n,()),()))) big (λk h=>by
  unfold ya vI ay aY xG xI;simp (disch:=omega) [h,bG,dK,ua];cases aJ l[k] 0 15<;>rfl) (by unfold ya ay aY xG xI;simp) (bM hl)
 rw[cH]at e;rw[e];cases l.all ua<;>simp;rfl
def Sy(l:aa Int):Prop:=l.length=11/\∀s∈l,0<=s/\s<=15
def Sy.ok{l:aa Int}(h:Sy l):qW l 11=true:=by
 simp[qW,aH,bW,ua,bq];exact⟨λx C=>h.2 x C,by rw[h.1];rfl⟩
def Sy.of{l:aa Int}(h:qW l 11=true):Sy l:=by
 simp[qW,aH,bW,fY,ua,bq]at h;exact⟨by omega,h.1⟩
def Ua{a b:Int}(E:0 <= a/\a <= 15)(hb:0 <= b/\b <= 15):0 <= bits .xor .i64 a b/\bits .xor .i64 a b <= 15/\bits .xor .i64 (bits .xor .i64 a b) b=a:=by
 obtain⟨x,rfl⟩:=ff E.1;obtain⟨y,rfl⟩:=ff hb.1;have D:x<16:=by omega
 have C:y<16:=by omega
 have:=kq D C;rw[qU D C];rw[qU this C]
 grind
def Sy.set{l:aa Int}(h:Sy l){k:Nat}{v:Int}(D:0<=v/\v<=15):Sy (l.set k v):=by
 refine⟨by simp[h.1],λs C=>?_⟩
 rcases List.mem_or_eq_of_mem_set C with C|rfl
 ·exact h.2 s C
 ·exact D
def Sy.get{l:aa Int}(h:Sy l){k:Nat}(C:k<l.length):0<=l[k]/\l[k]<=15:=h.2 _ (cR C)
structure fe (g:aL) (B:Int) (a:dh):Prop where
 cells:(a.cells.length:Int)=dW g
 syms:∀c∈a.cells,Sy c.symbols
 bD:(a.bD.length:Int)=fV g
 bz:(a.bz.length:Int)=fV g
 IK:∀x∈a.bD,0<=x/\x<=B
 kX:∀x∈a.bz,0<=x/\x<=100000
def ad1(c:bV)(h:c.symbols.length<1073741824):HL c=some c:=by
 unfold HL xA xZ;simp[aT,h]
def arF(a:dh)(L:a.cells.length<1073741823)(C:a.bD.length<1073741824)(D:a.bz.length<1073741824)(E:∀ c∈a.cells,c.symbols.length<1073741824):MN a=some a:=by
 unfold MN xA aZ xZ;have e:=dn (step:=HN) a.cells.length (λi=>(((),(),(),(i:Int),()),((a.cells,a.bD,a.bz,()),((),(),(),()),((),(),(),()),([]:aa bV),([]:aa Int),([]:aa Int),a.cells.take i,(([]:aa Int)++a.bD),(([]:aa Int)++a.bz),())))
  (.inl (((),(),()),(((),(),(),()),((),(),(),()),([]:aa bV),([]:aa Int),([]:aa Int),a.cells,(([]:aa Int)++a.bD),(([]:aa Int)++a.bz),()))) big (λk h=>by
  unfold HN ay xG xI;have F:min k a.cells.length=k:=by omega
  have I:aT (k+1)=true:=cq;simp (disch:=omega) [h,bG,ad1 _ (E _ (cR h)),F,I]) (by unfold HN ay xG xI;simp) (bM)
 rw[cH,List.take_zero]at e;rw[e];simp[aT,C,D]
def Nz(c:bV):Bool:=qW c.symbols 11
def Bc(p:Int×Int):Bool:=aJ p.1 0 100000&&aJ p.2 0 100000
def oG(g:aL)(a:dh):Bool:=cy g&&(decide ((a.cells.length:Int)=dW g)&&(decide ((a.bD.length:Int)=fV g)&&(decide ((a.bz.length:Int)=fV g)&&(a.cells.all Nz&&(a.bD.zip a.bz).all Bc))))
def arG(g:aL)(a:dh)(F:∀ c∈a.cells,c.symbols.length<1073741824):Ib g a=some (oG g a):=by
 unfold Ib oG bO;rw[qS,aq,yF,aq,T4];cases I:cy g with
 |false=>rfl
 | true=>
  have T:=n6 g;have U:=sy g;have er:aQ g*g.rows=fV g:=by simp[fV,I]
  simp only[bR,au,aq,cM,er];rw[aR];by_cases C:(a.cells.length:Int)=dW g
  ·by_cases D:(a.bD.length:Int)=fV g
   ·by_cases E:(a.bz.length:Int)=fV g
    ·have hl:a.bD.length=a.bz.length:=by omega
     have l1:=fU (step:=H9) a.cells Nz (λi=>(((),a.cells,(a.cells.length:Int),(i:Int),()),((a.cells,a.bD,a.bz,()),()))) (.inl ((false,()),())) (.inr (.inl (((),()),((a.cells,a.bD,a.bz,()),())))) big (λk h=>by
      unfold H9 ay aY xG xI;simp (disch:=omega) [h,bG,arE _ 11 (F _ (cR h)),Nz];cases qW a.cells[k].symbols 11<;>rfl) (by unfold H9 ay aY xG xI;simp) (bM)
     have l2:=fU (step:=Ia) (a.bD.zip a.bz) Bc (λi=>(((),(a.bD.length:Int),(i:Int),()),((a.cells,a.bD,a.bz,()),()))) (.inl ((false,()),())) (.inr (.inl ((),()))) big (λk h=>by
      have L:k<a.bD.length:=by simp at h;omega
      have O:k<a.bz.length:=by omega
      unfold Ia ay aY xG xI;simp (disch:=omega) [L,O,bG,eN,Bc];cases aJ a.bD[k] 0 100000<;>cases aJ a.bz[k] 0 100000<;>rfl) (by unfold Ia ay aY xG xI;simp[hl]) (bM (by simp;omega))
     rw[cH]at l1 l2;simp only[C,D,E,bne_self_eq_false,au,decide_true,cM];rw[<-C,l1];cases Y:a.cells.all Nz with
     |false=>simp
     | true=>
      simp only[aj,Option.bind_some,Sum.elim_inr,eR];rw[l2];cases (a.bD.zip a.bz).all Bc<;>simp
    ·simp[C,D,je E,E]
   ·simp[C,je D,D]
  ·simp[je C,C]
def IL{b:aa Int}{c:bA}(C:iS b c)(l:aa Int)(hl:0<l.length):Dr b (x8 c l) λx=>x∈l:=by
 unfold x8 xI;rw[C.eq]
 refine(dY C _).bind λF I E D=>?_
 rw[aD ⟨E.1,by dsimp only;omega⟩];rw[D.eta];exact Dr.pure D (cR _)
def NA{b:aa Int}{c:bA}(C:iS b c)(n:Int):Dr b (Au c n) λ_=>True:=by
 unfold Au;rw[C.eq]
 refine(dY C _).bind λE F I D=>?_
 rw[D.eta];exact Dr.pure D trivial
def mQ(g:aL):(⟨g.bX,g.aB,g.rows,g.aK⟩:aL)=g:=rfl
def arH{b:aa Int}{c:bA}(D:iS b c){g:aL}(C:cy g=true):Dr b (MS c g) λa=>cZ g a=true:=by
 have U:=ID C;have⟨_,_,_,_,g5,g6,g7,g8⟩:=fE C;unfold MS;rw[mO,aq,D.eq]
 refine(dY D _).bind λY Z E F=>?_
 dsimp only;rw[F.eta]
 refine(dY F _).bind λx2 k2 I L=>?_
 dsimp only;rw[L.eta]
 refine(dY L _).bind λx3 k3 O T=>?_
 dsimp only;rw[T.eta];exact Dr.pure T (vT C E.1 (E.2.2 (by omega)) I.1 (I.2.2 (by omega)) O.1 (O.2.2 (by omega)))
def qX(n x:Int):Int:=if 100000<x+n then 100000 else x+n
def Ub(l:aa Int)(h:∀ s∈l,0 <= s/\s <= 15):aW (l.map Int.toNat)=l/\dj (l.map Int.toNat):=by
 constructor
 ·induction l with
  |nil=>rfl
  | cons x l C=>
   have D:=h x (.head _);have:=C λs E=>h s (.tail _ E)
   grind
 ·intro x D
  grind
def IM{w:aa Nat}(D:dj w)(hl:w.length=11):Sy (aW w):=by
 refine⟨by rw[gX,hl],λs C=>?_⟩
 simp at C;obtain⟨x,E,rfl⟩:=C;have:=D x E;omega
def Sy.mem{l:aa bV}(h:∀c∈l,Sy c.symbols){k:Nat}(C:k<l.length):Sy l[k].symbols:=h _ (cR C)
def Sy.bE{l:aa bV}(h:∀c∈l,Sy c.symbols){k:Nat}{d:bV}(C:Sy d.symbols):∀c∈l.set k d,Sy c.symbols:=by grind
def NB{l:aa Int}{B C:Int}(h:∀x∈l,B <= x/\x <= C){k:Nat}{v:Int}(D:B <= v/\v <= C):∀x∈l.set k v,B <= x/\x <= C:=by grind
def DH(l:lM)(a:dh)(i:Nat):Bool:=decide (a.bD.getD i 0 > l.bD) ||decide (a.bz.getD i 0 > l.bz)
def arI(g:aL)(l:lM)(a:dh)(i:Nat)(C:i<a.bD.length)(D:i<a.bz.length):Dc g l a (i:Int)=some (DH l a i):=by
 unfold Dc DH xI
 grind
def arJ{l:aa Int}{B C:Int}(h:∀ x∈l,B<=x/\x<=C)(k:Nat)(D:B<=0/\0<=C):B<=l.getD k 0/\l.getD k 0<=C:=by
 rw[fQ];cases E:l[k]? with
 |none=>exact D
 |some x=>exact h x (fP E)
def ad2{x:Int}(h:0<=x/\x<=100000){n:Int}(C:0<=n):0<=qX n x/\qX n x<=100000:=by
 unfold qX;split<;>omega
def bump(k:Nat)(h:aa Int):aa Int:=h.set k (qX 1 (h.getD k 0))
def NC(k:Nat)(h:aa Int):(bump k h).length=h.length:=by simp[bump]
def Uc{k:Nat}{h:aa Int}(hb:∀ x∈h,0<=x/\x<=100000):∀ x∈bump k h,0<=x/\x<=100000:=
 NB hb (ad2 (arJ hb k ⟨by omega,by omega⟩) (by omega))
def ad3{k:Nat}{h:aa Int}(C:k<h.length):bump k h=h.set k (qX 1 h[k]):=by
 unfold bump;rw[fQ,bQ C];rfl
def Bd(row:Int)(i:Nat)(h:aa Int):aa Int:=bif decide (0<row)then bump (i-1) (h.set i 0)else h.set i 0
def Be(R row:Int)(i:Nat)(h:aa Int):aa Int:=bif decide (row<R-1)then bump (i+1) (Bd row i h)else Bd row i h
def arK(row:Int)(i:Nat)(h:aa Int):(Bd row i h).length=h.length:=by
 unfold Bd;cases decide (0<row)<;>simp[NC]
def arL(R row:Int)(i:Nat)(h:aa Int):(Be R row i h).length=h.length:=by
 unfold Be;cases decide (row<R-1)<;>simp[NC,arK]
def arM{row:Int}{i:Nat}{h:aa Int}(hb:∀ x∈h,0<=x/\x<=100000):∀ x∈Bd row i h,0<=x/\x<=100000:=by
 have C:=NB hb (k:=i) (v:=0) ⟨by omega,by omega⟩;unfold Bd;cases decide (0<row)
 ·exact C
 ·exact Uc C
def arN{R row:Int}{i:Nat}{h:aa Int}(hb:∀ x∈h,0<=x/\x<=100000):∀ x∈Be R row i h,0<=x/\x<=100000:=by
 have C:=arM (row:=row) (i:=i) hb;unfold Be;cases decide (row<R-1)
 ·exact C
 ·exact Uc C
def Gv{C:Type}(P:C->Prop)(o:ah C):Prop:=∃y,o=some y/\P y
def Gv.pure{C:Type}{P:C->Prop}{y:C}(h:P y):Gv P (some y):=⟨y,rfl,h⟩
def Gv.cond{C:Type}{P:C->Prop}{b:Bool}{x y:ah C}(D:b=true->Gv P x)(E:b=false->Gv P y):Gv P (bif b then x else y):=by
 cases b
 ·exact E rfl
 ·exact D rfl
def Gv.bind{α C:Type}{Q:α->Prop}{P:C->Prop}{f:ah α}{g:α->ah C}(h:Gv Q f)(D:∀ y,Q y->Gv P (g y)):Gv P (f.bind g):=by
 obtain⟨y,rfl,E⟩:=h;exact D y E
theorem Gv.ite{C:Type}{P:C->Prop}{c:Prop}[Decidable c]{x y:ah C}(D:c)(h:Gv P x):Gv P (if c then x else y):=by
 rw[bJ D];exact h
theorem Gv.ift{C:Type}{P:C->Prop}{c:Prop}[Decidable c]{x y:ah C}(D:¬ c)(h:Gv P y):Gv P (if c then x else y):=by
 rw[bx D];exact h
theorem Gv.IN{C:Type}{P:C->Prop}{c:Prop}[Decidable c]{x:c->ah C}{y:¬ c->ah C}(D:c)(h:Gv P (x D)):Gv P (if h:c then x h else y h):=by
 rw[aD D];exact h
def Gv.loop{α β L:Type}{step:α -> ah (α⊕β)}(n:Nat)(I:Nat -> α -> Prop){P:L -> Prop}{K:β -> ah L}{x:α}{fuel:Nat}(T:I 0 x)(C:n<fuel)(O:∀ k,k <= n -> ∀ x,I k x -> Gv (Sum.elim (λy=>k<n/\I (k+1) y) (λz=>Gv P (K z))) (step x)):Gv P ((iter step fuel x).bind K):=by
 have key:∀ (m i fuel:Nat) (x:α),i+m=n -> m<fuel -> I i x -> Gv P ((iter step fuel x).bind K):=by
  intro m
  induction m with
  | zero=>
   intro i fuel x hi C D
   match fuel,C with
   | f+1,_=>
    have⟨y,E,F⟩:=O i (by omega) x D;unfold iter;rw[E];cases y with
    |inl y=>simp_all
    |inr z=>exact F
  | succ m U=>
   intro i fuel x hi C D
   match fuel,C with
   | f+1,C=>
    have⟨y,E,F⟩:=O i (by omega) x D;unfold iter;rw[E];cases y with
    |inl y=>grind
    |inr z=>exact F
 exact key n 0 fuel x (by omega) C T
def arO(x a b:Int):Gv (λy=>y=aJ x a b) (cx x a b):=⟨_,dK x a b,rfl⟩
def arP(k:Int):Gv (λy=>y=(aJ k 1 5,k==1,(k==2 || k==3))) (Mn k):=by
 refine Gv.bind (arO _ _ _) (λ_ h=>?_)
 subst h;cases h:k==2<;>exact Gv.pure (by simp)
def gY(n:Int):ByteArray:=⟨(Lib.itoa n).toArray⟩
def DI{a b:ByteArray}(h:a.data.toList=b.data.toList):a=b:=by
 obtain⟨⟨a⟩⟩:=a;obtain⟨⟨b⟩⟩:=b;have h:a=b:=h;rw[h]
def ND(a b:ByteArray):(a++b).data.toList=a.data.toList++b.data.toList:=by
 rw[ByteArray.data_append,Array.toList_append]
def qY(a b:ByteArray):(a++b).size=a.size+b.size:=by
 show (a++b).data.size=a.data.size+b.data.size;rw[ByteArray.data_append,Array.size_append]
def dd(v:Nat):aa UInt8:=if v=0 then []else Lib.decDigits v
def arQ{v:Nat}(h:v≠0):dd v=dd (v / 10)++[UInt8.ofNat (48+v % 10)]:=by
 unfold dd;rw[bx h,Lib.decDigits];by_cases C:v<10
 ·rw[aD C,bJ,Nat.mod_eq_of_lt C];rfl
 ·rw[dif_neg C,bx]
def Ud{d:Nat}(h:d<10):Iq (d:Int)=some (48+(d:Int)):=by
 unfold Iq;rw[aV,aj,aR,IntKind.wrap_u8];congr 1;omega
def Ue(d:Nat):(strOfNums [48+(d:Int)]).data.toList=[UInt8.ofNat (48+d)]:=by
 have:(48+(d:Int)).toNat=48+d:=by omega
 show [UInt8.ofNat (48+(d:Int)).toNat]=_;rw[this]
def DJ(x:Int):(strOfNums [x]).size=1:=rfl
def arR(v:Nat):(v:Int).tmod 10=((v % 10:Nat):Int)/\(v:Int).tdiv 10=((v / 10:Nat):Int):=by
 constructor
 ·rw[oS (by omega)];omega
 ·rw[oT (by omega)];omega
def arS{n:Int}(h1:-9223372036854775808<=n)(h2:n<=9223372036854775807):Ir n=some (gY n):=by
 suffices g:Gv (λy=>y=gY n) (Ir n) by
  obtain⟨y,e,rfl⟩:=g;exact e
 unfold Ir aZ
 refine Gv.cond (λh=>Gv.pure ?_) λT=>?_
 ·have h:n=0:=by simpa using h
  subst h;refine DI ?_;show [48]=Lib.itoa 0;unfold Lib.itoa;rw[bx,Lib.decDigits];rfl
 have T:n≠0:=by simpa using T
 have p20:(10:Nat) ^ 20=100000000000000000000:=by rfl
 have kX:(Lib.itoa n)=if n<0 then 45 :: dd n.natAbs else dd n.natAbs:=by
  have e:dd n.natAbs=Lib.decDigits n.natAbs:=by unfold dd;rw[bx]
  rw[e];unfold Lib.itoa;by_cases C:n<0
  ·rw[bJ C,bJ C]
  ·rw[bx C,bx C,show n.toNat=n.natAbs by omega]
 refine Gv.loop 20 (λk x=>∃(v:Nat) (s:ByteArray),x=(((if n<0 then -(v:Int)else (v:Int)),decide (n<0),s,()),())/\dd v++s.data.toList=dd n.natAbs/\v<10 ^ (20-k)/\s.size<=k/\v<=9223372036854775808) ⟨n.natAbs,ByteArray.mk #[],?_,by simp,by rw[p20];omega,c9 _,by omega⟩ (bM) ?_
 ·by_cases C:n<0
  ·rw[bJ C,show -(n.natAbs:Int)=n by omega]
  ·rw[bx C,show (n.natAbs:Int)=n by omega]
 rintro k hk x ⟨v,s,rfl,D,U,hs,hu⟩;obtain⟨Y,Z⟩:=arR v;unfold TA ay xG;dsimp only
 refine Gv.cond (λh=>?_) (λh=>?_)
 ·have E:v≠0:=by
   rintro rfl;by_cases C:n<0<;>simp[C]at h
  have F:k<20:=by
   rcases Nat.lt_or_ge k 20 with h' |h'
   ·exact h'
   ·have:20-k=0:=by omega
    rw[this]at U;omega
  have I:v / 10<10 ^ (20-(k+1)):=by
   have:20-k=(20-(k+1))+1:=by omega
   rw[this,Nat.pow_succ]at U;omega
  have pR:=arQ E;have fin:∀ w:ByteArray,w.data.toList=[UInt8.ofNat (48+v % 10)]->w.size=1->dd (v / 10)++(w++s).data.toList=dd n.natAbs/\(w++s).size<=k+1:=by
   intro w hw NF;rw[ND,hw,<-List.append_assoc,<-pR,qY,NF];exact⟨D,by omega⟩
  have L:v % 10<10:=Nat.mod_lt _ (by omega);have O:∀w:ByteArray,w.size=1->aT (w.size+s.size)=true:=λw hw=>cq
  by_cases C:n<0
  ·simp only[C,if_true];rw[Int.neg_tmod,Int.neg_tdiv,Y,Z];rw[aR (n:=0 - -((v % 10:Nat):Int)),aR (n:=-((v / 10:Nat):Int)),show (0:Int) - -((v % 10:Nat):Int)=((v % 10:Nat):Int) by omega,Ud L,aq]
   refine Gv.cond (λhb=>?_) λhb=>?_
   ·obtain⟨f1,f2⟩:=fin _ (Ue (v % 10)) (DJ _);rw[O _ (DJ _),aj];exact Gv.pure ⟨F,v / 10,_,by simp only[C,if_true],f1,I,f2,by omega⟩
   ·have hz:v % 10=0:=by simp at hb;omega
    have e0:-((v % 10:Nat):Int)=((v % 10:Nat):Int):=by omega
    rw[e0,Ud L,aq];obtain⟨f1,f2⟩:=fin _ (Ue (v % 10)) (DJ _);rw[O _ (DJ _),aj];exact Gv.pure ⟨F,v / 10,_,by simp only[C,if_true],f1,I,f2,by omega⟩
  ·simp only[C,if_false];rw[Y,Z,bh (show ¬ (((v % 10:Nat):Int)<0) by omega),au,aR (n:=((v / 10:Nat):Int)),Ud L,aq];obtain⟨f1,f2⟩:=fin _ (Ue (v % 10)) (DJ _);rw[O _ (DJ _),aj];exact Gv.pure ⟨F,v / 10,_,by simp only[C,if_false],f1,I,f2,by omega⟩
 ·have E:v=0:=by
   by_cases C:n<0<;>simp[C]at h<;>omega
  subst E;have D:s.data.toList=dd n.natAbs:=by rw[<-D];rfl
  refine Gv.pure ?_;simp only[eR,Sum.elim_inr];by_cases C:n<0
  ·rw[aV C,aj,cq (by show 1+s.size<_;omega),aj];refine Gv.pure (DI ?_);rw[ND,D];show 45::dd n.natAbs=Lib.itoa n;rw[kX,bJ C]
  ·rw[bh C,au];refine Gv.pure (DI ?_);rw[D];show dd n.natAbs=Lib.itoa n;rw[kX,bx C]
def qZ{n:Int}(C:-9223372036854775808<=n)(D:n<=9223372036854775807):(gY n).size<=21:=Lib.itoa_length_le n C D
def arT{C:aa UInt8}{r:aa (aa UInt8)}(h:r≠[]):Lib.joinTail C r=C++Lib.join r C:=by
 cases r with
 |nil=>exact absurd rfl h
 |cons y r=>rw[Lib.join_cons];simp[Lib.joinTail]
def Uf(xs:aa (aa UInt8))(e C:aa UInt8):Lib.join (xs++[e]) C=(xs.map (· ++ C)).flatten++e:=by
 induction xs with
 |nil=>simp[Lib.join_one]
 | cons x xs D=>
  rw[List.cons_append,Lib.join_cons,arT (by simp),D];simp
def wd(b:ep):ByteArray:=bif b.open_ then gY b.row else ByteArray.mk #[45]
def DK(b:ep):Prop:=-9223372036854775808<=b.row/\b.row<=9223372036854775807
def arU{b:ep}(h:DK b):(wd b).data.toList.length<=21:=by
 unfold wd;cases b.open_ with
 |false=>simp
 |true=>exact qZ h.1 h.2
def cat(l:aa ep):aa UInt8:=(l.map λb=>(wd b).data.toList++[32]).flatten
def ad4{l:aa ep}(h:∀ b∈l,DK b):(cat l).length<=22*l.length:=by
 induction l with
 |nil=>simp[cat]
 | cons b l C=>
  have E:=arU (h b (.head _));have F:=C λx D=>h x (.tail _ D)
  have e:cat (b::l)=(wd b).data.toList++[32]++cat l:=by simp[cat]
  rw[e];simp only[iH,kB,List.length_nil];omega
def W3:aa ByteArray:=[(ByteArray.mk #[97,99,116,105,118,101]),(ByteArray.mk #[100,111,119,110]),(ByteArray.mk #[115,108,101,101,112])]
def sC(r:cB):ByteArray:=if h:(0<=r.aS/\r.aS<=2)/\r.aS.toNat<W3.length then ⟨(cat r.aB++(W3[r.aS.toNat]'h.2).data.toList).toArray⟩else ByteArray.mk #[]
def ad5{k:Nat}(h:k<W3.length):(W3[k]'h).data.toList.length<=6:=by
 have C:k<3:=h;rcases(by omega:k=0\/k=1\/k=2)with rfl|rfl|rfl<;>simp[W3]
def ad6{r:cB}(h:aJ r.aS 0 2=true):∃ C:r.aS.toNat<W3.length,0<=r.aS/\sC r=⟨(cat r.aB++(W3[r.aS.toNat]'C).data.toList).toArray⟩:=by
 have h:=bq.1 h;have C:r.aS.toNat<W3.length:=by show r.aS.toNat<3;omega
 refine⟨C,h.1,?_⟩;unfold sC;rw[aD ⟨h,C⟩]
def ad7{r:cB}(h:aJ r.aS 0 2=false):sC r=ByteArray.mk #[]:=by
 unfold sC;rw[dif_neg];rintro⟨C,_⟩;rw[bq.2 C]at h;cases h
def ad8(r:cB)(hl:r.aB.length<=1048576)(hb:∀ b∈r.aB,DK b):Dn r=some (sC r):=by
 suffices g:Gv (λy=>y=sC r) (Dn r) by
  obtain⟨y,e,rfl⟩:=g;exact e
 unfold Dn xC aZ;rw[eN,aq];cases F:aJ r.aS 0 2 with
 |false=>exact Gv.pure (ad7 F).symm
 | true=>
  obtain⟨C,O,T⟩:=ad6 F;rw[bR,au]
  refine Gv.loop r.aB.length (λi x=>x=(((),(),r.aB,(r.aB.length:Int),(i:Int),()),((r.aB,r.aS,()),(r.aB.take i).map wd,()))) rfl (bM) ?_
  rintro i hi x rfl;unfold Tx ay xG xI;dsimp only
  refine Gv.cond (λh=>?_) (λh=>?_)
  ·have h:i<r.aB.length:=by simp at h;omega
   have I:=hb _ (cR h);have e:(r.aB.take (i+1)).map wd=(r.aB.take i).map wd++[wd r.aB[i]]:=by
    rw[List.take_succ_eq_append_getElem h,jP];rfl
   refine Gv.IN ⟨by omega,by omega⟩ ?_;simp only[bH];have L:aT (((r.aB.take i).map wd).length+1)=true:=cq (by simp;omega)
   refine Gv.cond (λD=>?_) (λD=>?_)
   ·have E:mM r.aB[i].row=some (gY r.aB[i].row):=by
     unfold mM Ap;rw[aV I.1,aV I.2];rfl
    rw[E,aq,hU,L,aj];refine Gv.pure ⟨h,?_⟩;rw[bG,e];unfold wd;rw[D];rfl
   ·rw[hU,L,aj];refine Gv.pure ⟨h,?_⟩;rw[bG,e];unfold wd;rw[D];rfl
  ·refine Gv.pure ?_;have hi:i=r.aB.length:=by simp at h;omega
   subst hi;simp only[eR,Sum.elim_inr,kC];have Z:=ad5 C;refine Gv.IN ⟨O,C⟩ (Gv.IN C ?_);rw[hU,cq (by simp;omega),aj];have U:Lib.join ((r.aB.map wd++[W3[r.aS.toNat]'C]).map (·.data.toList)) [32]=cat r.aB++(W3[r.aS.toNat]'C).data.toList:=by
    rw[jP,List.map_singleton,Uf];unfold cat;simp only[List.map_map];rfl
   have E:pW (r.aB.map wd++[W3[r.aS.toNat]'C]) (ByteArray.mk #[32])=some (sC r):=by
    have hc:=ad4 hb;unfold pW;rw[show (ByteArray.mk #[32]).data.toList=[32]from rfl,U,T,aV (by simp;omega),aV (by rw[iH];omega)];rfl
   exact Gv.bind (Q:=λy=>y=sC r) ⟨_,E,rfl⟩ λy Y=>Gv.pure Y
def a15(y:Int):0<=bits .and .i64 y 15/\bits .and .i64 y 15<=15:=by
 have e:bits .and .i64 y 15=IntKind.wrap .i64 ((BitVec.ofInt 64 y &&& BitVec.ofInt 64 15).toNat:Int):=rfl;have h:(BitVec.ofInt 64 y &&& BitVec.ofInt 64 15).toNat<=15:=by
  rw[BitVec.toNat_and];exact Nat.le_trans Nat.and_le_right (by decide)
 rw[e,IntKind.wrap_i64];omega
def dg(x:Int)(j:Nat):Int:=bits .and .i64 (x.fdiv (2 ^ (28-4*j))) 15
def DL(d:Int):Int:=if d<10 then 48+d else 87+d
def vV(x:Int)(n:Nat):aa Int:=(List.range n).map λj=>DL (dg x j)
def oH(x:Int):ByteArray:=strOfNums (vV x 8)
def arV(x:Int)(n:Nat):vV x (n+1)=vV x n++[DL (dg x n)]:=by
 unfold vV;rw[List.range_succ,jP];rfl
def arW(a b:aa Int):strOfNums (a++b)=strOfNums a++strOfNums b:=by
 refine DI ?_;rw[ND];show (List.map _ _).toArray.toList=(List.map _ _).toArray.toList++(List.map _ _).toArray.toList;simp
def NG(a:aa Int):(strOfNums a).size=a.length:=by
 show (List.map _ _).toArray.size=_;simp
def Ug(x:Int)(n:Nat):(vV x n).length=n:=by simp[vV]
def arX:∀ d:Nat,d<16->((ByteArray.mk #[48,49,50,51,52,53,54,55,56,57,97,98,99,100,101,102]).extract d (d+1)).data.toList=(strOfNums [DL (d:Int)]).data.toList:=by
 intro d C;have:d=0\/d=1\/d=2\/d=3\/d=4\/d=5\/d=6\/d=7\/d=8\/d=9\/d=10\/d=11\/d=12\/d=13\/d=14\/d=15:=by omega
 rcases this with rfl|rfl|rfl|rfl|rfl|rfl|rfl|rfl|rfl|rfl|rfl|rfl|rfl|rfl|rfl|rfl<;>rfl
def arY(x:Int):tO x=some (aJ x 0 4294967295):=by
 unfold tO;rw[eN,aq]
def sD(x:Int):ByteArray:=bif aJ x 0 4294967295 then oH x else ByteArray.mk #[]
def arZ(x:Int):F9 x=some (sD x):=by
 suffices g:Gv (λy=>y=sD x) (F9 x) by
  obtain⟨y,e,rfl⟩:=g;exact e
 unfold F9 sD aZ;rw[arY,aq];cases U:aJ x 0 4294967295 with
 |false=>exact Gv.pure rfl
 | true=>
  rw[bR,au,aj]
  refine Gv.loop 8 (λj z=>z=((x,strOfNums (vV x j),28-4*(j:Int),()),())) rfl (bM) ?_
  rintro j E z rfl;unfold SV ay xG;dsimp only
  refine Gv.cond (λh=>?_) (λh=>?_)
  ·have E:j<=7:=by simp at h;omega
   have F:(28-4*(j:Int)).toNat=28-4*j:=by omega
   rw[F,show min (28-4*j) IntKind.i64.bits=28-4*j from Nat.min_eq_left (by show _<=64;omega)];refine Gv.ift (by omega) ?_;have C:=a15 (x.fdiv (2 ^ (28-4*j)));have I:bits .and .i64 (x.fdiv (2 ^ (28-4*j))) 15=dg x j:=rfl;rw[I]at C ⊢;have L:W6 (dg x j+1)=dg x j+1:=aR;rw[L];refine Gv.ite ⟨C.1,by omega,by show dg x j+1<=16;omega⟩ ?_;have O:((ByteArray.mk #[48,49,50,51,52,53,54,55,56,57,97,98,99,100,101,102]).extract (dg x j).toNat (dg x j+1).toNat)=strOfNums [DL (dg x j)]:=by
    have T:(dg x j+1).toNat=(dg x j).toNat+1:=by omega
    have D:=arX (dg x j).toNat (by omega);rw[Int.toNat_of_nonneg C.1]at D;rw[T];exact DI D
   rw[O,NG,NG,Ug,cq (by show j+1<_;omega),aj];refine Gv.pure ⟨by omega,?_⟩;rw[<-arW,<-arV,aR,show (28:Int)-4*(j:Int)-4=28-4*((j+1:Nat):Int) by omega]
  ·have:j=8:=by simp at h;omega
   subst this;exact Gv.pure (Gv.pure rfl)
def uc{n:Int}(C:-9223372036854775808<=n)(D:n<=9223372036854775807):mM n=some (gY n):=by
 unfold mM Ap;rw[aV C,aV D];rfl
def oI(t:cV):aa Int:=[t.jv,t.rp,t.fZ,t.ni,t.jw,t.mb,t.nj,t.nq,t.iJ,t.wr,t.nt,t.nu,t.qc,t.ny,t.og,t.xp,t.xs]
def yH(x:Int):Bool:=aJ x 1 64
def iz(t:cV):Bool:=(oI t).all yH&&(decide (t.jv<=t.fZ)&&(decide (t.ni<=t.jw)&&(decide (t.nj<=t.nq)&&decide (t.nt<=t.nu))))
def Uh(t:cV):Dt t=some (iz t):=by
 unfold Dt iz bO;change (iter Ds big (((),(),((oI t).length:Int),(0:Int),()),(t,oI t,()))).bind _=_;have C:(oI t).length=17:=rfl;generalize oI t=l at *
 have e:=fU (step:=Ds) l yH (λi=>(((),(),(l.length:Int),(i:Int),()),(t,l,()))) _ (.inr (.inl (((),()),(t,())))) big (λk h=>by
  unfold Ds ay aY xG xL;simp (disch:=omega) [h,bG,eN,yH];cases aJ l[k] 1 64<;>rfl) (by unfold Ds ay aY xG xL;simp) (bM)
 rw[cH]at e;rw[e];cases l.all yH<;>simp
 grind
def NH(t:cV):Av t=some (iz t):=by
 unfold Av iz SX bO;rw[aq];change (iter CQ big (((),(),(0:Int),()),(t,oI t,()))).bind _=_;have C:(oI t).length=17:=rfl;generalize oI t=l at *
 have e:=fU (step:=CQ) l yH (λi=>(((),(),(i:Int),()),(t,l,()))) (.inl ((false,()),())) (.inr (.inl (((),()),(t,())))) big (λk h=>by
  unfold CQ ay aY xG xL;simp (disch:=omega) [h,bG,dK,yH];cases aJ l[k] 1 64<;>rfl) (by unfold CQ ay aY xG xL;simp) (bM)
 rw[cH]at e;rw[e];cases l.all yH<;>simp
 grind
def ar0(t:cV):Gc t=yw t:=by
 unfold Gc yw;rw[Uh,NH]
def ar1(t:cV):∃ y,yw t=some y:=by
 unfold yw;rw[Uh];cases iz t<;>exact⟨_,rfl⟩
def IP(R i:Nat):Int:=((i % R:Nat):Int)
def kr(n R:Nat):aa Int:=(List.range n).map (IP R)
def Ui(n R:Nat):(kr n R).length=n:=by simp[kr]
def ar2(n R:Nat):kr (n+1) R=kr n R++[IP R n]:=by simp[kr,List.range_succ]
def iG(g:aL)(n:Int):Bool:=cy g&&(aJ n 0 2&&decide (2<=g.rows-n))
def q5(g:aL)(n:Int):dc×Bool:=bif iG g n then (⟨n,kr ((aQ g).toNat*(g.rows-n).toNat) (g.rows-n).toNat⟩,true)else (⟨0,[]⟩,false)
def NI{g:aL}{n:Int}(h:iG g n=true):cy g=true/\0 <= n/\n <= 2/\2 <= g.rows-n/\g.rows <= 16:=by
 simp[iG,aH,bq,fY]at h;have⟨C,⟨D,E⟩,F⟩:=h;have:=fE C;simp_all
def Uj(g:aL)(n:Int):CP g n=some (q5 g n):=by
 unfold CP q5 aZ;rw[DG,aq];cases D:cy g with
 |false=>simp[iG,D]
 | true=>
  simp only[bR,au,dK,aq];cases E:aJ n 0 2 with
  |false=>simp[iG,E]
  | true=>
   have Y:=bq.1 E;have Z:=fE D;simp only[bR,au];rw[aR];by_cases F:g.rows-n<2
   ·have:decide (2<=g.rows-n)=false:=bh;rw[aV F,aj];simp[iG,this]
   ·have L:iG g n=true:=by simp[iG,D,E];omega
    rw[bh F,au,L,aj];have O:=fy g;obtain⟨C,hb⟩:=ff O.1;obtain⟨R,hR⟩:=ff (show 0<=g.rows-n by omega);have hm:C*R<=8*16:=Nat.mul_le_mul (by omega) (by omega);have hmul:W6 ((C:Int)*(R:Int))=((C*R:Nat):Int):=by
     rw[<-Int.natCast_mul];exact aR
    have I:W6 (g.rows-n)=(R:Int):=by rw[hR];exact aR
    have e:=dn (step:=Gb) (C*R) (λi=>((n,(),(),(),(i:Int),()),((g.bX,g.aB,g.rows,g.aK,()),((0:Int),(),()),(n,(),()),([]:aa Int),kr i R,())))
     (.inl (((),(),()),(((0:Int),(),()),(n,(),()),([]:aa Int),kr (C*R) R,()))) big (λk h=>by
     unfold Gb ay xG;have T:aT ((kr k R).length+1)=true:=cq (by rw[Ui];omega);have U:(k:Int).tmod (R:Int)=IP R k:=by unfold IP;exact(Int.ofNat_tmod k R).symm
     dsimp only;rw[mQ,mO,aq,I,hb,hmul,aV,aj,bx,U];simp only[kB,List.length_nil,eS];rw[T,aj,bG,ar2]) (by
     unfold Gb ay xG;dsimp only;rw[mQ,mO,aq,I,hb,hmul,bh,au]) (bM)
    rw[cH]at e
    refine(bu (λo=>Option.bind o _) e).trans ?_
    rw[hb,hR];rfl
def ar3(b R:Nat)(hR:0<R)(j:Nat)(C:j <= R):kr (b*R+j) R=kr (b*R) R++(List.range j).map (λi:Nat=>(i:Int)):=by
 unfold kr;rw[List.range_add,jP,List.map_map];congr 1
 refine nc λi hi=>?_
 have hi:=eJ.1 hi;simp only[Function.comp,IP];rw[Nat.mul_comm,Nat.mul_add_mod,Nat.mod_eq_of_lt (by omega)]
def ad9(g:aL)(n:Int):HT g n=some (q5 g n):=by
 unfold HT q5 aZ;rw[yF,aq];cases C:cy g with
 |false=>simp[iG,C]
 | true=>
  simp only[bR,au,eN,aq];cases D:aJ n 0 2 with
  |false=>simp[iG,D]
  | true=>
   have U:=bq.1 D;have Y:=fE C;simp only[bR,au];rw[aR];by_cases F:g.rows-n<2
   ·have:decide (2<=g.rows-n)=false:=bh;rw[aV F,aj];simp[iG,this]
   ·have L:iG g n=true:=by simp[iG,C,D];omega
    rw[bh F,au,L,aj];have O:=fy g;obtain⟨E,hb⟩:=ff O.1;obtain⟨R,hR⟩:=ff (show 0<=g.rows-n by omega);have I:W6 (g.rows-n)=(R:Int):=by rw[hR];exact aR
    have inner:∀ b:Nat,b<E->iter Dq big ((n,(),(),(),(b:Int),(0:Int),()),((g.bX,g.aB,g.rows,g.aK,()),((0:Int),(),()),(n,(),()),([]:aa Int),kr (b*R) R,()))=some (.inl ((n,(),(),(),(b:Int),()),((g.bX,g.aB,g.rows,g.aK,()),((0:Int),(),()),(n,(),()),([]:aa Int),kr ((b+1)*R) R,()))):=by
     intro b Z;have hm:b*R<=8*16:=Nat.mul_le_mul (by omega) (by omega);have e:=dn (step:=Dq) R (λj=>((n,(),(),(),(b:Int),(j:Int),()),((g.bX,g.aB,g.rows,g.aK,()),((0:Int),(),()),(n,(),()),([]:aa Int),kr (b*R) R++(List.range j).map (λi:Nat=>(i:Int)),())))
      (.inl ((n,(),(),(),(b:Int),()),((g.bX,g.aB,g.rows,g.aK,()),((0:Int),(),()),(n,(),()),([]:aa Int),kr (b*R) R++(List.range R).map (λi:Nat=>(i:Int)),()))) big (λk h=>by
      unfold Dq ay xG;have T:aT ((kr (b*R) R++(List.range k).map (λi:Nat=>(i:Int))).length+1)=true:=cq (by simp[Ui];omega);dsimp only;rw[I,aV,aj];simp only[kB,List.length_nil,eS];rw[T,aj,bG,List.range_succ,jP,List.append_assoc];rfl) (by
      unfold Dq ay xG;dsimp only;rw[I,bh,au]) (bM)
     rw[cH,List.range_zero,List.map_nil,List.append_nil]at e;rw[e,<-ar3 b R (by omega) R (c9 _),gE]
    have e:=dn (step:=HS) E (λi=>((n,(),(),(),(i:Int),()),((g.bX,g.aB,g.rows,g.aK,()),((0:Int),(),()),(n,(),()),([]:aa Int),kr (i*R) R,())))
     (.inl (((),(),()),(((0:Int),(),()),(n,(),()),([]:aa Int),kr (E*R) R,()))) big (λk h=>by
     unfold HS ay xG aZ;dsimp only;rw[mQ,qS,aq,hb,aV,aj]
     refine(bu (λo=>Option.bind o _) (inner k h)).trans ?_
     rw[aq];simp only[eR];rw[bG]) (by
     unfold HS ay xG aZ;dsimp only;rw[mQ,qS,aq,hb,bh,au]) (bM)
    rw[cH,Nat.zero_mul]at e
    refine(bu (λo=>Option.bind o _) e).trans ?_
    rw[hb,hR];rfl
def Bf(t:cV):Int:=(yw t).getD 0
def aea(t:cV):yw t=some (Bf t):=by
 obtain⟨y,e⟩:=ar1 t;unfold Bf;rw[e];rfl
def ar4(t:cV):Gc t=some (Bf t):=by rw[ar0,aea]
def Uk(m:lK):HU m=some (aJ m.order 0 2):=by
 unfold HU;rw[eN];rfl
def ar5(m:lK):CR m=some (aJ m.order 0 2):=by
 unfold CR;rw[dK];rfl
def l5(c:eH):Bool:=cy c.av&&(iz c.bN&&(aJ c.mapping.order 0 2&&(iG c.av c.bC&&(aJ c.interval (Bf c.bN) 10000&&(aJ c.ic 1 16&&(aJ c.ew.bD (W6 ((6:Int)*c.interval)) 100000&&aJ c.ew.bz 0 100000))))))
def NJ(g:aL)(n:Int):(q5 g n).2=iG g n:=by
 unfold q5;cases iG g n<;>rfl
def NK(c:eH):M0 c=some (l5 c):=by
 unfold M0 l5;simp only[ad9,yF,Uh,Uk,aea,eN,aq,NJ];cases cy c.av<;>cases iz c.bN<;>cases aJ c.mapping.order 0 2<;>cases iG c.av c.bC<;>cases aJ c.interval (Bf c.bN) 10000<;>cases aJ c.ic 1 16<;>cases aJ c.ew.bD (W6 ((6:Int)*c.interval)) 100000<;>rfl
def ar6(c:eH):LG c=some (l5 c):=by
 unfold LG l5;simp only[Uj,NH,ar5,ar4,dK,aq,NJ];cases h:iG c.av c.bC with
 |false=>cases cy c.av<;>cases iz c.bN<;>cases aJ c.mapping.order 0 2<;>rfl
 | true=>
  rw[(NI h).1];cases iz c.bN<;>cases aJ c.mapping.order 0 2<;>cases aJ c.interval (Bf c.bN) 10000<;>cases aJ c.ic 1 16<;>cases aJ c.ew.bD (W6 ((6:Int)*c.interval)) 100000<;>rfl
def aeb{c:eH}(h:l5 c=true):cy c.av=true/\iz c.bN=true/\iG c.av c.bC=true/\aJ c.ic 1 16=true:=by
 simp[l5,aH]at h;simp_all
def aec{t:cV}(h:iz t=true):(1 <= t.fZ/\t.fZ <= 64)/\1 <= t.rp/\t.rp <= 64:=by
 simp[iz,aH,bW]at h;have C:=h.1 t.fZ (by simp[oI]);have D:=h.1 t.rp (by simp[oI]);simp[yH,bq]at C D;simp_all
def l6(s:ct):Bool:=aJ s.weight 1 9&&aJ s.eT 0 s.weight
def gu(l:aa ct):Bool:=l.all l6&&aJ (l.length:Int) 1 4
def IQ(l:aa ct)(hl:l.length<1073741824):Du l=some (gu l):=by
 unfold Du gu bO;have e:=fU (step:=HV) l l6 (λi=>((l,l,l.length,i,()),())) _ (.inr (.inl ((l,()),()))) big (λk h=>by
  unfold HV ay aY xG xI;simp (disch:=omega) [h,bG,eN,l6];cases aJ l[k].weight 1 9<;>cases aJ l[k].eT 0 l[k].weight<;>rfl) (by unfold HV ay aY xG xI;simp) (bM hl)
 rw[cH]at e;rw[e];cases l.all l6<;>simp[eN]
def aed(l:aa ct)(hl:l.length<1073741824):Ge l=some (gu l):=by
 unfold Ge gu bO;have e:=fU (step:=Gd) l l6 (λi=>((l,i,()),())) _ (.inr (.inl ((l,()),()))) big (λk h=>by
  unfold Gd ay aY xG xI;simp (disch:=omega) [h,bG,dK,l6];cases aJ l[k].weight 1 9<;>cases aJ l[k].eT 0 l[k].weight<;>rfl) (by unfold Gd ay aY xG xI;simp) (bM hl)
 rw[cH]at e;rw[e];cases l.all l6<;>simp[dK]
def iT(w:Int):ct:=⟨w,w⟩
def vW(l:aa Int):aa ct×Bool:=bif gu (l.map iT)then (l.map iT,true)else ([],false)
def aee{l:aa Int}{k:Nat}(h:k<l.length):(l.take (k+1)).map iT=(l.take k).map iT++[⟨l[k],l[k]⟩]:=by
 rw[List.take_succ_eq_append_getElem h,jP];rfl
def Ul(l:aa Int)(hl:l.length<1073741823):AU l=some (vW l):=by
 unfold AU vW aZ;have e:=dn (step:=HW) l.length (λi=>(((),l,(l.length:Int),(i:Int),()),((l.take i).map iT,()))) _ big (λk h=>by
  unfold HW ay xG xI;have C:aT (((l.take k).map iT).length+1)=true:=cq (by simp;omega);dsimp only;rw[aV,aj,aD ⟨by omega,by omega⟩];simp only[kB,List.length_nil,eS,bH];rw[C,aj,bG,aee h]) (by
  unfold HW ay xG xI;dsimp only;rw[bh,au,kC]) (bM)
 refine(bu (λo=>Option.bind o _) e).trans ?_
 rw[aq];simp only[eR];rw[IQ _ (by simp;omega),aq]
 grind
def Um(l:aa Int)(hl:l.length<1073741823):x9 l=some (vW l):=by
 unfold x9 vW aZ;have e:=dn (step:=Gf) (min l.length 5) (λi=>((l,(),(i:Int),()),((l.take i).map iT,()))) (.inl (((),()),((l.take 5).map iT,()))) big (λk h=>by
  have C:k<l.length:=by omega
  unfold Gf ay xG xI;have D:aT (((l.take k).map iT).length+1)=true:=cq (by simp;omega);dsimp only;rw[aV,aj,aV,aj,aD ⟨by omega,by omega⟩,aD ⟨by omega,by omega⟩];simp only[kB,List.length_nil,eS,bH];rw[D,aj,bG,aee C]) (by
  unfold Gf ay xG xI;dsimp only;by_cases c:l.length <= 5
  ·rw[Nat.min_eq_left c,kC,List.take_of_length_le c];by_cases I:l.length=5
   ·rw[bh,au]
   ·rw[bh,au]
  ·rw[Nat.min_eq_right (by omega),aV,aj,bh,au]) (bM)
 rw[cH,List.take_zero,List.map_nil]at e
 refine(bu (λo=>Option.bind o _) e).trans ?_
 rw[aq];simp only[eR];rw[aed _ (by simp;omega),aq];by_cases c:l.length <= 5
 ·rw[List.take_of_length_le c];cases gu _<;>rfl
 ·have E:gu (l.map iT)=false:=by
   unfold gu;have:aJ ((l.map iT).length:Int) 1 4=false:=by
    rw[Bool.eq_false_iff];intro h;have:=(bq.1 h).2
    grind
   rw[this,Bool.and_false]
  have F:gu ((l.take 5).map iT)=false:=by
   unfold gu;have:aJ (((l.take 5).map iT).length:Int) 1 4=false:=by
    rw[Bool.eq_false_iff];intro h;have:=(bq.1 h).2
    grind
   rw[this,Bool.and_false]
  rw[E,F];rfl
def aef(l:aa Int):(vW l).2=gu (l.map iT):=by
 unfold vW;cases gu (l.map iT)<;>rfl
def l7(d:iA):Bool:=decide (d.low >= 0)&&(decide (d.low<d.high)&&decide (d.high<=12))
def aeg(d:iA):AT d=some (l7 d):=by
 unfold AT l7
 grind
def Un(d:iA):CS d=some (l7 d):=by
 unfold CS l7
 grind
def yI(r:qd):Bool:=aJ r.down 1 10000&&(decide (r.sleep > r.down)&&decide (r.sleep<=20000))
def ar7(r:qd):HX r=some (yI r):=by
 unfold HX yI;rw[eN]
 grind
def aeh(r:qd):Gg r=some (yI r):=by
 unfold Gg yI;rw[dK]
 grind
def n7(p:dy):Bool:=aJ p.eV 0 1&&(aJ p.cap 0 100000&&(aJ p.eK 3 1000&&(l7 ⟨false,p.low,p.high⟩&&((p.weights.length:Int)==4&&(gu (p.weights.map iT)&&yI p.dQ)))))
def Uo(p:dy)(hl:p.weights.length<1073741823):CT p=some (n7 p):=by
 unfold CT n7;simp[Um _ hl,aq,dK,Un,aeh,aef]
 grind
def ar8(x:Int):aJ x 0 1=(x==0 || x==1):=by
 rw[Bool.eq_iff_iff];simp[aJ];omega
def NL(p:dy)(hl:p.weights.length<1073741823):M1 p=some (n7 p):=by
 unfold M1 n7;simp[Ul _ hl,aq,eN,aeg,ar7,aef,ar8]
 grind
def ar9(x:Int):LH x=yx x:=by
 unfold LH yx;rw[dK,eN]
def Up(x:Int):∃ y,yx x=some y:=by
 unfold yx;rw[eN];cases aJ x 3 1000<;>exact⟨_,rfl⟩
def Uq(c:eH)(p:dy)(hl:p.weights.length<1073741823):∃ b,qP c p=some b/\(b=true->l5 c=true):=by
 unfold qP;obtain⟨y,e⟩:=Up p.eK;simp only[NK,NL _ hl,e,aq];cases C:l5 c with
 |false=>exact⟨false,rfl,λh=>by cases h⟩
 | true=>
  have E:=aec (aeb C).2.1;have D:¬ W6 (c.bN.fZ+c.bN.rp)=0:=by
   rw[aR];omega
  cases n7 p with
  |false=>exact⟨false,rfl,λ_=>rfl⟩
  | true=>
   simp only[bx D,bR,au,aj];cases decide (W6 (y+2)<=c.ew.bz)<;>exact⟨_,rfl,λ_=>by first|rfl|trivial⟩
def asa(c:eH)(p:dy)(hl:p.weights.length<1073741823):∃ b,qP c p=some b/\Aw c p=some b/\(b=true->l5 c=true):=by
 unfold qP Aw;obtain⟨y,e⟩:=Up p.eK;simp only[NK,ar6,NL _ hl,Uo _ hl,ar9,e,aq];cases C:l5 c with
 |false=>exact⟨false,rfl,rfl,λh=>by cases h⟩
 | true=>
  have E:=aec (aeb C).2.1;have D:¬ W6 (c.bN.fZ+c.bN.rp)=0:=by
   rw[aR];omega
  cases n7 p with
  |false=>exact⟨false,rfl,rfl,λ_=>rfl⟩
  | true=>
   simp only[bx D,bR,au,aj];cases decide (W6 (y+2)<=c.ew.bz)<;>exact⟨_,rfl,rfl,λ_=>by first|rfl|trivial⟩
def aei(i:Nat)(l:aa ep):((opens i l).length==0)=l.all λb=>!b.open_:=by
 induction l generalizing i with
 |nil=>rfl
 | cons x a C=>
  simp[opens,List.all_cons]
  grind
def vX(g:aL)(b:ep):Bool:=aJ b.row 0 (g.rows-1)&&(b.open_ ||b.row==0)
def n8(g:aL)(r:cB):Bool:=cy g&&(((r.aB.length:Int)==aQ g)&&(aJ r.aS 0 2&&(r.aB.all (vX g)&&(r.aS != 2 ||r.aB.all λb=>!b.open_))))
def asb(g:aL)(r:cB):HZ g r=some (n8 g r):=by
 unfold HZ n8 bO;rw[yF,aq,qS];cases D:cy g with
 |false=>rfl
 | true=>
  simp only[bR,au,aq,cM];by_cases C:(r.aB.length:Int)=aQ g
  ·have F:=fy g;have I:=fE D;simp only[C,bne_self_eq_false,au,lJ,cM,eN,aq];cases L:aJ r.aS 0 2 with
   |false=>rfl
   | true=>
    have e:=fU (step:=HY) r.aB (vX g) (λi=>(((),(),r.aB,(r.aB.length:Int),(i:Int),()),((g.bX,g.aB,g.rows,g.aK,()),(r.aB,r.aS,()),()))) (.inl ((false,()),())) (.inr (.inl (((),()),((r.aB,r.aS,()),())))) big (λk h=>by
     unfold HY ay aY xG xI;dsimp only;rw[aV,aj,aD ⟨by omega,by omega⟩];simp only[bH,eN,aq];rw[aR (n:=g.rows-1),bG];unfold vX;cases aJ r.aB[k].row 0 (g.rows-1)with
     |false=>rfl
     | true=>
      cases r.aB[k].open_ with
      |true=>rfl
      | false=>
       simp[bne];cases r.aB[k].row==0<;>rfl) (by
     unfold HY ay aY xG xI;dsimp only;rw[bh,au]) (bM)
    rw[cH,C]at e;simp only[bR,au,cM]
    refine(bu (λo=>Option.bind o _) e).trans ?_
    rw[aq];cases r.aB.all (vX g)with
    |false=>rfl
    | true=>
     simp only[aj,Sum.elim_inr,eR,cM];cases O:r.aS != 2 with
     |true=>rfl
     | false=>
      simp;rw[arf ⟨r.aB,r.aS⟩ (by show r.aB.length<_;omega),aq,<- aei 0 r.aB];congr 1
      grind
  ·have E:((r.aB.length:Int)==aQ g)=false:=by simp[C]
   rw[je C,E];rfl
def yJ(d:Int):Bool:=aJ d (-2) 5
def eO(r:cW):Bool:=r.aO.all yJ&&(aJ (r.aO.length:Int) 1 8&&aJ r.wait 1 10000)
def asc(r:cW)(hl:r.aO.length<1073741824):yB r=some (eO r):=by
 unfold yB eO bO;have e:=fU (step:=Ih) _ yJ (λi=>(((),r.aO,r.aO.length,i,()),((r.aO,r.wait,r.ei,()),()))) _ (.inr (.inl (((),()),((r.aO,r.wait,r.ei,()),())))) big (λk h=>by
  unfold Ih ay aY xG xI;simp (disch:=omega) [h,bG,eN,yJ];cases aJ r.aO[k] _ 5<;>rfl) (by unfold Ih ay aY xG xI;simp) (bM hl)
 rw[cH]at e;rw[e];cases r.aO.all yJ<;>simp[eN]
 grind
def NM(r:cW)(hl:r.aO.length<1073741824):Ax r=some (eO r):=by
 unfold Ax eO bO;have e:=fU (step:=Gy) _ yJ (λi=>(((),i,()),((r.aO,r.wait,r.ei,()),()))) _ (.inr (.inl (((),()),((r.aO,r.wait,r.ei,()),())))) big (λk h=>by
  unfold Gy ay aY xG xI;simp (disch:=omega) [h,bG,dK,yJ];cases aJ r.aO[k] _ 5<;>rfl) (by unfold Gy ay aY xG xI;simp) (bM hl)
 rw[cH]at e;rw[e];cases r.aO.all yJ<;>simp[dK]
 grind
def kY{T:Type}(p:T->Bool)(l:aa T):Int:=match l.findIdx? p with
 |some i=>(i:Int)
 |none=>-1
def Bg{α β T:Type}{step:α -> ah (α⊕β)}(l:aa T)(p:T -> Bool)(S:Nat -> α)(D:Nat -> β)(z:β)(fuel:Nat)(E:∀ k (h:k<l.length),step (S k)=some (bif p l[k]then .inr (D k)else .inl (S (k+1))))(F:step (S l.length)=some (.inr z))(C:l.length<fuel):
  iter step fuel (S 0)=some (match l.findIdx? p with|some i=>D i|none=>z):=by
 have key:∀ (n i fuel:Nat),i+n=l.length -> n<fuel -> (∀ j (h:j<l.length),j<i -> p l[j]=false) -> iter step fuel (S i)=some (match l.findIdx? p with | some i=>D i | none=>z):=by
  intro n
  induction n with
  | zero=>
   intro i fuel hi C I
   match fuel,C with
   | f+1,_=>
    have:i=l.length:=by omega
    subst this;have e:l.findIdx? p=none:=by
     rw[List.findIdx?_eq_none_iff];intro x L;obtain⟨j,O,rfl⟩:=iI.1 L
     grind
    unfold iter;rw[F,e]
  | succ n U=>
   intro i fuel hi C I
   match fuel,C with
   | f+1,C=>
    have Y:i<l.length:=by omega
    unfold iter;rw[E i Y];cases Z:p l[i]with
    | true=>
     have e:l.findIdx? p=some i:=by
      rw[nh]
      grind
     rw[e];rfl
    | false=>
     simp only[au]
     refine U (i+1) f (by omega) (by omega) λj O FO=>?_
     by_cases e:j=i
     ·grind
     ·grind
 exact key l.length 0 fuel (by omega) C λj _ h=>by omega
def IS{T:Type}{p:T -> Bool}{l:aa T}{i:Nat}(h:i<l.length)(E:p l[i]=true):(kY p l != (i:Int))=(l.take i).any p:=by
 unfold kY;cases C:(l.take i).any p with
 | false=>
  have e:l.findIdx? p=some i:=by
   rw[nh]
   refine⟨h,E,λj D=>?_⟩
   have:=List.any_eq_false.1 C l[j] (iI.2 ⟨j,by simp;omega,by simp⟩);exact this
  rw[e];simp
 | true=>
  have⟨x,F,L⟩:=List.any_eq_true.1 C;obtain⟨j,D,rfl⟩:=iI.1 F;rw[fX]at D;cases I:l.findIdx? p with
  |none=>simp
  | some k=>
   have⟨O,U,Y⟩:=nh.1 I;have:k≠i:=by
    grind
   simp only;simp;omega
def NN(x:Int):Bool:=aJ x 0 4294967295
def n9(n:Int)(r:aP):Bool:=aJ r.id 1 100000&&(aJ r.dB 0 3&&(decide (r.line >= 0)&&(decide (r.line<n)&&(NN r.data&&((r.write ||r.data==0)&&aJ r.at_ 0 1000000)))))
def asd(n:Int)(r:aP):M7 n r=some (n9 n r):=by
 unfold M7 n9 tO NN;simp[eN]
 grind
def ase(n:Int)(r:aP):LQ n r=some (n9 n r):=by
 unfold LQ n9 Gl NN;simp[dK]
 grind
def fF(x y:aP):Bool:=decide (x.at_<y.at_) ||(x.at_==y.at_&&decide (x.id<y.id))
def aej(x y:aP):M8 x y=some (fF x y):=by
 unfold M8 fF
 grind
def aek(x y:aP):LP x y=some (fF x y):=aej x y
def Ur(l:aa aP)(id:Int)(hl:l.length<1073741824):Gn l id=some (kY (λr=>r.id==id) l):=by
 unfold Gn kY bO;have e:=Bg (step:=Gm) l (λr=>r.id==id) (λi=>((l,id,i,()),())) _ (.inr (.inl ((),()))) big (λk h=>by
  unfold Gm ay aY xG xI;simp (disch:=omega) [h,bG];cases l[k].id==id<;>rfl) (by unfold Gm ay aY xG xI;simp) (bM hl)
 rw[cH]at e;rw[e];cases l.findIdx? _<;>rfl
def p6(n:Int)(q:aa aP)(i:Nat):Bool:=match q[i]? with
 |some r=>n9 n r&&((i==0 ||(match q[i-1]? with|some x=>fF x r|none=>false)) && !((q.take i).any λx=>x.id==r.id))
 |none=>false
def Us{n:Int}{q:aa aP}(h:0<q.length):p6 n q 0=n9 n q[0]:=by
 unfold p6;rw[bQ h];simp
def IT{n:Int}{q:aa aP}{i:Nat}(h:i+1<q.length):p6 n q (i+1)=(n9 n q[i+1]&&(fF q[i] q[i+1] && !((q.take (i+1)).any λx=>x.id==q[i+1].id))):=by
 unfold p6
 grind
def gZ(n:Int)(q:aa aP):Bool:=(List.range q.length).all (p6 n q)&&decide ((q.length:Int)<=12)
def ael(n:Int)(q:aa aP):vG n q=some (gZ n q):=by
 unfold vG gZ bO;by_cases c:(q.length:Int)<=12
 ·rw[bh (show ¬ (q.length:Int) > 12 by omega),au,aV c,Bool.and_true];have e:=fU (step:=Gq) (List.range q.length) (p6 n q) (λi=>((n,q,(i:Int),()),())) (.inl ((false,()),())) (.inr (.inl ((),()))) big (λk h=>by
   rw[dm]at h;rw[jt];unfold Gq ay aY xG xI;dsimp only;rw[aV,aj,aD ⟨by omega,by omega⟩];simp only[bH,ase,aq];cases k with
   | zero=>
    rw[Us h];cases n9 n q[0]with
    |false=>rfl
    | true=>
     simp only[bR,au,aj];rw[bh,au,aD ⟨by omega,h⟩,Ur _ _ (by omega),aq,IS h (by simp)];simp;rfl
   | succ k=>
    rw[IT h];cases n9 n q[k+1]with
    |false=>rfl
    | true=>
     simp only[bR,au,cM];have C:W6 (((k+1:Nat):Int)-1)=(k:Int):=by rw[aR];omega
     simp only[C,bH];rw[aV,aj,aD ⟨by omega,by omega⟩,aD ⟨by omega,h⟩,aek,aq];cases fF q[k] q[k+1]with
     |false=>rfl
     | true=>
      simp only[bR,au,cM];rw[aD ⟨by omega,h⟩,Ur _ _ (by omega),aq,IS h (by simp),bG];cases (q.take (k+1)).any λx=>x.id==q[k+1].id<;>rfl) (by
   rw[dm];unfold Gq ay aY xG xI;dsimp only;rw[bh,au]) (by rw[dm];exact bM)
  rw[cH]at e
  refine(bu (λo=>Option.bind o _) e).trans ?_
  rw[aq];cases (List.range q.length).all (p6 n q)<;>rfl
 ·rw[aV (show (q.length:Int) > 12 by omega),aj,bh c,Bool.and_false]
def asf(n:Int)(q:aa aP){i:Nat}(h:i<q.length)(hl:q.length<1073741824):
  iter DA big ((n,q,(),q,(q.length:Int),(i:Int),((q.take i).drop 0),(((q.take i).drop 0).length:Int),(0:Int),()),((q[i].id,q[i].dB,q[i].line,q[i].write,q[i].data,q[i].at_,()),()))=some (bif (q.take i).any (λx=>x.id==q[i].id)then .inl ((false,()),())else .inr (.inl ((n,q,q,(q.length:Int),(i:Int),()),()))):=by
 rw[List.drop_zero];have hlen:(q.take i).length=i:=by rw[fX];omega
 generalize C:q[i]=r;generalize D:q.take i=t at *
 have e:=fU (step:=DA) t (λx=>!(x.id==r.id)) (λj=>((n,q,(),q,(q.length:Int),(i:Int),t,(t.length:Int),(j:Int),()),((r.id,r.dB,r.line,r.write,r.data,r.at_,()),()))) (.inl ((false,()),())) _ big (λk h=>by
  unfold DA ay aY xG xI;dsimp only;rw[aV,aj,aD ⟨by omega,by omega⟩];simp only[bH];rw[bG];cases t[k].id==r.id<;>rfl) (by
  unfold DA ay aY xG xI;dsimp only;rw[bh,au]) (bM)
 grind
def asg(n:Int)(q:aa aP)(hl:q.length<1073741824):M9 n q=some (gZ n q):=by
 unfold M9 gZ bO;have e:=fU (step:=Il) (List.range q.length) (p6 n q) (λi=>((n,q,q,(q.length:Int),(i:Int),()),())) (.inl ((false,()),())) (.inr (.inl ((q,()),()))) big (λk h=>by
   rw[dm]at h;rw[jt];unfold Il ay aY xG xI bO;dsimp only;rw[aV,aj,aD ⟨by omega,by omega⟩];simp only[bH,asd,aq];have C:=asf n q h hl;cases k with
   | zero=>
    rw[Us h];cases n9 n q[0]with
    |false=>rfl
    | true=>
     simp only[bR,au,aj];rw[bh,au,bJ ⟨by omega,by omega,by omega⟩]
     refine(bu (λo=>Option.bind o _) C).trans ?_
     simp;rfl
   | succ k=>
    rw[IT h];cases n9 n q[k+1]with
    |false=>rfl
    | true=>
     simp only[bR,au,cM];have D:W6 (((k+1:Nat):Int)-1)=(k:Int):=by rw[aR];omega
     simp only[D,bH];rw[aV,aj,aD ⟨by omega,by omega⟩,aej,aq];cases fF q[k] q[k+1]with
     |false=>rfl
     | true=>
      simp only[bR,au,cM];rw[bJ ⟨by omega,by omega,by omega⟩]
      refine(bu (λo=>Option.bind o _) C).trans ?_
      rw[aq];cases (q.take (k+1)).any λx=>x.id==q[k+1].id with
      |true=>rfl
      | false=>
       simp only[au,Sum.elim_inr,eR];rw[bG];rfl) (by
   rw[dm];unfold Il ay aY xG xI bO;dsimp only;rw[bh,au]) (by rw[dm];exact bM)
 rw[cH]at e
 refine(bu (λo=>Option.bind o _) e).trans ?_
 rw[aq];cases (List.range q.length).all (p6 n q)<;>rfl
def jM(p:eU):Bool:=aJ p.state 0 2&&(aJ p.since 0 1000000&&aJ p.idle 0 1000000)
def ash(p:eU):A4 p=some (jM p):=by
 unfold A4 jM;simp[eN]
 grind
def Ut(p:eU):vH p=some (jM p):=by
 unfold vH jM;simp[dK]
 grind
def ud(e:bT):Bool:=aJ e.line 0 1023&&((e.code==1 ||e.code==2)&&aJ e.times 1 999)
def mR(e x:bT):Bool:=x.line==e.line&&x.code==e.code
def DM(l:aa bT)(i:Nat):Bool:=match l[i]? with
 |some e=>ud e && !((l.take i).any (mR e))
 |none=>false
def NO{l:aa bT}{i:Nat}(h:i<l.length):DM l i=(ud l[i] && !((l.take i).any (mR l[i]))):=by
 unfold DM;rw[bQ h]
def kZ(l:aa bT):Bool:=(List.range l.length).all (DM l)&&decide ((l.length:Int)<=6)
def aem(l:aa bT)(e:bT)(hl:l.length<1073741824):GL l e.line e.code=some (kY (mR e) l):=by
 unfold GL kY bO;have e:=Bg (step:=GK) l (mR e) (λi=>((l,e.line,e.code,i,()),())) _ _ big (λk h=>by
  unfold GK mR ay aY xG xI;dsimp only;rw[aV,aj,aD ⟨by omega,by omega⟩,aD ⟨by omega,by omega⟩];simp only[bH];rw[bG];cases l[k].line==e.line<;>cases l[k].code==e.code<;>rfl) (by
  unfold GK ay aY xG xI;dsimp only;rw[bh,au]) (bM hl)
 rw[cH]at e;rw[e];cases l.findIdx? _<;>rfl
def asi(l:aa bT):L2 l=some (kZ l):=by
 unfold L2 kZ bO;by_cases c:(l.length:Int) <= 6
 ·rw[bh (show ¬ (l.length:Int) > 6 by omega),au,aV c,Bool.and_true];have e:=fU (step:=GM) _ (DM l) (λi=>((l,(i:Int),()),())) _ _ big (λk h=>by
   rw[dm]at h;rw[jt,NO h];unfold GM C2 ud ay aY xG xI;dsimp only;rw[aV,aj,aD ⟨by omega,by omega⟩,aD ⟨by omega,by omega⟩,aD ⟨by omega,by omega⟩];simp only[bH,dK,aq];rw[aem _ _ (by omega),aq,IS h (by simp[mR]),bG];cases aJ l[k].line 0 1023<;>cases l[k].code==1<;>cases l[k].code==2<;>cases aJ l[k].times 1 999<;>cases (l.take k).any (mR l[k])<;>rfl) (by
   rw[dm];unfold GM ay aY xG xI;dsimp only;rw[bh,au]) (by rw[dm];exact bM)
  refine(bu (λo=>Option.bind o _) e).trans ?_
  rw[aq];cases (List.range l.length).all (DM l)<;>rfl
 ·rw[aV (show (l.length:Int) > 6 by omega),aj,bh c,Bool.and_false]
def asj(l:aa bT){i:Nat}(h:i<l.length)(hl:l.length<1073741824):
  iter DC big ((l,(),l,(l.length:Int),(i:Int),((l.take i).drop 0),(((l.take i).drop 0).length:Int),(0:Int),()),((l[i].line,l[i].code,l[i].times,()),()))=some (bif (l.take i).any (mR l[i])then .inl ((false,()),())else .inr (.inl ((l,l,(l.length:Int),(i:Int),()),()))):=by
 rw[List.drop_zero];have hlen:(l.take i).length=i:=by rw[fX];omega
 generalize C:l[i]=r;generalize D:l.take i=t at *
 have e:=fU (step:=DC) t (λx=>!(mR r x)) (λj=>((l,(),l,(l.length:Int),(i:Int),t,(t.length:Int),(j:Int),()),((r.line,r.code,r.times,()),()))) _ _ big (λk h=>by
  unfold DC mR ay aY xG xI;dsimp only;rw[aV,aj,aD ⟨by omega,by omega⟩];simp only[bH];rw[bG,BEq.comm (a:=r.line),BEq.comm (a:=r.code)];cases t[k].line==r.line<;>cases t[k].code==r.code<;>rfl) (by
  unfold DC ay aY xG xI;dsimp only;rw[bh,au]) (bM)
 grind
def asl(l:aa bT)(hl:l.length<1073741824):Io l=some (kZ l):=by
 unfold Io kZ bO;have e:=fU (step:=Im) _ (DM l) (λi=>((l,l,l.length,i,()),())) _ _ big (λk h=>by
   rw[dm]at h;rw[jt,NO h];have C:=asj l h hl;unfold Im ud ay aY xG xI bO;dsimp only;rw[aV,aj,aD ⟨by omega,by omega⟩];simp only[bH,eN,aq,bne];rw[bJ ⟨by omega,by omega,by omega⟩];rw[show (0:Int).toNat=0 from rfl,C];cases aJ l[k].line 0 1023<;>cases l[k].code==1<;>cases l[k].code==2<;>cases aJ l[k].times 1 999<;>cases (l.take k).any (mR l[k])<;>first|rfl|(simp only[aj,au,bR,ju,aq,Sum.elim_inr,eR];rw[bG];rfl)) (by
   rw[dm];unfold Im ay aY xG xI bO;dsimp only;rw[bh,au]) (by rw[dm];exact bM)
 refine(bu (λo=>Option.bind o _) e).trans ?_
 cases (List.range _).all _<;>rfl
def asm(l:aa Int)(x:Int)(hl:l.length<1073741824):AY l x=some (kY (λe=>x==e) l):=by
 unfold AY kY;have e:=Bg (step:=Ii) l (λe=>x==e) (λi=>((l,x,l.length,i,()),())) _ _ big (λk h=>by
  unfold Ii ay aY xG xI;dsimp only;rw[aV,aj,aD ⟨by omega,by omega⟩];simp only[bH];rw[bG];cases x==l[k]<;>rfl) (by
  unfold Ii ay aY xG xI;dsimp only;rw[bh,au]) (bM hl)
 rw[cH]at e;rw[e];cases l.findIdx? _<;>rfl
def Bh(t:cg)(i:Nat):Bool:=match t.rows[i]?,t.counts[i]? with
 |some r,some c=>aJ r (-1) 15&&(aJ c t.ef 100000&&((r != -1 ||c==0)&&(r == -1 ||!((t.rows.take i).any λx=>r==x))))
 |_,_=>false
def NP{t:cg}{i:Nat}(h:i<t.rows.length)(C:i<t.counts.length):Bh t i=(aJ t.rows[i] (-1) 15&&(aJ t.counts[i] t.ef 100000&&((t.rows[i] != -1 || t.counts[i]==0)&&(t.rows[i] == -1 || !((t.rows.take i).any λx=>t.rows[i]==x))))):=by
 unfold Bh;rw[bQ h,bQ C]
def ld(t:cg):Bool:=aJ (t.rows.length:Int) 1 16&&((t.rows.length:Int)==(t.counts.length:Int)&&(aJ t.ef 0 100000&&(List.range t.rows.length).all (Bh t)))
def asn(t:cg):AZ t=some (ld t):=by
 unfold AZ ld bO;simp only[eN,aq];cases D:aJ (t.rows.length:Int) 1 16 with
 |false=>rfl
 | true=>
  have D:=bq.1 D;by_cases C:(t.rows.length:Int)=(t.counts.length:Int)
  ·simp only[C,bne_self_eq_false,lJ,bR,au,cM];cases L:aJ t.ef 0 100000 with
   |false=>rfl
   | true=>
    have e:=fU (step:=Ij) (List.range t.rows.length) (Bh t) (λi=>(((),t.rows,(t.rows.length:Int),(i:Int),()),((t.rows,t.counts,t.ef,()),()))) (.inl ((false,()),())) (.inr (.inl ((),()))) big (λk h=>by
     rw[dm]at h;have E:k<t.counts.length:=by omega
     rw[jt,NP h E];unfold Ij ay aY xG xI;dsimp only;rw[aV,aj,aD ⟨by omega,by omega⟩,aD ⟨by omega,by omega⟩,aD ⟨by omega,by omega⟩];simp only[bH,eN,aq,asm _ _ (show t.rows.length<1073741824 by omega)];rw[IS (p:=λe=>t.rows[k]==e) h (by simp),bG];simp only[bne];cases aJ t.rows[k] (-1) 15<;>cases aJ t.counts[k] t.ef 100000<;>cases t.rows[k] == -1<;>cases t.counts[k]==0<;>cases (t.rows.take k).any (λe=>t.rows[k]==e)<;>rfl) (by
     rw[dm];unfold Ij ay aY xG xI;dsimp only;rw[bh,au]) (by rw[dm];exact bM)
    rw[cH,C]at e;simp only[bR,au,cM]
    refine(bu (λo=>Option.bind o _) e).trans ?_
    rw[aq];cases (List.range t.rows.length).all (Bh t)<;>rfl
  ·have F:((t.rows.length:Int)==(t.counts.length:Int))=false:=by simp[C]
   have I:((t.counts.length:Int) != (t.rows.length:Int))=true:=je λh=>C h.symm
   rw[F,I];rfl
def aso(t:cg){i:Nat}(h:i<t.rows.length)(hl:t.rows.length<1073741824):
  iter Df big (((),(i:Int),(0:Int),()),((t.rows,t.counts,t.ef,()),()))=some (bif decide (t.rows[i] >= 0)&&(t.rows.take i).any (λx=>t.rows[i]==x)then .inl ((false,()),())else .inr (.inl (((),(i:Int),()),((t.rows,t.counts,t.ef,()),())))):=by
 have hlen:(t.rows.take i).length=i:=by rw[fX];omega
 have e:=fU (step:=Df) (t.rows.take i) (λx=>!(decide (t.rows[i] >= 0)&&t.rows[i]==x)) (λj=>(((),(i:Int),(j:Int),()),((t.rows,t.counts,t.ef,()),()))) _ _ big (λk C=>by
  unfold Df ay aY xG xI;dsimp only;rw[aV,aj,aD ⟨by omega,by omega⟩,aD ⟨by omega,by omega⟩,aD ⟨by omega,by omega⟩];simp only[bH,List.getElem_take];rw[bG,BEq.comm (a:=t.rows[k])];cases decide (t.rows[i] >= 0)<;>cases t.rows[i]==t.rows[k]<;>rfl) (by
  rw[hlen];unfold Df ay aY xG xI;dsimp only;rw[bh,au]) (bM)
 grind
def aen(t:cg):Hp t=some (ld t):=by
 unfold Hp ld bO;simp only[dK,aq];cases D:aJ (t.rows.length:Int) 1 16 with
 |false=>rfl
 | true=>
  have D:=bq.1 D;by_cases C:(t.rows.length:Int)=(t.counts.length:Int)
  ·simp only[C,bne_self_eq_false,lJ,bR,au,cM];cases T:aJ t.ef 0 100000 with
   |false=>rfl
   | true=>
    have e:=fU (step:=Ho) (List.range t.rows.length) (Bh t) (λi=>(((),(i:Int),()),((t.rows,t.counts,t.ef,()),()))) (.inl ((false,()),())) (.inr (.inl ((),()))) big (λk h=>by
     rw[dm]at h;have I:k<t.counts.length:=by omega
     have L:=aso t h (by omega);rw[jt,NP h I];unfold Ho ay aY xG xI bO;dsimp only;rw[aV,aj,aD ⟨by omega,by omega⟩,aD ⟨by omega,by omega⟩,aD ⟨by omega,by omega⟩,aD ⟨by omega,by omega⟩];simp only[bH,dK,aq];rw[L,aq];cases E:aJ t.rows[k] (-1) 15 with
     |false=>rfl
     | true=>
      have E:=bq.1 E;cases aJ t.counts[k] t.ef 100000 with
      |false=>rfl
      | true=>
       simp only[bR,au,cM,bne];by_cases F:t.rows[k] = -1
       ·rw[aV (show t.rows[k]<0 by omega),bh (show ¬ t.rows[k] >= 0 by omega),show (t.rows[k] == -1)=true by simp[F]];simp;rw[bG]
        grind
       ·rw[bh (show ¬ t.rows[k]<0 by omega),aV (show t.rows[k] >= 0 by omega),show (t.rows[k] == -1)=false by simp[F]];simp only[aj,au,cM];cases (t.rows.take k).any λx=>t.rows[k]==x with
        |true=>rfl
        | false=>
         simp;rw[bG];rfl) (by
     rw[dm];unfold Ho ay aY xG xI bO;dsimp only;rw[bh,au]) (by rw[dm];exact bM)
    rw[cH]at e;simp only[bR,au,cM]
    refine(bu (λo=>Option.bind o _) e).trans ?_
    rw[aq];cases (List.range t.rows.length).all (Bh t)<;>rfl
  ·have O:((t.rows.length:Int)==(t.counts.length:Int))=false:=by simp[C]
   rw[O,je C];rfl
def w9(g:aL):W6 ((9:Int)*(W6 (aQ g+(1:Int))))=9*(aQ g+1):=by
 have:=fy g;rw[aR (n:=aQ g+1),aR]
def asp(k:Int):vP k=some (aJ k 1 5):=by
 unfold vP;rw[eN];rfl
def sE(g:aL)(i:Nat):Bool:=decide ((i:Int) / 9<aQ g)==decide ((i:Int) % 9+1<=5)
def asq(g:aL){i:Nat}(hi:i<1000):Mp g (i:Int)=some (sE g i):=by
 unfold Mp sE;rw[mO,aq,oT (by omega),oS (by omega),aR,aR,BEq.comm]
def asr(g:aL){i:Nat}(hi:i<1000):∃ c,H6 g (i:Int)=some (c,sE g i):=by
 unfold H6 sE;rw[qS,aq,oT (by omega),oS (by omega),aR,aR,asp];have:aJ (i % 9+1) 1 5=decide ((i:Int) % 9+1 <= 5):=by
  simp[aJ];omega
 rw[this];cases decide (i / 9<aQ g)<;>exact⟨_,rfl⟩
def Bi(g:aL)(l:aa Int)(i:Nat):Bool:=match l[i]? with
 |some e=>aJ e (-1) 1000000&&(sE g i ||e == -1)
 |none=>false
def IU{g:aL}{l:aa Int}{i:Nat}(h:i<l.length):Bi g l i=(aJ l[i] (-1) 1000000&&(sE g i || l[i] == -1)):=by
 unfold Bi;rw[bQ h]
def mS(l:aa Int)(i:Nat):Bool:=match l[i]? with
 |some e=>aJ e 0 1000000&&(i==0 ||(match l[i-1]? with|some x=>!(decide (x >= e))|none=>false))
 |none=>false
def IV{l:aa Int}(h:0<l.length):mS l 0=aJ l[0] 0 1000000:=by
 unfold mS;rw[bQ h];simp
def DN{l:aa Int}{i:Nat}(h:i+1<l.length):mS l (i+1)=(aJ l[i+1] 0 1000000 && !(decide (l[i] >= l[i+1]))):=by
 unfold mS
 grind
def ku(g:aL)(r:dJ):Bool:=cy g&&((r.last.length:Int)==9*(aQ g+1)&&(!(decide ((r.bf.length:Int) > 4))&&((List.range r.last.length).all (Bi g r.last)&&(List.range r.bf.length).all (mS r.bf))))
def ass(g:aL)(r:dJ):Dw g r=some (ku g r):=by
 unfold Dw ku bO;rw[yF,aq,qS];cases L:cy g with
 |false=>rfl
 | true=>
  simp only[bR,au,aq,cM,w9];by_cases C:(r.last.length:Int)=9*(aQ g+1)
  ·have O:=fy g;rw[C,bne_self_eq_false,au,lJ,cM,<-C];cases D:decide ((r.bf.length:Int) > 4)with
   |true=>rfl
   | false=>
    have D:=of_decide_eq_false D;have l1:=fU (step:=H7) (List.range r.last.length) (Bi g r.last) (λi=>(((),(),r.last,(r.last.length:Int),(i:Int),()),((g.bX,g.aB,g.rows,g.aK,()),(r.last,r.bf,()),()))) (.inl ((false,()),())) (.inr (.inl (((),()),((r.last,r.bf,()),())))) big (λk h=>by
     rw[dm]at h;obtain⟨c,E⟩:=asr g (i:=k) (by omega);rw[jt,IU h];unfold H7 ay aY xG xI;dsimp only;rw[aV,aj,aD ⟨by omega,by omega⟩];simp only[bH,eN,aq,mQ,E,bne];rw[bG];cases aJ r.last[k] (-1) 1000000<;>cases sE g k<;>cases r.last[k] == -1<;>rfl) (by
     rw[dm];unfold H7 ay aY xG xI;dsimp only;rw[bh,au]) (by rw[dm];exact bM)
    have l2:=fU (step:=H8) (List.range r.bf.length) (mS r.bf) (λi=>(((),r.bf,(r.bf.length:Int),(i:Int),()),((r.last,r.bf,()),()))) (.inl ((false,()),())) (.inr (.inl ((),()))) big (λk h=>by
     rw[dm]at h;rw[jt];unfold H8 ay aY xG xI;dsimp only;rw[aV,aj,aD ⟨by omega,by omega⟩];simp only[bH,eN,aq];cases k with
     | zero=>
      rw[IV h];cases aJ r.bf[0] 0 1000000 with
      |false=>rfl
      | true=>
       rw[bh];rfl
     | succ k=>
      rw[DN h];have F:W6 (((k+1:Nat):Int)-1)=(k:Int):=by rw[aR];omega
      simp only[F,bH];rw[aV (show ((k+1:Nat):Int) > 0 by omega),aD ⟨by omega,by omega⟩,bG];cases aJ r.bf[k+1] 0 1000000<;>cases decide (r.bf[k] >= r.bf[k+1])<;>rfl) (by
     rw[dm];unfold H8 ay aY xG xI;dsimp only;rw[bh,au]) (by rw[dm];exact bM)
    rw[cH]at l1 l2;simp only[ju,au,cM]
    refine(bu (λo=>Option.bind o _) l1).trans ?_
    rw[aq];cases (List.range r.last.length).all (Bi g r.last)with
    |false=>rfl
    | true=>
     simp only[aj,Sum.elim_inr,eR,cM]
     refine(bu (λo=>Option.bind o _) l2).trans ?_
     rw[aq];cases (List.range r.bf.length).all (mS r.bf)<;>rfl
  ·have I:((r.last.length:Int)==9*(aQ g+1))=false:=by simp[C]
   rw[je C,I];rfl
def ast(g:aL)(r:dJ):Mq g r=some (ku g r):=by
 unfold Mq ku bO;rw[DG,aq,mO];cases I:cy g with
 |false=>rfl
 | true=>
  simp only[bR,au,aq,cM,w9];by_cases C:(r.last.length:Int)=9*(aQ g+1)
  ·have L:=fy g;rw[C,bne_self_eq_false,au,lJ,cM];cases D:decide ((r.bf.length:Int) > 4)with
   |true=>rfl
   | false=>
    have D:=of_decide_eq_false D;have l1:=fU (step:=He) (List.range r.last.length) (Bi g r.last) (λi=>(((),(),(i:Int),()),((g.bX,g.aB,g.rows,g.aK,()),(r.last,r.bf,()),()))) (.inl ((false,()),())) (.inr (.inl (((),()),((r.last,r.bf,()),())))) big (λk h=>by
     rw[dm]at h;rw[jt,IU h];unfold He ay aY xG xI;dsimp only;rw[aV,aj,aD ⟨by omega,by omega⟩,aD ⟨by omega,by omega⟩];simp only[bH,dK,aq,mQ,asq g (show k<1000 by omega),bne];rw[bG];cases aJ r.last[k] (-1) 1000000<;>cases sE g k<;>cases r.last[k] == -1<;>rfl) (by
     rw[dm];unfold He ay aY xG xI;dsimp only;rw[bh,au]) (by rw[dm];exact bM)
    have l2:=fU (step:=Hf) (List.range r.bf.length) (mS r.bf) (λi=>(((),(i:Int),()),((r.last,r.bf,()),()))) (.inl ((false,()),())) (.inr (.inl ((),()))) big (λk h=>by
     rw[dm]at h;rw[jt];unfold Hf ay aY xG xI;dsimp only;rw[aV,aj,aD ⟨by omega,by omega⟩];simp only[bH,dK,aq];cases k with
     | zero=>
      rw[IV h];cases aJ r.bf[0] 0 1000000 with
      |false=>rfl
      | true=>
       rw[bh];rfl
     | succ k=>
      rw[DN h];have E:W6 (((k+1:Nat):Int)-1)=(k:Int):=by rw[aR];omega
      simp only[E,bH];rw[aV (show ((k+1:Nat):Int) > 0 by omega),aD ⟨by omega,by omega⟩,aD ⟨by omega,by omega⟩,bG];cases aJ r.bf[k+1] 0 1000000<;>cases decide (r.bf[k] >= r.bf[k+1])<;>rfl) (by
     rw[dm];unfold Hf ay aY xG xI;dsimp only;rw[bh,au]) (by rw[dm];exact bM)
    rw[cH]at l1 l2;simp only[ju,au,cM]
    refine(bu (λo=>Option.bind o _) l1).trans ?_
    rw[aq];cases (List.range r.last.length).all (Bi g r.last)with
    |false=>rfl
    | true=>
     simp only[aj,Sum.elim_inr,eR,cM]
     refine(bu (λo=>Option.bind o _) l2).trans ?_
     rw[aq];cases (List.range r.bf.length).all (mS r.bf)<;>rfl
  ·have F:((r.last.length:Int)==9*(aQ g+1))=false:=by simp[C]
   rw[je C,F];rfl
def asu(l:aa Int)(x:Int)(hl:l.length<1073741824):MF l x=some (l.any λe=>e==x):=by
 unfold MF bO;have e:=fU (step:=HF) l (λe=>!(e==x)) (λi=>((l,x,i,()),())) _ _ big (λk h=>by
  unfold HF ay aY xG xI;dsimp only;rw[aV,aj,aD ⟨by omega,by omega⟩];simp only[bH];rw[bG];cases l[k]==x<;>rfl) (by
  unfold HF ay aY xG xI;dsimp only;rw[bh,au]) (bM hl)
 rw[cH]at e;rw[e];have:l.all (λe=>!(e==x)) = !l.any λe=>e==x:=by rw[List.any_eq_not_all_not,Bool.not_not]
 rw[this];cases l.any λe=>e==x<;>rfl
def asv(l:aa Int)(x:Int)(hl:l.length<1073741824):M3 l x=some (l.count x:Int):=by
 unfold M3 aZ;have e:=dn (step:=Ic) _ (λi=>((x,((l.take i).count x),l,l.length,i,()),())) _ big (λk h=>by
  unfold Ic ay xG xI;have C:(l.take k).count x <= k:=Nat.le_trans List.count_le_length (by rw[fX];omega);dsimp only;rw[aV,aj,aD ⟨by omega,by omega⟩];simp only[bH];rw[List.take_succ_eq_append_getElem h,List.count_append,List.count_singleton,bG,bG];cases l[k]==x<;>rfl) (by
  unfold Ic ay xG xI;dsimp only;rw[bh,au,kC]) (bM hl)
 simp_all
def aeo{x:Int}:∀ (l:aa Int),(∀ j (h:j<l.length),l[j]=x -> x ∉ l.take j) -> l.count x <= 1
 |[],_=>by simp
 | y :: ys,h=>by
  rw[List.count_cons];by_cases e:y=x
  ·have:x ∉ ys:=by
    intro C;have⟨j,E,D⟩:=iI.1 C;refine h (j+1) (by simp;omega) (by simpa using D) ?_;simp_all
   grind
  ·have:=aeo ys λj E D C=>h (j+1) (by simp;omega) (by simpa using D) (by rw[List.take_succ_cons];exact List.mem_cons_of_mem _ C)
   simp_all
def asw{x:Int}:∀ (l:aa Int) (j:Nat) (h:j<l.length),l[j]=x -> x∈l.take j -> 2 <= l.count x:=by
 intro l j h e C;have D:=List.count_pos_iff.2 C;have E:1 <= (l.drop j).count x:=List.count_pos_iff.2 (by rw[<- e];exact iI.2 ⟨0,by simp;omega,by simp⟩);have:l.count x=(l.take j).count x+(l.drop j).count x:=by rw[<- List.count_append,List.take_append_drop]
 omega
def p7(R M:Int)(L:aa Int)(j:Nat):Bool:=match L[j]? with
 |some e=>e==(j:Int) ||(aJ e R M && !(decide ((L.count e:Int) > 1)))
 |none=>false
def ue(R M:Int)(L:aa Int)(j:Nat):Bool:=match L[j]? with
 |some e=>e==(j:Int) ||(aJ e R M && !((L.take j).any λx=>x==e))
 |none=>false
def Uu(R M:Int)(L:aa Int)(hR:(L.length:Int)=R):(List.range L.length).all (p7 R M L)=(List.range L.length).all (ue R M L):=by
 rw[Bool.eq_iff_iff,bW,bW];simp only[eJ];constructor
 ·intro h j C;have:=h j C;unfold p7 at this;unfold ue;rw[bQ C]at *
  simp only[dA,aH,gi,oU]at *
  rcases this with D|⟨D,T⟩
  ·simp_all
  ·refine .inr ⟨D,?_⟩;rw[List.any_eq_false];intro x I F;have F:x=L[j]:=by simpa using F
   have:=asw L j C rfl (F ▸ I);omega
 ·intro h j C;have:=h j C;unfold ue at this;unfold p7;rw[bQ C]at *
  simp only[dA,aH,gi,oU]at *
  rcases this with D|⟨D,T⟩
  ·simp_all
  ·refine .inr ⟨D,?_⟩;have U:=(bq.1 D).1;have:=aeo (x:=L[j]) L λk O e I=>by
    have E:=h k O;unfold ue at E;rw[bQ O]at E;simp only[dA,aH,gi]at E;rcases E with Y|⟨_,Z⟩
    ·grind
    ·grind
   omega
def gA(m:aa Int)(R b:Nat):aa Int:=(m.take ((b+1)*R)).drop (b*R)
def DO(m:aa Int)(R b:Nat):gA m R b=(m.drop (b*R)).take R:=by
 unfold gA;rw[List.drop_take,gE,Nat.add_sub_cancel_left]
def DP{m:aa Int}{R b:Nat}(h:(b+1)*R<=m.length):(gA m R b).length=R:=by
 rw[DO,fX,List.length_drop];rw[gE]at h;omega
def yK{C R b j:Nat}(hb:b<C)(D:j <= R):b*R+j <= C*R:=by
 have:=gO R hb
 grind
def IW(R:Nat)(M:Int)(m:aa Int)(i:Nat):Bool:=match m[i]? with
 |some e=>e==((i % R:Nat):Int) ||(aJ e (R:Int) M && !(((m.take i).drop (i / R*R)).any λx=>x==e))
 |none=>false
def aep{R:Nat}{M:Int}{m:aa Int}{b j:Nat}(C:j<R):IW R M m (b*R+j)=ue (R:Int) M (gA m R b) j:=by
 unfold IW ue;have D:(b*R+j) % R=j:=by rw[Nat.mul_comm,Nat.mul_add_mod,Nat.mod_eq_of_lt C]
 have E:(b*R+j) / R=b:=by rw[Nat.mul_comm,Nat.mul_add_div (by omega),Nat.div_eq_of_lt C,Nat.add_zero]
 have F:(gA m R b)[j]?=m[b*R+j]?:=by rw[DO,List.getElem?_take_of_lt C,List.getElem?_drop]
 have I:(gA m R b).take j=(m.take (b*R+j)).drop (b*R):=by rw[DO,List.take_take,List.drop_take,Nat.add_sub_cancel_left,Nat.min_eq_left (Nat.le_of_lt C)]
 simp_all
def aeq{n:Nat}(h:n<4611686018427387904):W6 (n:Int)=(n:Int):=aR
def asx(R D:Nat)(hR:0<R)(M:Int)(m:aa Int):(List.range (D*R)).all (IW R M m)=(List.range D).all λb=>(List.range R).all (ue (R:Int) M (gA m R b)):=by
 rw[Bool.eq_iff_iff,bW];simp;constructor
 ·intro h b hb j C;rw[<- aep C];refine h _ ?_;have:=yK hb (show j+1 <= R from C);omega
 ·intro h i hi;have hb:i / R<D:=Nat.div_lt_of_lt_mul (by rw[Nat.mul_comm];exact hi);have C:i % R<R:=Nat.mod_lt _ hR;have e:i / R*R+i % R=i:=by rw[Nat.mul_comm];exact Nat.div_add_mod i R
  have:=h _ hb _ C;rw[<- aep C,e]at this;exact this
def jo(g:aL)(s:dc):Bool:=iG g s.bC&&((s.map.length:Int)==((aQ g).toNat*(g.rows-s.bC).toNat:Nat)&&(List.range (aQ g).toNat).all λb=>(List.range (g.rows-s.bC).toNat).all (p7 (g.rows-s.bC) (g.rows-1) (gA s.map (g.rows-s.bC).toNat b)))
def aer{g:aL}{s:dc}{R C b:Nat}(hR:g.rows-s.bC=(R:Int))(D:R<=16)(E:C<=8)(hb:b<C)(hl:s.map.length=C*R):Dx g s (b:Int)=some (b*R,(b+1)*R):=by
 have O:C*R<=8*16:=Nat.mul_le_mul E D;have T:b*R+R<=C*R:=yK hb (c9 R);have F:W6 (g.rows-s.bC)=(R:Int):=by rw[hR];exact aR
 have I:W6 ((b:Int)*(R:Int))=((b*R:Nat):Int):=by rw[<-Int.natCast_mul];exact aR
 have L:W6 (((b+1:Nat):Int)*(R:Int))=(((b+1)*R:Nat):Int):=by
  rw[<-Int.natCast_mul];exact aR (by omega) (by rw[gE];omega)
 unfold Dx;rw[F,bG,I,L,gE,bJ ⟨by omega,by omega,by omega⟩];simp only[bH]
def asy{g:aL}{s:dc}(R b:Int)(L:aa Int)(C:cy g=true)(D:L.length<1073741824):
  iter Dy big (((),(),R,b,L,L,(L.length:Int),(0:Int),()),((g.bX,g.aB,g.rows,g.aK,()),(s.bC,s.map,()),()))=some (bif (List.range L.length).all (p7 R (g.rows-1) L)then .inr (.inl (((),(),R,b,()),((g.bX,g.aB,g.rows,g.aK,()),(s.bC,s.map,()),())))else .inl ((false,()),())):=by
 have E:=fE C;have e:=fU (step:=Dy) (List.range L.length) (p7 R _ L) (λi=>(((),(),R,b,L,L,L.length,i,()),((g.bX,g.aB,g.rows,g.aK,()),(s.bC,s.map,()),()))) _ _ big (λk h=>by
  rw[dm]at h;rw[jt];unfold Dy p7 ay aY xG xI;dsimp only;rw[aV,aj,aD ⟨by omega,by omega⟩,bQ h];simp only[bH,eN,aq,asv _ _ D,bne];rw[bG,aR (n:=g.rows-1)];cases L[k]==(k:Int)<;>cases aJ L[k] R (g.rows-1)<;>cases decide ((L.count L[k]:Int) > 1)<;>rfl) (by
  rw[dm];unfold Dy ay aY xG xI;dsimp only;rw[bh,au]) (by rw[dm];exact bM)
 simp_all
def aes(g:aL)(s:dc):Ig g s=some (jo g s):=by
 unfold Ig jo bO;rw[ad9,aq,NJ];cases D:iG g s.bC with
 |false=>rfl
 | true=>
  obtain⟨F,s0,s2,zm,NQ⟩:=NI D;have I:=fy g;have L:((q5 g s.bC).1.map.length:Int)=(((aQ g).toNat*(g.rows-s.bC).toNat:Nat):Int):=by
   unfold q5;rw[D,aj,Ui]
  rw[L];obtain⟨C,hb⟩:=ff I.1;obtain⟨R,hR⟩:=ff (show 0<=g.rows-s.bC by omega);rw[hb,hR];simp only[bH,bR,au,cM];by_cases hl:(s.map.length:Int)=((C*R:Nat):Int)
  ·have E:s.map.length=C*R:=by omega
   rw[hl,bne_self_eq_false,au,lJ,cM];have O:W6 (R:Int)=(R:Int):=aR;have e:=fU (step:=Ie) (List.range C) (λb=>(List.range R).all (p7 (R:Int) (g.rows-1) (gA s.map R b))) (λi=>(((),(),(R:Int),(i:Int),()),((g.bX,g.aB,g.rows,g.aK,()),(s.bC,s.map,()),()))) (.inl ((false,()),())) (.inr (.inl ((),()))) big (λk h=>by
    rw[dm]at h;rw[jt];have T:=yK (R:=R) h (c9 R);have hlen:(gA s.map R k).length=R:=DP (by rw[gE,E];exact T);have U:=asy (g:=g) (s:=s) (R:Int) (k:Int) (gA s.map R k) F (by omega);unfold Ie ay aY xG bO;dsimp only;rw[mQ,qS,aq,hb,aV,aj];have Y:Dx g (⟨s.bC,s.map⟩:dc) (k:Int)=some (k*R,(k+1)*R):=aer (s:=⟨s.bC,s.map⟩) hR (by omega) (by omega) h E;rw[Y,aq];have Z:(Nat.ble (k*R) ((k+1)*R)&&Nat.ble ((k+1)*R) s.map.length)=true:=by
     rw[aH];exact⟨gP (by rw[gE];omega),gP (by rw[gE];omega)⟩
    rw[Z,aj]
    refine(bu (λo=>Option.bind o _) U).trans ?_
    rw[aq,hlen];cases (List.range R).all (p7 (R:Int) (g.rows-1) (gA s.map R k))with
    |false=>rfl
    | true=>
     simp only[aj,Sum.elim_inr,eR];rw[bG]) (by
    rw[dm];unfold Ie ay aY xG bO;dsimp only;rw[mQ,qS,aq,hb,bh,au]) (by rw[dm];exact bM)
   rw[cH]at e;rw[O]
   refine(bu (λo=>Option.bind o _) e).trans ?_
   rw[aq];cases (List.range C).all λb=>(List.range R).all (p7 (R:Int) (g.rows-1) (gA s.map R b))<;>rfl
  ·have e2:((s.map.length:Int)==((C*R:Nat):Int))=false:=by simp only[beq_eq_false_iff_ne];exact hl
   rw[je hl,e2];rfl
def asz(g:aL)(s:dc):MG g s=some (jo g s):=by
 unfold MG jo bO;rw[Uj,aq,NJ];cases F:iG g s.bC with
 |false=>rfl
 | true=>
  obtain⟨I,s0,s2,zm,NQ⟩:=NI F;have L:=fy g;have gb:=fE I;obtain⟨C,hb⟩:=ff L.1;obtain⟨R,hR⟩:=ff (show 0<=g.rows-s.bC by omega);have hm:C*R<=8*16:=Nat.mul_le_mul (by omega) (by omega);have O:W6 (R:Int)=(R:Int):=aR;have hmul:W6 ((C:Int)*(R:Int))=((C*R:Nat):Int):=by rw[<-Int.natCast_mul];exact aR
  rw[mO,aq,hb,hR,O,hmul];simp only[bH,bR,au,cM];by_cases hl:(s.map.length:Int)=((C*R:Nat):Int)
  ·have T:s.map.length=C*R:=by omega
   rw[hl,bne_self_eq_false,au,lJ,cM];have e:=fU (step:=HG) (List.range (C*R)) (IW R (g.rows-1) s.map) (λi=>(((),(),(R:Int),(i:Int),()),((g.bX,g.aB,g.rows,g.aK,()),(s.bC,s.map,()),()))) (.inl ((false,()),())) (.inr (.inl ((),()))) big (λk h=>by
    rw[dm]at h;rw[jt];have U:k<s.map.length:=by omega
    have Y:(k:Int).tmod (R:Int)=((k % R:Nat):Int):=(Int.ofNat_tmod k R).symm;have Z:(k:Int).tdiv (R:Int)=((k / R:Nat):Int):=(Int.ofNat_tdiv k R).symm;have hdl:k / R<=k:=Nat.div_le_self k R;have E:k / R*R<=k:=Nat.div_mul_le_self k R;have w1:W6 (((k / R:Nat):Int))=((k / R:Nat):Int):=aeq (Nat.lt_of_le_of_lt hdl (by omega));have w2:W6 (((k / R:Nat):Int)*(R:Int))=((k / R*R:Nat):Int):=by rw[<-Int.natCast_mul];exact aeq (Nat.lt_of_le_of_lt E (by omega))
    unfold HG IW ay aY xG xI;rw[bQ U];dsimp only;rw[aV,aj,aD ⟨by omega,by omega⟩,bx,aD ⟨by omega,by omega⟩,bx,Y,Z,w1,w2,bJ ⟨Int.natCast_nonneg _,Int.ofNat_le.2 E,by omega⟩,aD ⟨by omega,by omega⟩];simp only[bH,dK,aq];rw[asu _ _ (by rw[List.length_drop,fX];omega),aq,bG,aR (n:=g.rows-1)];cases s.map[k]==((k % R:Nat):Int)<;>cases aJ s.map[k] (R:Int) (g.rows-1)<;>cases ((s.map.take k).drop (k / R*R)).any (λx=>x==s.map[k])<;>rfl) (by
    rw[dm];unfold HG ay aY xG xI;dsimp only;rw[bh,au]) (by rw[dm];exact bM)
   rw[cH]at e
   refine(bu (λo=>Option.bind o _) e).trans ?_
   rw[aq,asx R C (by omega)];have hAB:((List.range C).all λb=>(List.range R).all (ue (R:Int) (g.rows-1) (gA s.map R b)))=(List.range C).all λb=>(List.range R).all (p7 (R:Int) (g.rows-1) (gA s.map R b)):=by
    rw[Bool.eq_iff_iff,bW,bW]
    refine forall_congr' λb=>?_
    refine imp_congr_right λD=>?_
    have D:=eJ.1 D;have hk:=yK (R:=R) D (c9 R);have hlen:(gA s.map R b).length=R:=DP (by rw[gE,T];exact hk);have:=Uu (R:Int) (g.rows-1) (gA s.map R b) (by rw[hlen]);rw[hlen]at this;rw[this]
   rw[hAB];cases (List.range C).all λb=>(List.range R).all (p7 (R:Int) (g.rows-1) (gA s.map R b))<;>rfl
  ·have e2:((s.map.length:Int)==((C*R:Nat):Int))=false:=by simp only[beq_eq_false_iff_ne];exact hl
   rw[je hl,e2];rfl
def dS(g:aL)(s:dc):aL:=bif jo g s then ⟨g.bX,g.aB,W6 (g.rows-s.bC),g.aK⟩else ⟨0,0,0,0⟩
def Uv(g:aL)(s:dc):DB g s=some (dS g s):=by
 unfold DB dS;rw[aes,aq];cases jo g s<;>rfl
def yL(c:ak):ak:=c
def jN(a x:aG):Bool:=x.az==a.az&&(x.row==a.row&&(x.bL==a.bL&&true))
def aet(l:aa aG)(a:aG)(hl:l.length<1073741824):Hj l a=some (kY (jN a) l):=by
 unfold Hj kY bO;have e:=Bg (step:=Hi) l (jN a) (λi=>((l,(),i,()),((a.az,a.row,a.bL,()),()))) _ _ big (λk h=>by
  unfold Hi jN ay aY xG xI;dsimp only;rw[aV,aj,aD ⟨by omega,by omega⟩];simp only[bH];rw[bG];cases (l[k].az==a.az&&(l[k].row==a.row&&(l[k].bL==a.bL&&true)))<;>rfl) (by
  unfold Hi ay aY xG xI;dsimp only;rw[bh,au]) (bM hl)
 rw[cH]at e;rw[e];cases l.findIdx? _<;>rfl
def asA(l:aa aG)(a:aG)(hl:l.length<1073741824):Dz l a=some (kY (jN a) l):=by
 unfold Dz kY;have e:=Bg (step:=Ik) l (jN a) (λi=>((l,(),l.length,i,()),((a.az,a.row,a.bL,()),()))) _ _ big (λk h=>by
  unfold Ik jN ay aY xG xI;dsimp only;rw[aV,aj,aD ⟨by omega,by omega⟩];simp only[bH];rw[bG,BEq.comm (a:=a.az),BEq.comm (a:=a.row),BEq.comm (a:=a.bL)];cases (l[k].az==a.az&&(l[k].row==a.row&&(l[k].bL==a.bL&&true)))<;>rfl) (by
  unfold Ik ay aY xG xI;dsimp only;rw[bh,au]) (bM hl)
 rw[cH]at e;rw[e];cases l.findIdx? _<;>rfl
def partAt(c:ak)(i:Nat):Bool:=match c.bI[i]?,c.guard[i]? with
 |some t,some x=>ld t&&aJ x 3 1000
 |_,_=>false
def yM(c:ak)(i:Nat):Bool:=match c.pending[i]? with
 |some a=>cZ c.config.av a&&(a.bL==0 && !((c.pending.take i).any (jN a)))
 |none=>false
def q6(c:ak):Bool:=(c.aX.aO.length:Int)==aQ c.config.av&&((c.bI.length:Int)==aQ c.config.av&&((c.guard.length:Int)==aQ c.config.av&&(!(decide ((c.pending.length:Int) > 128))&&((List.range c.bI.length).all (partAt c)&&(List.range c.pending.length).all (yM c)))))
def aeu(c:ak)(G:(Int×Int×Int×Int×af))(n i:Int):M4 (((),(),n,i,()),(yL c,G,()))=(bif (decide (i<n))then if C:0<=i/\i.toNat<c.bI.length then (AZ (c.bI[i.toNat]'C.2)).bind λD=>bif (!D)then some (.inr (.inl ((false,()),())))else if E:0<=i/\i.toNat<c.guard.length then (ck (c.guard[i.toNat]'E.2) (3:Int) (1000:Int)).bind λF=>bif (!F)then some (.inr (.inl ((false,()),())))else some (.inl (((),(),n,(W6 (i+(1:Int))),()),(yL c,G,())))else none else none else some (.inr (.inr (.inl (((),(),()),(yL c,G,())))))):=rfl
def aev(c:ak)(g:aL)(l:aa aG)(n i:Int):M5 (((),(),l,n,i,()),(yL c,(g.bX,g.aB,g.rows,g.aK,()),()))=(bif (decide (i<n))then if C:0<=i/\i.toNat<l.length then (A3 g (l[i.toNat]'C.2)).bind λD=>bif (!D)then some (.inr (.inl ((false,()),())))else bif ((l[i.toNat]'C.2).bL != (0:Int))then some (.inr (.inl ((false,()),())))else (Dz c.pending (l[i.toNat]'C.2)).bind λE=>bif (E != i)then some (.inr (.inl ((false,()),())))else some (.inl (((),(),l,n,(W6 (i+(1:Int))),()),(yL c,(g.bX,g.aB,g.rows,g.aK,()),())))else none else some (.inr (.inr (.inl ((),()))))):=rfl
def asC(c:ak)(L:c.aX.aO.length<1073741824):M6 c=some (eO c.aX&&q6 c):=by
 unfold M6 q6 bO;rw[qS,aq,asc _ L,aq];cases eO c.aX with
 |false=>rfl
 |true=>
 simp only[bR,au,cM];have b1:=fy c.config.av;by_cases C:(c.aX.aO.length:Int)=aQ c.config.av
 ·by_cases D:(c.bI.length:Int)=aQ c.config.av
  ·by_cases E:(c.guard.length:Int)=aQ c.config.av
   ·have O:((c.aX.aO.length:Int) != aQ c.config.av)=false:=by simp[C]
    have T:((c.bI.length:Int) != aQ c.config.av)=false:=by simp[D]
    have U:((c.guard.length:Int) != aQ c.config.av)=false:=by simp[E]
    have Y:((c.aX.aO.length:Int)==aQ c.config.av)=true:=by simp[C]
    have Z:((c.bI.length:Int)==aQ c.config.av)=true:=by simp[D]
    have q3:((c.guard.length:Int)==aQ c.config.av)=true:=by simp[E]
    rw[O,T,U,Y,Z,q3];simp only[au,cM];cases F:decide ((c.pending.length:Int) > 128)with
    |true=>rfl
    | false=>
     have F:=of_decide_eq_false F;have l1:=fU (step:=M4) (List.range c.bI.length) (partAt c) (λi=>(((),(),(c.bI.length:Int),(i:Int),()),(yL c,(c.config.av.bX,c.config.av.aB,c.config.av.rows,c.config.av.aK,()),()))) (.inl ((false,()),())) (.inr (.inl (((),(),()),(yL c,(c.config.av.bX,c.config.av.aB,c.config.av.rows,c.config.av.aK,()),())))) big (λk h=>by
      rw[dm]at h;rw[jt,aeu,aV,aj,aD ⟨by omega,by omega⟩,aD ⟨by omega,by omega⟩];simp only[bH,asn,eN,aq];unfold partAt;rw[bQ h,bQ (show k<c.guard.length by omega),bG];simp only;cases ld c.bI[k]<;>cases aJ (c.guard[k]'(by omega)) 3 1000<;>rfl) (by
      rw[dm,aeu,bh,au]) (by rw[dm];exact bM)
     have l2:=fU (step:=M5) (List.range c.pending.length) (yM c) (λi=>(((),(),c.pending,(c.pending.length:Int),(i:Int),()),(yL c,(c.config.av.bX,c.config.av.aB,c.config.av.rows,c.config.av.aK,()),()))) (.inl ((false,()),())) (.inr (.inl ((),()))) big (λk h=>by
      rw[dm]at h;rw[jt,aev,aV,aj,aD ⟨by omega,by omega⟩];simp only[bH,adF,aq,asA _ _ (show c.pending.length<1073741824 by omega),bne];have I:=IS (p:=jN c.pending[k]) h (by simp[jN]);rw[bne]at I;rw[I];unfold yM;rw[bQ h,bG];simp only;cases cZ c.config.av c.pending[k]<;>cases c.pending[k].bL==0<;>cases (c.pending.take k).any (jN c.pending[k])<;>rfl) (by
      rw[dm,aev,bh,au]) (by rw[dm];exact bM)
     rw[cH]at l1 l2;simp only[ju,au,cM]
     refine(bu (λo=>Option.bind o _) l1).trans ?_
     rw[aq];cases (List.range c.bI.length).all (partAt c)with
     |false=>rfl
     | true=>
      simp only[aj,Sum.elim_inr,eR,cM]
      refine(bu (λo=>Option.bind o _) l2).trans ?_
      rw[aq];cases (List.range c.pending.length).all (yM c)<;>rfl
   ·simp[C,D,je E,E]
  ·simp[C,je D,D]
 ·simp[je C,C]
def sF(n:Int)(u:Bool)(k:Int):Bool:=bif u then aJ n 0 (k-1)else n==0
def dU(g:aL)(c:aC):Bool:=cy g&&(aJ c.kind 1 9&&(sF c.az (aJ c.kind 1 5) (aQ g)&&(sF c.row (c.kind==1) g.rows&&sF c.bL (c.kind==2 ||c.kind==3) g.aK)))
def asD(k:Int):Mn k=some (aJ k 1 5,k==1,(k==2 || k==3)):=by
 obtain⟨y,e,h⟩:=arP k;rw[e,h]
def IX(c:aC):Bool:=(aJ c.kind 1 5 ||c.az==0)&&((c.kind==1 ||c.row==0)&&(((c.kind==2 ||c.kind==3) ||c.bL==0)&&(aJ c.kind 1 9&&(aJ c.az 0 7&&(aJ c.row 0 15&&aJ c.bL 0 7)))))
def asE(c:aC):Mo c=some (IX c):=by
 unfold Mo IX;simp only[asD,aq,dK,bne]
 grind
def aew(g:aL)(c:aC):G9 g c=some (dU g c):=by
 unfold G9;rw[asE,aq,T5,aq];have key:(IX c&&cZ g ⟨c.az,c.row,c.bL⟩)=dU g c:=by
  unfold dU cZ;cases D:cy g with
  |false=>simp
  | true=>
   have F:=fy g;have I:=fE D;rw[Bool.eq_iff_iff];simp only[IX,sF,aH,dA,fI,bq,cM];constructor
   ·rintro⟨⟨h1,h2,h3,C,L,O,T⟩,⟨U,Y⟩,Z⟩;refine⟨C,?_,?_,?_⟩
    ·cases hu:aJ c.kind 1 5 with
     |true=>simp[aj,bq];omega
     | false=>simp only[au,fI];rcases h1 with h1 | h1
              ·exact absurd (bq.2 h1) (by rw[hu];simp)
              ·exact h1
    ·cases hu:c.kind==1 with
     |true=>simp[aj,bq];omega
     | false=>simp only[au,fI];rcases h2 with h2 | h2
              ·simp_all
              ·exact h2
    ·cases hu:(c.kind==2 || c.kind==3)with
     |true=>simp[aj,bq];omega
     | false=>simp only[au,fI];rcases h3 with (h3 | h3) | h3
              ·simp_all
              ·simp_all
              ·exact h3
   ·rintro⟨h1,h2,h3,C⟩;have f1:(1 <= c.kind/\c.kind <= 5 \/ c.az=0)/\0 <= c.az/\c.az <= aQ g-1:=by
     cases hu:aJ c.kind 1 5 with
     |true=>rw[hu,aj,bq]at h2;exact⟨.inl (bq.1 hu),h2⟩
     |false=>rw[hu,au,fI]at h2;have:=ID D;exact⟨.inr h2,by omega⟩
    have f2:(c.kind=1 \/ c.row=0)/\0 <= c.row/\c.row <= g.rows-1:=by
     cases hu:c.kind==1 with
     |true=>rw[hu,aj,bq]at h3;exact⟨.inl (by simpa using hu),h3⟩
     |false=>grind
    have E:((c.kind=2 \/ c.kind=3) \/ c.bL=0)/\0 <= c.bL/\c.bL <= g.aK-1:=by
     cases hu:(c.kind==2 ||c.kind==3)with
     |true=>rw[hu,aj,bq]at C;exact⟨.inl (by simpa using hu),C⟩
     |false=>simp_all
    exact⟨⟨f1.1,f2.1,E.1,h1,by omega,by omega,by omega⟩,⟨by omega,by omega⟩,by omega⟩
 rw[<- key];cases IX c<;>rfl
def IY{g:aL}{c:aC}(h:dU g c=true):cy g=true/\(1 <= c.kind/\c.kind <= 9)/\(c.kind <= 5 -> 0 <= c.az/\c.az<aQ g)/\(5<c.kind -> c.az=0):=by
 simp[dU,aH,bq]at h
 refine⟨h.1,h.2.1,λD=>?_,λD=>?_⟩
 ·have:=h.2.2.1;rw[sF,show aJ _ 1 5=true from bq.2 ⟨h.2.1.1,D⟩,aj,bq]at this;omega
 ·have:=h.2.2.1;have C:aJ c.kind 1 5=false:=by
   cases C:aJ _ 1 5 with
   |false=>rfl
   |true=>have:=bq.1 C;omega
  rwa [sF,C,au,fI]at this
def kinds{k:Int}(h:1<=k/\k<=9):k=1\/k=2\/k=3\/k=4\/k=5\/k=6\/k=7\/k=8\/k=9:=by omega
def jf(r:cB)(b:Int):ep:=r.aB.getD b.toNat ⟨false,0⟩
def mT(r:cB)(c:aC):Bool:=
 bif c.kind==1 ||c.kind==5 then r.aS==0 && !(jf r c.az).open_ else
 bif c.kind==2 ||c.kind==3 ||c.kind==4 then r.aS==0&&(jf r c.az).open_ else
 bif c.kind==6 then r.aS==0 else
 bif c.kind==8 then r.aS==0&&r.aB.all (λb=>!b.open_)else
 bif c.kind==7 then r.aS==1 else r.aS==2
def fG(r:cB)(c:aC):cB:=
 bif c.kind==1 then ⟨r.aB.set c.az.toNat ⟨true,c.row⟩,r.aS⟩else
 bif c.kind==4 then ⟨r.aB.set c.az.toNat ⟨false,0⟩,r.aS⟩else
 bif c.kind==6 then ⟨r.aB,1⟩else
 bif c.kind==8 then ⟨r.aB,2⟩else
 bif c.kind==7 ||c.kind==9 then ⟨r.aB,0⟩else r
def asF{r:cB}{b:Int}(h:b.toNat<r.aB.length):r.aB[b.toNat]=jf r b:=by
 simp[jf,h]
def asG(r:cB):(((opens 0 r.aB).length:Int)==0)=r.aB.all λb=>!b.open_:=by
 rw[<-aei 0 r.aB,Bool.eq_iff_iff];simp only[fI];omega
def aex(r:cB)(h:r.aB.length<1073741823):GN r=some (opens 0 r.aB):=by
 unfold GN aZ;have e:=tV (step:=C3) (λi=>(((),(),(i:Int),()),((r.aB,r.aS,()),opens 0 (r.aB.take i),()))) (z:=.inl (((),()),(opens 0 r.aB,()))) r.aB.length 0 big (λk _ C=>?_) ?_ (by unfold big;omega)
 ·have e:iter C3 big (((),(),0,()),((r.aB,r.aS,()),([]),()))=_:=e;simp_all
 ·have C:k<r.aB.length:=by omega
  unfold C3 ay xG xI;dsimp only;have D:decide ((k:Int)<(r.aB.length:Int))=true:=aV;have E:0 <= (k:Int)/\(k:Int).toNat<r.aB.length:=⟨by omega,by simpa using C⟩
  have hl:=T6 0 (r.aB.take k);rw[fX]at hl;have F:aT ((opens 0 (r.aB.take k)).length+([(k:Int)]:aa Int).length)=true:=by
   unfold aT;simp;omega
  rw[D,aj,aD E,tW,tX C,adN];simp only[bH,opens,fX,eS,Nat.min_eq_left (Nat.le_of_lt C)];cases r.aB[k].open_ with
  |true=>grind
  |false=>grind
 ·rw[eS];unfold C3 ay xG xI;simp_all
def asH{r:cB}{c:aC}(C:1 <= c.kind/\c.kind <= 9)(hb:c.kind <= 5 -> 0 <= c.az/\c.az.toNat<r.aB.length)(hl:r.aB.length<1073741823):L5 r c=some (mT r c):=by
 unfold L5 mT xI;rcases kinds C with h|h|h|h|h|h|h|h|h
 case inr.inr.inr.inr.inr.inr.inr.inl=>simp[h,aex r hl,asG];cases r.aS==0<;>rfl
 all_goals (try (have hb:=hb _))<;>simp[h,hb,asF]<;>(cases r.aS==0<;>rfl)
def p9(g:aL)(r:cB)(c:aC):Bool:=n8 g r&&(dU g c&&mT r c)
def NR{g:aL}{r:cB}{c:aC}(h:p9 g r c=true):cy g=true/\(r.aB.length:Int)=aQ g/\(1 <= c.kind/\c.kind <= 9)/\(c.kind <= 5 -> 0 <= c.az/\c.az.toNat<r.aB.length):=by
 simp[p9,aH]at h;have⟨D,E,hb,_⟩:=IY h.2.1;have C:=h.1;simp[n8,aH,fI]at C;simp_all
def NS(g:aL):cB:=⟨List.replicate (aQ g).toNat ⟨false,0⟩,0⟩
def asJ(g:aL):LI g=some (NS g):=by
 have C:=fy g;unfold LI NS;rw[mO,aq,bJ ⟨by omega,by omega,by omega⟩]
def aey(r:cB)(c:aC):(fG r c).aB.length=r.aB.length:=by
 unfold fG
 grind
def DR(t:cV)(a b:Int):Int:=
 bif a==1 then (bif b==2 ||b==3 then t.jv else bif b==4 then t.fZ else bif b==1 ||b==5 then W6 (t.fZ+t.rp)else 0)else
 bif a==2 then (bif b==4 then t.iJ else bif b==1 ||b==5 then W6 (t.iJ+t.rp)else 0)else
 bif a==3 then (bif b==4 then t.wr else bif b==1 ||b==5 then W6 (t.wr+t.rp)else 0)else
 bif a==4 then (bif b==1 ||b==5 then t.rp else 0)else
 bif a==5 then (bif b==1 ||b==5 then t.ny else 0)else 0
def DS(t:cV)(a b:Int)(C:Bool):Int:=
 bif a==7 then t.xp else bif a==9 then t.xs else
 bif (a==6&&b==7) ||(a==8&&b==9)then t.og else
 bif a==1&&b==1 then (bif C then t.jw else t.ni)else
 bif (a==2&&b==2) ||(a==3&&b==3)then (bif C then t.nq else t.nj)else
 bif a==3&&b==2 then (bif C then t.nu else t.nt)else
 bif a==2&&b==3 then t.qc else
 bif a==5&&b==5 then t.jw else
 bif a==2&&b==6 then t.iJ else bif a==3&&b==6 then t.wr else
 bif b==8 then DR t a 1 else 0
def aez{t:cV}(C:iz t=true){a b:Int}(D:1 <= a/\a <= 9)(hb:1 <= b/\b <= 9):GO t a b=some (DR t a b):=by
 unfold GO;rw[NH,aq,C,bR];rcases kinds D with rfl|rfl|rfl|rfl|rfl|rfl|rfl|rfl|rfl<;>rcases kinds hb with rfl|rfl|rfl|rfl|rfl|rfl|rfl|rfl|rfl<;>kernel_rfl
def Uw{t:cV}(E:iz t=true){a b:Int}(D:Bool)(C:1 <= a/\a <= 9)(hb:1 <= b/\b <= 9):GP t a b D=some (DS t a b D):=by
 unfold GP;rw[NH,aq,E,bR,au,dK,aq,bq.2 C,bR,au,dK,aq,bq.2 hb,bR];by_cases F:b=8/\a≠7/\a≠9
 ·obtain⟨rfl,I,L⟩:=F;have e:=aez E C (b:=1) (by omega);rcases kinds C with rfl|rfl|rfl|rfl|rfl|rfl|rfl|rfl|rfl<;>first|exact absurd rfl I|exact absurd rfl L|simp[e,DS]
 ·cases D<;>rcases kinds C with rfl|rfl|rfl|rfl|rfl|rfl|rfl|rfl|rfl<;>rcases kinds hb with rfl|rfl|rfl|rfl|rfl|rfl|rfl|rfl|rfl<;>first|exact absurd ⟨rfl,by omega,by omega⟩ F|kernel_rfl
def Ux(a b:aC):Bool:=aJ a.kind 1 5&&aJ b.kind 1 5
def NT(g:aL)(a b:aC):Bool:=Ux a b&&(W6 (a.az.tdiv g.aB)==W6 (b.az.tdiv g.aB))
def yN(g:aL)(t:cV)(a b:aC):Int:=
 bif Ux a b&&a.az==b.az then max (max 1 (DS t a.kind b.kind (NT g a b))) (DR t a.kind b.kind)else max 1 (DS t a.kind b.kind (NT g a b))
def aeA(x y:Int):(if x > y then x else y)=max x y:=by
 rw[Int.max_def];split<;>split<;>omega
def NU{k:Int}(h:1<=k/\k<=9):aJ k 1 5=decide (k<=5):=by
 unfold aJ;rw[aV h.1,cM]
def asK{g:aL}{t:cV}{a b:aC}(F:cy g=true)(E:iz t=true)(C:1 <= a.kind/\a.kind <= 9)(D:1 <= b.kind/\b.kind <= 9):ye g t a b=some (yN g t a b):=by
 have I:=fE F;unfold ye yN NT Ux;rw[NU C,NU D];cases decide (a.kind <= 5)with
 | false=>
  simp;rw[Uw E false C D,aq,aeA]
 | true=>
  cases decide (b.kind <= 5)with
  | false=>
   simp;rw[Uw E false C D,aq,aeA]
  | true=>
   simp only[aj,cM,Bool.and_self];rw[bx,bx,Uw E _ C D,aq,aez E C D]
   grind
def Uy{t:cV}(h:iz t=true):∀ x∈oI t,1 <= x/\x <= 64:=by
 simp[iz,aH,bW]at h;exact λx C=>bq.1 (h.1 x C)
def aeB{t:cV}(h:iz t=true)(a b:Int):0 <= DR t a b/\DR t a b <= 128:=by
 have hb:=Uy h;simp only[oI,fH,List.not_mem_nil,or_false,forall_eq_or_imp,forall_eq]at hb;have⟨C,D,E,F,I,L,O,T,U,Y,Z,pK,vY,yO,tU,qQ,Bj⟩:=hb;unfold DR;rw[aR (n:=t.fZ+t.rp),aR (n:=t.iJ+t.rp),aR (n:=t.wr+t.rp)]
 grind
def asM{c:Bool}{x y a b:Int}(C:a<=x/\x<=b)(D:a<=y/\y<=b):a<=(bif c then x else y)/\(bif c then x else y)<=b:=by
 cases c
 ·exact D
 ·exact C
def asN{t:cV}(h:iz t=true)(a b:Int)(n:Bool):0 <= DS t a b n/\DS t a b n <= 128:=by
 have hb:=Uy h;simp[oI,fH,forall_eq_or_imp,forall_eq]at hb;have C:=aeB h a 1
 repeat' (first|exact C|refine asM ?_ ?_|omega)
def lg(g:aL)(c:aC):Int:=9*(bif aJ c.kind 1 5 then c.az else aQ g)+c.kind-1
def aeC{g:aL}{c:aC}(h:dU g c=true):0 <= lg g c/\lg g c<9*(aQ g+1):=by
 have⟨C,D,hb,_⟩:=IY h;have E:=fy g;unfold lg
 grind
def asO(r:dJ)(C:r.last.length<1073741824)(D:r.bf.length<1073741824):Nd r=some r:=by
 unfold Nd xA xZ;rw[show ([]).length+r.last.length=r.last.length by simp,cq C,show ([]).length+r.bf.length=r.bf.length by simp,cq D];rfl
def aeD(r:dJ)(C:r.last.length<1073741824)(D:r.bf.length<1073741824):su r=some r:=asO r C D
def DT(r:dJ)(x:Int):Bool:=match r.bf.getLast? with
 |some y=>decide (x<=y)
 |none=>false
def IZ(l:aa Int)(x:Int):aa Int:=(l++[x]).drop (l.length+1-4)
def sG(g:aL)(r:dJ)(e:fR):dJ:=
 bif ku g r&&(dU g e.cmd&&(aJ e.at_ 0 1000000 && !(e.cmd.kind==1&&DT r e.at_)))then ⟨r.last.set (lg g e.cmd).toNat e.at_,bif e.cmd.kind==1 then IZ r.bf e.at_ else r.bf⟩else r
def Uz{g:aL}{r:dJ}(h:ku g r=true):cy g=true/\(r.last.length:Int)=9*(aQ g+1)/\r.bf.length <= 4:=by
 simp[ku,aH,fI,gi,oU]at h
 grind
def asP{l:aa Int}(h:0<l.length)(C:(W6 ((l.length:Int)-1)).toNat<l.length)(hl:l.length<1073741824):l.getLast?=some (l[(W6 ((l.length:Int)-1)).toNat]'C):=by
 have e:(W6 ((l.length:Int)-1)).toNat=l.length-1:=by rw[aR];omega
 simp only[e];rw[List.getLast?_eq_getElem?,bQ (by omega)]
def asQ(g:aL)(r:dJ)(e:fR)(Y:r.last.length<1073741824)(Z:r.bf.length<1073741824):Mr g r e=some (sG g r e):=by
 unfold Mr sG xA xI xL xZ;rw[aeD r Y Z,aq,ast,aq];cases hr:ku g r with
 |false=>rfl
 | true=>
  simp only[bR,au,cM];rw[aew,aq];cases I:dU g e.cmd with
  |false=>rfl
  | true=>
   simp only[bR,au,cM];rw[dK,aq];cases ha:aJ e.at_ 0 1000000 with
   |false=>rfl
   | true=>
    obtain⟨hg,hl,h4⟩:=Uz hr;obtain⟨_,Bk,hb,_⟩:=IY I;have hp:=aeC I;have b1:=fy g;have pl:lg g e.cmd=bif decide (e.cmd.kind<=5)then 9*e.cmd.az+e.cmd.kind-1 else 9*aQ g+e.cmd.kind-1:=by
     unfold lg;rw[NU Bk];cases decide (e.cmd.kind<=5)<;>rfl
    have L:decide (e.cmd.kind<=5)=true->W6 (W6 (W6 (9*e.cmd.az)+e.cmd.kind)-1)=lg g e.cmd:=by
     intro C;have:=hb (of_decide_eq_true C);rw[aR (n:=9*e.cmd.az),aR (n:=9*e.cmd.az+e.cmd.kind),aR,pl,C];rfl
    have hW2:decide (e.cmd.kind<=5)=false->W6 (W6 (W6 (9*aQ g)+e.cmd.kind)-1)=lg g e.cmd:=by
     intro C;rw[aR (n:=9*aQ g),aR (n:=9*aQ g+e.cmd.kind),aR,pl,C];rfl
    have E:∀l:aa Int,l.length<1073741824->su ⟨r.last.set (lg g e.cmd).toNat e.at_,l⟩=some ⟨r.last.set (lg g e.cmd).toNat e.at_,l⟩:=λl zD=>aeD _ (by simp;omega) zD
    have D:0<=lg g e.cmd/\(lg g e.cmd).toNat<r.last.length:=⟨hp.1,by omega⟩
    have o1:aT (([]:aa Int).length+r.bf.length)=true:=cq (by simp;omega);have o2:aT ((([]:aa Int)++r.bf).length+([e.at_]:aa Int).length)=true:=cq (by simp;omega);have O:((([]:aa Int)++r.bf)++([e.at_]:aa Int)).length=r.bf.length+1:=by simp
    have T:(bif decide ((((r.bf.length+1:Nat):Int)) > 4)then if 0<=(1:Int)/\(1:Int)<=((r.bf.length+1:Nat):Int)/\((r.bf.length+1:Nat):Int)<=((r.bf.length+1:Nat):Int)then (su (⟨r.last.set (lg g e.cmd).toNat e.at_,(((([]:aa Int)++r.bf)++([e.at_]:aa Int)).take (((r.bf.length+1:Nat):Int).toNat)).drop ((1:Int).toNat)⟩:dJ)).bind λiw=>some iw else none else (su (⟨r.last.set (lg g e.cmd).toNat e.at_,((([]:aa Int)++r.bf)++([e.at_]:aa Int))⟩:dJ)).bind λiQ=>some iQ)=some ⟨r.last.set (lg g e.cmd).toNat e.at_,IZ r.bf e.at_⟩:=by
     have et:((([]:aa Int)++r.bf)++([e.at_]:aa Int)).take (((r.bf.length+1:Nat):Int).toNat)=r.bf++[e.at_]:=by
      rw[bH,<-O,kC,List.nil_append]
     rw[et];unfold IZ;by_cases h5:4<=r.bf.length
     ·rw[aV,aj,bJ ⟨by omega,by omega,by omega⟩,E _ (by simp;omega),aq,show r.bf.length+1-4=1 by omega];rfl
     ·rw[bh,au,E _ (by simp;omega),aq,show r.bf.length+1-4=0 by omega];rfl
    simp only[bR,au,cM,mO,aq];cases hk:(e.cmd.kind==1)with
    | false=>
     cases C:decide (e.cmd.kind<=5)with
     | true=>
      simp only[au,Bool.false_and,ju,aj,L C];rw[aD D,aD D.2,E _ (by omega),aq]
     | false=>
      simp only[au,Bool.false_and,ju,aj,hW2 C];rw[aD D,aD D.2,E _ (by omega),aq]
    | true=>
     have C:decide (e.cmd.kind<=5)=true:=by
      have:e.cmd.kind=1:=by simpa using hk
      exact aV
     simp only[aj,cM,C,L C,o1,o2,O];unfold DT;by_cases F:0<r.bf.length
     ·have U:(W6 ((r.bf.length:Int)-1))=((r.bf.length-1:Nat):Int):=by rw[aR];omega
      have hi:(W6 ((r.bf.length:Int)-1)).toNat<r.bf.length:=by rw[U];omega
      rw[aV (show (r.bf.length:Int) > 0 by omega),aj,aD ⟨by rw[U];omega,hi⟩,asP F hi (by omega)];dsimp only;rw[show decide (r.bf[(W6 ((r.bf.length:Int)-1)).toNat] >= e.at_)=decide (e.at_<=r.bf[(W6 ((r.bf.length:Int)-1)).toNat])from rfl];cases decide (e.at_<=r.bf[(W6 ((r.bf.length:Int)-1)).toNat])with
      |true=>rfl
      | false=>
       simp only[au,ju,aj];rw[aD D,aD D.2];exact T
     ·have F:r.bf=[]:=List.eq_nil_of_length_eq_zero (by omega);rw[bh (by rw[F];simp),au];rw[show r.bf.getLast?=none by rw[F];rfl];simp only[ju,aj];rw[aD D,aD D.2];exact T
def aeE{t:cV}(C:iz t=true)(g:aL)(a b:aC):1 <= yN g t a b/\yN g t a b <= 128:=by
 have D:=asN C a.kind b.kind (NT g a b);have E:=aeB C a.kind b.kind;unfold yN
 grind
def asR{t:cV}(C:iz t=true):1<=t.mb/\t.mb<=64:=Uy C _ (by simp[oI])
def UA{T:Type}{p:T -> Bool}{l:aa T}{i:Nat}{x:T}(h:l.all p=true)(C:p x=true):(l.set i x).all p=true:=by grind
def uf{g:aL}{r:cB}(h:n8 g r=true):cy g=true/\(r.aB.length:Int)=aQ g/\(0 <= r.aS/\r.aS <= 2)/\r.aB.all (vX g)=true/\(r.aS=2 -> (r.aB.all λb=>!b.open_)=true):=by
 simp only[n8,aH,fI,bq,dA,bne_iff_ne]at h
 grind
def DU{g:aL}{r:cB}(C:cy g=true)(D:(r.aB.length:Int)=aQ g)(E:0 <= r.aS/\r.aS <= 2)(F:r.aB.all (vX g)=true)(I:r.aS=2 -> (r.aB.all λb=>!b.open_)=true):n8 g r=true:=by
 simp only[n8,aH,fI,bq,dA,bne_iff_ne]
 grind
def aeF{g:aL}{r:cB}{c:aC}(I:n8 g r=true)(F:dU g c=true)(D:mT r c=true):n8 g (fG r c)=true:=by
 have⟨C,hlen,U,E,Y⟩:=uf I;have⟨_,L,hb,_⟩:=IY F;have Z:=fE C;have O:c.kind=1 -> 0 <= c.row/\c.row <= g.rows-1:=by
  intro h;simp[dU,aH]at F;have:=F.2.2.2.1;rw[sF,h]at this
  simpa [bq]using this
 rcases kinds L with h|h|h|h|h|h|h|h|h
 ·have e:fG r c=⟨r.aB.set c.az.toNat ⟨true,c.row⟩,r.aS⟩:=by simp[fG,h]
  have T:r.aS=0:=by simp[mT,h]at D;exact D.1
  rw[e];exact DU C (by simpa using hlen) (by omega) (UA E (by simp only[vX,aH,bq];exact⟨O h,by simp⟩)) (λe=>by simp only at e;omega)
 ·have e:fG r c=r:=by simp[fG,h]
  simp_all
 ·have e:fG r c=r:=by simp[fG,h]
  simp_all
 ·have e:fG r c=⟨r.aB.set c.az.toNat ⟨false,0⟩,r.aS⟩:=by simp[fG,h]
  have T:r.aS=0:=by simp[mT,h]at D;exact D.1
  rw[e];exact DU C (by simpa using hlen) (by omega) (UA E (by simp only[vX,aH,bq];exact⟨by omega,by simp⟩)) (λe=>by simp only at e;omega)
 ·have e:fG r c=r:=by simp[fG,h]
  simp_all
 ·have e:fG r c=⟨r.aB,1⟩:=by simp[fG,h]
  rw[e];exact DU C hlen (by simp) E (λe=>by simp at e)
 ·have e:fG r c=⟨r.aB,0⟩:=by simp[fG,h]
  rw[e];exact DU C hlen (by simp) E (λe=>by simp at e)
 ·have e:fG r c=⟨r.aB,2⟩:=by simp[fG,h]
  rw[e];exact DU C hlen (by simp) E (λ_=>by simp[mT,h]at D;simpa using D.2)
 ·have e:fG r c=⟨r.aB,0⟩:=by simp[fG,h]
  rw[e];exact DU C hlen (by simp) E (λe=>by simp at e)
def ug(n k:Nat):aa Int:=List.replicate k (-1)++List.replicate (n-k) 0
def asT{n k:Nat}(h:k<=n):(ug n k).length=n:=by
 unfold ug;simp;omega
def asU{n k:Nat}(h:k<n):(ug n k).set k (-1)=ug n (k+1):=by
 obtain⟨m,rfl⟩:∃m,n=k+1+m:=⟨n-k-1,by omega⟩
 unfold ug;rw[show k+1+m-k=m+1 by omega,show k+1+m-(k+1)=m by omega,List.set_append_right _ _ (by simp),lI,Nat.sub_self,List.replicate_succ,List.replicate_succ',List.append_assoc];rfl
def asW(n:Nat):ug n 0=List.replicate n 0:=by simp[ug]
def asX(n:Nat):ug n n=List.replicate n (-1):=by simp[ug]
def aeG(n:Nat)(C:n<1073741824):Gi (n:Int)=some (List.replicate n (-1)):=by
 have e:=dn (step:=Gh) n (λi=>((n,(),i,()),(ug n i,()))) _ big (λk h=>by
  have hl:=asT (show k <= n by omega);unfold Gh ay xG xL;dsimp only;rw[aV,aj,aD ⟨by omega,by omega⟩,aD,bG,bH,asU h]) (by
  unfold Gh ay xG xL;dsimp only;rw[bh,au]) (bM)
 unfold Gi aZ;rw[bJ ⟨by omega,by omega,by omega⟩];rw[asW,asX]at e;simp_all
def NV(g:aL):dJ:=⟨List.replicate (9*(aQ g+1)).toNat (-1),[]⟩
def asY{g:aL}(C:cy g=true):LJ g=some (NV g):=by
 have hb:=fy g;obtain⟨n,D⟩:∃n:Nat,9*(aQ g+1)=n:=⟨(9*(aQ g+1)).toNat,by omega⟩
 unfold LJ NV;rw[DG,aq,C,bR,au,mO,aq,w9,D,aeG n (by omega),aq,bH]
def asZ(g:aL)(r:dJ)(e:fR):(sG g r e).last.length=r.last.length/\(r.bf.length <= 4 -> (sG g r e).bf.length <= 4):=by
 unfold sG;cases (ku g r&&(dU g e.cmd&&(aJ e.at_ 0 1000000 && !(e.cmd.kind==1&&DT r e.at_))))with
 |false=>simp_all
 | true=>
  refine⟨by simp,λh=>?_⟩
  cases e.cmd.kind==1 with
  |false=>exact h
  | true=>
   simp[aj,IZ,List.length_drop,iH,hU];omega
def NW(x:dy):Prop:=(x.weights.length<=1048576)
def ok9(n:Int):Bool:=aJ n 0 1000000000
def flt(l:aa Int):aa UInt8:=(l.map λn=>32::Lib.itoa n).flatten
def txt(w:ByteArray)(l:aa Int):ByteArray:=⟨(w.data.toList++flt l).toArray⟩
def fin(a:iK)(w:ByteArray)(ns:aa Int):ByteArray×Bool:=bif ns.all ok9 then (bif a.request.write then ((txt w ns++ByteArray.mk #[32])++sD a.request.data,true)else (txt w ns,true))else (ByteArray.mk #[],false)
def place(l:aa aP)(id:Int):Int:=match l.findIdx? (λr=>r.id==id)with
 |some i=>(i:Int)
 |none=>-1
def gB(g:aL)(a:aG):Nat:=(vU g a).toNat
def I0{g:aL}{a:aG}(h:cZ g a=true):vU g a=(gB g a:Int)/\(gB g a:Int)<dW g:=by
 have:=adG h;unfold gB;omega
def fe.lt{g:aL}{B:Int}{a:dh}(C:fe g B a){at_:aG}(h:cZ g at_=true):gB g at_<a.cells.length:=by
 have:=I0 h;have:=C.cells;omega
def fe.Bl{g:aL}{B:Int}{a:dh}(C:fe g B a)(k:Nat){c:bV}(D:Sy c.symbols):fe g B ⟨a.cells.set k c,a.bD,a.bz⟩:=
 ⟨by simp[C.cells],Sy.bE C.syms D,C.bD,C.bz,C.IK,C.kX⟩
def q7(R row:Int):aa Int:=(bif decide (0<row)then [row-1]else [])++(bif decide (row<R-1)then [row+1]else [])
def as0{R row:Int}(I:2<=R)(L:R<=16)(O:0<=row)(T:row<R):Ix R row=some (q7 R row):=by
 unfold Ix q7 xA xZ;have C:aJ R 2 16=true:=by rw[bq];omega
 have D:aJ row 0 (R-1)=true:=by rw[bq];omega
 rw[eN,aq,C,aR (n:=R-1),eN,aR (n:=row-1),aR (n:=row+1)];by_cases E:0<row<;>by_cases F:row<R-1<;>simp[D,E,F,aT]
def as1{R row:Int}(D:0 <= row)(E:row<R):∀ n∈q7 R row,0 <= n/\n<R:=by
 intro n C;unfold q7 at C
 grind
def as2(y:Int):0 <= bits .and .i64 y 15/\bits .and .i64 y 15 <= 15:=by
 have e:bits .and .i64 y 15=IntKind.wrap .i64 ((BitVec.ofInt 64 y &&& BitVec.ofInt 64 15).toNat):=rfl;have h:(BitVec.ofInt 64 y &&& BitVec.ofInt 64 15).toNat <= 15:=by
  exact Nat.le_trans Nat.and_le_right (by decide)
 rw[e,IntKind.wrap_i64];omega
def aeH{n:Int}(C:0 <= n)(D:n<18446744073709551616):IntKind.u64.wrap n=n:=by
 have:IntKind.u64.wrap n=n % 18446744073709551616:=rfl
 grind
def as3{s:ByteArray}{i:Nat}(h:i<s.size)(C:i<s.data.toList.length):s[i]=s.data.toList[i]:=by
 rw[Array.getElem_toList];rfl
def pv(x k:Nat):Nat:=x / 2 ^ (32-4*k)
def as4{x:Nat}(C:x<4294967296){j:Nat}(h:j<8):dg (x:Int) j=((x / 2 ^ (28-4*j) % 16:Nat):Int):=by
 have e:(x:Int).fdiv (2 ^ (28-4*j))=((x / 2 ^ (28-4*j):Nat):Int):=by
  rw[Int.fdiv_eq_ediv_of_nonneg _ (Int.pow_nonneg (by omega))];simp
 have hl:x / 2 ^ (28-4*j)<=x:=Nat.div_le_self _ _;unfold dg;rw[e];generalize x / 2 ^ (28-4*j)=q at hl;rw[agp _ (by omega) (by omega),bH]
def as5{x k:Nat}(h:k<8):pv x (k+1)=16*pv x k+x / 2 ^ (28-4*k) % 16:=by
 unfold pv;have C:32-4*(k+1)=28-4*k:=by omega
 have D:2 ^ (32-4*k)=2 ^ (28-4*k)*16:=by
  rw[show 32-4*k=(28-4*k)+4 by omega,Nat.pow_add]
 rw[C,D,<-Nat.div_div_eq_div_mul];generalize x / 2 ^ (28-4*k)=q;omega
def as6:∀ d:Nat,d<16->SC (ByteArray.mk #[48,49,50,51,52,53,54,55,56,57,97,98,99,100,101,102]) ((UInt8.ofNat (DL (d:Int)).toNat).toNat:Int)=some (d:Int):=by
 decide +kernel
def as7{x k:Nat}(h:k<8)(C:k<(oH (x:Int)).size):(oH (x:Int))[k]'C = UInt8.ofNat (DL (dg (x:Int) k)).toNat:=by
 have D:k<(oH (x:Int)).data.toList.length:=C;have e:(oH (x:Int)).data.toList=(vV (x:Int) 8).map λn=>UInt8.ofNat n.toNat:=by
  unfold oH strOfNums;simp
 rw[as3 C D];simp only[e,List.getElem_map,vV,jt]
def as8{x:Int}(C:0<=x)(E:x<=4294967295):Lz (sD x)=some (x,true):=by
 obtain⟨n,rfl⟩:=ff C;have D:n<4294967296:=by omega
 have F:sD (n:Int)=oH (n:Int):=by
  unfold sD;rw[bq.2 ⟨C,E⟩];rfl
 have I:(oH (n:Int)).size=8:=by
  unfold oH;rw[NG,Ug]
 rw[F];have e:=dn (step:=Ga) 8 (λi=>((oH (n:Int),(pv n i:Int),(i:Int),()),())) (.inr (.inl (((n:Int),()),()))) big (λk h=>by
  have U:pv n k<268435456:=by
   unfold pv;refine Nat.div_lt_of_lt_mul ?_;have:16<=2 ^ (32-4*k):=Nat.le_trans (by decide:16<=2 ^ 4) (Nat.pow_le_pow_right (by omega) (by omega));omega
  have L:n / 2 ^ (28-4*k) % 16<16:=Nat.mod_lt _ (by omega);unfold Ga ay aY xG;dsimp only;rw[aV,aj,aD ⟨by omega,by omega⟩];have O:=as7 (x:=n) h (show k<(oH (n:Int)).size by omega);simp only[bH];rw[O,as4 D h,as6 _ L,aq,bh,au,show (2:Int) ^ (min (4:Int).toNat IntKind.i64.bits)=16 from rfl,aR,agq _ _ (by omega) (by omega) (by omega) (by omega),bG,as5 h];rfl) (by
  unfold Ga ay aY xG;dsimp only;rw[bh,au];have:pv n 8=n:=by simp[pv]
  rw[this]) (bM)
 have T:pv n 0=0:=by
  unfold pv;exact Nat.div_eq_of_lt D
 rw[cH,T,cH]at e;unfold Lz bO;rw[show (((oH (n:Int)).size:Int) != 8)=false by rw[I];rfl,au];exact(bu (λo=>Option.bind o _) e).trans rfl
def as9{b:aa Int}{c:bA}(F:iS b c):Dr b (As c) λx=>0<=x/\x<=4294967295:=by
 unfold As;rw[F.eq]
 refine(dY F 4).bind λx T U E=>?_
 dsimp only;rw[E.eta];cases hb:(x==(0:Int))with
 | true=>
  rw[aj]
  refine(IL E _ (by decide)).bind λy I D C=>?_
  dsimp only;rw[C.eta];refine Dr.pure C ?_;simp only[fH,List.not_mem_nil,or_false]at D;omega
 | false=>
  rw[au];cases Y:(x==(1:Int))with
  | true=>
   rw[aj]
   refine(dY E 200).bind λy I D C=>?_
   dsimp only;rw[C.eta];have:=D.2.2 (by omega);exact Dr.pure C ⟨D.1,by omega⟩
  | false=>
   rw[au]
   refine(dY E 65536).bind λy I D C=>?_
   dsimp only;rw[C.eta]
   refine(dY C 65536).bind λz Z L O=>?_
   dsimp only;rw[O.eta];have h1:=D.2.2 (by omega);have h2:=L.2.2 (by omega);have h3:=D.1;have h4:=L.1;rw[aR (n:=y*65536),aR (n:=y*65536+z)];exact Dr.pure O ⟨by omega,by omega⟩
def okB(C s1 s2 i:Nat):Bool:=!Nat.beq C 0&&(Nat.beq (gm C (pw i)) s1&&Nat.beq (gm s1 (pw i)) s2)
def loc(C s1 s2:Nat):ah Nat:=(List.range 11).find? (okB C s1 s2)
def ata:((List.range 11).all λn=>CW 2 (Int.ofNat n)==some (Int.ofNat (pw n)))=true:=by kernel_rfl
def I1{n:Nat}(h:n<11):CW 2 (n:Int)=some (pw n:Int):=eq_of_beq (bW.1 ata n (eJ.2 h))
def atb:((List.range 11).all λi=>(List.range 3).all λj=>Nat.beq (gm (pw (i*j)) (pw i)) (pw (i*(j+1))))=true:=by kernel_rfl
def atc{i j:Nat}(hi:i<11)(C:j<3):gm (pw (i*j)) (pw i)=pw (i*(j+1)):=cv (bW.1 (bW.1 atb i (eJ.2 hi)) j (eJ.2 C))
def sH(w:aa Nat)(i:Nat):aa Int:=[(bP w 0 i:Int),(bP w 1 i:Int),(bP w 2 i:Int)]
def UB(w:aa Nat)(i:Nat):Nat->aa Int
 |0=>[(bP w 0 i:Int),(bP w 1 i:Int),(bP w 2 i:Int)]
 |1=>[(bP w 0 (i+1):Int),(bP w 1 i:Int),(bP w 2 i:Int)]
 |2=>[(bP w 0 (i+1):Int),(bP w 1 (i+1):Int),(bP w 2 i:Int)]
 |_=>[(bP w 0 (i+1):Int),(bP w 1 (i+1):Int),(bP w 2 (i+1):Int)]
def atd{w:aa Nat}(L:dj w)(hl:w.length=11){i:Nat}(hi:i<11):iter CX big ((aW w,(),(i:Int),(1:Int),(pw i:Int),(0:Int),()),(sH w i,()))=some (.inl ((aW w,(),(i:Int),()),(sH w (i+1),()))):=by
 have I:i<(aW w).length:=by rw[gX];omega
 have O:(aW w)[i]=((w.getD i 0:Nat):Int):=tY I;have T:=L.get i;have C:∀ j,bits .xor .i64 ((bP w j i:Nat):Int) ((gm (w.getD i 0) (pw (i*j)):Nat):Int)=((bP w j (i+1):Nat):Int):=λj=>by
  rw[qU (tZ w j i) (fN _ _)];rfl
 have D:=λj=>IG T (sA (i*j))
 have E:∀ j,j<3 -> sk ((pw (i*j):Nat):Int) ((pw i:Nat):Int)=some ((pw (i*(j+1)):Nat):Int):=λj F=>by
  rw[IG (sA (i*j)) (sA i),atc hi F]
 generalize aW w=W at *
 generalize w.getD i 0=c at *
 have e:=dn (step:=CX) 3 (λj=>((W,(),(i:Int),(pw (i*j):Int),(pw i:Int),(j:Int),()),(UB w i j,()))) (.inl ((W,(),(i:Int),()),(sH w (i+1),()))) big (λj F=>by
  have D:=D j;have E:=E j F;have C:=C j;generalize pw (i*j)=d at D E C ⊢;unfold CX ay xG xI xL;rcases(by omega:j=0 \/ j=1 \/ j=2)with rfl|rfl|rfl<;>simp[UB,I,O,D,E,C]<;>rfl) (by unfold CX ay xG xI xL;simp[UB,sH]) (bM)
 have U:pw (i*0)=1:=by rw[Nat.mul_zero];rfl
 rw[cH,U]at e;exact e
def ate{w:aa Nat}(C:dj w)(hl:w.length=11):LW (aW w)=some (sH w 11):=by
 have D:=(IM C hl).ok;unfold LW aZ;rw[Ny _ _ (by rw[gX];omega),D,aq];have e:=dn (step:=GG) 11 (λi=>((aW w,(),(i:Int),()),(sH w i,()))) (.inl (((),()),(sH w 11,()))) big (λi hi=>by
  have E:i<w.length:=by omega
  unfold GG ay xG aZ;simp (disch:=omega) [gX,E,I1 hi,atd C hl hi,bG]) (by unfold GG ay xG aZ;simp[ hl]) (bM)
 rw[cH]at e;have F:(List.replicate (3:Int).toNat (0:Int))=sH w 0:=rfl;simp_all
def mU(w:aa Nat):Bool:=Nat.beq (bP w 0 11) 0&&(Nat.beq (bP w 1 11) 0&&Nat.beq (bP w 2 11) 0)
def gC(w:aa Nat):aa Nat×Int×Int:=bif mU w then (w,0,-1)else match loc (bP w 0 11) (bP w 1 11) (bP w 2 11)with
 |some k=>(w.set k (w.getD k 0 ^^^ bP w 0 11),1,(k:Int))
 |none=>(w,2,-1)
def NX(n m:Nat):((n:Int)==(m:Int))=Nat.beq n m:=by
 cases h:Nat.beq n m with
 |true=>simp_all
 | false=>
  have:n≠m:=by rintro rfl;simp at h
  grind
def atf{C s1 s2:Nat}(h:loc C s1 s2=none):∀ i,i<11 -> okB C s1 s2 i=false:=by
 intro i hi;have:=List.find?_eq_none.1 h i (eJ.2 hi);simp_all
def aeI{D s1 s2 k:Nat}(h:loc D s1 s2=some k):k<11/\okB D s1 s2 k=true /\ ∀ i,i<k -> okB D s1 s2 i=false:=by
 refine⟨eJ.1 (List.mem_of_find?_eq_some h),List.find?_some h,λi hi=>?_⟩
 have⟨I,l1,l2,E,L⟩:=List.find?_eq_some_iff_append.1 h;have O:l1.length=k/\l1=List.range k:=by
  have C:(List.range 11)[l1.length]?=some k:=by rw[E];simp
  have F:l1.length<11:=by have:=bu List.length E;simp at this;omega
  rw[List.getElem?_range F]at C;injection C with C;refine⟨C,?_⟩;have T:(List.range 11).take l1.length=l1:=by rw[E];simp
  grind
 simp_all
def atg{w:aa Nat}(O:dj w)(hl:w.length=11):LX (aW w)=some (aW (gC w).1,(gC w).2.1,(gC w).2.2):=by
 have hs:=(IM O hl).ok;have ho:aT w.length=true:=cq;have Y:∀n:Nat,((n:Int)==(0:Int))=Nat.beq n 0:=λn=>NX n 0
 have Z:=tZ w 0 11;have DV:=tZ w 1 11;unfold LX CY xA bO xZ xI;rw[Ny _ _ (by rw[gX];omega),hs,aq,ate O hl];have e0:CY (sH w 11)=some (mU w):=by
  unfold CY mU xI;cases h1:Nat.beq (bP w 0 11) 0<;>cases h2:Nat.beq (bP w 1 11) 0<;>simp[sH,Y,h1,h2]
 have E:∀i (h:i<(aW w).length),(aW w)[i]=((w.getD i 0:Nat):Int):=λi h=>tY h
 have D:∀ k,(aW w).set k (bits .xor .i64 ((w.getD k 0:Nat):Int) ((bP w 0 11:Nat):Int))=aW (w.set k (w.getD k 0 ^^^ bP w 0 11)):=λk=>by
  rw[qU (O.get k) Z,T7]
 have hlen:(aW w).length=11:=by rw[gX,hl]
 unfold CY xI at e0;unfold gC mU at *
 simp only[bR,au,aq];rw[e0,aq,cq (by simp[hlen])];cases hz:(Nat.beq (bP w 0 11) 0&&(Nat.beq (bP w 1 11) 0&&Nat.beq (bP w 2 11) 0))with
 |true=>simp
 | false=>
  simp only[au,aj,List.nil_append];unfold sH;generalize hW:aW w=W at E D hlen ⊢;generalize hg0:bP w 0 11=C at *
  generalize hg1:bP w 1 11=s1 at *
  generalize JJ:bP w 2 11=s2 at *
  have step:∀ i:Nat,i<11->AA (((),(),(i:Int),()),(W,[(C:Int),(s1:Int),(s2:Int)],()))=some (bif okB C s1 s2 i then .inr (.inl (((),1,(i:Int),()),(aW (w.set i (w.getD i 0 ^^^ C)),())))else .inl (((),(),((i+1:Nat):Int),()),(W,[(C:Int),(s1:Int),(s2:Int)],()))):=by
   intro i hi;have dV:i<W.length:=by omega
   have F:(i:Int)<11:=by omega
   have T:=IG Z (sA i);have m2:=IG DV (sA i);have E:=E i dV;have D:=D i;generalize w.getD i 0=c at E D ⊢;generalize aW (w.set i (c ^^^ C))=R at D ⊢;unfold AA okB ay aY xG xL;have I:((C:Int) != (0:Int)) = !Nat.beq C 0:=by rw[bne,Y]
   cases L:Nat.beq C 0 with
   |true=>simp (disch:=omega) [F,I1 hi,I,L,bG]
   | false=>
    cases U:Nat.beq (gm C (pw i)) s1 with
    |false=>simp (disch:=omega) [F,I1 hi,I,L,T,NX,U,bG]
    | true=>
     cases q2:Nat.beq (gm s1 (pw i)) s2 with
     |false=>simp (disch:=omega) [F,I1 hi,I,L,T,m2,NX,U,q2,bG]
     |true=>simp (disch:=omega) [F,I1 hi,I,L,T,m2,NX,U,q2,dV,E,D]
  cases J3:loc C s1 s2 with
  | none=>
   have hn:=atf J3;have e:=dn (step:=AA) 11 (λi=>(((),(),(i:Int),()),(W,[(C:Int),(s1:Int),(s2:Int)],()))) (.inr (.inl (((),()),(W,())))) big (λi hi=>by rw[step i hi,hn i hi];rfl) (by unfold AA ay aY xG xL;simp) (bM);rw[cH]at e;rw[e];simp only[Option.bind_some,Sum.elim_inr,eR];rw[hW]
  | some k=>
   obtain⟨hk,gV,hlo⟩:=aeI J3;have e:=dn (step:=AA) k (λi=>(((),(),(i:Int),()),(W,[(C:Int),(s1:Int),(s2:Int)],()))) (.inl (((),1,(k:Int),()),(aW (w.set k (w.getD k 0 ^^^ C)),()))) big (λi hi=>by rw[step i (by omega),hlo i hi];rfl) (by rw[step k hk,gV];rfl) (bM);rw[cH]at e;rw[e];rfl
def I2{w:aa Nat}(C:dj w)(hl:w.length=11):(gC w).1.length=11/\dj (gC w).1/\((gC w).2.1=0 \/ (gC w).2.1=1 \/ (gC w).2.1=2):=by
 have D:=tZ w 0 11;unfold gC;cases mU w with
 |true=>simp_all
 | false=>
  cases loc _ _ _ with
  |none=>simp_all
  |some k=>exact⟨by simp[hl],C.set (kq (C.get k) D),.inr (.inl rfl)⟩
def ath:(jL λa=>(List.range 11).all λk=>Nat.beq (gm (gm a (pw k)) (pw k)) (gm a (pw (k*2))))=true:=by kernel_rfl
def ati{w:aa Nat}(I:dj w)(hl:w.length=11)(h:(gC w).2.1≠2):mU (gC w).1=true:=by
 unfold gC at h ⊢;cases L:mU w with
 |true=>grind
 | false=>
  rw[L,au]at h;simp only[au];cases O:loc (bP w 0 11) (bP w 1 11) (bP w 2 11)with
  |none=>grind
  | some k=>
   have⟨E,C,_⟩:=aeI O;have D:=tZ w 0 11;simp only[okB,aH]at C;have F:=cv C.2.1;have T:=cv C.2.2;have u:=λj=>adW I hl D E j
   have U:gm (bP w 0 11) (pw (k*0))=bP w 0 11:=by rw[Nat.mul_zero];exact arp D
   have Y:gm (bP w 0 11) (pw (k*2))=bP w 2 11:=by
    rw[<- cv (bW.1 (iy ath D) k (eJ.2 E)),F,T]
   simp only[mU,aH];rw[u 0,u 1,u 2,U,Nat.mul_one,F,Y,Nat.xor_self,Nat.xor_self,Nat.xor_self];exact⟨rfl,rfl,rfl⟩
def DW(x:gH):Prop:=NW x.bU/\NW x.next
def aeJ(x:cB):Prop:=(x.aB.length<=1048576)
def atj(x:dJ):Prop:=(x.last.length<=1048576)/\(x.bf.length<=1048576)
def UC(x:bV):Prop:=(x.symbols.length<=1048576)
def NY(x:dh):Prop:=(x.cells.length<=1048576/\∀y∈x.cells,UC y)/\(x.bD.length<=1048576)/\(x.bz.length<=1048576)
def atk(x:dc):Prop:=(x.map.length<=1048576)
def Bm(x:cW):Prop:=(x.aO.length<=1048576)
def kz(x:cg):Prop:=(x.rows.length<=1048576)/\(x.counts.length<=1048576)
def dw(x:ak):Prop:=DW x.box/\aeJ x.aU/\atj x.ready/\NY x.array/\atk x.spare/\Bm x.aX/\(x.bI.length<=1048576/\∀y∈x.bI,kz y)/\(x.guard.length<=1048576)/\(x.pending.length<=1048576)/\(x.queue.length<=1048576)/\(x.shares.length<=1048576)/\(x.errors.length<=1048576)/\(x.trace.length<=1048576)/\(x.bY.length<=1048576)
def lu(c:eH)(p:dy):Bool:=(qP c p).getD false
def I3(c:eH)(p:dy)(hl:p.weights.length<1073741823):qP c p=some (lu c p):=by
 obtain⟨b,e,_⟩:=Uq c p hl;unfold lu;rw[e];rfl
def aeK(c:eH)(p:dy)(hl:p.weights.length<1073741823):Aw c p=some (lu c p):=by
 have⟨b,e,C,_⟩:=asa c p hl;unfold lu;simp_all
def ba1(a x:Bool):(bif a then some x else some false)=some (a&&x):=by cases a<;>rfl
def ba2(a x:Bool):(bif !a then some false else some x)=some (a&&x):=by cases a<;>rfl
def ba3(a b:Int)(x:Bool):(bif a != b then some false else some x)=some (a==b&&x):=by
 rw[bne];cases a==b<;>rfl
theorem ba4(p:Prop)[Decidable p](x:Bool):(bif decide p then some false else some x)=some (!decide p&&x):=by cases decide p<;>rfl
def dx(c:ak):Bool:=
 lu c.config c.box.bU&&(lu c.config c.box.next&&(aJ c.now 0 1000000&&(n8 c.config.av c.aU&&(ku c.config.av c.ready&&(oG c.config.av c.array&&(jo c.config.av c.spare&&(c.spare.bC==c.config.bC&&((eO c.aX&&q6 c)&&(gZ (dW (dS c.config.av c.spare)) c.queue&&(gu c.shares&&((c.shares.length:Int)==4&&(l7 c.drain&&(jM c.aS&&(c.aS.state==c.aU.aS&&(!decide (c.aS.since > c.now)&&(aJ c.cJ.every 1 100000&&(aJ c.cJ.wait 1 c.cJ.every&&(aJ c.cJ.next 0 (W6 (dW c.config.av-1))&&(kZ c.errors&&(decide ((c.trace.length:Int)<=2000)&&decide ((c.bY.length:Int)<=400)))))))))))))))))))))
def atl(c:ak)(C:dw c):A5 c=some (dx c):=by
 have⟨⟨D,z2⟩,z3,⟨z4,z5⟩,⟨⟨O,E⟩,T,U⟩,z9,F,⟨Y,Z⟩,z12,oa,lz,mV,z16,z17,z18⟩:=C;unfold NW at D z2;have I:∀ x∈c.array.cells,x.symbols.length<1073741824:=λx L=>by
  have:=E x L;unfold UC at this;omega
 unfold Bm at F;unfold A5 dx;simp only[I3 _ _ (show c.box.bU.weights.length<1073741823 by omega),I3 _ _ (show c.box.next.weights.length<1073741823 by omega),eN,asb,ass,arG _ _ I,aes,asC _ (show c.aX.aO.length<1073741824 by omega),Uv,T4,asg _ _ (show c.queue.length<1073741824 by omega),IQ _ (show c.shares.length<1073741824 by omega),aeg,ash,asl _ (show c.errors.length<1073741824 by omega),aq,ba1,ba2,ba3,ba4]
def atm{g:aL}{a:dh}(h:oG g a=true):cy g=true/\(a.bD.length:Int)=fV g/\(a.bz.length:Int)=fV g:=by
 simp[oG,aH,fY]at h;simp_all
def aeL(p:dy):Prop:=(0<=p.eV/\p.eV<=1)/\(0<=p.cap/\p.cap<=200)/\(0<=p.low/\p.low<=2)/\(p.low<p.high/\p.high<=6)/\(∃(i:Nat) (w:Int),i<4/\1<=w/\w<=4/\p.weights=[1,1,1,1].set i w)/\(5<=p.dQ.down/\p.dQ.down<=24)/\(60<=p.dQ.sleep/\p.dQ.sleep<=119)
def vZ(p:dy):Prop:=aeL p/\8<=p.eK/\p.eK<=17
def atn{b:aa Int}{c:bA}(L:iS b c):Dr b (MR c) aeL:=by
 unfold MR xL;rw[L.eq];show Dr b (Option.bind (some _) _) _;rw[aq]
 refine(dY L 2).bind λx1 k1 O T=>?_
 dsimp only;rw[T.eta]
 refine(IL T _ (by decide)).bind λU k2 h2 Y=>?_
 dsimp only;rw[Y.eta]
 refine(dY Y 6).bind λx3 k3 Z r4=>?_
 dsimp only;rw[r4.eta]
 refine(dY r4 3).bind λC k4 D tG=>?_
 dsimp only;rw[tG.eta]
 refine(dY tG 4).bind λE k5 h5 Ag=>?_
 dsimp only;rw[Ag.eta]
 refine(dY Ag 4).bind λx6 k6 h6 I4=>?_
 dsimp only;rw[I4.eta]
 refine(dY I4 4).bind λx7 k7 h7 I5=>?_
 have a1:=O.2.2 (by omega);have a3:=Z.2.2 (by omega);have a4:=D.2.2 (by omega);have a5:=h5.2.2 (by omega);have a6:=h6.2.2 (by omega);have a7:=h7.2.2 (by omega);have b3:=Z.1;have b4:=D.1;have b5:=h5.1;have b6:=h6.1;have b7:=h7.1;have hl:x6.toNat<([1,1,1,1]:aa Int).length:=by simp only[kB,List.length_nil];omega
 dsimp only;rw[aD ⟨b6,hl⟩,aD hl,I5.eta]
 refine(dY I5 20).bind λF k8 h8 hk8=>?_
 dsimp only;rw[hk8.eta]
 refine(dY hk8 60).bind λI k9 h9 Bk=>?_
 dsimp only;rw[Bk.eta];have a8:=h8.2.2 (by omega);have a9:=h9.2.2 (by omega);have b8:=h8.1;have b9:=h9.1;rw[aR (n:=3+x3),aR (n:=C+1),aR (n:=C+1+E),aR (n:=1+x7),aR (n:=5+F),aR (n:=60+I)];simp only[fH,List.not_mem_nil,or_false]at h2;refine Dr.pure Bk ⟨⟨O.1,by show x1<=_;omega⟩,⟨by show 0<=U;omega,by show U<=_;omega⟩,⟨D.1,by show C<=_;omega⟩,⟨by show C<C+1+E;omega,by show C+1+E<=_;omega⟩,⟨x6.toNat,1+x7,by omega,by omega,by omega,rfl⟩,⟨by show 5<=5+F;omega,by show 5+F<=_;omega⟩,⟨by show 60<=60+I;omega,by show 60+I<=_;omega⟩⟩
def aeM{b:aa Int}{c:bA}(C:iS b c):Dr b (HP c) vZ:=by
 unfold HP;rw[C.eq]
 refine(atn C).bind λL O I D=>?_
 dsimp only;rw[D.eta]
 refine(dY D 10).bind λE T U F=>?_
 dsimp only;rw[F.eta];rw[aR];exact Dr.pure F ⟨I,by show 8 <= 8+E;omega,by show 8+E <= _;omega⟩
def ato{b:aa Int}{c:bA}(C:iS b c):Dr b (LA c) λg=>g.bX=1/\1<=g.aB/\g.aB<=2/\1<=g.aK/\g.aK<=2:=by
 unfold LA;rw[C.eq]
 refine(dY C 2).bind λD Y E F=>?_
 dsimp only;rw[F.eta]
 refine(dY F 3).bind λZ k2 I L=>?_
 dsimp only;rw[L.eta]
 refine(dY L 2).bind λO k3 T U=>?_
 dsimp only;rw[U.eta];have a1:=E.2.2 (by omega);have a2:=I.2.2 (by omega);have a3:=T.2.2 (by omega);have b1:=E.1;have b2:=I.1;have b3:=T.1;rw[aR,aR,aR];exact Dr.pure U ⟨rfl,by show 1<=1+D;omega,by show 1+D<=_;omega,by show 1<=1+O;omega,by show 1+O<=_;omega⟩
def atp{b:aa Int}{c:bA}(C:iS b c):Dr b (LC c) λm=>0 <= m.order/\m.order <= 2:=by
 unfold LC;rw[C.eq]
 refine(dY C 3).bind λF L I D=>?_
 rw[D.eta]
 refine(NA D 2).bind λO T U E=>?_
 rw[E.eta];exact Dr.pure E ⟨I.1,by show F <= 2;omega⟩
def UD(iJ wr:Int):cV:=⟨3,3,7,2,3,10,2,3,iJ,wr,4,5,4,12,3,4,16⟩
def NZ(g:aL):Prop:=(1<=g.bX/\g.bX<=2)/\(1<=g.aB/\g.aB<=2)/\(4<=g.rows/\g.rows<=6)/\(1<=g.aK/\g.aK<=2)
def uh(x:eH):Prop:=NZ x.av/\(∃r w:Int,1<=r/\r<=4/\4<=w/\w<=8/\x.bN=UD r w)/\(0<=x.mapping.order/\x.mapping.order<=2)/\(0<=x.bC/\x.bC<=2)/\(200<=x.interval/\x.interval<=259)/\x.ic=16/\x.ew=⟨6*x.interval,40⟩
def atq{b:aa Int}{c:bA}(I:iS b c):Dr b (LD c) uh:=by
 unfold LD;rw[I.eq]
 refine(ato I).bind λg kg hg L=>?_
 dsimp only;rw[L.eta];obtain⟨g1,g2,g3,g4,g5⟩:=hg;show Dr b (Option.bind (some _) _) _;rw[aq]
 refine(atp L).bind λm km O T=>?_
 dsimp only;rw[T.eta]
 refine(dY T 60).bind λC k1 U Y=>?_
 dsimp only;rw[Y.eta]
 refine(dY Y 3).bind λD k2 Z vr=>?_
 dsimp only;rw[vr.eta]
 refine(dY vr 2).bind λE k3 h3 r4=>?_
 dsimp only;rw[r4.eta]
 refine(dY r4 3).bind λx4 k4 h4 tG=>?_
 dsimp only;rw[tG.eta]
 refine(NA tG 3).bind λx5 k5 h5 F=>?_
 dsimp only;rw[F.eta];have a1:=U.2.2 (by omega);have a2:=Z.2.2 (by omega);have a3:=h3.2.2 (by omega);have a4:=h4.2.2 (by omega);have b1:=U.1;have b2:=Z.1;have b3:=h3.1;have b4:=h4.1;have e1:W6 (200+C)=200+C:=aR;have e2:W6 (6*(200+C))=6*(200+C):=aR;have e3:W6 (4+D)=4+D:=aR;have e4:W6 (1+E)=1+E:=aR;rw[e1,e2,e3,e4];have hG:NZ ⟨1+E,g.aB,4+D,g.aK⟩:=⟨⟨by show 1<=1+E;omega,by show 1+E<=2;omega⟩,⟨g2,g3⟩,⟨by show 4<=4+D;omega,by show 4+D<=6;omega⟩,⟨g4,g5⟩⟩
 cases x5 with
 | true=>
  rw[aj]
  refine(dY F 5).bind λx6 k6 h6 I4=>?_
  dsimp only;rw[I4.eta]
  refine(dY I4 4).bind λx7 k7 h7 I5=>?_
  dsimp only;rw[I5.eta];have a6:=h6.2.2 (by omega);have a7:=h7.2.2 (by omega);have b6:=h6.1;have b7:=h7.1;rw[aR (n:=1+x7),aR (n:=4+x6)];exact Dr.pure I5 ⟨hG,⟨1+x7,4+x6,by omega,by omega,by omega,by omega,rfl⟩,O,⟨b4,by show x4<=2;omega⟩,⟨by show 200<=200+C;omega,by show 200+C<=259;omega⟩,rfl,rfl⟩
 |false=>exact Dr.pure F ⟨hG,⟨3,6,by omega,by omega,by omega,by omega,rfl⟩,O,⟨b4,by show x4<=2;omega⟩,⟨by show 200<=200+C;omega,by show 200+C<=259;omega⟩,rfl,rfl⟩
def gL(p:aP->Bool)(q:aa aP):Nat:=(q.findIdx? p).getD q.length
def aeN(p:aP -> Bool)(q:aa aP):gL p q <= q.length:=by
 unfold gL;cases h:q.findIdx? p with
 |none=>simp_all
 | some k=>
  have⟨C,_⟩:=nh.1 h
  grind
def v7(p:aP->Bool)(q:aa aP)(r:aP):aa aP:=(q.take (gL p q)++[r])++q.drop (gL p q)
def atr(p:aP->Bool)(q:aa aP)(r:aP):(v7 p q r).length=q.length+1:=by
 have:=aeN p q;simp[v7];omega
def att{p:aP -> Bool}{q:aa aP}{i:Nat}(h:i<gL p q)(hi:i<q.length):p q[i]=false:=by
 unfold gL at h;cases C:q.findIdx? p with
 |none =>simp_all
 | some k=>
  rw[C]at h;have⟨_,_,D⟩:=nh.1 C;simp_all
def atu{p:aP -> Bool}{q:aa aP}(h:gL p q<q.length):p q[gL p q]=true:=by
 unfold gL at h;cases C:q.findIdx? p with
 |none=>grind
 | some k=>
  have⟨D,E,_⟩:=nh.1 C;have e:gL p q=k:=by unfold gL;rw[C];rfl
  simp_all
def atv{n:Int}{l:aa aP}(h:gZ n l=true){i j:Nat}(E:i<j)(D:j<l.length):(l[i].id==l[j].id)=false:=by
 unfold gZ at h;rw[aH,bW]at h;have C:=h.1 j (eJ.2 D);unfold p6 at C;rw[bQ D]at C;simp at C;have:=C.2.2 l[i] (iI.2 ⟨i,by simp;omega,by simp⟩);simp_all
def Bn(n:Int)(q:aa aP)(r:aP):aa aP×Bool:=bif gZ n q&&gZ n (v7 (λx=>fF r x) q r)then (v7 (λx=>fF r x) q r,true)else (q,false)
def aeO(r:aP):(⟨r.id,r.dB,r.line,r.write,r.data,r.at_⟩:aP)=r:=rfl
def lA(r:aP)(q:aa aP)(i:Nat):aa aP:=if gL (λx=>fF r x) q<i then (q.take (gL (λx=>fF r x) q)++[r])++(q.take i).drop (gL (λx=>fF r x) q)else q.take i
def aeP(r:aP)(q:aa aP)(i:Nat)(h:i <= q.length):(lA r q i).length <= i+1:=by
 unfold lA
 grind
def atw{r:aP}{q:aa aP}{k:Nat}(C:k<q.length)(h:k=gL (λx=>fF r x) q):lA r q (k+1)=(q.take k++[r])++[q[k]]:=by
 unfold lA;rw[bJ,<- h,tX,List.drop_left' (by simp;omega)]
def atx{r:aP}{q:aa aP}{k:Nat}(C:k<q.length)(h:gL (λx=>fF r x) q<k):lA r q (k+1)=lA r q k++[q[k]]:=by
 unfold lA;rw[bJ,bJ h,tX C,List.drop_append_of_le_length (by simp;omega)];simp_all
def aty{r:aP}{q:aa aP}{k:Nat}(C:k<q.length)(h:k<gL (λx=>fF r x) q):lA r q (k+1)=lA r q k++[q[k]]:=by
 unfold lA;rw[bx,bx,tX C]
def atz(n:Int)(q:aa aP)(r:aP)(hl:q.length<1000000000):LR n q r=some (Bn n q r):=by
 have T:=aeN (λx=>fF r x) q;unfold LR xA aZ xZ;have e:=dn (step:=Gr) q.length (λi=>((n,q,(),(),decide (gL (λx=>fF r x) q<i),(i:Int),()),((r.id,r.dB,r.line,r.write,r.data,r.at_,()),lA r q i,()))) (.inl ((n,q,(),(),decide (gL (λx=>fF r x) q<q.length),()),((r.id,r.dB,r.line,r.write,r.data,r.at_,()),lA r q q.length,()))) big (λk h=>by
  have F:=aeP r q k (by omega);unfold Gr ay xG xI;dsimp only;rw[aV (show (k:Int)<(q.length:Int) by omega),aj];by_cases c:gL (λx=>fF r x) q<k
  ·rw[aV c,bR,au,aD ⟨by omega,by omega⟩];simp only[bH];rw[cq (by simp;omega),aj,bG,atx h c,aV (show gL _ q<k+1 by omega)]
  ·rw[bh c,ju,aj,aD ⟨by omega,by omega⟩];simp only[bH];rw[aeO,aek,aq];by_cases I:k=gL (λx=>fF r x) q
   ·have C:fF r q[k]=true:=by
     have:=atu (p:=λx=>fF r x) (q:=q) (by omega);simp_all
    have D:lA r q k=q.take k:=by unfold lA;rw[bx c]
    rw[C,aj,cq (by simp;omega),aj,aD ⟨by omega,by omega⟩,cq (by simp;omega),aj,bG,aV (show gL _ q<k+1 by omega),atw h I,D]
   ·have C:=att (p:=λx=>fF r x) (by omega) h;rw[C,au,aD ⟨by omega,by omega⟩,cq (by simp;omega),aj,bG,bh (show ¬ gL _ q<k+1 by omega),aty h (by omega)]) (by
  unfold Gr ay xG xI;dsimp only;rw[bh,au]) (bM)
 have D:lA r q 0=[]:=by
  unfold lA;simp[*]
 rw[cH,D,bh (show ¬ gL (λx=>fF r x) q<0 by omega)]at e;rw[e,aq];simp only[eR];have U:=atr (λx=>fF r x) q r;have E:∀l:aa aP,l.length<1073741824 -> aT (([]:aa aP).length+l.length)=true:=λl h=>cq (by simpa using h)
 have key:∀ o:aa aP,o=v7 (λx=>fF r x) q r -> ((vG n q).bind λL=>bif (!L)then bif aT (([]:aa aP).length+q.length)then some ((([]:aa aP)++q),false)else none else (vG n o).bind λO=>bif (!O)then bif aT (([]:aa aP).length+q.length)then some ((([]:aa aP)++q),false)else none else some (o,true))=some (Bn n q r):=by
  rintro o rfl;rw[ael,aq];unfold Bn;cases Y:gZ n q with
  |false=>rw[ju,aj,E q (by omega)];rfl
  | true=>
   rw[bR,au,ael,aq,cM];cases C:gZ n (v7 (λx=>fF r x) q r)with
   |false=>rw[ju,aj,E q (by omega)];rfl
   |true=>rfl
 have F:=aeP r q q.length (c9 _);by_cases c:gL (λx=>fF r x) q<q.length
 ·rw[aV c,bR];refine key _ ?_;unfold lA v7;simp[*]
 ·rw[bh c,ju,aj,cq (by simp only[hU];omega),aj,aeO];refine key _ ?_;unfold lA v7;have:gL (λx=>fF r x) q=q.length:=by omega
  rw[bx c,this,kC,List.drop_length,List.append_nil]
abbrev atA:=((af×af×af×Int×af)×(ak×(Int×Int×Int×Int×Int×Int×Int×Int×Int×Int×Int×Int×Int×Int×Int×Int×Int×Int×Int×Int×Int×Int×Bool×Int×Int×Int×Int×Int×Int×Int×Int×Int×Int×af×Int×Int×Int×Int×Int×Int×Int×af×Int×Int×Bool×Int×af×Int×af×af×af×af×af×Int×af×af×Int×Bool×(aa cg)×(aa Int)×(aa aG)×(aa aP)×(aa ct)×Bool×Int×Int×Int×Int×Int×Int×Int×Int×(aa bT)×(aa fR)×(aa fm)×af)×(aa cg)×(aa Int)×(aa Int)×(aa ep)×(aa Int)×(aa Int)×(aa bV)×(aa Int)×(aa Int)×(aa Int)×(aa Int)×af))
def lC{α:Type}(l:aa α)(h:l.length<=1048577:=by omega):aT (([]:aa α).length+l.length)=true:=cq (by simp;omega)
def atB(t:cg)(h:kz t):Is t=some t:=by
 unfold Is xA xZ;have C:=h.1;have D:=h.2;rw[lC _,lC _];rfl
def aeQ(t:cg)(h:kz t):Hl t=some t:=atB t h
def atC(s:atA)(T:aa cg)(C:s.1.2.2.2.1=0)(D:s.2.2.2.1=[])(E:s.2.2.1.2.2.2.2.2.2.2.2.2.2.2.2.2.2.2.2.2.2.2.2.2.2.2.2.2.2.2.2.2.2.2.2.2.2.2.2.2.2.2.2.2.2.2.2.2.2.2.2.2.2.2.2.2.2.2.2.2.2.1=T)(F:T.length<=1048576/\∀ y∈T,kz y):iter Dm big s=some (.inl (((),(),(),()),(s.2.1,s.2.2.1,T,s.2.2.2.2))):=by
 subst E;have e:=dn (step:=Dm) (s.2.2.1.2.2.2.2.2.2.2.2.2.2.2.2.2.2.2.2.2.2.2.2.2.2.2.2.2.2.2.2.2.2.2.2.2.2.2.2.2.2.2.2.2.2.2.2.2.2.2.2.2.2.2.2.2.2.2.2.2.2.1).length (λi=>(((),(),(),(i:Int),()),(s.2.1,s.2.2.1,(s.2.2.1.2.2.2.2.2.2.2.2.2.2.2.2.2.2.2.2.2.2.2.2.2.2.2.2.2.2.2.2.2.2.2.2.2.2.2.2.2.2.2.2.2.2.2.2.2.2.2.2.2.2.2.2.2.2.2.2.2.2.1).take i,s.2.2.2.2))) (.inl (((),(),(),()),(s.2.1,s.2.2.1,s.2.2.1.2.2.2.2.2.2.2.2.2.2.2.2.2.2.2.2.2.2.2.2.2.2.2.2.2.2.2.2.2.2.2.2.2.2.2.2.2.2.2.2.2.2.2.2.2.2.2.2.2.2.2.2.2.2.2.2.2.2.1,s.2.2.2.2))) big (λk h=>by
  unfold Dm ay xG xI;dsimp only;rw[aV,aj,aD ⟨by omega,by omega⟩];simp only[bH];rw[aeQ _ (F.2 _ (cR _)),aq,cq (by simp;omega),aj,bG,tX h]) (by
  unfold Dm ay xG xI;dsimp only;rw[bh,au,kC]) (bM)
 have I:s=(((),(),(),((0:Nat):Int),()),(s.2.1,s.2.2.1,(s.2.2.1.2.2.2.2.2.2.2.2.2.2.2.2.2.2.2.2.2.2.2.2.2.2.2.2.2.2.2.2.2.2.2.2.2.2.2.2.2.2.2.2.2.2.2.2.2.2.2.2.2.2.2.2.2.2.2.2.2.2.1).take 0,s.2.2.2.2)):=by
  rw[List.take_zero,<-D,cH,<-C]
 rw[<-e,<-I]
def atD(b:gH)(h:DW b):Nc b=some b:=by
 have C:b.bU.weights.length <= 1048576:=h.1;have D:b.next.weights.length <= 1048576:=h.2
 unfold Nc Nb xA xZ;rw[lC _,aj,lC _];rfl
def UE(b:gH)(h:DW b):GB b=some b:=atD b h
def atE(c:ak)(D:dw c):MO c=some c:=by
 obtain⟨E,F,I,C,L,O,T,Y,Z,jm,mW,z12,oa,lz⟩:=D;have y2:c.aU.aB.length<=1048576:=F;obtain⟨y3,y3'⟩:=I;have y5:c.spare.map.length<=1048576:=L;have y6:c.aX.aO.length<=1048576:=O;unfold MO xA aZ xZ;rw[UE _ E,aq];unfold Tu su HI AN xA xZ;rw[lC _,aj,aq,lC _,aj,lC _,aj,aq,arF _ (by have:=C.1.1;omega) (by have:=C.2.1;omega) (by have:=C.2.2;omega) (λx U=>by have:x.symbols.length<=1048576:=C.1.2 x U;omega),aq,lC _,aj,aq,lC _,aj,aq]
 refine(bu (λo=>Option.bind o _) (atC _ c.bI rfl rfl rfl T)).trans ?_
 rw[aq];simp only[eR];rw[lC c.guard,aj,lC c.pending,aj,lC c.queue,aj,lC c.shares,aj,lC c.errors,aj,lC c.trace,aj,lC c.bY,aj];rfl
def eP{α:Type}(p:α->Bool)(q:aa α):Nat:=(q.findIdx? p).getD q.length
def Bo{α:Type}(p:α -> Bool)(q:aa α):eP p q <= q.length:=by
 unfold eP;cases h:q.findIdx? p with
 |none=>simp_all
 | some k=>
  have⟨C,_⟩:=nh.1 h
  grind
def sI{α:Type}{p:α -> Bool}{q:aa α}{i:Nat}(h:i<eP p q)(hi:i<q.length):p q[i]=false:=by
 unfold eP at h;cases C:q.findIdx? p with
 |none =>simp_all
 | some k=>
  rw[C]at h;have⟨_,_,D⟩:=nh.1 C;simp_all
def v8{α:Type}{p:α -> Bool}{q:aa α}(h:eP p q<q.length):p q[eP p q]=true:=by
 unfold eP at h;cases C:q.findIdx? p with
 |none=>grind
 | some k=>
  have⟨D,E,_⟩:=nh.1 C;have e:eP p q=k:=by unfold eP;rw[C];rfl
  simp_all
def UF{α:Type}(p:α -> Bool)(q:aa α):q.any p=decide (eP p q<q.length):=by
 by_cases c:eP p q<q.length
 ·rw[aV c,List.any_eq_true];exact⟨_,cR c,v8 c⟩
 ·rw[bh c,List.any_eq_false];intro x C;obtain⟨i,hi,rfl⟩:=iI.1 C;rw[sI (p:=p) (by omega) hi];simp
def atF(c:ak)(r:aP):aP:=⟨r.id,r.dB,r.line,r.write,r.data,c.now⟩
def lD(c:ak)(r:aP):aa aP×Bool:=Bn (dW (dS c.config.av c.spare)) c.queue (atF c r)
def q8(c:ak)(r:aP):ak×Bool:=bif (!dx c) ||((!(lD c r).2) ||(c.bY.any λx=>x.id==r.id))then (c,false)else ({ c with queue:=(lD c r).1 },true)
def atG(c:ak)(h:dx c=true):dW ⟨c.config.av.bX,c.config.av.aB,W6 (c.config.av.rows-c.config.bC),c.config.av.aK⟩=dW (dS c.config.av c.spare):=by
 simp only[dx,aH,fI]at h;obtain⟨_,_,_,_,_,_,C,D,_⟩:=h;unfold dS;rw[C,aj,D]
def atH(c:ak)(r:aP)(h:c.queue.length <= 1048576):(lD c r).1.length <= 1048576:=by
 unfold lD Bn;cases C:(gZ _ _&&gZ _ _)with
 |false=>exact h
 | true=>
  rw[aj];rw[aH]at C;have:=C.2;unfold gZ at this
  grind
def atI(c:ak)(r:aP)(C:dw c):dw (q8 c r).1:=by
 unfold q8;cases hb:((!dx c) ||((!(lD c r).2) ||(c.bY.any λx=>x.id==r.id)))with
 |true=>exact C
 | false=>
  have⟨D,z2,z3,z4,z5,E,F,I,z9,L,O,z12,T,U⟩:=C;exact⟨D,z2,z3,z4,z5,E,F,I,z9,atH c r L,O,z12,T,U⟩
def I6(c:ak)(r:aP):Bool×ak:=bif (c.bY.any λx=>x.id==r.id)then (false,c)else bif (lD c r).2 then (true,{ c with queue:=(lD c r).1 })else (false,c)
def atJ(c:ak)(r:aP)(C:dw c)(D:dx c=true):LS c r=some ((I6 c r).1,((I6 c r).2,())):=by
 obtain⟨F,I,L,O,T,U,Y,Z,z9,jm,mW,z12,oa,lz⟩:=C;have hk:=Bo (λx:fm=>x.id==r.id) c.bY;unfold LS I6 bO;rw[UF];have e:=dn (step:=Gs) (eP (λx:fm=>x.id==r.id) c.bY) (λi=>(((),(),(),(i:Int),()),(c,(r.id,r.dB,r.line,r.write,r.data,r.at_,()),(c.config.av.bX,c.config.av.aB,(W6 (c.config.av.rows-c.config.bC)),c.config.av.aK,()),()))) (if eP (λx:fm=>x.id==r.id) c.bY<c.bY.length then .inl ((false,()),(c,()))else .inr (.inl (((),(),(),()),(c,(r.id,r.dB,r.line,r.write,r.data,r.at_,()),(c.config.av.bX,c.config.av.aB,(W6 (c.config.av.rows-c.config.bC)),c.config.av.aK,()),())))) big (λk h=>by
  have E:=sI h (by omega);unfold Gs ay aY xG xL;dsimp only;rw[aV,aj,aD ⟨by omega,by omega⟩,aD];simp only[bH];rw[E,au,bG]) (by
  unfold Gs ay aY xG xL;dsimp only;by_cases k:eP (λx:fm=>x.id==r.id) c.bY<c.bY.length
  ·rw[aV,aj,aD ⟨by omega,by omega⟩,aD,bJ k];simp only[bH];rw[v8 k,aj]
  ·rw[bh,au,bx k]) (bM)
 rw[cH]at e;rw[e,aq];by_cases k:eP (λx:fm=>x.id==r.id) c.bY<c.bY.length
 ·rw[bJ k,aV k,eR];rfl
 ·rw[bx k,bh k,Sum.elim_inr,eR,A9,aq];dsimp only;rw[atG c D,atz _ _ _ (by omega),aq];show (bif (lD c r).2 then some ((lD c r).2,({ c with queue:=(lD c r).1 },()))else some ((lD c r).2,(c,())))=_;cases (lD c r).2<;>rfl
def UG(c:Int):ByteArray:=bif c==1 then ByteArray.mk #[102,105,120,101,100]else ByteArray.mk #[108,111,115,116]
def oc(e:bT):ByteArray:=((((gY e.line++(ByteArray.mk #[58]))++UG e.code)++(ByteArray.mk #[120]))++gY e.times)
def Bp(e:bT):Prop:=(-9223372036854775808<=e.line/\e.line<=9223372036854775807)/\(-9223372036854775808<=e.times/\e.times<=9223372036854775807)
def atK(c:Int):(UG c).size<=5:=by
 unfold UG;cases (c==1)<;>exact cr rfl
def aeR{e:bT}(h:Bp e):(oc e).size<=49:=by
 have s1:=qZ h.1.1 h.1.2;have s2:=qZ h.2.1 h.2.2;have s3:=atK e.code;unfold oc;simp only[qY];have C:(ByteArray.mk #[58]).size=1:=rfl;have D:(ByteArray.mk #[120]).size=1:=rfl;omega
def sJ(l:aa bT):aa (aa UInt8):=l.map λe=>(oc e).data.toList
def we(l:aa bT):aa UInt8:=Lib.join (sJ l) [32]
def aeS{l:aa bT}(h:∀ e∈l,Bp e):(we l).length<=50*l.length:=by
 have key:∀ l:aa bT,(∀ e∈l,Bp e)->(((sJ l).map (· ++ [(32:UInt8)])).flatten).length<=50*l.length:=by
  intro l
  induction l with
  |nil=>intro _;simp[sJ]
  | cons e l F=>
   intro h;have D:(oc e).data.toList.length<=49:=aeR (h e (.head _));have E:=F λx I=>h x (.tail _ I)
   have C:((sJ (e::l)).map (· ++ [(32:UInt8)])).flatten=(oc e).data.toList++[32]++((sJ l).map (· ++ [(32:UInt8)])).flatten:=by simp[sJ]
   rw[C];simp only[iH,kB,List.length_nil];omega
 rcases List.eq_nil_or_concat l with rfl|⟨xs,x,rfl⟩
 ·simp[we,sJ,Lib.join]
 ·rw[List.concat_eq_append]at h ⊢;unfold we;have C:sJ (xs++[x])=sJ xs++[(oc x).data.toList]:=by simp[sJ]
  rw[C,Uf];have D:(oc x).data.toList.length<=49:=aeR (h x (by simp));have E:=key xs λy L=>h y (by simp[L])
  rw[iH,iH,hU];refine Nat.le_trans (Nat.add_le_add E D) ?_;omega
def Bq(l:aa bT):ByteArray:=bif (l.length:Int)==0 then ByteArray.mk #[110,111,110,101]else ⟨(we l).toArray⟩
def atM{l:aa bT}{i:Nat}(h:i<l.length):l.take (i+1)=l.take i++[l[i]]:=List.take_succ_eq_append_getElem h
def aeT(l:aa bT)(hl:l.length<=1048576)(hb:∀ e∈l,Bp e):Dp l=some (Bq l):=by
 suffices g:Gv (λy=>y=Bq l) (Dp l) by
  obtain⟨y,e,rfl⟩:=g;exact e
 unfold Dp Bq aZ;cases T:((l.length:Int)==0)with
 |true=>exact Gv.pure rfl
 | false=>
  rw[au,au]
  refine Gv.loop l.length (λi x=>x=(((),l,(l.length:Int),(i:Int),()),((l.take i).map oc,()))) rfl (bM) ?_
  rintro i hi x rfl;have U:(ByteArray.mk #[58]).size=1:=rfl;have Y:(ByteArray.mk #[120]).size=1:=rfl;have Z:(ByteArray.mk #[102,105,120,101,100]).size=5:=rfl;have c4:(ByteArray.mk #[108,111,115,116]).size=4:=rfl;unfold Ty ay xG xI;dsimp only
  refine Gv.cond (λh=>?_) (λh=>?_)
  ·have h:i<l.length:=by simp at h;omega
   have C:=hb _ (cR h);have s1:=qZ C.1.1 C.1.2;have s2:=qZ C.2.1 C.2.2;have E:∀ b,(l[i].code==1)=b->oc l[i]=((((gY l[i].line++(ByteArray.mk #[58]))++(bif b then ByteArray.mk #[102,105,120,101,100]else ByteArray.mk #[108,111,115,116]))++(ByteArray.mk #[120]))++gY l[i].times):=by
    rintro b rfl;rfl
   have fin:(l.take (i+1)).map oc=(l.take i).map oc++[oc l[i]]:=by rw[atM h,jP];rfl
   have F:aT (((l.take i).map oc).length+1)=true:=cq (by simp;omega);refine Gv.IN ⟨by omega,by omega⟩ ?_;simp only[bH]
   refine Gv.cond (λD=>?_) (λD=>?_)
   ·rw[E _ D,aj]at fin;rw[uc C.1.1 C.1.2,aq,cq,aj,cq (by simp only[qY];omega),aj,cq (by simp only[qY];omega),aj,uc C.2.1 C.2.2,aq,cq (by simp only[qY];omega),aj,
     hU,F,aj]
    exact Gv.pure ⟨h,by rw[bG,fin]⟩
   ·rw[E _ D,au]at fin;rw[uc C.1.1 C.1.2,aq,cq,aj,cq (by simp only[qY];omega),aj,cq (by simp only[qY];omega),aj,uc C.2.1 C.2.2,aq,cq (by simp only[qY];omega),aj,
     hU,F,aj]
    exact Gv.pure ⟨h,by rw[bG,fin]⟩
  ·refine Gv.pure ?_;have hi:i=l.length:=by simp at h;omega
   subst hi;rw[kC];simp only[eR,Sum.elim_inr];have I:Lib.join ((l.map oc).map (·.data.toList)) [32]=we l:=by
    unfold we sJ;rw[List.map_map];rfl
   have L:pW (l.map oc) (ByteArray.mk #[32])=some ⟨(we l).toArray⟩:=by
    have D:=aeS hb;unfold pW;rw[show (ByteArray.mk #[32]).data.toList=[32]from rfl,I,aV (by simp;omega),aV];rfl
   exact Gv.bind (Q:=λy=>y=⟨(we l).toArray⟩) ⟨_,L,rfl⟩ λy O=>Gv.pure O
def en(c:ak)(a:dh):ak:=⟨c.config,c.box,c.now,c.aU,c.ready,a,c.spare,c.aX,c.bI,c.guard,c.pending,c.queue,c.shares,c.drain,c.aS,c.cJ,c.errors,c.trace,c.bY⟩
def yP:bV:=⟨[],false⟩
def I7(d:bV):bV:=⟨(d.symbols.set 0 (bits .xor .i64 (d.symbols.getD 0 0) 5)).set 1 (bits .xor .i64 (d.symbols.getD 1 0) 10),d.ia⟩
def oJ(base:Nat):Nat->aa bV->aa bV
 |0,cs=>cs
 |n+1,cs=>(oJ base n cs).set (base+n) (I7 ((oJ base n cs).getD (base+n) yP))
def N0(base:Nat):∀ (n:Nat) (cs:aa bV),(oJ base n cs).length=cs.length
 |0,_=>rfl
 | n+1,cs=>by
  show ((oJ base n cs).set _ _).length=_;rw[js,N0]
def atO{d:bV}(h:Sy d.symbols):Sy (I7 d).symbols:=by
 have C:0<d.symbols.length:=by rw[h.1];omega
 have l1:1<d.symbols.length:=by rw[h.1];omega
 have F:d.symbols.getD 0 0=d.symbols[0]:=by rw[fQ,bQ C];rfl
 have I:d.symbols.getD 1 0=d.symbols[1]:=by rw[fQ,bQ l1];rfl
 have D:=Ua (h.get (k:=0) C) (b:=5) ⟨by omega,by omega⟩;have E:=Ua (h.get l1) (b:=10) ⟨by omega,by omega⟩;unfold I7;rw[F,I];exact(h.set ⟨D.1,D.2.1⟩).set ⟨E.1,E.2.1⟩
def UH{base:Nat}:∀ (n:Nat) {cs:aa bV},base+n <= cs.length -> (∀ c∈cs,Sy c.symbols) -> ∀ c∈oJ base n cs,Sy c.symbols
 |0,cs,_,h=>h
 | n+1,cs,hl,h=>by
  have C:=UH (base:=base) n (by omega) h;have hlen:=N0 base n cs;refine Sy.bE C (atO ?_)
  grind
def yQ(g:aL)(l:lM)(a:dh)(b r:Int):dh:=
 ⟨bif DH l a (b*g.rows+r).toNat then oJ ((b*g.rows+r)*g.aK).toNat g.aK.toNat a.cells else a.cells,a.bD.set (b*g.rows+r).toNat 0,Be g.rows r (b*g.rows+r).toNat a.bz⟩
def UI{g:aL}(C:cy g=true){b r k:Int}(E:0 <= b)(F:b<aQ g)(I:0 <= r)(L:r<g.rows)(O:0 <= k)(T:k<g.aK):0 <= (b*g.rows+r)*g.aK/\(b*g.rows+r)*g.aK+k<dW g/\0 <= b*g.rows+r/\b*g.rows+r<fV g:=by
 have er:aQ g*g.rows=fV g:=by simp[fV,C]
 have⟨Y,U,D⟩:=yG E F I L;rw[er]at D;have⟨Z,q1,q2⟩:=yG U D O T;have el:fV g*g.aK=dW g:=by simp[fV,dW,C]
 simp_all
def UJ{g:aL}(D:cy g=true)(l:lM){B:Int}(hB:0 <= B){a:dh}(C:fe g B a){b r:Int}(E:0 <= b)(F:b<aQ g)(I:0 <= r)(L:r<g.rows):fe g B (yQ g l a b r):=by
 have⟨_,_,_,_,g5,g6,g7,g8⟩:=fE D;have O:((b*g.rows+r)*g.aK).toNat+g.aK.toNat <= a.cells.length:=by
  have:=UI D E F I L (show 0 <= g.aK-1 by omega) (by omega);have:=C.cells;omega
 unfold yQ;refine⟨?_,?_,by simp[C.bD],by simp[arL,C.bz],NB C.IK ⟨by omega,by omega⟩,arN C.kX⟩
 ·dsimp only;cases DH l a (b*g.rows+r).toNat with
  |false=>exact C.cells
  |true=>rw[aj,N0];exact C.cells
 ·dsimp only;cases DH l a (b*g.rows+r).toNat with
  |false=>exact C.syms
  |true=>rw[aj];exact UH _ O C.syms
def atP{g:aL}(C:cy g=true)(c:ak){b r:Int}(hc:(c.array.cells.length:Int)=dW g)(T:∀ x∈c.array.cells,Sy x.symbols)(E:0<=b)(F:b<aQ g)(I:0<=r)(L:r<g.rows):
  iter ym big (((),r,(),b*g.rows+r,(0:Int),()),(c,(g.bX,g.aB,g.rows,g.aK,()),()))=some (.inl (((),r,(),b*g.rows+r,()),(en c ⟨oJ ((b*g.rows+r)*g.aK).toNat g.aK.toNat c.array.cells,c.array.bD,c.array.bz⟩,(g.bX,g.aB,g.rows,g.aK,()),()))):=by
 obtain⟨_,_,_,_,g5,g6,g7,g8⟩:=fE C;have b1:=n6 g;have b2:=sy g;obtain⟨n,U⟩:=ff (show 0<=g.aK by omega);obtain⟨B,hB⟩:∃B,B=((b*g.rows+r)*g.aK).toNat:=⟨_,rfl⟩
 have Y:g.aK.toNat=n:=by omega
 rw[<-hB,Y];have mj:B+n<=c.array.cells.length:=by
  have:=UI C E F I L (show 0<=g.aK-1 by omega) (by omega);omega
 have e:=dn (step:=ym) n (λk=>(((),r,(),b*g.rows+r,(k:Int),()),(en c ⟨oJ B k c.array.cells,c.array.bD,c.array.bz⟩,(g.bX,g.aB,g.rows,g.aK,()),()))) (.inl (((),r,(),b*g.rows+r,()),(en c ⟨oJ B n c.array.cells,c.array.bD,c.array.bz⟩,(g.bX,g.aB,g.rows,g.aK,()),()))) big (λk hk=>by
  have UK:=UI C E F I L (show 0<=(k:Int) by omega) (by omega);have Z:W6 ((b*g.rows+r)*g.aK)=(b*g.rows+r)*g.aK:=aR;have e2:W6 ((b*g.rows+r)*g.aK+(k:Int))=((B+k:Nat):Int):=by rw[aR];omega
  have hlen:=N0 B k c.array.cells;have O:=UH k (by omega:B+k<=c.array.cells.length) T;show ym (((),r,(),b*g.rows+r,(k:Int),()),(en c ⟨oJ B k c.array.cells,c.array.bD,c.array.bz⟩,(g.bX,g.aB,g.rows,g.aK,()),()))=some (.inl (((),r,(),b*g.rows+r,((k+1:Nat):Int),()),(en c ⟨(oJ B k c.array.cells).set (B+k) (I7 ((oJ B k c.array.cells).getD (B+k) yP)),c.array.bD,c.array.bz⟩,(g.bX,g.aB,g.rows,g.aK,()),())));generalize oJ B k c.array.cells=cs at hlen O;have D:B+k<cs.length:=by omega
  have s1:=Sy.mem O D;have l1:(0:Nat)<cs[B+k].symbols.length:=by rw[s1.1];omega
  have l2:(1:Nat)<cs[B+k].symbols.length:=by rw[s1.1];omega
  have c2:decide ((k:Int)<g.aK)=true:=aV;have FR:cs.getD (B+k) yP=cs[B+k]:=by rw[fQ,bQ D];rfl
  have f0:cs[B+k].symbols.getD 0 0=cs[B+k].symbols[0]:=by rw[fQ,bQ l1];rfl
  have f1:cs[B+k].symbols.getD 1 0=cs[B+k].symbols[1]:=by rw[fQ,bQ l2];rfl
  rw[FR];unfold I7;rw[f0,f1];unfold ym en xC ay xG xL xM;dsimp only;have t0:(0:Int).toNat=0:=rfl;have t1:(1:Int).toNat=1:=rfl;have p0:(0:Int)<=0:=Int.le_refl 0;have p1:(0:Int)<=1:=by omega
  rw[c2,aj];simp only[Z,e2,bH];have cj:(0:Int)<=((B+k:Nat):Int):=by omega
  simp only[cj,D,p0,p1,t0,t1,l1,l2,and_self,dite_true,js,List.getElem_set_self,List.set_set,akR];have w:=bG (i:=k);simp only[w,List.getElem_set_ne (show (0:Nat)≠1 by decide)]) (by unfold ym xC ay xG xL xM;simp[U]) (bM)
 exact e
def aeU{x:Int}(h:0<=x/\x<=100000):(if (100000:Int)<W6 (x+1)then (100000:Int)else W6 (x+1))=qX 1 x:=by
 rw[aR (n:=x+1)];rfl
def N1(C:ak)(I D L:Int)(E:aa Int):ah (af×(ak×af)):=bif (decide (I<(W6 (L-(1:Int)))))then if U:0<=(W6 (D+(1:Int)))/\(W6 (D+(1:Int))).toNat<E.length then if O:(W6 (D+(1:Int))).toNat<E.length then (let F:=E[(W6 (D+(1:Int))).toNat]'O;if Y:0<=(W6 (D+(1:Int)))/\(W6 (D+(1:Int))).toNat<E.length then if T:(W6 (D+(1:Int))).toNat<E.length then (let Z:=E[(W6 (D+(1:Int))).toNat]'T;some ((),((⟨C.config,C.box,C.now,C.aU,C.ready,⟨C.array.cells,(C.array.bD.set D.toNat (0:Int)),(E.set (W6 (D+(1:Int))).toNat (if (100000:Int)<(W6 (F+(1:Int)))then (100000:Int)else (W6 (F+(1:Int)))))⟩,C.spare,C.aX,C.bI,C.guard,C.pending,C.queue,C.shares,C.drain,C.aS,C.cJ,C.errors,C.trace,C.bY⟩:ak),())))else none else none)else none else none else some ((),((⟨C.config,C.box,C.now,C.aU,C.ready,⟨C.array.cells,(C.array.bD.set D.toNat (0:Int)),E⟩,C.spare,C.aX,C.bI,C.guard,C.pending,C.queue,C.shares,C.drain,C.aS,C.cJ,C.errors,C.trace,C.bY⟩:ak),()))
def N2(D:ak)(E C F:Int):ah (af×(ak×af)):=if Y:0<=C/\C.toNat<D.array.bD.length then if L:C.toNat<D.array.bD.length then (let Z:=D.array.bD[C.toNat]'L;if h48:0<=C/\C.toNat<D.array.bz.length then if O:C.toNat<D.array.bz.length then (let e50:=D.array.bz[C.toNat]'O;(bif (decide (E > (0:Int)))then if h51:0<=(W6 (C-(1:Int)))/\(W6 (C-(1:Int))).toNat<(D.array.bz.set C.toNat (0:Int)).length then if T:(W6 (C-(1:Int))).toNat<(D.array.bz.set C.toNat (0:Int)).length then (let I:=(D.array.bz.set C.toNat (0:Int))[(W6 (C-(1:Int))).toNat]'T;if h54:0<=(W6 (C-(1:Int)))/\(W6 (C-(1:Int))).toNat<(D.array.bz.set C.toNat (0:Int)).length then if U:(W6 (C-(1:Int))).toNat<(D.array.bz.set C.toNat (0:Int)).length then (let Tn:=(D.array.bz.set C.toNat (0:Int))[(W6 (C-(1:Int))).toNat]'U;(N1 D E C F ((D.array.bz.set C.toNat (0:Int)).set (W6 (C-(1:Int))).toNat (if (100000:Int)<(W6 (I+(1:Int)))then (100000:Int)else (W6 (I+(1:Int)))))))else none else none)else none else none else (N1 D E C F (D.array.bz.set C.toNat (0:Int)))))else none else none)else none else none
def aeV{d:ak}{R r:Int}{i:Nat}{H:aa Int}(hl:H.length<1000000)(D:r<R-1->i+1<H.length)(E:W6 (R-1)=R-1)(F:∀ x∈H,0<=x/\x<=100000)(hi:i<1000000):N1 d r (i:Int) R H=some ((),(en d ⟨d.array.cells,d.array.bD.set i 0,bif decide (r<R-1)then bump (i+1) H else H⟩,())):=by
 have I:W6 ((i:Int)+1)=((i+1:Nat):Int):=bG;unfold N1 en;rw[E,I];simp only[bH];by_cases C:r<R-1
 ·have q:i+1<H.length:=D C;rw[aV C,aj,aj,aD ⟨by omega,q⟩,aD q,aD ⟨by omega,q⟩,aD q,aeU (F _ (cR q)),ad3 q]
 ·rw[bh C,au,au]
def aeW{d:ak}{R r:Int}{i:Nat}(E:i<d.array.bD.length)(F:i<d.array.bz.length)(hl:d.array.bz.length<1000000)(T:0<r->1<=i)(I:r<R-1->i+1<d.array.bz.length)(L:W6 (R-1)=R-1)(U:∀ x∈d.array.bz,0<=x/\x<=100000):N2 d r (i:Int) R=some ((),(en d ⟨d.array.cells,d.array.bD.set i 0,Be R r i d.array.bz⟩,())):=by
 have C:=NB U (k:=i) (v:=0) ⟨by omega,by omega⟩;have Y:(d.array.bz.set i 0).length=d.array.bz.length:=by simp
 unfold N2 Be Bd;simp only[bH];rw[aD ⟨by omega,E⟩,aD E,aD ⟨by omega,F⟩,aD F];obtain⟨H,O⟩:∃H,d.array.bz.set i 0=H:=⟨_,rfl⟩
 rw[O]at C Y;simp only[O];by_cases D:0<r
 ·have Z:=T D;have w1:W6 ((i:Int)-1)=((i-1:Nat):Int):=by rw[aR];omega
  have q:i-1<H.length:=by omega
  simp only[w1,bH];rw[aV D,aj,aj,aD ⟨by omega,q⟩,aD q,aD ⟨by omega,q⟩,aD q,aeU (C _ (cR q)),<-ad3 q];exact aeV (by rw[NC];omega) (λh=>by rw[NC];have:=I h;omega) L (Uc C) (by omega)
 ·rw[bh D,au,au];exact aeV (by omega) (λh=>by have:=I h;omega) L C (by omega)
def aeX{g:aL}(E:cy g=true)(l:lM){B:Int}(c:ak)(C:fe g B c.array){b r:Int}(F:0<=b)(I:b<aQ g)(U:0<=r)(Y:r<g.rows):Ht g l c b r=some ((),(en c (yQ g l c.array b r),())):=by
 obtain⟨_,_,_,_,g5,g6,g7,g8⟩:=fE E;have b2:=sy g;have er:aQ g*g.rows=fV g:=by simp[fV,E]
 obtain⟨r0,r1,Z⟩:=yG F I U Y;rw[er]at Z;have L:r<g.rows-1->b*g.rows+r+1<fV g:=λh=>by
  have:=(yG F I (show 0<=r+1 by omega) (show r+1<g.rows by omega)).2.2;omega
 have O:0<r->1<=b*g.rows+r:=λh=>by omega
 have a1:=C.bD;have a2:=C.bz;have e1:W6 (b*g.rows)=b*g.rows:=aR;have e2:W6 (b*g.rows+r)=b*g.rows+r:=aR;have w3:W6 (g.rows-1)=g.rows-1:=aR;have T:=atP E c C.cells C.syms F I U Y;unfold yQ;generalize oJ ((b*g.rows+r)*g.aK).toNat g.aK.toNat c.array.cells=cs at T;have hx:Ht g l c b r=(Dc g l c.array (W6 (W6 (b*g.rows)+r))).bind λy1=>bif y1 then (iter ym big (((),r,(),W6 (W6 (b*g.rows)+r),(0:Int),()),(c,(g.bX,g.aB,g.rows,g.aK,()),()))).bind (Sum.elim (λD=>N2 D.2.1 D.1.2.1 D.1.2.2.2.1 D.2.2.1.2.2.1) (λz=>nomatch z))else N2 c r (W6 (W6 (b*g.rows)+r)) g.rows:=rfl
 rw[hx,e1,e2];obtain⟨i,hi⟩:=ff r1;rw[hi]at T O L Z ⊢;rw[bH,arI g l c.array i (by omega) (by omega),aq];cases DH l c.array i with
 |false=>exact aeW (d:=c) (r:=r) (R:=g.rows) (i:=i) (by omega) (by omega) (by omega) (λh=>by have:=O h;omega) (λh=>by have:=L h;omega) w3 C.kX
 | true=>
  rw[aj,T,aq];exact aeW (d:=en c ⟨cs,c.array.bD,c.array.bz⟩) (r:=r) (R:=g.rows) (i:=i) (by show i<c.array.bD.length;omega) (by show i<c.array.bz.length;omega) (by show c.array.bz.length<_;omega) (λh=>by have:=O h;omega) (λh=>by show _<c.array.bz.length;have:=L h;omega) w3 C.kX
def atQ{c:eH}{p:dy}(hl:p.weights.length<1073741823)(h:lu c p=true):iz c.bN=true:=by
 have⟨b,e,C⟩:=Uq c p hl;have hb:b=true:=by
  rw[I3 c p hl]at e;simp_all
 have:=C hb;simp[l5,aH]at this;simp_all
def mX(i:Nat):aC:=⟨(i:Int) % 9+1,if (i:Int) % 9+1<=5 then (i:Int) / 9 else 0,0,0⟩
def yR(n m:Int):Int:=if n > m then n else m
def N3(g:aL)(t:cV)(l:aa Int)(c:aC)(m:Int)(i:Nat):Int:=match l[i]? with
 |some n=>bif decide (n<0)then m else yR (n+yN g t (mX i) c) m
 |none=>m
def wg(g:aL)(t:cV)(l:aa Int)(c:aC)(k:Nat):Int:=(List.range k).foldl (N3 g t l c) 0
def Br(g:aL)(t:cV)(r:dJ)(c:aC):Int:=
 bif c.kind==1&&(r.bf.length:Int)==4 then yR (r.bf.getD 0 0+t.mb) (wg g t r.last c r.last.length)else wg g t r.last c r.last.length
def aeY(g:aL)(t:cV)(l:aa Int)(c:aC)(k:Nat):wg g t l c (k+1)=N3 g t l c (wg g t l c k) k:=by
 unfold wg;rw[List.range_succ,List.foldl_append];rfl
def aeZ{g:aL}{t:cV}{l:aa Int}{c:aC}{m:Int}{i:Nat}(h:i<l.length):N3 g t l c m i=bif decide (l[i]<0)then m else yR (l[i]+yN g t (mX i) c) m:=by
 unfold N3;rw[bQ h]
def atT{a b C:Int}(D:a<=C)(hb:0<=b/\b<=C):0<=yR a b/\yR a b<=C:=by
 unfold yR;split<;>omega
structure N4 (g:aL) (t:cV) (r:dJ):Prop where
 Bt:cy g=true
 N5:iz t=true
 len:r.last.length<1000
 last:∀(i:Nat) (h:i<r.last.length),(-1<=r.last[i]/\r.last[i]<=1000000)/\(r.last[i] = -1\/sE g i=true)
 a4:r.bf.length<=4
 act:∀x∈r.bf,0<=x/\x<=1000000
def atU{g:aL}{t:cV}{r:dJ}(E:iz t=true)(h:ku g r=true):N4 g t r:=by
 have hb:=fy g;simp only[ku,aH,bW,eJ]at h;have⟨F,C,D,I,L⟩:=h;have C:(r.last.length:Int)=9*(aQ g+1):=by simpa using C
 have D:¬ (r.bf.length:Int) > 4:=by simpa using D
 refine⟨F,E,by omega,λi hi=>?_,by omega,λx O=>?_⟩
 ·have e:=I i hi;rw[IU hi]at e;simp only[aH,dA]at e;refine⟨bq.1 e.1,?_⟩
  grind
 ·obtain⟨i,hi,rfl⟩:=iI.1 O;have e:=L i hi;cases i with
  |zero=>rw[IV hi]at e;exact bq.1 e
  |succ i=>rw[DN hi]at e;simp at e;exact bq.1 e.1
def atV(i:Nat):1<=(mX i).kind/\(mX i).kind<=9:=by
 unfold mX;dsimp only;omega
def ae0{g:aL}{t:cV}{r:dJ}(h:N4 g t r)(c:aC):∀ k,k <= r.last.length -> 0 <= wg g t r.last c k/\wg g t r.last c k <= 1000128
 |0,_=>⟨Int.le_refl _,by show 0 <= _;omega⟩
 | k+1,D=>by
  have C:=ae0 h c k (by omega);rw[aeY,aeZ (by omega)];have E:=aeE h.N5 g (mX k) c;have hl:=(h.last k (by omega)).1;cases decide (r.last[k]<0)with
  |true=>exact C
  |false=>exact atT (by omega) C
def atW{g:aL}{t:cV}{r:dJ}{c:aC}(h:N4 g t r)(L:dU g c=true):L7 g t r c=some (Br g t r c):=by
 have hb:=λk E=>ae0 h c k E
 have T:1<=c.kind/\c.kind<=9:=by
  simp only[dU,aH]at L;exact bq.1 L.2.1
 have e:=dn (step:=GR) r.last.length (λi=>(((),(),(),(),wg g t r.last c i,(i:Int),()),((g.bX,g.aB,g.rows,g.aK,()),t,(r.last,r.bf,()),(c.kind,c.az,c.row,c.bL,()),()))) (.inl (((),(),(),wg g t r.last c r.last.length,()),(t,(r.last,r.bf,()),(c.kind,c.az,c.row,c.bL,()),()))) big (λk E=>by
  have Z:=h.len;have h2:=(h.last k E).1;have h3:=hb k (by omega);have D:=aeE h.N5 g (mX k) c;unfold GR ay xG xI;dsimp only;rw[aV,aj,aD ⟨by omega,by omega⟩,bG];simp only[bH];rw[aeY,aeZ E];cases hd:decide (r.last[k]<0)with
  |true=>rfl
  | false=>
   have F:ye g t (mX k) c=some (yN g t (mX k) c):=asK h.Bt h.N5 (atV k) T;have U:W6 ((k:Int).tmod 9+1)=(k:Int) % 9+1:=by rw[oS (by omega),aR]
   have Y:W6 ((k:Int).tdiv 9)=(k:Int) / 9:=by rw[oT (by omega),aR]
   unfold mX at F;rw[au,au,U,Y];by_cases C:(k:Int) % 9+1<=5
   ·rw[bJ C]at F;rw[aV C,aj,aD ⟨by omega,E⟩,mQ];show Option.bind (ye g t _ c) _=_;rw[F,aq,aR (n:=r.last[k]+_) (by unfold mX at D;rw[bJ C]at D;omega) (by unfold mX at D;rw[bJ C]at D;omega)];unfold mX yR;rw[bJ C]
   ·rw[bx C]at F;rw[bh C,au,aD ⟨by omega,E⟩,mQ];show Option.bind (ye g t _ c) _=_;rw[F,aq,aR (n:=r.last[k]+_) (by unfold mX at D;rw[bx C]at D;omega) (by unfold mX at D;rw[bx C]at D;omega)];unfold mX yR;rw[bx C]) (by
  unfold GR ay xG xI;dsimp only;rw[bh,au]) (bM (by have:=h.len;omega))
 rw[cH]at e;unfold L7 Br xI aZ
 refine(bu (λo=>Option.bind o _) e).trans ?_
 rw[aq];simp only[eR];have hL:=hb r.last.length (c9 _);have hf:=asR h.N5;cases c.kind==(1:Int)with
 |false=>rfl
 | true=>
  cases O:(r.bf.length:Int)==(4:Int)with
  |false=>rfl
  | true=>
   have O:(r.bf.length:Int)=4:=by simpa using O
   have I:0<r.bf.length:=by omega
   have ha:=h.act _ (cR I);rw[aj,aj,aD ⟨by omega,I⟩];show some (if W6 (r.bf[0]+t.mb) > _ then W6 (r.bf[0]+t.mb)else _)=_;rw[aR,fQ,bQ I];rfl
def gM(c:ak)(x:aC):Bool:=mT c.aU x&&(decide (Br c.config.av c.config.bN c.ready x<=1000000)&&decide (Br c.config.av c.config.bN c.ready x<=c.now))
structure Pk (c:ak):Prop where
 z:dw c
 ok:dx c=true
 rk:n8 c.config.av c.aU=true
 rdy:ku c.config.av c.ready=true
 R:N4 c.config.av c.config.bN c.ready
 bl:(c.aU.aB.length:Int)=aQ c.config.av
def Pk.of{c:ak}(C:dw c)(h:dx c=true):Pk c:=by
 have L:c.box.bU.weights.length <= 1048576:=C.1.1;have F:=h;simp[dx,aH]at h;have⟨I,O,T,D,E,U,Y,Z,h9,h10,yC,pK,vY,yO,tU,qQ,Bj,DX,DY,I8,AJ,I9⟩:=h;have hb:c.aU.aB.length=aQ c.config.av:=by
  simp[n8,aH]at D;simp_all
 exact⟨C,F,D,E,atU (atQ (by omega) I) E,hb⟩
def atX{g:aL}{x:aC}(C:dU g x=true):(1 <= x.kind/\x.kind <= 9)/\(x.kind <= 5 -> 0 <= x.az/\x.az<aQ g):=by
 simp[dU,aH]at C
 refine⟨bq.1 C.2.1,λE=>?_⟩
 have D:=C.2.2.1;rw[NU (bq.1 C.2.1),aV E]at D;have:=bq.1 D;omega
def N6{c:ak}(h:Pk c){x:aC}(C:dU c.config.av x=true):AF c x=some (gM c x):=by
 have⟨F,D⟩:=atX C;have hb:=fy c.config.av;have hl:=h.bl;unfold AF gM;rw[asH F (λE=>⟨(D E).1,by have:=D E;omega⟩) (by omega),aq,atW h.R C,aq]
 grind
def gN(i:Nat):aa Int->aa Int
 |[]=>[]
 |d::l=>bif decide (d >= 4)then (i:Int)::gN (i+1) l else gN (i+1) l
def atY(i:Nat)(a b:aa Int):gN i (a++b)=gN i a++gN (i+a.length) b:=by
 induction a generalizing i with
 |nil=>rfl
 | cons d a C=>
  rw[List.cons_append,gN,gN,C,show i+1+a.length=i+(a.length+1) by omega]
  grind
def N7(i:Nat)(l:aa Int):(gN i l).length <= l.length:=by
 induction l generalizing i with
 |nil=>exact c9 _
 | cons d l C=>
  have:=C (i+1);unfold gN
  grind
def ae1{l:aa Int}{i:Nat}(h:i<l.length):gN 0 (l.take (i+1))=bif decide (l[i] >= 4)then gN 0 (l.take i)++[(i:Int)]else gN 0 (l.take i):=by
 rw[tX h,atY,fX,Nat.min_eq_left (by omega),eS];show _++(bif decide _ then _::gN _ []else gN _ [])=_;cases decide (l[i] >= 4)with
 |true=>rfl
 |false=>exact List.append_nil _
def atZ{l:aa Int}{i:Nat}{b:Int}(h:b∈gN i l):∃ j:Nat,b=((i+j:Nat):Int)/\j<l.length/\l.getD j 0 >= 4:=by
 induction l generalizing i with
 |nil=>cases h
 | cons d l D=>
  unfold gN at h;have tl:b∈gN (i+1) l -> ∃ j:Nat,b=((i+j):Int)/\j<(d :: l).length/\(d :: l).getD j 0 >= 4:=λh=>by
   have⟨j,E,F,I⟩:=D h;exact⟨j+1,by rw[E];omega,by simpa using F,by simpa using I⟩
  cases C:decide (d >= 4)with
  | true=>
   rw[C]at h;rcases fH.1 h with rfl|h
   ·exact⟨0,rfl,by simp,by simpa using C⟩
   ·exact tl h
  |false =>grind
def wh{r:cW}(h:eO r=true):r.aO.length<=8/\1<=r.aO.length:=by
 simp only[eO,aH]at h;have:=bq.1 h.2.1;omega
def ae2{r:cW}(C:eO r=true):GA r=some (gN 0 r.aO):=by
 have hl:=wh C;unfold GA aZ;have e:=dn (step:=Gz) r.aO.length (λi=>(((),(),(i:Int),()),((r.aO,r.wait,r.ei,()),gN 0 (r.aO.take i),()))) (.inl (((),()),(gN 0 r.aO,()))) big (λi h=>by
  have D:=N7 0 (r.aO.take i);rw[fX]at D;unfold Gz ay xG xI;dsimp only;rw[aV,aj,show (⟨r.aO,r.wait,r.ei⟩:cW)=r from rfl,NM _ (by omega),aq,C,aj,aD ⟨by omega,by omega⟩,bG,ae1 h];simp only[bH];cases decide (r.aO[i] >= 4)with
  |true=>rw[aj,aj,hU,cq,aj]
  |false=>rfl) (by
  unfold Gz ay xG xI;dsimp only;rw[bh,au,kC]) (bM)
 rw[cH,List.take_zero]at e
 refine(bu (λo=>Option.bind o _) e).trans ?_
 rfl
def DZ(c:ak):Bool:=decide ((c.queue.length:Int) > 0) ||(decide ((c.pending.length:Int) > 0) ||decide (((gN 0 c.aX.aO).length:Int) > 0))
def ae3{c:ak}(C:eO c.aX=true):Ay c=some (DZ c):=by
 unfold Ay DZ;rw[ae2 C]
 grind
def yS(r:qd)(p:eU)(b:Bool):Int:=
 bif b then (bif p.state==1 then 7 else bif p.state==2 then 9 else 0)else bif p.state==0&&decide (p.idle >= r.sleep)then 8 else bif p.state==0&&decide (p.idle >= r.down)then 6 else bif p.state==1&&decide (p.idle >= r.sleep)then 7 else 0
def at0(r:qd)(p:eU)(b:Bool)(C:yI r=true)(D:jM p=true):L4 r p b=some (yS r p b):=by
 unfold L4 yS;simp[aeh,Ut,C,D,au]
 grind
def at3(r:qd)(p:eU)(b:Bool):yS r p b=0 \/ 6 <= yS r p b/\yS r p b <= 9:=by
 unfold yS
 grind
def Bu(D:Nat->Bool)(v:Nat->Int)(C:Int)(i:Nat):Int:=bif D i&&(decide (C<0) ||decide (v i > v C.toNat))then (i:Int)else C
def lE(C:Nat->Bool)(v:Nat->Int)(k:Nat):Int:=(List.range k).foldl (Bu C v) (-1)
def Ja(C:Nat->Bool)(v:Nat->Int)(k:Nat):lE C v (k+1)=Bu C v (lE C v k) k:=by
 unfold lE;rw[List.range_succ,List.foldl_append];rfl
def wj(C:Nat -> Bool)(v:Nat -> Int):∀ k,-1 <= lE C v k/\lE C v k<k
 |0=>⟨Int.le_refl _,by show (-1)<0;omega⟩
 | k+1=>by
  have D:=wj C v k;rw[Ja];unfold Bu
  grind
def UL(C:Nat -> Bool)(v:Nat -> Int):∀ k,lE C v k = -1 \/ C (lE C v k).toNat=true
 |0=>.inl rfl
 | k+1=>by
  have D:=UL C v k;rw[Ja];unfold Bu
  grind
def UM{C:Nat -> Bool}(v:Nat -> Int){i:Nat}(h:C i=true):∀ k,i<k -> 0 <= lE C v k
 |0,D=>by omega
 | k+1,D=>by
  have hb:=wj C v k;rw[Ja];unfold Bu;by_cases E:i=k
  ·grind
  ·have F:=UM v h k (by omega)
   grind
def sK(l:aa ct)(w:aa Bool):Int:=lE (λi=>w.getD i false) (λi=>(l.getD i ⟨0,0⟩).eT) (min l.length w.length)
def Jb(l:aa ct)(w:aa Bool)(hl:l.length<1073741824):It l w=some (sK l w):=by
 unfold It sK aZ;generalize L:min l.length w.length=n;have e:=dn (step:=Nh) n (λi=>((l,w,lE (λi=>w.getD i false) (λi=>(l.getD i ⟨0,0⟩).eT) i,(i:Int),()),())) (.inl ((lE (λi=>w.getD i false) (λi=>(l.getD i ⟨0,0⟩).eT) n,()),())) big (λi h=>by
  have C:i<l.length:=by omega
  have I:i<w.length:=by omega
  have hb:=wj (λi=>w.getD i false) (λi=>(l.getD i ⟨0,0⟩).eT) i;rw[Ja];generalize lE (λi=>w.getD i false) (λi=>(l.getD i ⟨0,0⟩).eT) i=D at hb;unfold Nh Bu ay xG xI;dsimp only;rw[aV,aj,aV,aj,aD ⟨by omega,by omega⟩,bG];simp only[bH,fQ,bQ I,bQ C,Option.getD_some];cases w[i]with
  |false=>rfl
  | true=>
   rw[aj,cM];by_cases E:D<0
   ·rw[aV E];rfl
   ·have F:D.toNat<l.length:=by omega
    rw[bh E,aD ⟨by omega,C⟩,aD ⟨by omega,F⟩,bQ F,Option.getD_some];cases decide (l[i].eT > l[D.toNat].eT)<;>rfl) (by
  unfold Nh ay xG xI;dsimp only;by_cases C:n<l.length
  ·rw[aV,aj,bh,au]
  ·rw[bh,au]) (bM)
 rw[cH]at e
 refine(bu (λo=>Option.bind o _) e).trans ?_
 rfl
def at4:Mh=It:=rfl
def q9(s:ct):ct:=⟨s.weight,s.weight⟩
def hJ(l:aa ct):aa ct:=l.map q9
def UN(l:aa ct)(w:aa Bool)(hl:l.length<1073741824):iter Iu big ((w,(),(l.length:Int),(0:Int),()),(l,()))=some (.inl ((w,(),()),(hJ l,()))):=by
 have e:=dn (step:=Iu) _ (λi=>((w,(),l.length,i,()),(upto q9 l i,()))) (.inl ((w,(),()),(hJ l,()))) big (λi h=>by
  have hlen:=IC q9 l i;unfold Iu ay xG xL;dsimp only;rw[aV,aj,aD ⟨by omega,by omega⟩,aD,aD ⟨by omega,by omega⟩,aD,bG];simp only[bH];rw[Ns q9 l i h,<- Nt q9 l i h];rfl) (by
  unfold Iu ay xG xL;dsimp only;rw[bh,au,Nr];rfl) (bM hl)
 exact e
def at5(l:aa ct)(w:aa Bool)(hl:l.length<1073741824):iter C9 big ((w,(),(0:Int),()),(l,()))=some (.inl ((w,(),()),(hJ l,()))):=by
 have e:=dn (step:=C9) _ (λi=>((w,(),i,()),(upto q9 l i,()))) (.inl ((w,(),()),(hJ l,()))) big (λi h=>by
  have hlen:=IC q9 l i;unfold C9 ay xG xL;dsimp only;rw[aV,aj,aD ⟨by omega,by omega⟩,aD,aD ⟨by omega,by omega⟩,aD,bG];simp only[bH];rw[Ns q9 l i h,<- Nt q9 l i h];rfl) (by
  have hlen:=IC q9 l l.length;unfold C9 ay xG xL;dsimp only;rw[bh,au,Nr];rfl) (bM hl)
 exact e
def ae4(l:aa ct)(w:aa Bool)(hl:l.length<1073741823):G3 l w=pZ l w:=by
 unfold G3 pZ xA xC aZ xL xZ xM;rw[List.nil_append,at4,Jb l w (by omega),IQ _ (by omega),aed _ (by omega),aq];rw[UN l w (by omega),at5 l w (by omega)];rfl
def UO{l:aa ct}(w:aa Bool)(hl:l.length<1073741823)(D:gu l=true)(O:l.length=w.length):∃ y t,pZ l w=some (y,t)/\y.length=l.length:=by
 unfold pZ xA xC aZ xL xM xZ;have hb:=wj (λi=>w.getD i false) (λi=>(l.getD i ⟨0,0⟩).eT) (min l.length w.length);have E:(hJ l).length=l.length:=by simp[hJ]
 have F:=wj (λi=>w.getD i false) (λi=>((hJ l).getD i ⟨0,0⟩).eT) (min (hJ l).length w.length);have I:=UL (λi=>w.getD i false) (λi=>(l.getD i ⟨0,0⟩).eT) (min l.length w.length);rw[List.nil_append,Jb l w (by omega),aq,IQ _ (by omega),aq,D,bR,au,List.length_nil,eS,cq,aj];unfold sK;generalize T:lE (λi=>w.getD i false) (λi=>(l.getD i ⟨0,0⟩).eT) (min l.length w.length)=b at *
 by_cases L:b<0
 ·simp_all
 ·have C:b.toNat<l.length:=by omega
  rw[bh L,au,aD ⟨by omega,C⟩,aD C];dsimp only;cases l[b.toNat].eT==0 with
  |false =>simp_all
  | true=>
   rw[aj,UN l w (by omega),aq];simp only[eR];rw[Jb _ w (by omega),aq];have U:0 <= sK (hJ l) w:=UM _ (i:=b.toNat) (by rcases I with h|h;exact absurd h (by omega);exact h) _ (by rw[E];omega);have Y:sK (hJ l) w<((min (hJ l).length w.length:Nat):Int):=F.2;simp_all
def yT(m:lK)(n:Int)(a:aG):aG:=bif m.hash then ⟨(a.az+a.row) % n,a.row,a.bL⟩else a
def wm(g:aL)(m:lK)(l:Int):aG:=yT m (aQ g)
 (bif m.order==0 then ⟨l / g.aK % aQ g,l / g.aK / aQ g,l % g.aK⟩else bif m.order==1 then ⟨l % aQ g,l / aQ g / g.aK,l / aQ g % g.aK⟩else ⟨l / g.aK / g.rows,l / g.aK % g.rows,l % g.aK⟩)
def D0{l a b:Int}(C:0<=l)(hb:0<b)(h:l<a*b):0<=l / b/\l / b<a/\l / b<=l:=by
 refine⟨Int.ediv_nonneg C (by omega),Int.ediv_lt_of_lt_mul hb h,?_⟩;exact Int.ediv_le_self _ C
def yU{l b:Int}(hb:0<b):0<=l % b/\l % b<b:=⟨Int.emod_nonneg _ (by omega),Int.emod_lt_of_pos _ hb⟩
def UP{m:lK}{n:Int}{a:aG}(C:0<n)(hb:0 <= a.az/\a.az<n):0 <= (yT m n a).az/\(yT m n a).az<n/\(yT m n a).row=a.row/\(yT m n a).bL=a.bL:=by
 unfold yT;cases m.hash with
 |false=>simp_all
 |true=>exact⟨(yU C).1,(yU C).2,rfl,rfl⟩
def UQ{m:lK}{n b r c:Int}(C:0<n)(D:n<=8)(E:0<=b/\b<=100000)(F:0<=r/\r<=100000):(bif m.hash then if n=0 then none else some ((⟨(W6 (b+r)).tmod n,r,c⟩:aG),true)else some ((⟨b,r,c⟩:aG),true))=some (yT m n ⟨b,r,c⟩,true):=by
 unfold yT;cases m.hash with
 |false=>rfl
 |true=>rw[aj,bx,aR,oS (by omega),aj]
def ae5{g:aL}{m:lK}{l:Int}(L:cy g=true)(hm:aJ m.order 0 2=true)(D:0<=l)(hl:l<dW g):∀ (f:ah (aG×Bool)),f=(bif (m.order==(0:Int))then if g.aK=0 then none else if g.aK=0 then none else if aQ g=0 then none else if g.aK=0 then none else if aQ g=0 then none else bif m.hash then if aQ g=0 then none else some ((⟨((W6 (((W6 (l.tdiv g.aK)).tmod (aQ g))+(W6 ((W6 (l.tdiv g.aK)).tdiv (aQ g))))).tmod (aQ g)),(W6 ((W6 (l.tdiv g.aK)).tdiv (aQ g))),(l.tmod g.aK)⟩:aG),true)else some ((⟨((W6 (l.tdiv g.aK)).tmod (aQ g)),(W6 ((W6 (l.tdiv g.aK)).tdiv (aQ g))),(l.tmod g.aK)⟩:aG),true)else bif (m.order==(1:Int))then if aQ g=0 then none else if aQ g=0 then none else if g.aK=0 then none else if aQ g=0 then none else if g.aK=0 then none else bif m.hash then if aQ g=0 then none else some ((⟨((W6 ((l.tmod (aQ g))+(W6 ((W6 (l.tdiv (aQ g))).tdiv g.aK)))).tmod (aQ g)),(W6 ((W6 (l.tdiv (aQ g))).tdiv g.aK)),((W6 (l.tdiv (aQ g))).tmod g.aK)⟩:aG),true)else some ((⟨(l.tmod (aQ g)),(W6 ((W6 (l.tdiv (aQ g))).tdiv g.aK)),((W6 (l.tdiv (aQ g))).tmod g.aK)⟩:aG),true)else if g.aK=0 then none else if g.aK=0 then none else if g.rows=0 then none else if g.aK=0 then none else if g.rows=0 then none else bif m.hash then if aQ g=0 then none else some ((⟨((W6 ((W6 ((W6 (l.tdiv g.aK)).tdiv g.rows))+((W6 (l.tdiv g.aK)).tmod g.rows))).tmod (aQ g)),((W6 (l.tdiv g.aK)).tmod g.rows),(l.tmod g.aK)⟩:aG),true)else some ((⟨(W6 ((W6 (l.tdiv g.aK)).tdiv g.rows)),((W6 (l.tdiv g.aK)).tmod g.rows),(l.tmod g.aK)⟩:aG),true))->f=some (wm g m l,true)/\cZ g (wm g m l)=true:=by
 have hb:=fy g;have hp:=ID L;have hL:=n6 g;have gb:=fE L;have eL:dW g=aQ g*g.rows*g.aK:=by simp[dW,L]
 have zk:aJ l 0 (W6 (dW g-1))=true:=by rw[aR];exact bq.2 ⟨D,by omega⟩
 have ho:=bq.1 hm;rw[eL]at hl;have Y:¬ aQ g=0:=by omega
 have rO:¬ g.aK=0:=by omega
 have jZ:¬ g.rows=0:=by omega
 rintro f rfl;simp only[bx Y,bx rO,bx jZ];unfold wm;by_cases Z:m.order=0
 ·have C:=D0 (a:=aQ g*g.rows) D (show 0<g.aK by omega) hl;have E:=D0 (l:=l / g.aK) (a:=g.rows) (b:=aQ g) C.1 (by omega) (by rw[Int.mul_comm];exact C.2.1);have O:=yU (l:=l / g.aK) (b:=aQ g) (by omega);have a4:=yU (l:=l) (b:=g.aK) (by omega);rw[Z,lJ,aj,aj,oT D,oS D,aR (n:=l / g.aK),oT C.1,oS C.1,aR (n:=l / g.aK / aQ g)];obtain⟨T,U,F,I⟩:=UP (m:=m) (n:=aQ g) (a:=⟨l / g.aK % aQ g,l / g.aK / aQ g,l % g.aK⟩) (by omega) O;refine⟨?_,vT L T U (by rw[F];exact E.1) (by rw[F];exact E.2.1) (by rw[I];exact a4.1) (by rw[I];exact a4.2)⟩;refine Eq.trans ?_ (UQ (by omega) (by omega) (by omega) (by omega));rw[bx Y]
 ·rw[sx Z,au,au];by_cases o1:m.order=1
  ·have C:=D0 (a:=g.rows*g.aK) D (show 0<aQ g by omega) (by rw[Int.mul_comm,<-Int.mul_assoc];exact hl);have E:=D0 (l:=l / aQ g) (a:=g.rows) (b:=g.aK) C.1 (by omega) C.2.1;have O:=yU (l:=l) (b:=aQ g) (by omega);have a4:=yU (l:=l / aQ g) (b:=g.aK) (by omega);rw[o1,lJ,aj,aj,oT D,oS D,aR (n:=l / aQ g),oT C.1,oS C.1,aR (n:=l / aQ g / g.aK)];obtain⟨T,U,F,I⟩:=UP (m:=m) (n:=aQ g) (a:=⟨l % aQ g,l / aQ g / g.aK,l / aQ g % g.aK⟩) (by omega) O;refine⟨?_,vT L T U (by rw[F];exact E.1) (by rw[F];exact E.2.1) (by rw[I];exact a4.1) (by rw[I];exact a4.2)⟩;refine Eq.trans ?_ (UQ (by omega) (by omega) (by omega) (by omega));rw[bx Y]
  ·have C:=D0 (a:=aQ g*g.rows) D (show 0<g.aK by omega) hl;have E:=D0 (l:=l / g.aK) (a:=aQ g) (b:=g.rows) C.1 (by omega) C.2.1;have O:=yU (l:=l / g.aK) (b:=g.rows) (by omega);have a4:=yU (l:=l) (b:=g.aK) (by omega);rw[sx o1,au,au,oT D,oS D,aR (n:=l / g.aK),oT C.1,oS C.1,aR (n:=l / g.aK / g.rows)];obtain⟨T,U,F,I⟩:=UP (m:=m) (n:=aQ g) (a:=⟨l / g.aK / g.rows,l / g.aK % g.rows,l % g.aK⟩) (by omega) ⟨E.1,E.2.1⟩;refine⟨?_,vT L T U (by rw[F];exact O.1) (by rw[F];exact O.2) (by rw[I];exact a4.1) (by rw[I];exact a4.2)⟩;refine Eq.trans ?_ (UQ (by omega) (by omega) (by omega) (by omega));rw[bx Y]
end Go.Proofs.YthmgjjfedieljaaGreatDoor
