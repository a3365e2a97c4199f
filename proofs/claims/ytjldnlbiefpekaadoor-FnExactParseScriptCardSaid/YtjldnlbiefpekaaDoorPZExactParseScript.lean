/-
  Plain laws. Nothing here is a claim.
-/
import Derived.Test.YtjldnlbiefpekaaDoorVZ
import Derived.Test.YtjldnlbiefpekaaDoorOpenV
import Derived.Test.YtjldnlbiefpekaaDoorG1
namespace Go.Proofs.YtjldnlbiefpekaaDoor
open Go.RowKit
set_option linter.unusedVariables false
set_option linter.unusedSimpArgs false
set_option maxRecDepth 100000
theorem bu{n:Int}(h1:-9223372036854775808<=n)(h2:n<9223372036854775808):IntKind.i64.wrap n=n:=by
 rw[IntKind.wrap_i64];omega
theorem Qa{α β:Type}{step:α->Option (α⊕β)}(I:α->Prop)(m:α->Nat)(Q:β->Prop)
  (h:∀ x,I x->(∃ y,step x=some (.inl y)/\I y/\m y<m x)\/∃ z,step x=some (.inr z)/\Q z):
  ∀ (n:Nat) (x:α),I x->m x<n->∃ z,iter step n x=some z/\Q z
 | 0,x,_,hm=>by omega
 | n+1,x,hx,hm=>by
  unfold iter
  rcases h x hx with ⟨y,h1,h2,h3⟩ | ⟨z,h1,h2⟩
  ·rw[h1]
   exact Qa I m Q h n y h2 (by omega)
  ·rw[h1]
   exact⟨z,rfl,h2⟩
theorem bf{α β:Type}(x:α)(f:α->Option β):(some x).bind f=f x:=rfl
theorem Qb{α β T:Type}{step:α->Option (α⊕β)}(l:List T)(q:T->Bool)(S:Nat->α)(zf z:β)(fuel:Nat)(hs:∀ k (h:k<l.length),step (S k)=some (bif q l[k]then .inl (S (k+1))else .inr zf))(hz:step (S l.length)=some (.inr z))(hf:l.length<fuel):
  iter step fuel (S 0)=some (bif l.all q then z else zf):=by
 have key:∀ (n i fuel:Nat),i+n=l.length->n<fuel->iter step fuel (S i)=some (bif (l.drop i).all q then z else zf):=by
  intro n
  induction n with
  | zero=>
   intro i fuel hi hf
   match fuel,hf with
   | f+1,_=>
    have:i=l.length:=by omega
    subst this
    unfold iter
    rw[hz]
    simp
  | succ n ih=>
   intro i fuel hi hf
   match fuel,hf with
   | f+1,hf=>
    have aW:i<l.length:=by omega
    unfold iter
    rw[hs i aW,List.drop_eq_getElem_cons aW,List.all_cons]
    cases q l[i]with
    | true=>simp only[cond_true,Bool.true_and];exact ih (i+1) f (by omega) (by omega)
    | false=>rfl
 exact key l.length 0 fuel (by omega) hf
theorem iM{α β:Type}{step:α->Option (α⊕β)}(n:Nat)(S:Nat->α)(z:β)(fuel:Nat)(hs:∀ k,k<n->step (S k)=some (.inl (S (k+1))))(hz:step (S n)=some (.inr z))(hf:n<fuel):iter step fuel (S 0)=some z:=by
 have key:∀ (m i fuel:Nat),i+m=n->m<fuel->iter step fuel (S i)=some z:=by
  intro m
  induction m with
  | zero=>
   intro i fuel hi hf
   match fuel,hf with
   | f+1,_=>
    have:i=n:=by omega
    subst this
    unfold iter
    rw[hz]
  | succ m ih=>
   intro i fuel hi hf
   match fuel,hf with
   | f+1,hf=>
    unfold iter
    rw[hs i (by omega)]
    exact ih (i+1) f (by omega) (by omega)
 exact key n 0 fuel (by omega) hf
theorem beI{x y:Int}(h:¬ x=y):(x==y)=false:=by simp[h]
theorem jG{n:Nat}(h:n<1073741824):aY n=true:=decide_eq_true h
theorem dJ{i:Nat}(h:i<4611686018427387904):IntKind.i64.wrap ((i:Int)+1)=((i+1:Nat):Int):=by
 rw[bu (by omega) (by omega)];simp
theorem dY{n:Nat}(h:n<1073741824):n<big:=by unfold big;omega
def lO(x a b:Int):Bool:=decide (a<=x)&&decide (x<=b)
theorem vh{x a b:Int}:lO x a b=true ↔ a<=x/\x<=b:=by simp[lO]
theorem Qc(x a b:Int):Bj x a b=some (lO x a b):=by
 unfold Bj lO
 by_cases h:a<=x <;>simp[h]
theorem Qd{α:Type}{l:List α}{i:Nat}(h:i<l.length):l.take (i+1)=l.take i++[l[i]]:=by
 rw[List.take_succ_eq_append_getElem h]
def Gv{γ:Type}(P:γ->Prop)(o:Option γ):Prop:=∃ y,o=some y/\P y
theorem Gv.pure{γ:Type}{P:γ->Prop}{y:γ}(h:P y):Gv P (some y):=⟨y,rfl,h⟩
theorem Gv.cond{γ:Type}{P:γ->Prop}{b:Bool}{x y:Option γ}(h1:b=true->Gv P x)(h2:b=false->Gv P y):Gv P (bif b then x else y):=by
 cases b
 ·exact h2 rfl
 ·exact h1 rfl
theorem Gv.ite{γ:Type}{P:γ->Prop}{c:Prop}[Decidable c]{x y:Option γ}(hc:c)(h:Gv P x):Gv P (if c then x else y):=by
 rw[if_pos hc];exact h
theorem Gv.ift{γ:Type}{P:γ->Prop}{c:Prop}[Decidable c]{x y:Option γ}(hc:¬ c)(h:Gv P y):Gv P (if c then x else y):=by
 rw[if_neg hc];exact h
theorem Gv.loop{α β γ:Type}{step:α->Option (α⊕β)}(n:Nat)(I:Nat->α->Prop){P:γ->Prop}{K:β->Option γ}{x:α}{fuel:Nat}(h0:I 0 x)(hf:n<fuel)(hs:∀ k,k<=n->∀ x,I k x->Gv (Sum.elim (fun y=>k<n/\I (k+1) y) (fun z=>Gv P (K z))) (step x)):Gv P ((iter step fuel x).bind K):=by
 have key:∀ (m i fuel:Nat) (x:α),i+m=n->m<fuel->I i x->Gv P ((iter step fuel x).bind K):=by
  intro m
  induction m with
  | zero=>
   intro i fuel x hi hf hx
   match fuel,hf with
   | f+1,_=>
    obtain⟨y,h1,h2⟩:=hs i (by omega) x hx
    unfold iter
    rw[h1]
    cases y with
    | inl y=>exact absurd h2.1 (by omega)
    | inr z=>exact h2
  | succ m ih=>
   intro i fuel x hi hf hx
   match fuel,hf with
   | f+1,hf=>
    obtain⟨y,h1,h2⟩:=hs i (by omega) x hx
    unfold iter
    rw[h1]
    cases y with
    | inl y=>exact ih (i+1) f y (by omega) (by omega) h2.2
    | inr z=>exact h2
 exact key n 0 fuel x (by omega) hf h0
def cy(n:Int):ByteArray:=⟨(Lib.itoa n).toArray⟩
theorem kX{a b:ByteArray}(h:a.data.toList=b.data.toList):a=b:=by
 obtain⟨⟨a⟩⟩:=a
 obtain⟨⟨b⟩⟩:=b
 have h:a=b:=h
 rw[h]
theorem oI(a b:ByteArray):(a++b).data.toList=a.data.toList++b.data.toList:=by
 rw[ByteArray.data_append,Array.toList_append]
theorem Bu(a b:ByteArray):(a++b).size=a.size+b.size:=by
 show (a++b).data.size=a.data.size+b.data.size
 rw[ByteArray.data_append,Array.size_append]
def dd(v:Nat):List UInt8:=if v=0 then []else Lib.decDigits v
theorem nK{v:Nat}(h:v≠0):dd v=dd (v / 10)++[UInt8.ofNat (48+v % 10)]:=by
 unfold dd
 rw[if_neg h,Lib.decDigits]
 by_cases hJ:v<10
 ·rw[dif_pos hJ,if_pos (by omega),Nat.mod_eq_of_lt hJ];rfl
 ·rw[dif_neg hJ,if_neg (by omega)]
theorem Jk{d:Nat}(h:d<10):Bd (d:Int)=some (48+(d:Int)):=by
 unfold Bd
 rw[decide_eq_true (by omega),cond_true,bu (by omega) (by omega),IntKind.wrap_u8]
 congr 1
 omega
theorem Jl(d:Nat):(strOfNums [48+(d:Int)]).data.toList=[UInt8.ofNat (48+d)]:=by
 have:(48+(d:Int)).toNat=48+d:=by omega
 show [UInt8.ofNat (48+(d:Int)).toNat]=_
 rw[this]
theorem xE(x:Int):(strOfNums [x]).size=1:=rfl
theorem aaO(v:Nat):(v:Int).tmod 10=((v % 10:Nat):Int)/\(v:Int).tdiv 10=((v / 10:Nat):Int):=by
 constructor
 ·rw[Int.tmod_eq_emod_of_nonneg (by omega)];omega
 ·rw[Int.tdiv_eq_ediv_of_nonneg (by omega)];omega
theorem aaP{n:Int}(h1:-9223372036854775808<=n)(h2:n<=9223372036854775807):xq n=some (cy n):=by
 suffices g:Gv (fun y=>y=cy n) (xq n) by
  obtain⟨y,e,rfl⟩:=g
  exact e
 unfold xq
 refine Gv.cond (fun h=>Gv.pure ?_) fun h0=>?_
 ·have h:n=0:=by simpa using h
  subst h
  refine kX ?_
  show [48]=Lib.itoa 0
  unfold Lib.itoa
  rw[if_neg (by omega),Lib.decDigits]
  rfl
 have h0:n≠0:=by simpa using h0
 have p20:(10:Nat) ^ 20=100000000000000000000:=by rfl
 have hit:(Lib.itoa n)=if n<0 then 45 :: dd n.natAbs else dd n.natAbs:=by
  have e:dd n.natAbs=Lib.decDigits n.natAbs:=by unfold dd;rw[if_neg (by omega)]
  rw[e]
  unfold Lib.itoa
  by_cases hn:n<0
  ·rw[if_pos hn,if_pos hn]
  ·rw[if_neg hn,if_neg hn,show n.toNat=n.natAbs by omega]
 refine Gv.loop 20 (fun k x=>∃ (v:Nat) (s:ByteArray),x=(((if n<0 then -(v:Int)else (v:Int)),decide (n<0),s,()),())/\dd v++s.data.toList=dd n.natAbs/\v<10 ^ (20-k)/\s.size<=k/\v<=9223372036854775808) ⟨n.natAbs,ByteArray.mk #[],?_,by simp,by rw[p20];omega,Nat.le_refl _,by omega⟩ (dY (by omega)) ?_
 ·by_cases hn:n<0
  ·rw[if_pos hn,show -(n.natAbs:Int)=n by omega]
  ·rw[if_neg hn,show (n.natAbs:Int)=n by omega]
 rintro k hk x ⟨v,s,rfl,hd,hv,hs,hu⟩
 obtain⟨t1,t2⟩:=aaO v
 unfold IU
 dsimp only
 refine Gv.cond (fun h=>?_) (fun h=>?_)
 ·have jP:v≠0:=by
   rintro rfl
   by_cases hn:n<0 <;>simp[hn]at h
  have Jm:k<20:=by
   rcases Nat.lt_or_ge k 20 with h' | h'
   ·exact h'
   ·have:20-k=0:=by omega
    rw[this]at hv
    omega
  have bY:v / 10<10 ^ (20-(k+1)):=by
   have:20-k=(20-(k+1))+1:=by omega
   rw[this,Nat.pow_succ]at hv
   omega
  have dM:=nK jP
  have fin:∀ w:ByteArray,w.data.toList=[UInt8.ofNat (48+v % 10)]->w.size=1->dd (v / 10)++(w++s).data.toList=dd n.natAbs/\(w++s).size<=k+1:=by
   intro w hw hw1
   rw[oI,hw,<-List.append_assoc,<-dM,Bu,hw1]
   exact⟨hd,by omega⟩
  have hm:v % 10<10:=Nat.mod_lt _ (by omega)
  have ho:∀ w:ByteArray,w.size=1->aY (w.size+s.size)=true:=fun w hw=>jG (by omega)
  by_cases hn:n<0
  ·simp only[hn,if_true]
   rw[Int.neg_tmod,Int.neg_tdiv,t1,t2]
   rw[bu (n:=0 - -((v % 10:Nat):Int)) (by omega) (by omega),bu (n:=-((v / 10:Nat):Int)) (by omega) (by omega),show (0:Int) - -((v % 10:Nat):Int)=((v % 10:Nat):Int) by omega,Jk hm,bf]
   refine Gv.cond (fun U=>?_) fun U=>?_
   ·obtain⟨f1,f2⟩:=fin _ (Jl (v % 10)) (xE _)
    rw[ho _ (xE _),cond_true]
    exact Gv.pure ⟨Jm,v / 10,_,by simp only[hn,if_true],f1,bY,f2,by omega⟩
   ·have hz:v % 10=0:=by simp at U;omega
    have e0:-((v % 10:Nat):Int)=((v % 10:Nat):Int):=by omega
    rw[e0,Jk hm,bf]
    obtain⟨f1,f2⟩:=fin _ (Jl (v % 10)) (xE _)
    rw[ho _ (xE _),cond_true]
    exact Gv.pure ⟨Jm,v / 10,_,by simp only[hn,if_true],f1,bY,f2,by omega⟩
  ·simp only[hn,if_false]
   rw[t1,t2,decide_eq_false (show ¬ (((v % 10:Nat):Int)<0) by omega),cond_false,bu (n:=((v / 10:Nat):Int)) (by omega) (by omega),Jk hm,bf]
   obtain⟨f1,f2⟩:=fin _ (Jl (v % 10)) (xE _)
   rw[ho _ (xE _),cond_true]
   exact Gv.pure ⟨Jm,v / 10,_,by simp only[hn,if_false],f1,bY,f2,by omega⟩
 ·have jP:v=0:=by
   by_cases hn:n<0 <;>simp[hn]at h <;>omega
  subst jP
  have hd:s.data.toList=dd n.natAbs:=by rw[<-hd];rfl
  refine Gv.pure ?_
  simp only[Sum.elim_inl,Sum.elim_inr]
  by_cases hn:n<0
  ·rw[decide_eq_true hn,cond_true,jG (by show 1+s.size<_;omega),cond_true]
   refine Gv.pure (kX ?_)
   rw[oI,hd]
   show 45 :: dd n.natAbs=Lib.itoa n
   rw[hit,if_pos hn]
  ·rw[decide_eq_false hn,cond_false]
   refine Gv.pure (kX ?_)
   rw[hd]
   show dd n.natAbs=Lib.itoa n
   rw[hit,if_neg hn]
theorem aaQ{n:Int}(h1:-9223372036854775808<=n)(h2:n<=9223372036854775807):(cy n).size<=21:=Lib.itoa_length_le n h1 h2
theorem Jn{sep:List UInt8}{r:List (List UInt8)}(h:r≠[]):Lib.joinTail sep r=sep++Lib.join r sep:=by
 cases r with
 | nil=>exact absurd rfl h
 | cons y r=>rw[Lib.join_cons];simp[Lib.joinTail]
theorem lX(y:Int):0<=bits .and .i64 y 15/\bits .and .i64 y 15<=15:=by
 have e:bits .and .i64 y 15=IntKind.i64.wrap ((BitVec.ofInt 64 y &&& BitVec.ofInt 64 15).toNat:Int):=rfl
 have h:(BitVec.ofInt 64 y &&& BitVec.ofInt 64 15).toNat<=15:=by
  rw[BitVec.toNat_and]
  exact Nat.le_trans Nat.and_le_right (by decide)
 rw[e,IntKind.wrap_i64]
 omega
def dg(x:Int)(j:Nat):Int:=bits .and .i64 (x.fdiv (2 ^ (28-4*j))) 15
def nL(d:Int):Int:=if d<10 then 48+d else 87+d
def mC(x:Int)(n:Nat):List Int:=(List.range n).map fun j=>nL (dg x j)
def gC(x:Int):ByteArray:=strOfNums (mC x 8)
theorem aaR(x:Int)(n:Nat):mC x (n+1)=mC x n++[nL (dg x n)]:=by
 unfold mC
 rw[List.range_succ,List.map_append]
 rfl
theorem aaS(a b:List Int):strOfNums (a++b)=strOfNums a++strOfNums b:=by
 refine kX ?_
 rw[oI]
 show (List.map _ _).toArray.toList=(List.map _ _).toArray.toList++(List.map _ _).toArray.toList
 simp
theorem xF(a:List Int):(strOfNums a).size=a.length:=by
 show (List.map _ _).toArray.size=_
 simp
theorem Bv(x:Int)(n:Nat):(mC x n).length=n:=by simp[mC]
theorem aaT:∀ d:Nat,d<16->((ByteArray.mk #[48,49,50,51,52,53,54,55,56,57,97,98,99,100,101,102]).extract d (d+1)).data.toList=(strOfNums [nL (d:Int)]).data.toList:=by
 intro d hd
 have:d=0\/d=1\/d=2\/d=3\/d=4\/d=5\/d=6\/d=7\/d=8\/d=9\/d=10\/d=11\/d=12\/d=13\/d=14\/d=15:=by omega
 rcases this with rfl | rfl | rfl | rfl | rfl | rfl | rfl | rfl | rfl | rfl | rfl | rfl | rfl | rfl | rfl | rfl <;>rfl
theorem Qe(x:Int):uY x=some (lO x 0 4294967295):=by
 unfold uY
 rw[Qc,bf]
def c8(x:Int):ByteArray:=bif lO x 0 4294967295 then gC x else ByteArray.mk #[]
theorem aaU(x:Int):sZ x=some (c8 x):=by
 suffices g:Gv (fun y=>y=c8 x) (sZ x) by
  obtain⟨y,e,rfl⟩:=g
  exact e
 unfold sZ c8
 rw[Qe,bf]
 cases hx:lO x 0 4294967295 with
 | false=>exact Gv.pure rfl
 | true=>
  rw[Bool.not_true,cond_false,cond_true]
  refine Gv.loop 8 (fun j z=>z=((x,strOfNums (mC x j),28-4*(j:Int),()),())) rfl (dY (by omega)) ?_
  rintro j hj z rfl
  unfold Jc
  dsimp only
  refine Gv.cond (fun h=>?_) (fun h=>?_)
  ·have hj:j<=7:=by simp at h;omega
   have II:(28-4*(j:Int)).toNat=28-4*j:=by omega
   rw[II,show min (28-4*j) IntKind.i64.bits=28-4*j from Nat.min_eq_left (by show _<=64;omega)]
   refine Gv.ift (by omega) ?_
   have hd:=lX (x.fdiv (2 ^ (28-4*j)))
   have hdg:bits .and .i64 (x.fdiv (2 ^ (28-4*j))) 15=dg x j:=rfl
   rw[hdg]at hd ⊢
   have hw:IntKind.i64.wrap (dg x j+1)=dg x j+1:=bu (by omega) (by omega)
   rw[hw]
   refine Gv.ite ⟨hd.1,by omega,by show dg x j+1<=16;omega⟩ ?_
   have Jo:((ByteArray.mk #[48,49,50,51,52,53,54,55,56,57,97,98,99,100,101,102]).extract (dg x j).toNat (dg x j+1).toNat)=strOfNums [nL (dg x j)]:=by
    have h1:(dg x j+1).toNat=(dg x j).toNat+1:=by omega
    have h2:=aaT (dg x j).toNat (by omega)
    rw[Int.toNat_of_nonneg hd.1]at h2
    rw[h1]
    exact kX h2
   rw[Jo,xF,xF,Bv,jG (by show j+1<_;omega),cond_true]
   refine Gv.pure ⟨by omega,?_⟩
   rw[<-aaS,<-aaR,bu (by omega) (by omega),show (28:Int)-4*(j:Int)-4=28-4*((j+1:Nat):Int) by omega]
  ·have:j=8:=by simp at h;omega
   subst this
   exact Gv.pure (Gv.pure rfl)
theorem Qf(x:Int):(c8 x).size<=8:=by
 unfold c8
 cases lO x 0 4294967295 with
 | false=>exact Nat.zero_le _
 | true=>
  show (strOfNums (mC x 8)).size<=8
  rw[xF,Bv]
  exact Nat.le_refl _
theorem aaV{n:Int}(h1:-9223372036854775808<=n)(h2:n<=9223372036854775807):DT n=some (cy n):=by
 unfold DT xl
 rw[decide_eq_true h1,decide_eq_true h2]
 rfl
def xG(a b:List Int):Bool:=((a.length:Int)==(b.length:Int))&&(a.zip b).all fun p=>p.1==p.2
theorem Ee{A B:Type}{a:List A}{b:List B}(h:a.length=b.length):(a.zip b).length=a.length:=by
 rw[List.length_zip]
 omega
theorem Jp{A B:Type}{a:List A}{b:List B}(h:a.length=b.length){k:Nat}(hk:k<(a.zip b).length):(a.zip b)[k]=(a[k]'(by rw[Ee h]at hk;exact hk),b[k]'(by rw[Ee h]at hk;omega)):=by
 rw[List.getElem_zip]
theorem aaW{a b:List Int}(ha:a.length<1073741824):DS a b=some (xG a b):=by
 unfold DS xG
 by_cases h:a.length=b.length
 ·have hz:=Ee h
  have e:=Qb (step:=Bi) (a.zip b) (fun p=>p.1==p.2) (fun i=>((a,b,(a.length:Int),(i:Int),()),())) (.inl ((false,()),())) (.inr (.inl ((),()))) big (fun k hk=>by
   unfold Bi
   dsimp only
   rw[decide_eq_true (by omega),cond_true,dif_pos ⟨by omega,by omega⟩,dif_pos ⟨by omega,by omega⟩,dJ (by omega),Jp h hk]
   simp only[Int.toNat_natCast]
   rw[bne]
   cases a[k]==b[k] <;>rfl) (by
   unfold Bi
   dsimp only
   rw[decide_eq_false (by omega),cond_false]) (dY (by omega))
  rw[Int.natCast_zero]at e
  rw[show ((a.length:Int) != (b.length:Int))=false by simp[h],cond_false,show ((a.length:Int)==(b.length:Int))=true by simp[h],Bool.true_and]
  refine(congrArg (fun o=>Option.bind o _) e).trans ?_
  cases (a.zip b).all fun p=>p.1==p.2 <;>rfl
 ·rw[show ((a.length:Int) != (b.length:Int))=true by simp;omega,cond_true,show ((a.length:Int)==(b.length:Int))=false by simp;omega,Bool.false_and]
def Jq(x:lT):Prop:=b7 x.id/\b7 x.de/\b7 x.line/\True/\b7 x.data/\b7 x.at_
def Jr(x:mE):Prop:=b7 x.cO/\b7 x.row/\b7 x.dZ
def aaX(x:oM):Prop:=b7 x.down/\b7 x.sleep
def Js(x:gZ):Prop:=b7 x.dr/\b7 x.cap/\b7 x.dw/\b7 x.low/\b7 x.high/\(x.weights.length<=maxLen/\∀ y∈x.weights,b7 y)/\aaX x.bP
def xH(x:aC):Prop:=b7 x.kind/\Jq x.request/\b7 x.n/\b7 x.cz/\Jr x.addr/\Js x.ak
theorem Qg{T:Type}(f:T->T->Option Bool)(l:List T)(hf:∀ x∈l,f x x=some true)(hl:l.length<1073741824):
  iter (α:=((List T×List T×Int×Unit)×Unit)) (β:=(((Bool×Unit)×Unit)⊕((Unit×Unit)⊕Empty))) (fun x=>bif (decide (x.1.2.2.1<(x.1.1.length:Int)))then if h1:0<=x.1.2.2.1/\x.1.2.2.1.toNat<x.1.1.length then (let e2:=x.1.1[x.1.2.2.1.toNat]'h1.2;if h3:0<=x.1.2.2.1/\x.1.2.2.1.toNat<x.1.2.1.length then (let e4:=x.1.2.1[x.1.2.2.1.toNat]'h3.2;(f e2 e4).bind fun y5=>bif (!y5)then some (.inr (.inl ((false,()),())))else some (.inl ((x.1.1,x.1.2.1,(IntKind.i64.wrap (x.1.2.2.1+(1:Int))),()),())))else none)else none else some (.inr (.inr (.inl ((),())))))
   big ((l,l,(0:Int),()),())=some (.inr (.inl ((),()))):=by
 obtain⟨z,h1,h2⟩:=Qa (step:=(fun x:((List T×List T×Int×Unit)×Unit)=>(bif (decide (x.1.2.2.1<(x.1.1.length:Int)))then if h1:0<=x.1.2.2.1/\x.1.2.2.1.toNat<x.1.1.length then (let e2:=x.1.1[x.1.2.2.1.toNat]'h1.2;if h3:0<=x.1.2.2.1/\x.1.2.2.1.toNat<x.1.2.1.length then (let e4:=x.1.2.1[x.1.2.2.1.toNat]'h3.2;(f e2 e4).bind fun y5=>bif (!y5)then some (.inr (.inl ((false,()),())))else some (.inl ((x.1.1,x.1.2.1,(IntKind.i64.wrap (x.1.2.2.1+(1:Int))),()),())))else none)else none else some (.inr (.inr (.inl ((),())))):Option (((List T×List T×Int×Unit)×Unit)⊕(((Bool×Unit)×Unit)⊕((Unit×Unit)⊕Empty))))))
  (fun x=>∃ (i:Nat),x=((l,l,(i:Int),()),())/\i<=l.length)
  (fun x=>l.length-x.1.2.2.1.toNat) (fun z=>z = .inr (.inl ((),()))) (by
   rintro x ⟨i,rfl,hi⟩
   dsimp only
   by_cases h:i<l.length
   ·left
    have c1:decide ((i:Int)<(l.length:Int))=true:=by simpa using h
    have c2:0<=(i:Int)/\(i:Int).toNat<l.length:=⟨by omega,by simpa using h⟩
    rw[c1,cond_true,dif_pos c2,dif_pos c2,hf _ (List.getElem_mem _),bf]
    refine⟨_,rfl,⟨i+1,?_,by omega⟩,?_⟩
    ·rw[bu (by omega) (by omega)]
     simp
    ·dsimp only
     rw[bu (by omega) (by omega)]
     omega
   ·right
    have c1:decide ((i:Int)<(l.length:Int))=false:=by simpa using h
    rw[c1,cond_false]
    exact⟨_,rfl,rfl⟩)
  big ((l,l,(0:Int),()),()) ⟨0,rfl,by omega⟩ (by dsimp only;unfold big;omega)
 rw[h1,h2]
def Qh(x:gZ):Prop:=(x.weights.length<=1048576)
def aaY(x:aC):Prop:=Qh x.ak
theorem aaZ(x:lT):DV x x=some true:=by
 unfold DV
 simp only[bf,bne_self_eq_false,beq_self_eq_true,Bool.not_true,cond_false]
theorem aa0(x:mE):DW x x=some true:=by
 unfold DW
 simp only[bf,bne_self_eq_false,beq_self_eq_true,Bool.not_true,cond_false]
theorem aa1(x:List Int)(hz:(x.length<=1048576)):DX x x=some true:=by
 have hl:=hz
 have hh:=Qg (fun a b:Int=>some (a==b)) x (fun y hy=>by simp) (by omega)
 unfold DX
 rw[show ((x.length:Int) != (x.length:Int))=false by simp,cond_false]
 refine(congrArg (fun o=>Option.bind o _) hh).trans ?_
 rfl
theorem aa2(x:oM):DY x x=some true:=by
 unfold DY
 simp only[bf,bne_self_eq_false,beq_self_eq_true,Bool.not_true,cond_false]
theorem aa3(x:gZ)(hz:Qh x):DZ x x=some true:=by
 have aa4:=hz
 unfold DZ
 simp only[aa1 x.weights aa4,aa2 x.bP,bf,bne_self_eq_false,beq_self_eq_true,Bool.not_true,cond_false]
theorem aa5(x:aC)(hz:aaY x):Bn x x=some true:=by
 have aa6:=hz
 unfold Bn
 simp only[aaZ x.request,aa0 x.addr,aa3 x.ak aa6,bf,bne_self_eq_false,beq_self_eq_true,Bool.not_true,cond_false]
def vi(n:Int):Bool:=lO n 0 1000000000
def fJ(l:List Int):List UInt8:=(l.map fun n=>32 :: Lib.itoa n).flatten
def eF(w:ByteArray)(l:List Int):ByteArray:=⟨(w.data.toList++fJ l).toArray⟩
theorem Jt{l:List Int}(h:∀ n∈l,b7 n):(fJ l).length<=22*l.length:=by
 induction l with
 | nil=>simp[fJ]
 | cons b l ih=>
  have h1:(Lib.itoa b).length<=21:=aaQ (h b (.head _)).1 (h b (.head _)).2
  have h2:=ih fun x hx=>h x (.tail _ hx)
  have e:fJ (b :: l)=32 :: (Lib.itoa b++fJ l):=by simp[fJ]
  rw[e]
  simp only[List.length_append,List.length_cons]
  omega
theorem Ju{w:ByteArray}{l:List Int}(h:∀ n∈l,b7 n):(eF w l).size<=w.size+22*l.length:=by
 have h1:=Jt h
 have e:(eF w l).size=w.size+(fJ l).length:=by
  show (w.data.toList++fJ l).length=w.data.toList.length+(fJ l).length
  rw[List.length_append]
 omega
def Bw(a:aC):=(a.kind,a.request.id,a.request.de,a.request.line,a.request.write,a.request.data,a.request.at_,a.n,a.cz,a.addr.cO,a.addr.row,a.addr.dZ,a.ak.dr,a.ak.cap,a.ak.dw,a.ak.low,a.ak.high,a.ak.weights,a.ak.bP.down,a.ak.bP.sleep,())
theorem aa7(a:aC)(w:ByteArray){ns:List Int}(hl:ns.length<=2000000):
  iter s0 big (((),w,(),(),(ns.length:Int),(0:Int),()),(Bw a,ns,()))=some (bif ns.all vi then .inr (.inl (((),w,(),()),(Bw a,ns,())))else .inl ((ByteArray.mk #[],false,()),())):=by
 have e:=Qb (step:=s0) ns vi (fun i=>(((),w,(),(),(ns.length:Int),(i:Int),()),(Bw a,ns,()))) (.inl ((ByteArray.mk #[],false,()),())) (.inr (.inl (((),w,(),()),(Bw a,ns,())))) big (fun k h=>by
  unfold s0 vi
  dsimp only
  rw[decide_eq_true (by omega),cond_true,dif_pos ⟨by omega,by omega⟩,dif_pos (by omega)]
  simp only[Int.toNat_natCast]
  rw[Qc,bf,dJ (by omega)]
  cases lO ns[k] 0 1000000000 <;>rfl) (by
  unfold s0
  dsimp only
  rw[decide_eq_false (by omega),cond_false]) (dY (by omega))
 rw[Int.natCast_zero]at e
 exact e
def jn(ns:List Int):ByteArray:=⟨(Lib.join (ns.map Lib.itoa) [32]).toArray⟩
theorem By:∀ (n:Int) (ns:List Int),32 :: Lib.join ((n :: ns).map Lib.itoa) [32]=fJ (n :: ns)
 | n,[]=>by simp[fJ,Lib.join_one]
 | n,m :: ns=>by
  have ih:=By m ns
  rw[List.map_cons,Lib.join_cons,Jn (by simp)]
  have e:fJ (n :: m :: ns)=32 :: (Lib.itoa n++fJ (m :: ns)):=by simp[fJ]
  rw[e,<-ih]
  simp
theorem aa8{ns:List Int}(aA:ns≠[])(b9:∀ n∈ns,b7 n)(hl:ns.length<=2000000):uZ ns=some (jn ns):=by
 have e:=iM (step:=Bk) ns.length (fun i=>(((),ns,(ns.length:Int),(i:Int),()),((ns.take i).map cy,()))) (.inl (((),()),(ns.map cy,()))) big (fun k h=>by
  have h2:=b9 _ (List.getElem_mem h)
  unfold Bk
  dsimp only
  rw[decide_eq_true (by omega),cond_true,dif_pos ⟨by omega,by omega⟩]
  simp only[Int.toNat_natCast]
  rw[aaV h2.1 h2.2,bf,jG (by simp;omega),cond_true,dJ (by omega),Qd h,List.map_append]
  rfl) (by
  unfold Bk
  dsimp only
  rw[decide_eq_false (by omega),cond_false,List.take_length]) (dY (by omega))
 rw[Int.natCast_zero,List.take_zero]at e
 unfold uZ
 refine(congrArg (fun o=>Option.bind o _) e).trans ?_
 rw[bf]
 simp only[Sum.elim_inl]
 have hm:(ns.map cy).map (·.data.toList)=ns.map Lib.itoa:=by
  rw[List.map_map]
  exact List.map_congr_left fun n _=>rfl
 have hj:(Lib.join (ns.map Lib.itoa) [32]).length<=22*ns.length:=by
  obtain⟨n,l,rfl⟩:=List.exists_cons_of_ne_nil aA
  have:=Jt b9
  rw[<-By,List.length_cons]at this
  omega
 unfold kU
 rw[hm,show (ByteArray.mk #[32]).data.toList=[32]from rfl,decide_eq_true (by simp;omega),decide_eq_true (by omega)]
 rfl
theorem Qi(w:ByteArray){ns:List Int}(aA:ns≠[]):(w++ByteArray.mk #[32])++jn ns=eF w ns:=by
 obtain⟨n,l,rfl⟩:=List.exists_cons_of_ne_nil aA
 refine kX ?_
 rw[oI,oI]
 show (w.data.toList++[32])++Lib.join ((n :: l).map Lib.itoa) [32]=w.data.toList++fJ (n :: l)
 rw[<-By]
 simp
def fin(a:aC)(w:ByteArray)(ns:List Int):ByteArray×Bool:=bif ns.all vi then (bif a.request.write then ((eF w ns++ByteArray.mk #[32])++c8 a.request.data,true)else (eF w ns,true))else (ByteArray.mk #[],false)
def Jv(a:aC)(w:ByteArray)(ns:List Int):Option (ByteArray×Bool):=(iter s0 big (((),w,(),(),(ns.length:Int),(0:Int),()),(Bw a,ns,()))).bind (Sum.elim (fun z=>some (z.1.1,z.1.2.1)) (Sum.elim (fun z=>bif aY (z.1.2.1.size+(ByteArray.mk #[32]).size)then (uZ z.2.2.1).bind fun kW=>bif aY ((z.1.2.1++(ByteArray.mk #[32])).size+kW.size)then bif z.2.1.2.2.2.2.1 then (sZ z.2.1.2.2.2.2.2.1).bind fun nE=>bif aY ((ByteArray.mk #[32]).size+nE.size)then bif aY (((z.1.2.1++(ByteArray.mk #[32]))++kW).size+((ByteArray.mk #[32])++nE).size)then some (((z.1.2.1++(ByteArray.mk #[32]))++kW)++((ByteArray.mk #[32])++nE),true)else none else none else some ((z.1.2.1++(ByteArray.mk #[32]))++kW,true)else none else none) (fun z=>nomatch z)))
theorem aa9(a:aC)(w:ByteArray){ns:List Int}(aA:ns≠[])(b9:∀ n∈ns,b7 n)(hl:ns.length<=2000000)(hw:w.size<=100):Jv a w ns=some (fin a w ns):=by
 have h1:=Ju (w:=w) b9
 have h2:=Qf a.request.data
 have h3:(jn ns).size<=22*ns.length:=by
  obtain⟨n,l,rfl⟩:=List.exists_cons_of_ne_nil aA
  have:=Jt b9
  rw[<-By,List.length_cons]at this
  show (Lib.join ((n :: l).map Lib.itoa) [32]).length<=_
  omega
 unfold Jv fin
 rw[aa7 a w hl,bf]
 cases ns.all vi with
 | false=>rfl
 | true=>
  rw[cond_true,cond_true]
  show (bif aY (w.size+1)then (uZ ns).bind fun kW=>bif aY ((w++(ByteArray.mk #[32])).size+kW.size)then bif a.request.write then (sZ a.request.data).bind fun nE=>bif aY (1+nE.size)then bif aY (((w++(ByteArray.mk #[32]))++kW).size+((ByteArray.mk #[32])++nE).size)then some (((w++(ByteArray.mk #[32]))++kW)++((ByteArray.mk #[32])++nE),true)else none else none else some ((w++(ByteArray.mk #[32]))++kW,true)else none else none)=_
  rw[jG (by omega),cond_true,aa8 aA b9 hl,bf,jG (by rw[Bu];show w.size+1+_<_;omega),cond_true]
  cases a.request.write with
  | false=>rw[cond_false,cond_false,Qi w aA]
  | true=>
   rw[cond_true,cond_true,aaU,bf,jG (by omega),cond_true,Qi w aA,jG (by rw[Bu];show (eF w ns).size+(1+_)<_;omega),cond_true]
   congr 2
   exact kX (by simp only[oI,List.append_assoc])
theorem bb1(a x:Bool):(bif a then some x else some false)=some (a&&x):=by cases a <;>rfl
theorem Qj{a b:List Int}:xG a b=true ↔ a=b:=by
 unfold xG
 rw[Bool.and_eq_true,List.all_eq_true]
 constructor
 ·rintro⟨h1,h2⟩
  have hl:a.length=b.length:=by simp at h1;omega
  refine List.ext_getElem hl fun i hi hj=>?_
  have hz:i<(a.zip b).length:=by rw[Ee hl];exact hi
  have:=h2 (a.zip b)[i] (List.getElem_mem hz)
  rw[Jp hl hz]at this
  simpa using this
 ·rintro rfl
  refine⟨by simp,fun p hp=>?_⟩
  obtain⟨i,hi,rfl⟩:=List.getElem_of_mem hp
  rw[Jp rfl hi]
  simp
def pE(x y:gZ):Bool:=(x.dr==y.dr)&&((x.cap==y.cap)&&((x.dw==y.dw)&&((x.low==y.low)&&((x.high==y.high)&&(xG x.weights y.weights&&((x.bP.down==y.bP.down)&&((x.bP.sleep==y.bP.sleep)&&true)))))))
theorem aba(x y:gZ)(h:x.weights.length<1073741824):xA x y=some (pE x y):=by
 unfold xA pE
 simp only[aaW h,bf,bb1]
def iE(u a:aC):Bool:=((u.request.id==a.request.id)&&((u.request.de==a.request.de)&&((u.request.line==a.request.line)&&((u.request.write==a.request.write)&&((u.request.data==a.request.data)&&((u.request.at_==a.request.at_)&&true))))))&&((u.n==a.n)&&((u.cz==a.cz)&&(((u.addr.cO==a.addr.cO)&&((u.addr.row==a.addr.row)&&((u.addr.dZ==a.addr.dZ)&&true)))&&pE u.ak a.ak)))
def uA(a:aC)(d:Int):aC:=⟨a.kind,⟨a.request.id,a.request.de,a.request.line,a.request.write,d,0⟩,0,0,⟨0,0,0⟩,⟨0,0,0,0,0,[],⟨0,0⟩⟩⟩
def uN(a:aC):aC:=⟨a.kind,⟨0,0,0,false,0,0⟩,a.n,0,⟨0,0,0⟩,⟨0,0,0,0,0,[],⟨0,0⟩⟩⟩
def uF(a:aC):aC:=⟨a.kind,⟨0,0,0,false,0,0⟩,a.n,a.cz,⟨a.addr.cO,a.addr.row,a.addr.dZ⟩,⟨0,0,0,0,0,[],⟨0,0⟩⟩⟩
def uR(a:aC):aC:=⟨a.kind,⟨0,0,0,false,0,0⟩,0,0,⟨a.addr.cO,a.addr.row,0⟩,⟨0,0,0,0,0,[],⟨0,0⟩⟩⟩
def uP(a:aC):aC:=⟨a.kind,⟨0,0,0,false,0,0⟩,0,0,⟨0,0,0⟩,a.ak⟩
def u0(k:Int):aC:=⟨k,⟨0,0,0,false,0,0⟩,0,0,⟨0,0,0⟩,⟨0,0,0,0,0,[],⟨0,0⟩⟩⟩
def gD:ByteArray:=ByteArray.mk #[114,101,97,100]
def bn:ByteArray:=ByteArray.mk #[119,114,105,116,101]
def gE:ByteArray:=ByteArray.mk #[119,97,105,116]
def gl:ByteArray:=ByteArray.mk #[104,101,97,116]
def fV:ByteArray:=ByteArray.mk #[102,108,105,112]
def fA:ByteArray:=ByteArray.mk #[114,101,116,105,114,101]
def fB:ByteArray:=ByteArray.mk #[112,111,108,105,99,121]
def ji(a u:aC)(w:ByteArray)(ns:List Int):Option (ByteArray×Bool):=
 let k:Bool->Option (ByteArray×Bool):=fun j=>bif j then some (ByteArray.mk #[],false)else Jv a w ns
 bif (w.toList==(ByteArray.mk #[]).toList)then k true else bif (!((u.request.id==a.request.id)&&((u.request.de==a.request.de)&&((u.request.line==a.request.line)&&((u.request.write==a.request.write)&&((u.request.data==a.request.data)&&((u.request.at_==a.request.at_)&&true)))))))then k true else bif (u.n != a.n)then k true else bif (u.cz != a.cz)then k true else bif (!((u.addr.cO==a.addr.cO)&&((u.addr.row==a.addr.row)&&((u.addr.dZ==a.addr.dZ)&&true))))then k true else (xA u.ak a.ak).bind fun y=>bif (!y)then k true else (uY a.request.data).bind fun y=>k (!y)
theorem Ef(a:aC):lK a=(xz a).bind fun y=>bif (a.kind==(1:Int))then bif (!a.request.write)then ji a (uA a 0) y.1 y.2 else ji a (uA a a.request.data) y.1 y.2 else (let k3:Bool->Option (ByteArray×Bool):=fun j=>bif j then ji a (uN a) y.1 y.2 else bif (a.kind==(3:Int))then ji a (uF a) y.1 y.2 else bif (a.kind==(5:Int))then ji a (uP a) y.1 y.2 else bif (a.kind==(6:Int))then ji a (uR a) y.1 y.2 else ji a (u0 a.kind) y.1 y.2;bif (a.kind==(2:Int))then k3 (a.kind==(2:Int))else k3 (a.kind==(4:Int))):=rfl
def Qk:ByteArray×Bool:=(ByteArray.mk #[],false)
theorem qH{a u:aC}{w:ByteArray}{ns:List Int}(aA:(w.toList==(ByteArray.mk #[]).toList)=false)(hn:ns≠[])(b9:∀ n∈ns,b7 n)(hl:ns.length<=2000000)(hw:w.size<=100)(qI:u.ak.weights.length<1073741824):
  ji a u w ns=some (bif iE u a&&lO a.request.data 0 4294967295 then fin a w ns else Qk):=by
 unfold ji
 simp only[aA,cond_false,aba _ _ qI,bf,Qe,aa9 a w hn b9 hl hw]
 unfold iE
 cases ((u.request.id==a.request.id)&&((u.request.de==a.request.de)&&((u.request.line==a.request.line)&&((u.request.write==a.request.write)&&((u.request.data==a.request.data)&&((u.request.at_==a.request.at_)&&true))))))with
 | false=>rfl
 | true=>
  rw[bne,bne]
  cases (u.n==a.n)with
  | false=>rfl
  | true=>
   cases (u.cz==a.cz)with
   | false=>rfl
   | true=>
    cases ((u.addr.cO==a.addr.cO)&&((u.addr.row==a.addr.row)&&((u.addr.dZ==a.addr.dZ)&&true)))with
    | false=>rfl
    | true=>
     cases pE u.ak a.ak with
     | false=>rfl
     | true=>cases lO a.request.data 0 4294967295 <;>rfl
theorem abb:((ByteArray.mk #[]).toList==(ByteArray.mk #[]).toList)=true:=beq_self_eq_true _
theorem Eg{a u:aC}{ns:List Int}:ji a u (ByteArray.mk #[]) ns=some Qk:=by
 unfold ji
 simp only[abb,cond_true]
 rfl
theorem four{l:List Int}(h:l.length=4):l=[l[0],l[1],l[2],l[3]]:=by
 match l,h with
 | [a,b,c,d],_=>rfl
theorem Bz:(gD.toList==(ByteArray.mk #[]).toList)=false/\(bn.toList==(ByteArray.mk #[]).toList)=false/\(gE.toList==(ByteArray.mk #[]).toList)=false/\(gl.toList==(ByteArray.mk #[]).toList)=false/\(fV.toList==(ByteArray.mk #[]).toList)=false/\(fA.toList==(ByteArray.mk #[]).toList)=false/\(fB.toList==(ByteArray.mk #[]).toList)=false:=by
 unfold gD bn gE gl fV fA fB
 decide +kernel
def bz(l:List UInt8):Int:=l.foldl (fun a b=>a*10+((b.toNat:Int)-48)) 0
def jH(b:UInt8):Prop:=48<=b.toNat/\b.toNat<=57
theorem BA(l:List UInt8)(b:UInt8):bz (l++[b])=bz l*10+((b.toNat:Int)-48):=by simp[bz,List.foldl_append]
theorem s4{l:List UInt8}(h:∀ b∈l,jH b):∀ k,k<=l.length->0<=bz (l.take k)/\bz (l.take k)<10 ^ k
 | 0,_=>by simp[bz]
 | k+1,hk=>by
  obtain⟨h1,h2⟩:=s4 h k (by omega)
  have h3:=h l[k] (List.getElem_mem (by omega))
  have e:l.take (k+1)=l.take k++[l[k]]:=by rw[List.take_succ_eq_append_getElem (by omega)]
  unfold jH at h3
  rw[e,BA,Int.pow_succ]
  omega
theorem gU{s:ByteArray}{i:Nat}(h:i<s.size)(h':i<s.data.toList.length):s[i]=s.data.toList[i]:=by
 rw[Array.getElem_toList]
 rfl
theorem abc{s:ByteArray}(hd:∀ b∈s.data.toList,jH b)(hl:s.size<=10){k:Nat}(h:k<s.size):jh ((s,bz (s.data.toList.take k),(k:Int),()),())=some (.inl ((s,bz (s.data.toList.take (k+1)),((k+1:Nat):Int),()),())):=by
 have h':k<s.data.toList.length:=h
 obtain⟨h1,h2⟩:=s4 hd k (by omega)
 have h3:=hd s.data.toList[k] (List.getElem_mem h')
 have e:s.data.toList.take (k+1)=s.data.toList.take k++[s.data.toList[k]]:=by rw[List.take_succ_eq_append_getElem h']
 have hp:(10:Int) ^ k<=10 ^ 9:=by
  have:(10:Nat) ^ k<=10 ^ 9:=Nat.pow_le_pow_right (by omega) (by omega)
  exact_mod_cast this
 have p9:(10:Int) ^ 9=1000000000:=rfl
 unfold jH at h3
 unfold jh
 dsimp only
 rw[decide_eq_true (by omega),cond_true,dif_pos ⟨by omega,by omega⟩]
 simp only[Int.toNat_natCast,gU h h']
 rw[decide_eq_false (by omega),cond_false,dif_pos ⟨by omega,h⟩,decide_eq_false (by omega),cond_false,dif_pos ⟨by omega,h⟩,e,BA,dJ (by omega),IntKind.wrap_u8]
 rw[bu (n:=bz (s.data.toList.take k)*10) (by omega) (by omega),bu (n:=((s.data.toList[k].toNat:Int)-48) % 256) (by omega) (by omega),bu (by omega) (by omega)]
 have:((s.data.toList[k].toNat:Int)-48) % 256=(s.data.toList[k].toNat:Int)-48:=by omega
 rw[this]
theorem abd{s:ByteArray}(hd:∀ b∈s.data.toList,jH b)(hl:s.size<=10):iter jh big ((s,(0:Int),(0:Int),()),())=some (.inr (.inl ((bz s.data.toList,()),()))):=by
 have e:=iM (step:=jh) s.size (fun i=>((s,bz (s.data.toList.take i),(i:Int),()),())) (.inr (.inl ((bz s.data.toList,()),()))) big (fun k h=>abc hd hl h) (by
  unfold jh
  dsimp only
  rw[decide_eq_false (by omega),cond_false,show s.size=s.data.toList.length from rfl,List.take_length]) (dY (by omega))
 rw[Int.natCast_zero,List.take_zero]at e
 exact e
theorem Ql:I8=jh:=rfl
theorem Qm{s:ByteArray}(hd:∀ b∈s.data.toList,jH b)(h0:0<s.size)(hl:s.size<=10)(hz:1<s.size->s.data.toList.head?≠some 48)(hv:bz s.data.toList<=1000000000):uW s=some (bz s.data.toList,true):=by
 unfold uW
 rw[Ql,show ((s.size:Int)==0)=false from beq_eq_false_iff_ne.2 (by omega),cond_false,decide_eq_false (by omega),cond_false]
 have tl:(iter jh big ((s,(0:Int),(0:Int),()),())).bind (Sum.elim (fun z5=>some (z5.1.1,z5.1.2.1)) (Sum.elim (fun z6=>bif (decide (z6.1.1 > (1000000000:Int)))then some ((0:Int),false)else some (z6.1.1,true)) (fun z=>nomatch z)))=some (bz s.data.toList,true):=by
  rw[abd hd hl,bf]
  show (bif (decide (bz s.data.toList > 1000000000))then some ((0:Int),false)else some (bz s.data.toList,true))=_
  rw[decide_eq_false (by omega),cond_false]
 by_cases h1:1<s.size
 ·rw[decide_eq_true (by omega),cond_true,dif_pos ⟨by omega,h0⟩]
  have aA:(((s[(0:Int).toNat]'h0).toNat:Int)==48)=false:=by
   have h2:=hz h1
   have h3:s[(0:Int).toNat]'h0=s.data.toList[0]'h0:=gU h0 h0
   rw[List.head?_eq_getElem?,List.getElem?_eq_getElem (show 0<s.data.toList.length from h0)]at h2
   rw[h3]
   simp only[beq_eq_false_iff_ne]
   intro e
   refine h2 (congrArg some ?_)
   have:(s.data.toList[0]'h0).toNat=48:=by omega
   exact UInt8.toNat_inj.1 this
  rw[aA,cond_false]
  exact tl
 ·rw[decide_eq_false (by omega),cond_false]
  exact tl
theorem Qn:∀ v:Nat,∀ b∈dd v,jH b:=by
 intro v
 induction v using Nat.strongRecOn with
 | ind v ih=>
  by_cases h:v=0
  ·subst h;simp[dd]
  ·intro b U
   rw[nK h]at U
   rcases List.mem_append.1 U with U | U
   ·exact ih (v / 10) (by omega) b U
   ·obtain rfl:=List.mem_singleton.1 U
    unfold jH
    have:v % 10<10:=Nat.mod_lt _ (by omega)
    rw[UInt8.toNat_ofNat']
    omega
theorem abe:∀ v:Nat,bz (dd v)=(v:Int):=by
 intro v
 induction v using Nat.strongRecOn with
 | ind v ih=>
  by_cases h:v=0
  ·subst h;simp[dd,bz]
  ·rw[nK h,BA,ih (v / 10) (by omega),UInt8.toNat_ofNat']
   omega
theorem Qo:∀ v:Nat,(dd v).head?≠some 48:=by
 intro v
 induction v using Nat.strongRecOn with
 | ind v ih=>
  by_cases h:v=0
  ·subst h;simp[dd]
  ·rw[nK h]
   by_cases h2:v / 10=0
   ·rw[h2]
    have:v % 10=v:=by omega
    simp only[dd,if_true,List.nil_append,List.head?_cons,this]
    intro e
    have e:=Option.some.inj e
    have:=congrArg UInt8.toNat e
    rw[UInt8.toNat_ofNat']at this
    simp at this
    omega
   ·have aA:dd (v / 10)≠[]:=by
     rw[nK h2];simp
    obtain⟨b,l,e⟩:=List.exists_cons_of_ne_nil aA
    have h3:=ih (v / 10) (by omega)
    rw[e]at h3 ⊢
    exact h3
theorem Qp:∀ (k v:Nat),v<10 ^ k->(dd v).length<=k
 | 0,v,h=>by
  have:v=0:=by simpa using h
  subst this;simp[dd]
 | k+1,v,h=>by
  by_cases h0:v=0
  ·subst h0;simp[dd]
  ·have:=Qp k (v / 10) (by rw[Nat.pow_succ]at h;omega)
   rw[nK h0,List.length_append,List.length_singleton]
   omega
theorem Eh{n:Int}(h:0<=n):Lib.itoa n=if n=0 then [48]else dd n.toNat:=by
 unfold Lib.itoa
 rw[if_neg (by omega)]
 by_cases h0:n=0
 ·subst h0
  rw[if_pos rfl,Lib.decDigits]
  rfl
 ·rw[if_neg h0]
  unfold dd
  rw[if_neg (by omega)]
theorem Qq{n:Int}(h0:0<=n)(h1:n<=1000000000):uW (cy n)=some (n,true):=by
 have e:(cy n).data.toList=if n=0 then [48]else dd n.toNat:=Eh h0
 have hs:(cy n).size=(cy n).data.toList.length:=rfl
 by_cases hz:n=0
 ·subst hz
  rw[if_pos rfl]at e
  have:=Qm (s:=cy 0) (by rw[e];intro b U;obtain rfl:=List.mem_singleton.1 U;exact⟨by decide,by decide⟩) (by rw[hs,e];decide) (by rw[hs,e];decide) (by rw[hs,e];intro h;simp at h) (by rw[e];decide)
  rw[this,e]
  rfl
 ·rw[if_neg hz]at e
  have hl:=Qp 10 n.toNat (by omega)
  have aA:dd n.toNat≠[]:=by rw[nK (by omega)];simp
  have hv:=abe n.toNat
  have:=Qm (s:=cy n) (by rw[e];exact Qn _) (by rw[hs,e];exact List.length_pos_iff.2 aA) (by rw[hs,e];omega) (by rw[e];exact fun _=>Qo _) (by rw[e,hv];omega)
  rw[this,e,hv,Int.toNat_of_nonneg h0]
def oJ(b:UInt8):Prop:=33<=b.toNat/\b.toNat<=126
def eG(w:ByteArray):Prop:=0<w.size/\∀ b∈w.data.toList,oJ b
theorem xI{s:ByteArray}{p k:Nat}{l:List UInt8}(h:s.data.toList.drop p=l)(hk:k<l.length):∃ h':p+k<s.size,s[p+k]'h' = l[k]:=by
 have hl:p+k<s.data.toList.length:=by
  have:=congrArg List.length h
  rw[List.length_drop]at this
  omega
 refine⟨hl,?_⟩
 rw[gU hl hl]
 subst h
 rw[List.getElem_drop]
theorem xJ{s w:ByteArray}{p:Nat}{l:List UInt8}(h:s.data.toList.drop p=w.data.toList++l):s.extract p (p+w.size)=w:=by
 refine kX ?_
 rw[ByteArray.data_extract,Array.toList_extract]
 show List.take (p+w.size-p) (List.drop p s.data.toList)=_
 rw[h,show p+w.size-p=w.data.toList.length by show p+w.size-p=w.size;omega,List.take_left']
 rfl
theorem Jw{s w:ByteArray}{p:Nat}{l:List UInt8}{bV:List ByteArray}(hs:s.size<=600)(h:s.data.toList.drop p=w.data.toList++l)(hw:eG w)(hl:l=[]\/∃ l',l=32 :: l')(ho:bV.length<=10000):
  jg ((s,(),(p:Int),()),(bV,()))=some (.inl ((s,(),((p+w.size:Nat):Int),()),(bV++[w],()))):=by
 have nM:w.size=w.data.toList.length:=rfl
 have hlen:p+w.size+l.length=s.size:=by
  have:=congrArg List.length h
  rw[List.length_drop,List.length_append]at this
  have e:s.data.toList.length=s.size:=rfl
  have:=hw.1
  omega
 have gw:∀ k (hk:k<w.data.toList.length),∃ h':p+k<s.size,s[p+k]'h' = w.data.toList[k]:=fun k hk=>by
  obtain⟨h1,h2⟩:=xI (k:=k) h (by rw[List.length_append];omega)
  exact⟨h1,by rw[h2,List.getElem_append_left hk]⟩
 have e:=iM (step:=Bh) w.size (fun i=>((s,(),((p+i:Nat):Int),(p:Int),()),(bV,()))) (.inl ((s,(),((p+w.size:Nat):Int),(p:Int),()),(bV,()))) big (fun k hk=>by
  obtain⟨h1,h2⟩:=gw k hk
  have h3:=hw.2 _ (List.getElem_mem hk)
  unfold oJ at h3
  unfold Bh
  dsimp only
  rw[decide_eq_true (by omega),cond_true,dif_pos ⟨by omega,by omega⟩]
  simp only[Int.toNat_natCast,h2]
  rw[show (((w.data.toList[k]).toNat:Int) != 32)=true from bne_iff_ne.2 (by omega),cond_true,dJ (by omega)]
  rfl) (by
  unfold Bh
  dsimp only
  rcases hl with rfl | ⟨l',rfl⟩
  ·rw[decide_eq_false (by simp at hlen;omega),cond_false]
  ·obtain⟨h1,h2⟩:=xI (k:=w.size) h (by rw[List.length_append];simp only[List.length_cons];omega)
   rw[decide_eq_true (by omega),cond_true,dif_pos ⟨by omega,by omega⟩]
   simp only[Int.toNat_natCast,h2]
   rw[List.getElem_append_right (by omega)]
   simp only[nM,Nat.sub_self,List.getElem_cons_zero]
   rfl) (dY (by omega))
 obtain⟨h1,h2⟩:=gw 0 (by rw[<-nM];exact hw.1)
 have h3:=hw.2 _ (List.getElem_mem (by rw[<-nM];exact hw.1:0<w.data.toList.length))
 unfold oJ at h3
 rw[Nat.add_zero]at e
 simp only[Nat.add_zero]at h1 h2
 unfold jg
 dsimp only
 rw[decide_eq_true (by omega),cond_true,dif_pos ⟨by omega,by omega⟩]
 simp only[Int.toNat_natCast,h2]
 rw[show (((w.data.toList[0]'(by rw[<-nM];exact hw.1)).toNat:Int)==32)=false from beq_eq_false_iff_ne.2 (by omega),cond_false]
 refine(congrArg (fun o=>Option.bind o _) e).trans ?_
 rw[bf]
 simp only[Sum.elim_inl]
 rw[if_pos ⟨by omega,by omega,by omega⟩]
 simp only[Int.toNat_natCast]
 rw[xJ h,jG (by simp;omega),cond_true]
theorem jj{α β:Type}{step:α->Option (α⊕β)}{a b:α}{n:Nat}(h:step a=some (.inl b)):iter step (n+1) a=iter step n b:=by
 simp only[iter,h]
def lay(ws:List ByteArray):List UInt8:=(ws.map fun w=>32 :: w.data.toList).flatten
theorem Qr(ws:List ByteArray):lay ws=[]\/∃ l',lay ws=32 :: l':=by
 cases ws with
 | nil=>exact .inl rfl
 | cons w ws=>exact .inr ⟨w.data.toList++lay ws,rfl⟩
theorem s5{l:List UInt8}{p:Nat}{a b:List UInt8}(h:l.drop p=a++b):l.drop (p+a.length)=b:=by
 rw[<-List.drop_drop,h,List.drop_left']
 rfl
theorem Qs{s:ByteArray}(hs:s.size<=600):∀ (ws:List ByteArray) (p:Nat) (bV:List ByteArray) (fuel:Nat),(∀ w∈ws,eG w)->p<=s.size->s.data.toList.drop p=lay ws->bV.length+ws.length<=10000->2*ws.length<fuel->
  iter jg fuel ((s,(),(p:Int),()),(bV,()))=some (.inl (((),()),(bV++ws,())))
 | [],p,bV,fuel,hw,hp,h,ho,hf=>by
  obtain⟨n,rfl⟩:∃ n,fuel=n+1:=⟨fuel-1,by omega⟩
  have hl:s.size<=p:=by
   have:=congrArg List.length h
   rw[List.length_drop]at this
   have e:s.data.toList.length=s.size:=rfl
   simp[lay]at this
   omega
  have:jg ((s,(),(p:Int),()),(bV,()))=some (.inr (.inl (((),()),(bV,())))):=by
   unfold jg
   dsimp only
   rw[decide_eq_false (by omega),cond_false]
  simp only[iter,this,List.append_nil]
 | w :: ws,p,bV,fuel,hw,hp,h,ho,hf=>by
  obtain⟨n,rfl⟩:∃ n,fuel=n+1+1:=⟨fuel-2,by simp at hf;omega⟩
  have h':s.data.toList.drop p=[32]++(w.data.toList++lay ws):=h
  obtain⟨h1,h2⟩:=xI (k:=0) h' (by simp)
  simp only[Nat.add_zero]at h1 h2
  have st:jg ((s,(),(p:Int),()),(bV,()))=some (.inl ((s,(),((p+1:Nat):Int),()),(bV,()))):=by
   unfold jg
   dsimp only
   rw[decide_eq_true (by omega),cond_true,dif_pos ⟨by omega,by omega⟩]
   simp only[Int.toNat_natCast,h2]
   rw[dJ (by omega)]
   rfl
  have h3:s.data.toList.drop (p+1)=w.data.toList++lay ws:=s5 h'
  rw[jj st,jj (Jw hs h3 (hw w (.head _)) (Qr ws) (by simp at ho;omega))]
  have h4:s.data.toList.drop (p+1+w.size)=lay ws:=s5 h3
  have hle:p+1+w.size<=s.size:=by
   have:=congrArg List.length h3
   rw[List.length_drop,List.length_append]at this
   have e:s.data.toList.length=s.size:=rfl
   have e2:w.data.toList.length=w.size:=rfl
   have:=(hw w (.head _)).1
   omega
  rw[Qs hs ws (p+1+w.size) (bV++[w]) n (fun x hx=>hw x (.tail _ hx)) hle h4 (by simp at ho ⊢;omega) (by simp at hf;omega)]
  simp
theorem Qt{s:ByteArray}(hs:s.size<=600)(hc:∀ b∈s.data.toList,32<=b.toNat/\b.toNat<=126):iter oH big ((s,(0:Int),()),())=some (.inr (.inl ((s,()),()))):=by
 have e:=iM (step:=oH) s.size (fun i=>((s,(i:Int),()),())) (.inr (.inl ((s,()),()))) big (fun k h=>by
  have h':k<s.data.toList.length:=h
  have h3:=hc _ (List.getElem_mem h')
  unfold oH
  dsimp only
  rw[decide_eq_true (by omega),cond_true,dif_pos ⟨by omega,by omega⟩]
  simp only[Int.toNat_natCast,gU h h']
  rw[decide_eq_false (by omega),cond_false,dif_pos ⟨by omega,h⟩,decide_eq_false (by omega),cond_false,dJ (by omega)]) (by
  unfold oH
  dsimp only
  rw[decide_eq_false (by omega),cond_false]) (dY (by omega))
 rw[Int.natCast_zero]at e
 exact e
theorem abf{ws:List ByteArray}(h:∀ w∈ws,eG w):∀ b∈lay ws,32<=b.toNat/\b.toNat<=126:=by
 intro b U
 unfold lay at U
 obtain⟨l,hl,U⟩:=List.mem_flatten.1 U
 obtain⟨w,hw,rfl⟩:=List.mem_map.1 hl
 rcases List.mem_cons.1 U with rfl | U
 ·decide
 ·have:=(h w hw).2 b U
  unfold oJ at this
  omega
theorem Jx{s w:ByteArray}{ws:List ByteArray}(hs:s.size<=600)(h:s.data.toList=w.data.toList++lay ws)(hw:eG w)(nM:∀ x∈ws,eG x)(hn:ws.length<24):sY s=some (w :: ws,true):=by
 have hc:∀ b∈s.data.toList,32<=b.toNat/\b.toNat<=126:=by
  intro b U
  rw[h]at U
  rcases List.mem_append.1 U with U | U
  ·have:=hw.2 b U
   unfold oJ at this
   omega
  ·exact abf nM b U
 have h0:s.data.toList.drop 0=w.data.toList++lay ws:=h
 have st:=Jw (bV:=[]) hs h0 hw (Qr ws) (by simp)
 have hle:0+w.size<=s.size:=by
  have:=congrArg List.length h
  rw[List.length_append]at this
  have e:s.data.toList.length=s.size:=rfl
  have e2:w.data.toList.length=w.size:=rfl
  omega
 obtain⟨n,U⟩:∃ n,big=n+1:=⟨big-1,by have:=dY (show 1000<1073741824 by omega);omega⟩
 have Cw:2*ws.length<n:=by have:=dY (show 1000<1073741824 by omega);omega
 have go:=Qs hs ws (0+w.size) ([]++[w]) n nM hle (s5 h0) (by simp;omega) Cw
 unfold sY
 rw[decide_eq_false (by omega),cond_false,Qt hs hc,bf]
 simp only[Sum.elim_inl,Sum.elim_inr]
 rw[Int.natCast_zero]at st
 rw[U,jj st,go,bf]
 simp only[Sum.elim_inl]
 rw[decide_eq_false (by simp;omega),cond_false]
 rfl
theorem Jy{n:Int}(h0:0<=n)(h1:n<=1000000000):eG (cy n):=by
 have e:(cy n).data.toList=if n=0 then [48]else dd n.toNat:=Eh h0
 have hs:(cy n).size=(cy n).data.toList.length:=rfl
 by_cases hz:n=0
 ·rw[if_pos hz]at e
  refine⟨by rw[hs,e];decide,by rw[e];intro b U;obtain rfl:=List.mem_singleton.1 U;exact⟨by decide,by decide⟩⟩
 ·rw[if_neg hz]at e
  have aA:dd n.toNat≠[]:=by rw[nK (by omega)];simp
  refine⟨by rw[hs,e];exact List.length_pos_iff.2 aA,?_⟩
  rw[e]
  intro b U
  have:=Qn _ b U
  unfold jH at this
  unfold oJ
  omega
theorem abg:∀ d:Nat,d<16->33<=(UInt8.ofNat (nL (d:Int)).toNat).toNat/\(UInt8.ofNat (nL (d:Int)).toNat).toNat<=126:=by decide +kernel
theorem Qu{x:Int}(h0:0<=x)(h1:x<=4294967295):eG (c8 x):=by
 have ef:c8 x=gC x:=by
  unfold c8
  rw[vh.2 ⟨h0,h1⟩]
  rfl
 have hs:(gC x).size=8:=by
  unfold gC
  rw[xF,Bv]
 rw[ef]
 refine⟨by omega,fun b U=>?_⟩
 have e:(gC x).data.toList=(mC x 8).map fun n=>UInt8.ofNat n.toNat:=by
  unfold gC strOfNums
  simp
 rw[e]at U
 obtain⟨n,hn,rfl⟩:=List.mem_map.1 U
 unfold mC at hn
 obtain⟨j,hj,rfl⟩:=List.mem_map.1 hn
 have h:=lX (x.fdiv (2 ^ (28-4*j)))
 have e:dg x j=((dg x j).toNat:Int):=(Int.toNat_of_nonneg h.1).symm
 rw[e]
 exact abg _ (by have:dg x j<=15:=h.2;omega)
theorem Ei(ns:List Int):fJ ns=lay (ns.map cy):=by
 unfold fJ lay
 rw[List.map_map]
 rfl
def cS(ns:List Int)(k:Nat):List Int:=ns.take k++List.replicate (11-k) 0
theorem abh{ns:List Int}{k:Nat}(hk:k<ns.length)(bT:ns.length<=11):(cS ns k).set k ns[k]=cS ns (k+1):=by
 unfold cS
 have hl:(ns.take k).length=k:=by rw[List.length_take];omega
 rw[List.set_append_right _ _ (by omega),hl,Nat.sub_self,show 11-k=(11-(k+1))+1 by omega,List.replicate_succ,List.set_cons_zero,List.take_succ_eq_append_getElem hk,List.append_assoc]
 rfl
theorem Jz{ns:List Int}{k:Nat}(hk:k<=ns.length)(bT:ns.length<=11):(cS ns k).length=11:=by
 unfold cS
 simp
 omega
def z21:=((0:Int),(0:Int),(0:Int),(0:Int),false,(0:Int),(0:Int),(0:Int),(0:Int),(0:Int),(0:Int),(0:Int),(0:Int),(0:Int),(0:Int),(0:Int),(0:Int),(),(0:Int),(0:Int),())
theorem Qv(Ej:List ByteArray)(d:Int){ns:List Int}(b9:∀ n∈ns,0<=n/\n<=1000000000)(bT:ns.length<=11):
  iter j3 big (((),Ej,ns.map cy,d,(),(0:Int),()),(z21,List.replicate 11 (0:Int),([]:List Int),()))=some (.inl (((),Ej,d,(),()),(z21,cS ns ns.length,([]:List Int),()))):=by
 have e:=iM (step:=j3) ns.length (fun i=>(((),Ej,ns.map cy,d,(),(i:Int),()),(z21,cS ns i,([]:List Int),()))) (.inl (((),Ej,d,(),()),(z21,cS ns ns.length,([]:List Int),()))) big (fun k h=>by
  have h1:=Jz (show k<=ns.length by omega) bT
  have h2:=b9 _ (List.getElem_mem h)
  have hm:(ns.map cy).length=ns.length:=List.length_map _
  unfold j3
  dsimp only
  rw[decide_eq_true (by omega),cond_true,decide_eq_true (by omega),cond_true,dif_pos ⟨by omega,by omega⟩]
  simp only[Int.toNat_natCast,List.getElem_map]
  rw[Qq h2.1 h2.2,bf,dif_pos ⟨by omega,by omega⟩,dif_pos (by omega),dJ (by omega),abh h bT]) (by
  have h1:=Jz (show ns.length<=ns.length by omega) bT
  unfold j3
  dsimp only
  have hm:(ns.map cy).length=ns.length:=List.length_map _
  rw[decide_eq_false (by omega),cond_false]) (dY (by omega))
 have e0:cS ns 0=List.replicate 11 (0:Int):=by simp[cS]
 rw[Int.natCast_zero,e0]at e
 exact e
def pv(x:Nat)(k:Nat):Nat:=x / 2 ^ (32-4*k)
theorem Qx{x:Nat}(hx:x<4294967296){j:Nat}(h:j<8):dg (x:Int) j=((x / 2 ^ (28-4*j) % 16:Nat):Int):=by
 have e:(x:Int).fdiv (2 ^ (28-4*j))=((x / 2 ^ (28-4*j):Nat):Int):=by
  rw[Int.fdiv_eq_ediv_of_nonneg _ (Int.pow_nonneg (by omega))]
  simp
 have hl:x / 2 ^ (28-4*j)<=x:=Nat.div_le_self _ _
 unfold dg
 rw[e]
 generalize x / 2 ^ (28-4*j)=q at hl
 rw[RS _ (by omega) (by omega),Int.toNat_natCast]
theorem abi{x:Nat}{k:Nat}(h:k<8):pv x (k+1)=16*pv x k+x / 2 ^ (28-4*k) % 16:=by
 unfold pv
 have e1:32-4*(k+1)=28-4*k:=by omega
 have e2:2 ^ (32-4*k)=2 ^ (28-4*k)*16:=by
  rw[show 32-4*k=(28-4*k)+4 by omega,Nat.pow_add]
 rw[e1,e2,<-Nat.div_div_eq_div_mul]
 generalize x / 2 ^ (28-4*k)=q
 omega
theorem abj:∀ d:Nat,d<16->Bc (ByteArray.mk #[48,49,50,51,52,53,54,55,56,57,97,98,99,100,101,102]) ((UInt8.ofNat (nL (d:Int)).toNat).toNat:Int)=some (d:Int):=by
 decide +kernel
theorem Qy{x:Nat}{k:Nat}(h:k<8)(h':k<(gC (x:Int)).size):(gC (x:Int))[k]'h' = UInt8.ofNat (nL (dg (x:Int) k)).toNat:=by
 have h2:k<(gC (x:Int)).data.toList.length:=h'
 have e:(gC (x:Int)).data.toList=(mC (x:Int) 8).map fun n=>UInt8.ofNat n.toNat:=by
  unfold gC strOfNums
  simp
 rw[gU h' h2]
 simp only[e,List.getElem_map,mC,List.getElem_range]
theorem Qz{x:Int}(h0:0<=x)(h1:x<=4294967295):xy (c8 x)=some (x,true):=by
 obtain⟨n,rfl⟩:=Int.eq_ofNat_of_zero_le h0
 have hn:n<4294967296:=by omega
 have ef:c8 (n:Int)=gC (n:Int):=by
  unfold c8
  rw[vh.2 ⟨h0,h1⟩]
  rfl
 have hs:(gC (n:Int)).size=8:=by
  unfold gC
  rw[xF,Bv]
 rw[ef]
 have e:=iM (step:=mw) 8 (fun i=>((gC (n:Int),(pv n i:Int),(i:Int),()),())) (.inr (.inl (((n:Int),()),()))) big (fun k h=>by
  have aW:pv n k<268435456:=by
   unfold pv
   refine Nat.div_lt_of_lt_mul ?_
   have:16<=2 ^ (32-4*k):=Nat.le_trans (by decide:16<=2 ^ 4) (Nat.pow_le_pow_right (by omega) (by omega))
   omega
  have hd:n / 2 ^ (28-4*k) % 16<16:=Nat.mod_lt _ (by omega)
  unfold mw
  dsimp only
  rw[decide_eq_true (by omega),cond_true,dif_pos ⟨by omega,by omega⟩]
  have hw:=Qy (x:=n) h (show k<(gC (n:Int)).size by omega)
  simp only[Int.toNat_natCast]
  rw[hw,Qx hn h,abj _ hd,bf,decide_eq_false (by omega),cond_false,show (2:Int) ^ (min (4:Int).toNat IntKind.i64.bits)=16 from rfl,bu (by omega) (by omega),J3 _ _ (by omega) (by omega) (by omega) (by omega),dJ (by omega),abi h]
  rfl) (by
  unfold mw
  dsimp only
  rw[decide_eq_false (by omega),cond_false]
  have:pv n 8=n:=by simp[pv]
  rw[this]) (dY (by omega))
 have kG:pv n 0=0:=by
  unfold pv
  exact Nat.div_eq_of_lt hn
 rw[Int.natCast_zero,kG,Int.natCast_zero]at e
 unfold xy
 rw[show (((gC (n:Int)).size:Int) != 8)=false by rw[hs];rfl,cond_false]
 exact(congrArg (fun o=>Option.bind o _) e).trans rfl
theorem abk{w:ByteArray}{ns:List Int}(hl:(eF w ns).size<=600)(bT:ns.length<=11):kU (w :: ns.map cy) (ByteArray.mk #[32])=some (eF w ns):=by
 have hm:(w :: ns.map cy).map (·.data.toList)=w.data.toList :: ns.map Lib.itoa:=by
  rw[List.map_cons,List.map_map]
  rfl
 have hj:Lib.join (w.data.toList :: ns.map Lib.itoa) [32]=w.data.toList++fJ ns:=by
  cases ns with
  | nil=>simp[Lib.join_one,fJ]
  | cons n l=>
   rw[Lib.join_cons,Jn (by simp),<-By]
   rfl
 have hs:(eF w ns).size=(w.data.toList++fJ ns).length:=rfl
 unfold kU
 rw[hm,show (ByteArray.mk #[32]).data.toList=[32]from rfl,hj,decide_eq_true (by simp;omega),decide_eq_true (by omega)]
 rfl
theorem abl{w:ByteArray}{ns:List Int}{b:aC}(hw:eG w)(aA:(w.toList==(ByteArray.mk #[119,114,105,116,101]).toList)=false)(b9:∀ n∈ns,0<=n/\n<=1000000000)(bT:ns.length<=11)(hs:(eF w ns).size<=600)
  (ha:fI w (cS ns ns.length) 0=some b) (hf:lK b=some (eF w ns,true)):gj (eF w ns)=some (b,true):=by
 have fZ:sY (eF w ns)=some (w :: ns.map cy,true):=Jx hs (by
  show w.data.toList++fJ ns=_
  rw[Ei]) hw (fun x hx=>by
  obtain⟨n,hn,rfl⟩:=List.mem_map.1 hx
  exact Jy (b9 n hn).1 (b9 n hn).2) (by rw[List.length_map];omega)
 have hl:(w :: ns.map cy).length=ns.length+1:=by simp
 have cR:(((w :: ns.map cy).take (((w :: ns.map cy).length:Int)).toNat).drop (1:Int).toNat)=ns.map cy:=by
  rw[Int.toNat_natCast,List.take_length]
  rfl
 unfold gj
 rw[fZ,bf]
 dsimp only
 rw[Bool.not_true,cond_false,show (((w :: ns.map cy).length:Int)==0)=false from beq_eq_false_iff_ne.2 (by omega),cond_false,if_pos ⟨by omega,by omega,by omega⟩,dif_pos ⟨by omega,by show 0<_;omega⟩]
 rw[show (w :: ns.map cy)[(0:Int).toNat]'(by show 0<_;omega)=w from rfl,aA]
 simp only[cR,cond_false]
 rw[if_pos ⟨by omega,by omega,by omega⟩]
 refine(congrArg (fun o=>Option.bind o _) (Qv (w :: ns.map cy) 0 b9 bT)).trans ?_
 rw[bf]
 simp only[Sum.elim_inl]
 rw[dif_pos ⟨by omega,by show 0<_;omega⟩]
 rw[show (w :: ns.map cy)[(0:Int).toNat]'(by show 0<_;omega)=w from rfl,ha,bf,hf,bf,Bool.not_true,cond_false,abk hs bT,bf,beq_self_eq_true]
 rfl
theorem JA:∀ (w:ByteArray) (ls:List ByteArray),Lib.join ((w :: ls).map (·.data.toList)) [32]=w.data.toList++lay ls
 | w,[]=>by simp[Lib.join_one,lay]
 | w,x :: ls=>by
  have ih:=JA x ls
  rw[List.map_cons,Lib.join_cons,Jn (by simp),ih]
  rfl
theorem QA(a b:List ByteArray):lay (a++b)=lay a++lay b:=by simp[lay]
theorem abm{ns:List Int}{d:Int}{b:aC}(b9:∀ n∈ns,0<=n/\n<=1000000000)(bT:ns.length<=11)(hd:0<=d/\d<=4294967295)(hs:((eF bn ns++ByteArray.mk #[32])++c8 d).size<=600)
  (ha:fI bn (cS ns ns.length) d=some b) (hf:lK b=some ((eF bn ns++ByteArray.mk #[32])++c8 d,true)):gj ((eF bn ns++ByteArray.mk #[32])++c8 d)=some (b,true):=by
 have hww:eG bn:=by
  refine⟨by show 0<5;omega,fun b U=>?_⟩
  have h:b∈[119,114,105,116,101]:=U
  simp only[List.mem_cons,List.not_mem_nil,or_false]at h
  rcases h with rfl | rfl | rfl | rfl | rfl <;>exact⟨by decide,by decide⟩
 have JB:((eF bn ns++ByteArray.mk #[32])++c8 d).data.toList=bn.data.toList++lay (ns.map cy++[c8 d]):=by
  rw[oI,oI,QA,<-Ei]
  show (bn.data.toList++fJ ns)++[32]++(c8 d).data.toList=_
  simp[lay]
 have bM:∀ x∈ns.map cy++[c8 d],eG x:=by
  intro x hx
  rcases List.mem_append.1 hx with hx | hx
  ·obtain⟨n,hn,rfl⟩:=List.mem_map.1 hx
   exact Jy (b9 n hn).1 (b9 n hn).2
  ·obtain rfl:=List.mem_singleton.1 hx
   exact Qu hd.1 hd.2
 have fZ:=Jx hs JB hww bM (by simp;omega)
 have abn:kU (bn :: (ns.map cy++[c8 d])) (ByteArray.mk #[32])=some ((eF bn ns++ByteArray.mk #[32])++c8 d):=by
  have hsz:((eF bn ns++ByteArray.mk #[32])++c8 d).size=((eF bn ns++ByteArray.mk #[32])++c8 d).data.toList.length:=rfl
  rw[JB]at hsz
  unfold kU
  rw[show (ByteArray.mk #[32]).data.toList=[32]from rfl,JA,decide_eq_true (by simp;omega),decide_eq_true (by omega)]
  exact congrArg some (kX (by rw[JB]))
 generalize (eF bn ns++ByteArray.mk #[32])++c8 d=t at *
 have hl:(ns.map cy++[c8 d]).length=ns.length+1:=by simp
 generalize hA:ns.map cy++[c8 d]=A at *
 have QB:(bn :: A).length=A.length+1:=rfl
 have cR:(((bn :: A).take (((bn :: A).length:Int)).toNat).drop (1:Int).toNat)=A:=by
  rw[Int.toNat_natCast,List.take_length]
  rfl
 have abo:∀ (h:(IntKind.i64.wrap ((A.length:Int)-(1:Int))).toNat<A.length),A[(IntKind.i64.wrap ((A.length:Int)-(1:Int))).toNat]'h=c8 d:=by
  intro h
  have e:(IntKind.i64.wrap ((A.length:Int)-(1:Int))).toNat=ns.length:=by rw[bu (by omega) (by omega)];omega
  simp only[e]
  subst hA
  rw[List.getElem_append_right (by simp)]
  simp
 have Jo:((A.take (IntKind.i64.wrap ((A.length:Int)-(1:Int))).toNat).drop (0:Int).toNat)=ns.map cy:=by
  have e:(IntKind.i64.wrap ((A.length:Int)-(1:Int))).toNat=(ns.map cy).length:=by rw[bu (by omega) (by omega),List.length_map];omega
  rw[e,<-hA,List.take_left']
  ·rfl
  ·rfl
 have hwr:(bn.toList==(ByteArray.mk #[119,114,105,116,101]).toList)=true:=beq_self_eq_true _
 have hi:(IntKind.i64.wrap ((A.length:Int)-(1:Int)))=(ns.length:Int):=by rw[bu (by omega) (by omega)];omega
 unfold gj
 rw[fZ,bf]
 dsimp only
 rw[Bool.not_true,cond_false,show (((bn :: A).length:Int)==0)=false from beq_eq_false_iff_ne.2 (by omega),cond_false,if_pos ⟨by omega,by omega,by omega⟩,dif_pos ⟨by omega,by show 0<_;omega⟩]
 rw[show (bn :: A)[(0:Int).toNat]'(by show 0<_;omega)=bn from rfl,hwr,cond_true]
 simp only[cR]
 rw[decide_eq_true (by omega),cond_true,dif_pos ⟨by rw[hi];omega,by rw[hi];omega⟩,abo,Qz hd.1 hd.2,bf,if_pos ⟨by omega,by rw[hi];omega,by rw[hi];omega⟩,if_pos ⟨by omega,by omega,by omega⟩,Jo]
 refine(congrArg (fun o=>Option.bind o _) (Qv (bn :: A) d b9 bT)).trans ?_
 rw[bf]
 simp only[Sum.elim_inl]
 rw[dif_pos ⟨by omega,by show 0<_;omega⟩]
 rw[show (bn :: A)[(0:Int).toNat]'(by show 0<_;omega)=bn from rfl,ha,bf,hf,bf,Bool.not_true,cond_false,abn,bf,beq_self_eq_true]
 rfl
theorem abp{u a:aC}(hk:u.kind=a.kind)(h:iE u a=true):u=a:=by
 simp only[iE,pE,Bool.and_eq_true,beq_iff_eq,Qj]at h
 obtain⟨⟨r1,r2,r3,r4,r5,r6,_⟩,n,c,⟨b1,b2,b3,_⟩,p1,p2,p3,p4,p5,w,d1,d2,_⟩:=h
 obtain⟨k,⟨q1,q2,q3,q4,q5,q6⟩,m,e,⟨x1,x2,x3⟩,⟨y1,y2,y3,y4,y5,y6,⟨z1,z2⟩⟩⟩:=u
 obtain⟨k',⟨q1',q2',q3',q4',q5',q6'⟩,m',e',⟨x1',x2',x3'⟩,⟨y1',y2',y3',y4',y5',y6',⟨z1',z2'⟩⟩⟩:=a
 simp only at hk r1 r2 r3 r4 r5 r6 n c b1 b2 b3 p1 p2 p3 p4 p5 w d1 d2
 subst hk r1 r2 r3 r4 r5 r6 n c b1 b2 b3 p1 p2 p3 p4 p5 w d1 d2
 rfl
def zR:lT:=⟨0,0,0,false,0,0⟩
def zP:gZ:=⟨0,0,0,0,0,[],⟨0,0⟩⟩
theorem QC:(gD.toList==(ByteArray.mk #[119,114,105,116,101]).toList)=false:=by decide +kernel
theorem cw1:(bn.toList==(ByteArray.mk #[114,101,97,100]).toList)=false:=by decide +kernel
theorem tr1:(gD.toList==(ByteArray.mk #[114,101,97,100]).toList)=true:=beq_self_eq_true _
theorem tw1:(bn.toList==(ByteArray.mk #[119,114,105,116,101]).toList)=true:=beq_self_eq_true _
theorem abq(i t l d:Int):fI gD (cS [i,t,l] 3) d=some ⟨1,⟨i,t,l,false,d,0⟩,0,0,⟨0,0,0⟩,zP⟩:=by
 unfold fI
 simp only[tr1,QC,cond_true,cond_false]
 rfl
theorem abr(i t l d:Int):fI bn (cS [i,t,l] 3) d=some ⟨1,⟨i,t,l,true,d,0⟩,0,0,⟨0,0,0⟩,zP⟩:=by
 unfold fI
 simp only[tw1,cw1,cond_true,cond_false]
 rfl
theorem QD:(gE.toList==(ByteArray.mk #[114,101,97,100]).toList)=false/\(gE.toList==(ByteArray.mk #[119,114,105,116,101]).toList)=false/\(gE.toList==(ByteArray.mk #[119,97,105,116]).toList)=true:=by decide +kernel
theorem abt(n d:Int):fI gE (cS [n] 1) d=some ⟨2,zR,n,0,⟨0,0,0⟩,zP⟩:=by
 unfold fI
 obtain⟨h1,h2,h3⟩:=QD
 simp only[h1,h2,h3,cond_true,cond_false]
 rfl
theorem QE:(gl.toList==(ByteArray.mk #[114,101,97,100]).toList)=false/\(gl.toList==(ByteArray.mk #[119,114,105,116,101]).toList)=false/\(gl.toList==(ByteArray.mk #[119,97,105,116]).toList)=false/\(gl.toList==(ByteArray.mk #[104,101,97,116]).toList)=true:=by decide +kernel
theorem abu(n d:Int):fI gl (cS [n] 1) d=some ⟨4,zR,n,0,⟨0,0,0⟩,zP⟩:=by
 unfold fI
 obtain⟨h1,h2,h3,h4⟩:=QE
 simp only[h1,h2,h3,h4,cond_true,cond_false]
 rfl
theorem QF:(fV.toList==(ByteArray.mk #[114,101,97,100]).toList)=false/\(fV.toList==(ByteArray.mk #[119,114,105,116,101]).toList)=false/\(fV.toList==(ByteArray.mk #[119,97,105,116]).toList)=false/\(fV.toList==(ByteArray.mk #[104,101,97,116]).toList)=false/\(fV.toList==(ByteArray.mk #[102,108,105,112]).toList)=true:=by decide +kernel
theorem abv(b r c p n d:Int):fI fV (cS [b,r,c,p,n] 5) d=some ⟨3,zR,n,p,⟨b,r,c⟩,zP⟩:=by
 unfold fI
 obtain⟨h1,h2,h3,h4,h5⟩:=QF
 simp only[h1,h2,h3,h4,h5,cond_true,cond_false]
 rfl
theorem QG:(fA.toList==(ByteArray.mk #[114,101,97,100]).toList)=false/\(fA.toList==(ByteArray.mk #[119,114,105,116,101]).toList)=false/\(fA.toList==(ByteArray.mk #[119,97,105,116]).toList)=false/\(fA.toList==(ByteArray.mk #[104,101,97,116]).toList)=false/\(fA.toList==(ByteArray.mk #[102,108,105,112]).toList)=false/\(fA.toList==(ByteArray.mk #[112,111,108,105,99,121]).toList)=false/\(fA.toList==(ByteArray.mk #[114,101,116,105,114,101]).toList)=true:=by decide +kernel
theorem abw(b r d:Int):fI fA (cS [b,r] 2) d=some ⟨6,zR,0,0,⟨b,r,0⟩,zP⟩:=by
 unfold fI
 obtain⟨h1,h2,h3,h4,h5,h6,h7⟩:=QG
 simp only[h1,h2,h3,h4,h5,h6,h7,cond_true,cond_false]
 rfl
theorem QH:(fB.toList==(ByteArray.mk #[114,101,97,100]).toList)=false/\(fB.toList==(ByteArray.mk #[119,114,105,116,101]).toList)=false/\(fB.toList==(ByteArray.mk #[119,97,105,116]).toList)=false/\(fB.toList==(ByteArray.mk #[104,101,97,116]).toList)=false/\(fB.toList==(ByteArray.mk #[102,108,105,112]).toList)=false/\(fB.toList==(ByteArray.mk #[112,111,108,105,99,121]).toList)=true/\(fB.toList==(ByteArray.mk #[114,101,116,105,114,101]).toList)=false:=by decide +kernel
theorem abx(a b c e f g h i j k l d:Int):fI fB (cS [a,b,c,e,f,g,h,i,j,k,l] 11) d=some ⟨5,zR,0,0,⟨0,0,0⟩,⟨a,b,c,e,f,[g,h,i,j],⟨k,l⟩⟩⟩:=by
 unfold fI
 obtain⟨h1,h2,h3,h4,h5,h6,h7⟩:=QH
 simp only[h1,h2,h3,h4,h5,h6,h7,cond_true,cond_false]
 rfl
theorem qJ{a u:aC}{w t:ByteArray}{ns:List Int}(hk:u.kind=a.kind)(aA:(w.toList==(ByteArray.mk #[]).toList)=false)(hn:ns≠[])(b9:∀ n∈ns,b7 n)(hl:ns.length<=2000000)(hw:w.size<=100)(qI:u.ak.weights.length<1073741824)
  (h:ji a u w ns=some (t,true)):u=a/\(0<=a.request.data/\a.request.data<=4294967295)/\(∀ n∈ns,0<=n/\n<=1000000000)/\t=bif a.request.write then (eF w ns++ByteArray.mk #[32])++c8 a.request.data else eF w ns:=by
 rw[qH aA hn b9 hl hw qI]at h
 have h:=Option.some.inj h
 cases hc:(iE u a&&lO a.request.data 0 4294967295)with
 | false=>rw[hc]at h;cases h
 | true=>
  rw[hc,cond_true]at h
  rw[Bool.and_eq_true]at hc
  unfold fin at h
  cases ha:ns.all vi with
  | false=>rw[ha]at h;cases h
  | true=>
   rw[ha,cond_true]at h
   refine⟨abp hk hc.1,vh.1 hc.2,fun n hn=>vh.1 (List.all_eq_true.1 ha n hn),?_⟩
   cases hw:a.request.write with
   | true=>rw[hw]at h;exact(congrArg Prod.fst h).symm
   | false=>rw[hw]at h;exact(congrArg Prod.fst h).symm
theorem lP(w:ByteArray)(h:(decide (0<w.size)&&w.data.toList.all (fun b=>decide (33<=b.toNat)&&decide (b.toNat<=126)))=true):eG w:=by
 rw[Bool.and_eq_true,List.all_eq_true]at h
 refine⟨of_decide_eq_true h.1,fun b U=>?_⟩
 have:=h.2 b U
 rw[Bool.and_eq_true]at this
 exact⟨of_decide_eq_true this.1,of_decide_eq_true this.2⟩
theorem xK{a u:aC}{w t:ByteArray}{ns:List Int}(hk:u.kind=a.kind)(aA:(w.toList==(ByteArray.mk #[]).toList)=false)(hnw:(w.toList==(ByteArray.mk #[119,114,105,116,101]).toList)=false)(hwd:eG w)(hw:w.size<=100)(hn:ns≠[])(b9:∀ n∈ns,b7 n)(bT:ns.length<=11)(qI:u.ak.weights.length<1073741824)(hu:u.request.write=false)
  (ha:fI w (cS ns ns.length) 0=some u) (hf:lK a=some (t,true)) (h:ji a u w ns=some (t,true)):gj t=some (a,true):=by
 obtain⟨e,hd,hr,ht⟩:=qJ hk aA hn b9 (by omega) hw qI h
 subst e
 rw[hu,cond_false]at ht
 subst ht
 have hs:=Ju (w:=w) b9
 exact abl hwd hnw hr bT (by omega) ha hf
theorem aby{a u:aC}{t:ByteArray}{ns:List Int}(hk:u.kind=a.kind)(hn:ns≠[])(b9:∀ n∈ns,b7 n)(bT:ns.length<=11)(qI:u.ak.weights.length<1073741824)(hu:u.request.write=true)
  (ha:fI bn (cS ns ns.length) u.request.data=some u) (hf:lK a=some (t,true)) (h:ji a u bn ns=some (t,true)):gj t=some (a,true):=by
 obtain⟨e,hd,hr,ht⟩:=qJ hk Bz.2.1 hn b9 (by omega) (by decide +kernel) qI h
 subst e
 rw[hu,cond_true]at ht
 subst ht
 have hs:=Ju (w:=bn) b9
 have hw5:bn.size=5:=rfl
 have h8:=Qf u.request.data
 refine abm hr (by omega) hd ?_ ha hf
 rw[Bu,Bu]
 show (eF bn ns).size+1+_<=_
 omega
theorem abz(a:aC)(h:xH a){t:ByteArray}(hf:lK a=some (t,true)):gj t=some (a,true):=by
 obtain⟨_,⟨r1,r2,r3,_,r5,r6⟩,i1,i2,⟨b1,b2,b3⟩,⟨p1,p2,p3,p4,p5,p6,p7⟩⟩:=h
 obtain⟨e1,e2,e3,e4,e5,e6,e7⟩:=Bz
 have z:([]:List Int).length<1073741824:=by simp
 have bQ:=hf
 rw[Ef]at bQ
 unfold xz at bQ
 by_cases k2:a.kind=2
 ·simp only[k2,show ((2:Int)==1)=false from rfl,show ((2:Int)==2)=true from rfl,cond_true,cond_false]at bQ
  exact xK (u:=uN a) rfl e3 QD.2.1 (lP _ (by decide +kernel)) (by decide +kernel) (by simp) (by simp only[List.forall_mem_cons];exact⟨i1,fun _ h=>by cases h⟩) (by simp) z rfl ((abt a.n 0).trans (by unfold uN;rw[k2];rfl)) hf bQ
 by_cases k4:a.kind=4
 ·simp only[k4,show ((4:Int)==1)=false from rfl,show ((4:Int)==2)=false from rfl,show ((4:Int)==4)=true from rfl,cond_true,cond_false]at bQ
  exact xK (u:=uN a) rfl e4 QE.2.1 (lP _ (by decide +kernel)) (by decide +kernel) (by simp) (by simp only[List.forall_mem_cons];exact⟨i1,fun _ h=>by cases h⟩) (by simp) z rfl ((abu a.n 0).trans (by unfold uN;rw[k4];rfl)) hf bQ
 by_cases k3:a.kind=3
 ·simp only[k3,show ((3:Int)==1)=false from rfl,show ((3:Int)==2)=false from rfl,show ((3:Int)==4)=false from rfl,show ((3:Int)==3)=true from rfl,cond_true,cond_false]at bQ
  exact xK (u:=uF a) rfl e5 QF.2.1 (lP _ (by decide +kernel)) (by decide +kernel) (by simp) (by simp only[List.forall_mem_cons];exact⟨b1,b2,b3,i2,i1,fun _ h=>by cases h⟩) (by simp) z rfl ((abv a.addr.cO a.addr.row a.addr.dZ a.cz a.n 0).trans (by unfold uF;rw[k3];rfl)) hf bQ
 by_cases k6:a.kind=6
 ·simp only[k6,show ((6:Int)==1)=false from rfl,show ((6:Int)==2)=false from rfl,show ((6:Int)==4)=false from rfl,show ((6:Int)==3)=false from rfl,show ((6:Int)==5)=false from rfl,show ((6:Int)==6)=true from rfl,cond_true,cond_false]at bQ
  exact xK (u:=uR a) rfl e6 QG.2.1 (lP _ (by decide +kernel)) (by decide +kernel) (by simp) (by simp only[List.forall_mem_cons];exact⟨b1,b2,fun _ h=>by cases h⟩) (by simp) z rfl ((abw a.addr.cO a.addr.row 0).trans (by unfold uR;rw[k6];rfl)) hf bQ
 by_cases k1:a.kind=1
 ·simp only[k1,show ((1:Int)==1)=true from rfl,cond_true]at bQ
  have b9:∀ n∈[a.request.id,a.request.de,a.request.line],b7 n:=by
   simp only[List.forall_mem_cons]
   exact⟨r1,r2,r3,fun _ h=>by cases h⟩
  cases hw:a.request.write with
  | true=>
   rw[hw]at bQ
   exact aby (u:=uA a a.request.data) rfl (by simp) b9 (by simp) z hw ((abr a.request.id a.request.de a.request.line a.request.data).trans (by unfold uA;rw[k1,hw];rfl)) hf bQ
  | false=>
   rw[hw]at bQ
   exact xK (u:=uA a 0) rfl e1 QC (lP _ (by decide +kernel)) (by decide +kernel) (by simp) b9 (by simp) z hw ((abq a.request.id a.request.de a.request.line 0).trans (by unfold uA;rw[k1,hw];rfl)) hf bQ
 have c1:(a.kind==1)=false:=by simpa using k1
 have c2:(a.kind==2)=false:=by simpa using k2
 have c3:(a.kind==3)=false:=by simpa using k3
 have c4:(a.kind==4)=false:=by simpa using k4
 have c6:(a.kind==6)=false:=by simpa using k6
 have no:∀ {u:aC} {ns:List Int},ji a u (ByteArray.mk #[]) ns=some (t,true)->gj t=some (a,true):=fun h=>by
  rw[Eg]at h
  have:=congrArg Prod.snd (Option.some.inj h)
  cases this
 by_cases k5:a.kind=5
 ·simp only[k5,show ((5:Int)==1)=false from rfl,show ((5:Int)==2)=false from rfl,show ((5:Int)==4)=false from rfl,show ((5:Int)==3)=false from rfl,show ((5:Int)==6)=false from rfl,show ((5:Int)==5)=true from rfl,cond_true,cond_false]at bQ
  by_cases h4:a.ak.weights.length=4
  ·have c:((a.ak.weights.length:Int)==4)=true:=by simp[h4]
   rw[c,cond_true,dif_pos ⟨by omega,by show 0<_;omega⟩,dif_pos ⟨by omega,by show 1<_;omega⟩,dif_pos ⟨by omega,by show 2<_;omega⟩,dif_pos ⟨by omega,by show 3<_;omega⟩]at bQ
   have JC:=four h4
   refine xK (u:=uP a) (ns:=[a.ak.dr,a.ak.cap,a.ak.dw,a.ak.low,a.ak.high,a.ak.weights[0],a.ak.weights[1],a.ak.weights[2],a.ak.weights[3],a.ak.bP.down,a.ak.bP.sleep]) rfl e7 QH.2.1 (lP _ (by decide +kernel)) (by decide +kernel) (by simp) ?_ (by simp) (show a.ak.weights.length<_ by omega) rfl ?_ hf bQ
   ·simp only[List.forall_mem_cons]
    exact⟨p1,p2,p3,p4,p5,p6.2 _ (List.getElem_mem _),p6.2 _ (List.getElem_mem _),p6.2 _ (List.getElem_mem _),p6.2 _ (List.getElem_mem _),p7.1,p7.2,fun _ h=>by cases h⟩
   ·refine(abx _ _ _ _ _ _ _ _ _ _ _ 0).trans ?_
    rw[<-JC]
    unfold uP
    rw[k5]
    rfl
  ·have c:((a.ak.weights.length:Int)==4)=false:=by simp;omega
   rw[c,cond_false]at bQ
   exact no bQ
 have c5:(a.kind==5)=false:=by simpa using k5
 simp only[c1,c2,c3,c4,c5,c6,cond_false]at bQ
 exact no bQ
theorem abA(x:aC):iE x x=true:=by
 have h:xG x.ak.weights x.ak.weights=true:=Qj.2 rfl
 simp[iE,pE,h]
def bA{T:Type}(g:T->Int->T×Int):List T->Int->List T×Int
 | [],k=>([],k)
 | x :: l,k=>((g x k).1 :: (bA g l (g x k).2).1,(bA g l (g x k).2).2)
theorem QI{T:Type}(g:T->Int->T×Int)(x:T):∀ (l:List T) (k:Int),bA g (l++[x]) k=((bA g l k).1++[(g x (bA g l k).2).1],(g x (bA g l k).2).2)
 | [],k=>rfl
 | y :: l,k=>by
  rw[List.cons_append]
  unfold bA
  rw[QI g x l]
  rfl
theorem xL{T:Type}(g:T->Int->T×Int):∀ (l:List T) (k:Int),(bA g l k).1.length=l.length
 | [],k=>rfl
 | y :: l,k=>by
  unfold bA
  rw[List.length_cons,List.length_cons,xL g l]
theorem BB{T:Type}(g:T->Int->T×Int)(s:Nat):∀ (l:List T) (k:Int),(∀ x∈l,∀ k,k<=(g x k).2/\(g x k).2<=k+s)->k<=(bA g l k).2/\(bA g l k).2<=k+((s*l.length:Nat):Int)
 | [],k,_=>by simp[bA]
 | y :: l,k,h=>by
  have h1:=h y (.head _) k
  have h2:=BB g s l (g y k).2 fun x hx=>h x (.tail _ hx)
  have h3:s*(y :: l).length=s*l.length+s:=by rw[List.length_cons,Nat.mul_succ]
  show k<=(bA g l (g y k).2).2/\(bA g l (g y k).2).2<=_
  rw[h3]
  omega
theorem QJ{T:Type}(g:T->Int->T×Int)(l:List T)(k:Int){i:Nat}(hi:i<l.length):bA g (l.take (i+1)) k=((bA g (l.take i) k).1++[(g l[i] (bA g (l.take i) k).2).1],(g l[i] (bA g (l.take i) k).2).2):=by
 rw[Qd hi,QI]
theorem QK{T:Type}(g:T->Int->T×Int):∀ (l:List T) (k:Int) (i:Nat) (hi:i<l.length) (hj:i<(bA g l k).1.length),(bA g l k).1[i]=(g l[i] (bA g (l.take i) k).2).1
 | [],k,i,hi,hj=>by simp at hi
 | y :: l,k,0,hi,hj=>rfl
 | y :: l,k,i+1,hi,hj=>QK g l (g y k).2 i (by simpa using hi) (by rw[xL];simpa using hi)
theorem JD{s n i:Nat}(hs:s<=2097154)(hi:i<=n)(hn:n<=1048576):s*i<=2199025352704:=Nat.le_trans (Nat.mul_le_mul hs (Nat.le_trans hi hn)) (by decide)
theorem QL{T:Type}(g:T->Int->T×Int)(s:Nat)(B:Int)(st:((Unit×Int×Int×Unit)×(List T×Unit))->Option (((Unit×Int×Int×Unit)×(List T×Unit))⊕(((Int×Unit)×(List T×Unit))⊕Empty)))(l:List T)(hl:l.length<=1048576)(hs:s<=2097154)(U:∀ x∈l,∀ k,k<=(g x k).2/\(g x k).2<=k+s)
  (JE:∀ (a:List T) (i:Nat) (k:Int) (h:i<a.length),i<1048576->a[i]∈l->0<=k->k<=B+2199025352704->st (((),k,(i:Int),()),(a,()))=some (.inl (((),(g a[i] k).2,((i+1:Nat):Int),()),(a.set i (g a[i] k).1,()))))
  (uK:∀ (a:List T) (k:Int),st (((),k,(a.length:Int),()),(a,()))=some (.inr (.inl ((k,()),(a,()))))) (k:Int) (h0:0<=k) (h1:k<=B):iter st big (((),k,(0:Int),()),(l,()))=some (.inl (((bA g l k).2,()),((bA g l k).1,()))):=by
 have e:=iM (step:=st) l.length (fun i=>(((),(bA g (l.take i) k).2,(i:Int),()),((bA g (l.take i) k).1++l.drop i,()))) (.inl (((bA g l k).2,()),((bA g l k).1,()))) big (fun i hi=>by
  have ig:=BB g s (l.take i) k fun x hx=>U x (List.mem_of_mem_take hx)
  have hm:=JD hs (Nat.le_of_lt hi) hl
  have ht:(l.take i).length=i:=by rw[List.length_take];omega
  have hg:(bA g (l.take i) k).1.length=i:=by rw[xL,ht]
  rw[ht]at ig
  have ha:((bA g (l.take i) k).1++l.drop i).length=l.length:=by rw[List.length_append,hg,List.length_drop];omega
  have hx:((bA g (l.take i) k).1++l.drop i)[i]'(by omega)=l[i]:=by
   rw[List.getElem_append_right (by omega),List.getElem_drop]
   congr 1
   omega
  have hq:=JE _ i (bA g (l.take i) k).2 (by omega:i<((bA g (l.take i) k).1++l.drop i).length) (by omega) (by rw[hx];exact List.getElem_mem _) (by omega) (by omega)
  rw[hx]at hq
  refine hq.trans ?_
  rw[QJ g l k hi,List.set_append_right _ _ (by omega),hg,Nat.sub_self,List.drop_eq_getElem_cons hi,List.set_cons_zero,List.append_assoc]
  rfl) (by
  have hq:=uK (bA g l k).1 (bA g l k).2
  rw[xL]at hq
  rw[List.take_length,List.drop_length,List.append_nil]
  exact hq) (dY (by omega))
 exact e
theorem QM{T:Type}(g:T->Int->T×Int)(s:Nat)(B:Int)(st:((List T×Int×Int×Unit)×Unit)->Option (((List T×Int×Int×Unit)×Unit)⊕(((Int×Unit)×Unit)⊕(((Int×Unit)×Unit)⊕Empty))))(l:List T)(hl:l.length<=1048576)(hs:s<=2097154)(U:∀ x∈l,∀ k,k<=(g x k).2/\(g x k).2<=k+s)
  (JE:∀ (a:List T) (x:T) (i:Nat) (k:Int) (h:i<a.length),i<1048576->x∈l->a[i]=(g x k).1->0<=k->k<=B+2199025352704->st ((a,k,(i:Int),()),())=some (.inl ((a,(g x k).2,((i+1:Nat):Int),()),())))
  (uK:∀ (a:List T) (k:Int),st ((a,k,(a.length:Int),()),())=some (.inr (.inr (.inl ((k,()),()))))) (k:Int) (h0:0<=k) (h1:k<=B):iter st big (((bA g l k).1,k,(0:Int),()),())=some (.inr (.inl (((bA g l k).2,()),()))):=by
 have e:=iM (step:=st) l.length (fun i=>(((bA g l k).1,(bA g (l.take i) k).2,(i:Int),()),())) (.inr (.inl (((bA g l k).2,()),()))) big (fun i hi=>by
  have ig:=BB g s (l.take i) k fun x hx=>U x (List.mem_of_mem_take hx)
  have hm:=JD hs (Nat.le_of_lt hi) hl
  have ht:(l.take i).length=i:=by rw[List.length_take];omega
  rw[ht]at ig
  have hg:=xL g l k
  have hq:=JE (bA g l k).1 l[i] i (bA g (l.take i) k).2 (by omega) (by omega) (List.getElem_mem _) (QK g l k i hi (by omega)) (by omega) (by omega)
  rw[QJ g l k hi]
  exact hq) (by
  have hq:=uK (bA g l k).1 (bA g l k).2
  rw[xL]at hq
  rw[List.take_length]
  exact hq) (dY (by omega))
 exact e
def MH{T:Type}(mark:List T->Int->Option (Int×(List T×Unit)))(held:List T->Int->Option Int)(l:List T):Prop:=∀ k:Int,0<=k->k<=1152921504606846976->∃ m l',mark l k=some (m,(l',()))/\held l' k=some m/\k<=m/\m<=k+2199025352704
theorem abB{T:Type}{mark:List T->Int->Option (Int×(List T×Unit))}{held:List T->Int->Option Int}{l:List T}(g:T->Int->T×Int)(s:Nat)(hl:l.length<=1048576)(hs:s<=2097154)(U:∀ x∈l,∀ k,k<=(g x k).2/\(g x k).2<=k+s)(hm:∀ k:Int,0<=k->k<=1152921504606846976->mark l k=some ((bA g l k).2,((bA g l k).1,())))(hh:∀ k:Int,0<=k->k<=1152921504606846976->held (bA g l k).1 k=some (bA g l k).2):MH mark held l:=fun k h0 h1=>by
 have:=BB g s l k U
 have:=JD hs (Nat.le_refl _) hl
 exact⟨_,_,hm k h0 h1,hh k h0 h1,by omega,by omega⟩
def fW(_:Int)(k:Int):Int×Int:=(k,k+1)
theorem JF(x:Int)(k:Int):k<=(fW x k).2/\(fW x k).2<=k+(1:Nat):=by
 unfold fW
 dsimp only
 omega
theorem abC(l:List Int)(hl:l.length<=1048576)(k:Int)(h0:0<=k)(h1:k<=2305843009213693952):D0 l k=some ((bA fW l k).2,((bA fW l k).1,())):=by
 unfold D0
 rw[QL fW 1 2305843009213693952 Bp l hl (by omega) (fun x _=>JF x) (fun a i k h hi _ h0 h1=>by
  have c2:0<=(i:Int):=by omega
  unfold Bp
  dsimp only
  rw[decide_eq_true (by omega),cond_true]
  simp only[List.length_set,Int.toNat_natCast,c2,h,and_self,dite_true,List.getElem_set_self,List.set_set]
  rw[dJ (by omega),bu (n:=k+1) (by omega) (by omega)]
  rfl) (fun a k=>by
  unfold Bp
  dsimp only
  rw[decide_eq_false (by omega),cond_false]) k h0 h1]
 rfl
theorem abD(l:List Int)(hl:l.length<=1048576)(k:Int)(h0:0<=k)(h1:k<=2305843009213693952):Ec (bA fW l k).1 k=some (bA fW l k).2:=by
 unfold Ec
 rw[QM fW 1 2305843009213693952 Bs l hl (by omega) (fun x _=>JF x) (fun a x i k h hi _ hx h0 h1=>by
  have c2:0<=(i:Int):=by omega
  unfold Bs
  dsimp only
  rw[decide_eq_true (by omega),cond_true]
  simp only[Int.toNat_natCast,c2,h,and_self,dite_true,hx]
  rw[dJ (by omega),bu (n:=k+1) (by omega) (by omega)]
  simp only[fW,bne_self_eq_false,beq_self_eq_true,Bool.not_true,cond_false]) (fun a k=>by
  unfold Bs
  dsimp only
  rw[decide_eq_false (by omega),cond_false]) k h0 h1]
 rfl
theorem JG(l:List Int)(h:l.length<=1048576)(k:Int):k<=(bA fW l k).2/\(bA fW l k).2<=k+1048576:=by
 have:=BB fW 1 l k fun x _=>JF x
 omega
def iN(l:List Int):List (List UInt8):=l.map fun d=>(cy d).data.toList
theorem abE:∀ (n:Nat) (l:List UInt8),l.length<=n->(∀ b∈l,jH b)->l.head?≠some 48->dd (bz l).toNat=l:=by
 intro n
 induction n with
 | zero=>
  intro l hl _ _
  have:l=[]:=List.length_eq_zero_iff.1 (by omega)
  subst this
  rfl
 | succ n ih=>
  intro l hl hd hh
  rcases List.eq_nil_or_concat l with rfl | ⟨l',b,rfl⟩
  ·rfl
  ·rw[List.concat_eq_append]at *
   have U:jH b:=hd b (by simp)
   have k7:∀ x∈l',jH x:=fun x hx=>hd x (by simp[hx])
   unfold jH at U
   have hv:=s4 (l:=l') k7 l'.length (Nat.le_refl _)
   rw[List.take_length]at hv
   rw[BA]
   have bL:l'.length<=n:=by simp at hl;omega
   have QN:UInt8.ofNat (48+(b.toNat-48))=b:=by rw[show 48+(b.toNat-48)=b.toNat by omega];exact UInt8.ofNat_toNat
   cases l' with
   | nil=>
    have abF:b≠48:=by simpa using hh
    have aA:b.toNat≠48:=fun e=>abF (UInt8.toNat_inj.1 e)
    have e:(bz []*10+((b.toNat:Int)-48)).toNat=b.toNat-48:=by
     show ((0:Int)*10+((b.toNat:Int)-48)).toNat=_
     omega
    rw[e]
    rw[nK (by omega),show (b.toNat-48) / 10=0 by omega,show (b.toNat-48) % 10=b.toNat-48 by omega,QN]
    rfl
   | cons x l'=>
    have xM:=ih (x :: l') bL k7 (by simpa using hh)
    have e:(bz (x :: l')*10+((b.toNat:Int)-48)).toNat=(bz (x :: l')).toNat*10+(b.toNat-48):=by omega
    have hn0:(bz (x :: l')).toNat≠0:=by
     intro e0
     rw[e0]at xM
     cases xM
    rw[e]
    rw[nK (by omega),show ((bz (x :: l')).toNat*10+(b.toNat-48)) / 10=(bz (x :: l')).toNat by omega,show ((bz (x :: l')).toNat*10+(b.toNat-48)) % 10=b.toNat-48 by omega,QN,xM]
def vj(l:List UInt8):Bool:=l.all (fun b=>decide (48<=b.toNat)&&decide (b.toNat<=57))&&(decide (0<l.length)&&(decide (l.length=1) || l.head? != some 48))
theorem QO{l:List UInt8}(h:vj l=true):Lib.itoa (bz l)=l:=by
 simp only[vj,Bool.and_eq_true,Bool.or_eq_true,decide_eq_true_eq,List.all_eq_true,bne_iff_ne]at h
 obtain⟨h1,h2,h3⟩:=h
 have hd:∀ b∈l,jH b:=fun b U=>h1 b U
 have hv:=s4 (l:=l) hd l.length (Nat.le_refl _)
 rw[List.take_length]at hv
 rw[Eh hv.1]
 by_cases mF:l.head?=some 48
 ·have hl:l.length=1:=by
   rcases h3 with h3 | h3
   ·exact h3
   ·exact absurd mF h3
  obtain⟨x,rfl⟩:=List.length_eq_one_iff.1 hl
  have:x=48:=by simpa using mF
  subst this
  rfl
 ·have e:=abE l.length l (Nat.le_refl _) hd mF
  by_cases h0:bz l=0
  ·rw[h0]at e
   unfold dd at e
   simp at e
   subst e
   exact absurd h2 (by simp)
  ·rw[if_neg h0,e]
def dK(l:List UInt8):ByteArray:=⟨l.toArray⟩
theorem abG(l:List UInt8):(dK l).data.toList=l:=rfl
theorem abH(s:ByteArray):dK s.data.toList=s:=kX rfl
def ck:List UInt8->List UInt8->List (List UInt8)
 | cur,[]=>bif cur.isEmpty then []else [cur]
 | cur,b :: l=>bif b==32 then (bif cur.isEmpty then ck [] l else cur :: ck [] l)else ck (cur++[b]) l
theorem Ek:∀ (w cur l:List UInt8),(∀ b∈w,b≠32)->ck cur (w++l)=ck (cur++w) l
 | [],cur,l,_=>by rw[List.nil_append,List.append_nil]
 | b :: w,cur,l,h=>by
  have U:(b==32)=false:=by simpa using h b (.head _)
  show (bif b==32 then _ else ck (cur++[b]) (w++l))=_
  rw[U,cond_false,Ek w (cur++[b]) l (fun x hx=>h x (.tail _ hx)),List.append_assoc]
  rfl
theorem QS{w:List UInt8}(h:w≠[]):ck w []=[w]:=by
 cases w with
 | nil=>exact absurd rfl h
 | cons b w=>rfl
theorem QT{w:List UInt8}(h:w≠[])(l:List UInt8):ck w (32 :: l)=w :: ck [] l:=by
 cases w with
 | nil=>exact absurd rfl h
 | cons b w=>rfl
theorem QU(l:List UInt8):ck [] (32 :: l)=ck [] l:=rfl
def fC(b:UInt8):Bool:=decide (32<=b.toNat)&&decide (b.toNat<=126)
theorem El:∀ (l cur:List UInt8),(∀ b∈cur,oJ b)->(∀ b∈l,fC b=true)->∀ w∈ck cur l,w≠[]/\∀ b∈w,oJ b
 | [],cur,hc,_,w,hw=>by
  cases cur with
  | nil=>cases hw
  | cons c cur=>
   obtain rfl:=List.mem_singleton.1 hw
   exact⟨by simp,hc⟩
 | b :: l,cur,hc,hl,w,hw=>by
  have dc:∀ x∈l,fC x=true:=fun x hx=>hl x (.tail _ hx)
  have U:=hl b (.head _)
  simp only[fC,Bool.and_eq_true,decide_eq_true_eq]at U
  change w∈(bif b==32 then (bif cur.isEmpty then ck [] l else cur :: ck [] l)else ck (cur++[b]) l)at hw
  cases h:b==32 with
  | true=>
   rw[h,cond_true]at hw
   cases cur with
   | nil=>exact El l [] (fun _ h=>by cases h) dc w hw
   | cons c cur=>
    rcases List.mem_cons.1 hw with rfl | hw
    ·exact⟨by simp,hc⟩
    ·exact El l [] (fun _ h=>by cases h) dc w hw
  | false=>
   rw[h,cond_false]at hw
   have aA:b.toNat≠32:=fun e=>by
    have:b=32:=UInt8.toNat_inj.1 e
    rw[this]at h
    cases h
   refine El l (cur++[b]) (fun x hx=>?_) dc w hw
   rcases List.mem_append.1 hx with hx | hx
   ·exact hc x hx
   ·obtain rfl:=List.mem_singleton.1 hx
    exact⟨by omega,by omega⟩
theorem JH:∀ (l cur:List UInt8),(ck cur l).length<=l.length+1
 | [],cur=>by
  show (bif cur.isEmpty then []else [cur]:List (List UInt8)).length<=_
  cases cur.isEmpty <;>simp
 | b :: l,cur=>by
  have h1:=JH l []
  have h2:=JH l (cur++[b])
  show (bif b==32 then (bif cur.isEmpty then ck [] l else cur :: ck [] l)else ck (cur++[b]) l:List (List UInt8)).length<=_
  cases b==32 <;>cases cur.isEmpty <;>simp <;>omega
theorem QV:∀ (l:List UInt8),∃ w r,l=w++r/\(∀ b∈w,b≠32)/\(r=[]\/∃ r',r=32 :: r')
 | []=>⟨[],[],rfl,(fun _ h=>by cases h),.inl rfl⟩
 | b :: l=>by
  by_cases U:b=32
  ·subst U
   exact⟨[],32 :: l,rfl,(fun _ h=>by cases h),.inr ⟨l,rfl⟩⟩
  ·obtain⟨w,r,e,h1,h2⟩:=QV l
   refine⟨b :: w,r,by rw[e];rfl,fun x hx=>?_,h2⟩
   rcases List.mem_cons.1 hx with rfl | hx
   ·exact U
   ·exact h1 x hx
theorem abI{s:ByteArray}(hs:s.size<=600)(hp:∀ b∈s.data.toList,fC b=true):∀ (n p:Nat) (bV:List ByteArray) (fuel:Nat),s.size-p<=n->p<=s.size->bV.length+n<=9000->n<fuel->
  iter jg fuel ((s,(),(p:Int),()),(bV,()))=some (.inl (((),()),(bV++(ck [] (s.data.toList.drop p)).map dK,()))):=by
 have es:s.data.toList.length=s.size:=rfl
 intro n
 induction n with
 | zero=>
  intro p bV fuel hn hle ho hf
  obtain⟨m,rfl⟩:∃ m,fuel=m+1:=⟨fuel-1,by omega⟩
  have:jg ((s,(),(p:Int),()),(bV,()))=some (.inr (.inl (((),()),(bV,())))):=by
   unfold jg
   dsimp only
   rw[decide_eq_false (by omega),cond_false]
  rw[List.drop_of_length_le (by omega)]
  simp only[iter,this]
  show _=some (Sum.inl (((),()),(bV++[],())))
  rw[List.append_nil]
 | succ n ih=>
  intro p bV fuel hn hle ho hf
  obtain⟨m,rfl⟩:∃ m,fuel=m+1:=⟨fuel-1,by omega⟩
  by_cases NA:p=s.size
  ·have:jg ((s,(),(p:Int),()),(bV,()))=some (.inr (.inl (((),()),(bV,())))):=by
    unfold jg
    dsimp only
    rw[decide_eq_false (by omega),cond_false]
   rw[List.drop_of_length_le (by omega)]
   simp only[iter,this]
   show _=some (Sum.inl (((),()),(bV++[],())))
   rw[List.append_nil]
  ·have aW:p<s.data.toList.length:=by omega
   have hd:s.data.toList.drop p=s.data.toList[p] :: s.data.toList.drop (p+1):=List.drop_eq_getElem_cons aW
   by_cases U:s.data.toList[p]=32
   ·have st:jg ((s,(),(p:Int),()),(bV,()))=some (.inl ((s,(),((p+1:Nat):Int),()),(bV,()))):=by
     unfold jg
     dsimp only
     rw[decide_eq_true (by omega),cond_true,dif_pos ⟨by omega,by omega⟩]
     simp only[Int.toNat_natCast,gU (show p<s.size from aW) aW,U]
     rw[dJ (by omega)]
     rfl
    rw[jj st,ih (p+1) bV m (by omega) (by omega) (by omega) (by omega),hd,U,QU]
   ·obtain⟨w,r,e,h1,h2⟩:=QV (s.data.toList.drop p)
    have JI:w≠[]:=by
     rintro rfl
     rw[List.nil_append]at e
     rcases h2 with h2 | ⟨r',h2⟩
     ·rw[e,h2]at hd;cases hd
     ·rw[e,h2]at hd
      injection hd with hd _
      exact U hd.symm
    have hch:∀ b∈w,oJ b:=fun b QW=>by
     have hm:b∈s.data.toList:=List.mem_of_mem_drop (by rw[e];exact List.mem_append_left _ QW)
     have h3:=hp b hm
     simp only[fC,Bool.and_eq_true,decide_eq_true_eq]at h3
     have h4:b.toNat≠32:=fun e2=>h1 b QW (UInt8.toNat_inj.1 e2)
     exact⟨by omega,by omega⟩
    have hwl:0<w.length:=List.length_pos_iff.2 JI
    have bM:eG (dK w):=⟨by show 0<(dK w).data.toList.length;exact hwl,hch⟩
    have nM:(dK w).size=w.length:=rfl
    have hlen:w.length+r.length=s.size-p:=by
     have:=congrArg List.length e
     rw[List.length_drop,List.length_append]at this
     omega
    have st:=Jw (w:=dK w) (l:=r) (bV:=bV) hs e bM h2 (by omega)
    have bX:s.data.toList.drop (p+w.length)=r:=s5 e
    rw[jj st,nM,ih (p+w.length) (bV++[dK w]) m (by omega) (by omega) (by rw[List.length_append,List.length_singleton];omega) (by omega),bX,e,Ek w [] r h1,List.nil_append]
    rcases h2 with rfl | ⟨r',rfl⟩
    ·rw[QS JI]
     show some (Sum.inl (((),()),((bV++[dK w])++[],())))=_
     rw[List.append_nil]
     rfl
    ·rw[QT JI,QU,List.append_assoc]
     rfl
theorem QX{w:ByteArray}(h:eG w):w.data.toList≠[]/\∀ b∈w.data.toList,b≠32:=by
 refine⟨fun e=>?_,fun b U e=>?_⟩
 ·have h1:=h.1
  have:w.data.toList.length=0:=by rw[e];rfl
  have e2:w.data.toList.length=w.size:=rfl
  omega
 ·have:=h.2 b U
  subst e
  unfold oJ at this
  have e3:(32:UInt8).toNat=32:=rfl
  omega
theorem JJ:∀ (ws:List ByteArray) (w:ByteArray),eG w->(∀ x∈ws,eG x)->ck [] (w.data.toList++lay ws)=(w :: ws).map (·.data.toList)
 | [],w,hw,_=>by
  obtain⟨h1,h2⟩:=QX hw
  rw[Ek _ _ _ h2]
  exact QS h1
 | x :: ws,w,hw,hs=>by
  obtain⟨h1,h2⟩:=QX hw
  rw[Ek _ _ _ h2]
  show ck w.data.toList (32 :: (x.data.toList++lay ws))=_
  rw[QT h1,JJ ws x (hs x (.head _)) (fun y hy=>hs y (.tail _ hy))]
  rfl
theorem JK:∀ (ws:List ByteArray),(ws.map (·.data.toList)).map dK=ws
 | []=>rfl
 | w :: ws=>by
  show dK w.data.toList :: (ws.map (·.data.toList)).map dK=_
  rw[abH,JK ws]
theorem abJ{w v:ByteArray}{ws vs:List ByteArray}(hw:eG w)(nM:∀ x∈ws,eG x)(hv:eG v)(cT:∀ x∈vs,eG x)(h:w.data.toList++lay ws=v.data.toList++lay vs):w=v/\ws=vs:=by
 have e:=JJ ws w hw nM
 rw[h,JJ vs v hv cT]at e
 have e2:=congrArg (List.map dK) e
 rw[JK,JK]at e2
 injection e2 with e2 e3
 exact⟨e2.symm,e3.symm⟩
theorem QY:∀ (l:List UInt8),l.all fC=false->∃ k,∃ hk:k<l.length,fC l[k]=false/\∀ j (hj:j<k),fC (l[j]'(by omega))=true
 | [],h=>by cases h
 | b :: l,h=>by
  cases U:fC b with
  | false=>exact⟨0,Nat.succ_pos _,U,fun j hj=>absurd hj (by omega)⟩
  | true=>
   rw[List.all_cons,U,Bool.true_and]at h
   obtain⟨k,hk,h1,h2⟩:=QY l h
   refine⟨k+1,Nat.succ_lt_succ hk,h1,fun j hj=>?_⟩
   cases j with
   | zero=>exact U
   | succ j=>exact h2 j (by omega)
def vk(s:ByteArray):Option (List ByteArray):=bif decide (s.size<=600)&&(s.data.toList.all fC&&decide ((ck [] s.data.toList).length<=24))then some ((ck [] s.data.toList).map dK)else none
def jk(s:ByteArray):List ByteArray×Bool:=match vk s with
 | some ws=>(ws,true)
 | none=>([],false)
theorem abK{s:ByteArray}(hs:s.size<=600)(h:s.data.toList.all fC=false):iter oH big ((s,(0:Int),()),())=some (.inl (((),false,()),(([]:List ByteArray),()))):=by
 obtain⟨k,hk,h1,h2⟩:=QY _ h
 have es:s.data.toList.length=s.size:=rfl
 have e:=iM (step:=oH) k (fun i=>((s,(i:Int),()),())) (.inl (((),false,()),(([]:List ByteArray),()))) big (fun j hj=>by
  have kB:j<s.data.toList.length:=by omega
  have h3:=h2 j hj
  simp only[fC,Bool.and_eq_true,decide_eq_true_eq]at h3
  unfold oH
  dsimp only
  rw[decide_eq_true (by omega),cond_true,dif_pos ⟨by omega,by omega⟩]
  simp only[Int.toNat_natCast,gU (show j<s.size from kB) kB]
  rw[decide_eq_false (by omega),cond_false,dif_pos ⟨by omega,kB⟩,decide_eq_false (by omega),cond_false,dJ (by omega)]) (by
  unfold oH
  dsimp only
  rw[decide_eq_true (by omega),cond_true,dif_pos ⟨by omega,by omega⟩]
  simp only[Int.toNat_natCast,gU (show k<s.size from hk) hk]
  cases aW:decide (((s.data.toList[k]).toNat:Int)<32)with
  | true=>rfl
  | false=>
   have aW:=of_decide_eq_false aW
   rw[cond_false,dif_pos ⟨by omega,hk⟩]
   have:decide (((s.data.toList[k]).toNat:Int) > 126)=true:=by
    simp only[fC,Bool.and_eq_false_iff,decide_eq_false_iff_not]at h1
    rw[decide_eq_true_eq]
    omega
   rw[this]
   rfl) (dY (by omega))
 rw[Int.natCast_zero]at e
 exact e
theorem JL{s:ByteArray}(h:s.data.toList.all fC=true):∀ b∈s.data.toList,fC b=true:=List.all_eq_true.1 h
theorem xN(s:ByteArray):sY s=some (jk s):=by
 have es:s.data.toList.length=s.size:=rfl
 unfold sY jk vk
 by_cases hs:s.size<=600
 ·rw[decide_eq_false (by omega),cond_false,decide_eq_true hs,Bool.true_and]
  cases hp:s.data.toList.all fC with
  | false=>
   rw[abK hs hp]
   rfl
  | true=>
   rw[Qt hs (fun b U=>by
    have:=JL hp b U
    simp only[fC,Bool.and_eq_true,decide_eq_true_eq]at this
    exact this),bf]
   have e:=abI hs (JL hp) s.size 0 [] big (by omega) (by omega) (by simp;omega) (dY (by omega))
   rw[Int.natCast_zero,List.drop_zero,List.nil_append]at e
   show ((iter jg big ((s,(),(0:Int),()),(([]:List ByteArray),()))).bind _)=_
   rw[e,bf]
   show (bif decide ((((ck [] s.data.toList).map dK).length:Int) > 24)then some (([]:List ByteArray),false)else some ((ck [] s.data.toList).map dK,true))=_
   rw[List.length_map,Bool.true_and]
   by_cases kz:(ck [] s.data.toList).length<=24
   ·rw[decide_eq_false (by omega),decide_eq_true kz]
    rfl
   ·rw[decide_eq_true (by omega),decide_eq_false kz]
    rfl
 ·rw[decide_eq_true (by omega),cond_true,decide_eq_false hs,Bool.false_and]
  rfl
theorem QZ{s:ByteArray}{st:Nat}{cur rest:List UInt8}(h:s.data.toList.drop st=cur++rest):s.extract st (st+cur.length)=dK cur:=xJ (w:=dK cur) h
theorem abL{s:ByteArray}(hs:s.size<=600):∀ (rest cur:List UInt8) (st:Nat) (bV:List ByteArray) (fuel:Nat),s.data.toList.drop st=cur++rest->st+cur.length+rest.length=s.size->bV.length+rest.length<=9000->rest.length+1<fuel->
  iter lH fuel ((s,(),(st:Int),((st+cur.length:Nat):Int),()),(bV,()))=some (bif rest.all fC then .inr (.inl (((),()),(bV++(ck cur rest).map dK,())))else .inl (((),false,()),(([]:List ByteArray),()))):=by
 have es:s.data.toList.length=s.size:=rfl
 intro rest
 induction rest with
 | nil=>
  intro cur st bV fuel h hl ho hf
  obtain⟨m,rfl⟩:∃ m,fuel=m+1+1:=⟨fuel-2,by simp at hf;omega⟩
  simp only[List.length_nil,Nat.add_zero]at hl
  rw[hl]
  have last:∀ (o:List ByteArray),lH ((s,(),((s.size+1:Nat):Int),((s.size+1:Nat):Int),()),(o,()))=some (.inr (.inr (.inl (((),()),(o,()))))):=fun o=>by
   unfold lH
   dsimp only
   rw[decide_eq_false (by omega),cond_false]
  have vl:lH ((s,(),(st:Int),(s.size:Int),()),(bV,()))=some (.inl ((s,(),((s.size+1:Nat):Int),((s.size+1:Nat):Int),()),(bV++(ck cur []).map dK,()))):=by
   unfold lH
   dsimp only
   rw[decide_eq_true (by omega),cond_true,decide_eq_false (by omega),cond_false,cond_false]
   cases cur with
   | nil=>
    simp only[List.length_nil,Nat.add_zero]at hl
    rw[decide_eq_false (by omega),cond_false,dJ (by omega)]
    show _=some (Sum.inl ((s,(),_,_,()),(bV++[],())))
    rw[List.append_nil]
   | cons c cur=>
    have hc:st<s.size:=by simp only[List.length_cons]at hl;omega
    rw[decide_eq_true (by omega),cond_true,if_pos ⟨by omega,by omega,by omega⟩]
    simp only[Int.toNat_natCast]
    rw[show s.extract st s.size=dK (c :: cur) by rw[<-hl];exact QZ h,jG (by simp at ho ⊢;omega),cond_true,dJ (by omega)]
    rfl
  rw[jj vl]
  simp only[iter,last]
  rfl
 | cons b rest ih=>
  intro cur st bV fuel h hl ho hf
  obtain⟨m,rfl⟩:∃ m,fuel=m+1:=⟨fuel-1,by omega⟩
  simp only[List.length_cons]at hl ho hf
  have aW:st+cur.length<s.size:=by omega
  obtain⟨h1,h2⟩:=xI (k:=cur.length) h (by simp)
  rw[List.getElem_append_right (Nat.le_refl _)]at h2
  simp only[Nat.sub_self,List.getElem_cons_zero]at h2
  rw[List.all_cons]
  cases U:fC b with
  | false=>
   have vl:lH ((s,(),(st:Int),((st+cur.length:Nat):Int),()),(bV,()))=some (.inr (.inl (((),false,()),(([]:List ByteArray),())))):=by
    unfold lH
    dsimp only
    rw[decide_eq_true (by omega),cond_true,decide_eq_true (by omega),cond_true,dif_pos ⟨by omega,by omega⟩]
    simp only[Int.toNat_natCast,h2]
    cases aW:decide ((b.toNat:Int)<32)with
    | true=>rfl
    | false=>
     have aW:=of_decide_eq_false aW
     rw[cond_false,dif_pos ⟨by omega,h1⟩]
     have:decide ((b.toNat:Int) > 126)=true:=by
      simp only[fC,Bool.and_eq_false_iff,decide_eq_false_iff_not]at U
      rw[decide_eq_true_eq]
      omega
     rw[this]
     rfl
   simp only[iter,vl]
   rfl
  | true=>
   have ig:=U
   simp only[fC,Bool.and_eq_true,decide_eq_true_eq]at ig
   rw[Bool.true_and]
   by_cases oV:b=32
   ·subst oV
    have hd:s.data.toList.drop (st+cur.length+1)=rest:=by
     have:s.data.toList.drop st=(cur++[32])++rest:=by rw[h,List.append_assoc];rfl
     have:=s5 this
     rw[List.length_append,List.length_singleton]at this
     exact this
    have vl:lH ((s,(),(st:Int),((st+cur.length:Nat):Int),()),(bV,()))=some (.inl ((s,(),((st+cur.length+1:Nat):Int),((st+cur.length+1:Nat):Int),()),(bV++(ck cur []).map dK,()))):=by
     unfold lH
     dsimp only
     rw[decide_eq_true (by omega),cond_true,decide_eq_true (by omega),cond_true,dif_pos ⟨by omega,by omega⟩]
     simp only[Int.toNat_natCast,h2]
     rw[decide_eq_false (by decide),cond_false,dif_pos ⟨by omega,h1⟩,decide_eq_false (by decide),cond_false,cond_true,dif_pos ⟨by omega,h1⟩,show (((32:UInt8).toNat:Int) != 32)=false from rfl,cond_false]
     cases cur with
     | nil=>
      simp only[List.length_nil,Nat.add_zero]
      rw[decide_eq_false (by omega),cond_false,dJ (by omega)]
      show _=some (Sum.inl ((s,(),_,_,()),(bV++[],())))
      rw[List.append_nil]
     | cons c cur=>
      rw[decide_eq_true (by simp only[List.length_cons];omega),cond_true,if_pos ⟨by omega,by omega,by omega⟩]
      rw[QZ h,jG (by simp at ho ⊢;omega),cond_true,dJ (by omega)]
      rfl
    have xM:=ih [] (st+cur.length+1) (bV++(ck cur []).map dK) m (by rw[hd];rfl) (by simp only[List.length_nil];omega) (by
     have:=JH [] cur
     simp only[List.length_append,List.length_map,List.length_nil]at *
     omega) (by omega)
    rw[jj vl]
    simp only[List.length_nil,Nat.add_zero]at xM
    rw[xM]
    have ef:ck cur (32 :: rest)=ck cur []++ck [] rest:=by
     cases cur with
     | nil=>rfl
     | cons c cur=>rfl
    rw[ef,List.map_append,List.append_assoc]
   ·have aA:b.toNat≠32:=fun e=>oV (UInt8.toNat_inj.1 e)
    have vl:lH ((s,(),(st:Int),((st+cur.length:Nat):Int),()),(bV,()))=some (.inl ((s,(),(st:Int),((st+(cur++[b]).length:Nat):Int),()),(bV,()))):=by
     unfold lH
     dsimp only
     rw[decide_eq_true (by omega),cond_true,decide_eq_true (by omega),cond_true,dif_pos ⟨by omega,by omega⟩]
     simp only[Int.toNat_natCast,h2]
     rw[decide_eq_false (by omega),cond_false,dif_pos ⟨by omega,h1⟩,decide_eq_false (by omega),cond_false,cond_true,dif_pos ⟨by omega,h1⟩,show ((b.toNat:Int) != 32)=true from bne_iff_ne.2 (by omega),cond_true,dJ (by omega),List.length_append]
     rfl
    rw[jj vl,ih (cur++[b]) st bV m (by rw[h,List.append_assoc];rfl) (by rw[List.length_append,List.length_singleton];omega) (by omega) (by omega)]
    have:ck cur (b :: rest)=ck (cur++[b]) rest:=by
     show (bif b==32 then _ else ck (cur++[b]) rest)=_
     rw[show (b==32)=false from beq_eq_false_iff_ne.2 oV]
     rfl
    rw[this]
theorem BC(s:ByteArray):xm s=some (jk s):=by
 have es:s.data.toList.length=s.size:=rfl
 unfold xm jk vk
 by_cases hs:s.size<=600
 ·rw[decide_eq_false (by omega),cond_false,decide_eq_true hs,Bool.true_and]
  have e:=abL hs s.data.toList [] 0 [] big (by rw[List.drop_zero];rfl) (by simp only[List.length_nil];omega) (by simp only[List.length_nil];omega) (dY (by omega))
  simp only[List.length_nil,Nat.add_zero,Int.natCast_zero,List.nil_append]at e
  rw[e,bf]
  cases hp:s.data.toList.all fC with
  | false=>rfl
  | true=>
   show (bif decide ((((ck [] s.data.toList).map dK).length:Int) > 24)then some (([]:List ByteArray),false)else some ((ck [] s.data.toList).map dK,true))=_
   rw[List.length_map,Bool.true_and]
   by_cases kz:(ck [] s.data.toList).length<=24
   ·rw[decide_eq_false (by omega),decide_eq_true kz]
    rfl
   ·rw[decide_eq_true (by omega),decide_eq_false kz]
    rfl
 ·rw[decide_eq_true (by omega),cond_true,decide_eq_false hs,Bool.false_and]
  rfl
theorem abM{s:ByteArray}{ws:List ByteArray}(h:vk s=some ws):(∀ w∈ws,eG w)/\ws.length<=24:=by
 unfold vk at h
 cases hc:(decide (s.size<=600)&&(s.data.toList.all fC&&decide ((ck [] s.data.toList).length<=24)))with
 | false=>rw[hc]at h;cases h
 | true=>
  rw[hc,cond_true]at h
  injection h with h
  subst h
  simp only[Bool.and_eq_true,decide_eq_true_eq]at hc
  refine⟨fun w hw=>?_,by rw[List.length_map];exact hc.2.2⟩
  obtain⟨l,hl,rfl⟩:=List.mem_map.1 hw
  obtain⟨h1,h2⟩:=El _ [] (fun _ h=>by cases h) (JL hc.2.1) l hl
  exact⟨List.length_pos_iff.2 h1,h2⟩
theorem qK(a b:ByteArray):(a.toList==b.toList)=decide (a=b):=by
 rw[Lib.toList_data,Lib.toList_data]
 by_cases h:a=b
 ·subst h
  rw[decide_eq_true rfl,beq_self_eq_true]
 ·rw[decide_eq_false h,beq_eq_false_iff_ne]
  exact fun e=>h (kX e)
def gm(b:UInt8):Bool:=decide (48<=b.toNat)&&decide (b.toNat<=57)
def lQ(s:ByteArray):Option Int:=bif vj s.data.toList&&(decide (s.size<=10)&&decide (bz s.data.toList<=1000000000))then some (bz s.data.toList)else none
def jI(s:ByteArray):Int×Bool:=match lQ s with
 | some v=>(v,true)
 | none=>(0,false)
theorem BD(p:UInt8->Bool):∀ (l:List UInt8),l.all p=false->∃ k,∃ hk:k<l.length,p l[k]=false/\∀ j (hj:j<k),p (l[j]'(by omega))=true
 | [],h=>by cases h
 | b :: l,h=>by
  cases U:p b with
  | false=>exact⟨0,Nat.succ_pos _,U,fun j hj=>absurd hj (by omega)⟩
  | true=>
   rw[List.all_cons,U,Bool.true_and]at h
   obtain⟨k,hk,h1,h2⟩:=BD p l h
   refine⟨k+1,Nat.succ_lt_succ hk,h1,fun j hj=>?_⟩
   cases j with
   | zero=>exact U
   | succ j=>exact h2 j (by omega)
theorem abN{l:List UInt8}{k:Nat}(hk:k<l.length)(h:∀ j (hj:j<k+1),gm (l[j]'(by omega))=true):∀ b∈l.take (k+1),jH b:=by
 intro b U
 obtain⟨j,hj,rfl⟩:=List.mem_iff_getElem.1 U
 rw[List.length_take]at hj
 have:=h j (by omega)
 simp only[gm,Bool.and_eq_true,decide_eq_true_eq]at this
 rw[List.getElem_take]
 exact this
theorem Q0{l:List UInt8}{k:Nat}(hk:k<l.length)(hl:l.length<=10)(h:∀ j (hj:j<k+1),gm (l[j]'(by omega))=true):0<=bz (l.take k)/\bz (l.take k)<1000000000/\48<=l[k].toNat/\l[k].toNat<=57/\bz (l.take (k+1))=bz (l.take k)*10+((l[k].toNat:Int)-48):=by
 have hd:=abN hk h
 obtain⟨h1,h2⟩:=s4 hd k (by rw[List.length_take];omega)
 rw[List.take_take,Nat.min_eq_left (by omega)]at h1 h2
 have h3:=h k (by omega)
 simp only[gm,Bool.and_eq_true,decide_eq_true_eq]at h3
 have hp:(10:Int) ^ k<=10 ^ 9:=by
  have:(10:Nat) ^ k<=10 ^ 9:=Nat.pow_le_pow_right (by omega) (by omega)
  exact_mod_cast this
 have p9:(10:Int) ^ 9=1000000000:=rfl
 refine⟨h1,by omega,h3.1,h3.2,?_⟩
 rw[List.take_succ_eq_append_getElem hk,BA]
theorem Q1{s:ByteArray}{k:Nat}(hk:k<s.data.toList.length)(hl:s.data.toList.length<=10)(h:∀ j (hj:j<k+1),gm (s.data.toList[j]'(by omega))=true):jh ((s,bz (s.data.toList.take k),(k:Int),()),())=some (.inl ((s,bz (s.data.toList.take (k+1)),((k+1:Nat):Int),()),())):=by
 obtain⟨h1,h2,h3,h4,e⟩:=Q0 hk hl h
 have es:s.data.toList.length=s.size:=rfl
 rw[e]
 unfold jh
 dsimp only
 rw[decide_eq_true (by omega),cond_true,dif_pos ⟨by omega,by omega⟩]
 simp only[Int.toNat_natCast,gU (show k<s.size from hk) hk]
 rw[decide_eq_false (by omega),cond_false,dif_pos ⟨by omega,hk⟩,decide_eq_false (by omega),cond_false,dif_pos ⟨by omega,hk⟩,dJ (by omega),IntKind.wrap_u8]
 rw[bu (n:=bz (s.data.toList.take k)*10) (by omega) (by omega),bu (n:=((s.data.toList[k].toNat:Int)-48) % 256) (by omega) (by omega),bu (by omega) (by omega)]
 have:((s.data.toList[k].toNat:Int)-48) % 256=(s.data.toList[k].toNat:Int)-48:=by omega
 rw[this]
theorem Q2{s:ByteArray}{k:Nat}(hk:k<s.data.toList.length)(hl:s.data.toList.length<=10)(h:∀ j (hj:j<k+1),gm (s.data.toList[j]'(by omega))=true):qB ((s,bz (s.data.toList.take k),(k:Int),()),())=some (.inl ((s,bz (s.data.toList.take (k+1)),((k+1:Nat):Int),()),())):=by
 obtain⟨h1,h2,h3,h4,e⟩:=Q0 hk hl h
 have es:s.data.toList.length=s.size:=rfl
 rw[e]
 unfold qB
 dsimp only
 rw[decide_eq_true (by omega),cond_true,dif_pos ⟨by omega,by omega⟩]
 simp only[Int.toNat_natCast,gU (show k<s.size from hk) hk]
 rw[decide_eq_false (by omega),cond_false,dif_pos ⟨by omega,hk⟩,decide_eq_false (by omega),cond_false,dif_pos ⟨by omega,hk⟩,dJ (by omega)]
 rw[bu (n:=10*bz (s.data.toList.take k)) (by omega) (by omega),bu (n:=(s.data.toList[k].toNat:Int)) (by omega) (by omega),bu (n:=10*bz (s.data.toList.take k)+(s.data.toList[k].toNat:Int)) (by omega) (by omega),bu (by omega) (by omega)]
 rw[show 10*bz (s.data.toList.take k)+(s.data.toList[k].toNat:Int)-48=bz (s.data.toList.take k)*10+((s.data.toList[k].toNat:Int)-48) by omega]
theorem Q3{b:UInt8}(h:gm b=false)(h1:¬ (b.toNat:Int)<48):(b.toNat:Int) > 57:=by
 simp only[gm,Bool.and_eq_false_iff,decide_eq_false_iff_not]at h
 omega
theorem abO{s:ByteArray}(hl:s.data.toList.length<=10):iter jh big ((s,(0:Int),(0:Int),()),())=some (bif s.data.toList.all gm then .inr (.inl ((bz s.data.toList,()),()))else .inl (((0:Int),false,()),())):=by
 have es:s.data.toList.length=s.size:=rfl
 cases ha:s.data.toList.all gm with
 | true=>
  have e:=iM (step:=jh) s.data.toList.length (fun i=>((s,bz (s.data.toList.take i),(i:Int),()),())) (.inr (.inl ((bz s.data.toList,()),()))) big (fun k h=>Q1 h hl (fun j hj=>List.all_eq_true.1 ha _ (List.getElem_mem _))) (by
   unfold jh
   dsimp only
   rw[decide_eq_false (by omega),cond_false,List.take_length]) (dY (by omega))
  rw[Int.natCast_zero,List.take_zero]at e
  exact e
 | false=>
  obtain⟨k,hk,h1,h2⟩:=BD gm _ ha
  have e:=iM (step:=jh) k (fun i=>((s,bz (s.data.toList.take i),(i:Int),()),())) (.inl (((0:Int),false,()),())) big (fun j h=>Q1 (by omega) hl (fun i hi=>h2 i (by omega))) (by
   unfold jh
   dsimp only
   rw[decide_eq_true (by omega),cond_true,dif_pos ⟨by omega,by omega⟩]
   simp only[Int.toNat_natCast,gU (show k<s.size from hk) hk]
   cases aW:decide (((s.data.toList[k]).toNat:Int)<48)with
   | true=>rfl
   | false=>
    rw[cond_false,dif_pos ⟨by omega,hk⟩,decide_eq_true (Q3 h1 (of_decide_eq_false aW))]
    rfl) (dY (by omega))
  rw[Int.natCast_zero,List.take_zero]at e
  exact e
theorem abP{s:ByteArray}(hl:s.data.toList.length<=10):iter qB big ((s,(0:Int),(0:Int),()),())=some (bif s.data.toList.all gm then .inr (.inl ((s,bz s.data.toList,()),()))else .inl (((0:Int),false,()),())):=by
 have es:s.data.toList.length=s.size:=rfl
 cases ha:s.data.toList.all gm with
 | true=>
  have e:=iM (step:=qB) s.data.toList.length (fun i=>((s,bz (s.data.toList.take i),(i:Int),()),())) (.inr (.inl ((s,bz s.data.toList,()),()))) big (fun k h=>Q2 h hl (fun j hj=>List.all_eq_true.1 ha _ (List.getElem_mem _))) (by
   unfold qB
   dsimp only
   rw[decide_eq_false (by omega),cond_false,List.take_length]) (dY (by omega))
  rw[Int.natCast_zero,List.take_zero]at e
  exact e
 | false=>
  obtain⟨k,hk,h1,h2⟩:=BD gm _ ha
  have e:=iM (step:=qB) k (fun i=>((s,bz (s.data.toList.take i),(i:Int),()),())) (.inl (((0:Int),false,()),())) big (fun j h=>Q2 (by omega) hl (fun i hi=>h2 i (by omega))) (by
   unfold qB
   dsimp only
   rw[decide_eq_true (by omega),cond_true,dif_pos ⟨by omega,by omega⟩]
   simp only[Int.toNat_natCast,gU (show k<s.size from hk) hk]
   cases aW:decide (((s.data.toList[k]).toNat:Int)<48)with
   | true=>rfl
   | false=>
    rw[cond_false,dif_pos ⟨by omega,hk⟩,decide_eq_true (Q3 h1 (of_decide_eq_false aW))]
    rfl) (dY (by omega))
  rw[Int.natCast_zero,List.take_zero]at e
  exact e
theorem JM{l:List UInt8}(h:l.all gm=true):∀ b∈l,jH b:=fun b U=>by
 have:=List.all_eq_true.1 h b U
 simp only[gm,Bool.and_eq_true,decide_eq_true_eq]at this
 exact this
theorem xO(l:List UInt8):vj l=(l.all gm&&(decide (0<l.length)&&(decide (l.length=1) || l.head? != some 48))):=rfl
theorem abQ{s:ByteArray}(h:s.data.toList.all gm=true):vj s.data.toList=decide (cy (bz s.data.toList)=s):=by
 cases hc:vj s.data.toList with
 | true=>
  have e:=QO hc
  rw[decide_eq_true]
  exact kX e
 | false=>
  rw[decide_eq_false]
  intro e
  have e2:Lib.itoa (bz s.data.toList)=s.data.toList:=congrArg (·.data.toList) e
  have hv:=s4 (JM h) _ (Nat.le_refl _)
  rw[List.take_length]at hv
  rw[Eh hv.1]at e2
  rw[xO,h,Bool.true_and,<-e2]at hc
  by_cases h0:bz s.data.toList=0
  ·rw[if_pos h0]at hc
   cases hc
  ·rw[if_neg h0]at hc
   have hh:=Qo (bz s.data.toList).toNat
   have hn:dd (bz s.data.toList).toNat≠[]:=by rw[nK (by omega)];simp
   rw[decide_eq_true (List.length_pos_iff.2 hn),Bool.true_and,bne_iff_ne.2 hh,Bool.or_true]at hc
   cases hc
theorem Q4(s:ByteArray):uW s=some (jI s):=by
 have es:s.data.toList.length=s.size:=rfl
 unfold uW jI lQ
 rw[Ql]
 by_cases h0:s.size=0
 ·rw[show ((s.size:Int)==0)=true from beq_iff_eq.2 (by omega),cond_true,xO,decide_eq_false (by omega:¬ 0<s.data.toList.length)]
  simp
 rw[show ((s.size:Int)==0)=false from beq_eq_false_iff_ne.2 (by omega),cond_false]
 by_cases hl:s.size<=10
 ·have tl:∀ (mF:1<s.size->s.data.toList.head?≠some 48),(iter jh big ((s,(0:Int),(0:Int),()),())).bind (Sum.elim (fun z5=>some (z5.1.1,z5.1.2.1)) (Sum.elim (fun z6=>bif (decide (z6.1.1 > (1000000000:Int)))then some ((0:Int),false)else some (z6.1.1,true)) (fun z=>nomatch z)))=some (jI s):=fun mF=>by
   unfold jI lQ
   rw[abO (by omega),bf,xO,decide_eq_true (by omega:0<s.data.toList.length),Bool.true_and]
   have:(decide (s.data.toList.length=1) || s.data.toList.head? != some 48)=true:=by
    rw[Bool.or_eq_true,decide_eq_true_eq,bne_iff_ne]
    by_cases h1:1<s.size
    ·exact .inr (mF h1)
    ·exact .inl (by omega)
   rw[this,Bool.and_true,decide_eq_true hl,Bool.true_and]
   cases s.data.toList.all gm with
   | false=>rfl
   | true=>
    show (bif (decide (bz s.data.toList > 1000000000))then some ((0:Int),false)else some (bz s.data.toList,true))=_
    by_cases hv:bz s.data.toList<=1000000000
    ·rw[decide_eq_false (by omega),decide_eq_true hv]
     rfl
    ·rw[decide_eq_true (by omega),decide_eq_false hv]
     rfl
  unfold jI lQ at tl
  rw[decide_eq_false (by omega),cond_false]
  by_cases h1:1<s.size
  ·rw[decide_eq_true (by omega),cond_true,dif_pos ⟨by omega,by show 0<s.size;omega⟩]
   have h3:s[(0:Int).toNat]'(by show 0<s.size;omega)=s.data.toList[0]'(by omega):=gU (by omega) (by omega)
   have hh:s.data.toList.head?=some (s.data.toList[0]'(by omega)):=by
    rw[List.head?_eq_getElem?,List.getElem?_eq_getElem]
   rw[h3]
   by_cases h4:s.data.toList[0]'(by omega)=48
   ·rw[xO,decide_eq_false (by omega:¬ s.data.toList.length=1),hh,h4]
    simp
   ·have:(((s.data.toList[0]'(by omega)).toNat:Int)==48)=false:=beq_eq_false_iff_ne.2 (fun e=>h4 (UInt8.toNat_inj.1 (by rw[show (48:UInt8).toNat=48 from rfl];omega)))
    rw[this,cond_false]
    exact tl (fun _=>by rw[hh];exact fun e=>h4 (Option.some.inj e))
  ·rw[decide_eq_false (by omega),cond_false]
   exact tl (fun h=>absurd h h1)
 ·rw[decide_eq_true (by omega),cond_true,decide_eq_false hl]
  simp
theorem abR(s:ByteArray):DP s=some (jI s):=by
 have es:s.data.toList.length=s.size:=rfl
 unfold DP jI lQ
 by_cases hl:s.size<=10
 ·rw[decide_eq_false (by omega),cond_false,abP (by omega),bf,decide_eq_true hl,Bool.true_and]
  cases ha:s.data.toList.all gm with
  | false=>
   rw[xO,ha]
   rfl
  | true=>
   show (bif (decide (bz s.data.toList > 1000000000))then some ((0:Int),false)else (xq (bz s.data.toList)).bind fun y6=>bif (!(y6.toList==s.toList))then some ((0:Int),false)else some (bz s.data.toList,true))=_
   have jP:=(s4 (JM ha) _ (Nat.le_refl _)).1
   rw[List.take_length]at jP
   by_cases hv:bz s.data.toList<=1000000000
   ·rw[decide_eq_false (by omega),cond_false,aaP (by omega) (by omega),bf,qK,abQ ha,decide_eq_true hv,Bool.and_true]
    cases decide (cy (bz s.data.toList)=s) <;>rfl
   ·rw[decide_eq_true (by omega),decide_eq_false hv,Bool.and_false]
    rfl
 ·rw[decide_eq_true (by omega),cond_true,decide_eq_false hl]
  simp
theorem Q5{s:ByteArray}{n:Int}(h:lQ s=some n):s=cy n/\0<=n/\n<=1000000000:=by
 unfold lQ at h
 cases hc:(vj s.data.toList&&(decide (s.size<=10)&&decide (bz s.data.toList<=1000000000)))with
 | false=>rw[hc]at h;cases h
 | true=>
  rw[hc,cond_true]at h
  injection h with h
  subst h
  simp only[Bool.and_eq_true,decide_eq_true_eq]at hc
  have e:=QO hc.1
  have hd:s.data.toList.all gm=true:=by
   have:=hc.1
   rw[xO,Bool.and_eq_true]at this
   exact this.1
  have jP:=(s4 (JM hd) _ (Nat.le_refl _)).1
  rw[List.take_length]at jP
  exact⟨kX e.symm,jP,hc.2.2⟩
theorem abS{n:Int}(h0:0<=n)(h1:n<=1000000000):lQ (cy n)=some n:=by
 have e:=Qq h0 h1
 rw[Q4]at e
 unfold jI at e
 cases h:lQ (cy n)with
 | none=>rw[h]at e;cases e
 | some v=>
  rw[h]at e
  injection e with e
  injection e with e
  rw[e]
def gV(b:UInt8):Int:=bif decide (48<=b.toNat)&&decide (b.toNat<=57)then (b.toNat:Int)-48 else bif decide (97<=b.toNat)&&decide (b.toNat<=102)then (b.toNat:Int)-87 else -1
def fX(b:UInt8):Bool:=(decide (48<=b.toNat)&&decide (b.toNat<=57)) || (decide (97<=b.toNat)&&decide (b.toNat<=102))
theorem BE{b:UInt8}(h:fX b=true):0<=gV b/\gV b<16:=by
 simp only[fX,Bool.or_eq_true,Bool.and_eq_true,decide_eq_true_eq]at h
 unfold gV
 by_cases h1:48<=b.toNat/\b.toNat<=57
 ·rw[decide_eq_true h1.1,decide_eq_true h1.2]
  show 0<=(b.toNat:Int)-48/\(b.toNat:Int)-48<16
  omega
 ·have h2:97<=b.toNat/\b.toNat<=102:=by omega
  rw[decide_eq_false (by omega:¬ b.toNat<=57),Bool.and_false,cond_false,decide_eq_true h2.1,decide_eq_true h2.2]
  show 0<=(b.toNat:Int)-87/\(b.toNat:Int)-87<16
  omega
theorem Q6{b:UInt8}(h:fX b=false):gV b = -1:=by
 simp only[fX,Bool.or_eq_false_iff]at h
 unfold gV
 rw[h.1,h.2]
 rfl
theorem abT{b:UInt8}(h:fX b=true):UInt8.ofNat (nL (gV b)).toNat=b:=by
 simp only[fX,Bool.or_eq_true,Bool.and_eq_true,decide_eq_true_eq]at h
 have e:(nL (gV b)).toNat=b.toNat:=by
  unfold gV nL
  by_cases h1:48<=b.toNat/\b.toNat<=57
  ·rw[decide_eq_true h1.1,decide_eq_true h1.2]
   show (if (b.toNat:Int)-48<10 then 48+((b.toNat:Int)-48)else 87+((b.toNat:Int)-48)).toNat=_
   rw[if_pos (by omega)]
   omega
  ·have h2:97<=b.toNat/\b.toNat<=102:=by omega
   rw[decide_eq_false (by omega:¬ b.toNat<=57),Bool.and_false,cond_false,decide_eq_true h2.1,decide_eq_true h2.2]
   show (if (b.toNat:Int)-87<10 then 48+((b.toNat:Int)-87)else 87+((b.toNat:Int)-87)).toNat=_
   rw[if_neg (by omega)]
   omega
 rw[e]
 exact UInt8.ofNat_toNat
theorem abU:∀ n:Nat,n<256->DQ (n:Int)=some (gV (UInt8.ofNat n)):=by decide +kernel
theorem abV:∀ n:Nat,n<256->Bc (ByteArray.mk #[48,49,50,51,52,53,54,55,56,57,97,98,99,100,101,102]) (n:Int)=some (gV (UInt8.ofNat n)):=by decide +kernel
theorem Q7(b:UInt8):DQ (b.toNat:Int)=some (gV b):=by
 have:=abU b.toNat b.toNat_lt
 rwa [UInt8.ofNat_toNat]at this
theorem Q8(b:UInt8):Bc (ByteArray.mk #[48,49,50,51,52,53,54,55,56,57,97,98,99,100,101,102]) (b.toNat:Int)=some (gV b):=by
 have:=abV b.toNat b.toNat_lt
 rwa [UInt8.ofNat_toNat]at this
def bD(l:List UInt8):Int:=l.foldl (fun a b=>a*16+gV b) 0
theorem Em(l:List UInt8)(b:UInt8):bD (l++[b])=bD l*16+gV b:=by simp[bD,List.foldl_append]
theorem JN{l:List UInt8}(h:∀ j (hj:j<l.length),fX l[j]=true):∀ k,k<=l.length->0<=bD (l.take k)/\bD (l.take k)<16 ^ k
 | 0,_=>by simp[bD]
 | k+1,hk=>by
  obtain⟨h1,h2⟩:=JN h k (by omega)
  obtain⟨h3,h4⟩:=BE (h k (by omega))
  rw[List.take_succ_eq_append_getElem (by omega),Em,Int.pow_succ]
  omega
theorem Q9{l:List UInt8}{k:Nat}(hk:k<l.length)(hl:l.length=8)(h:∀ j (hj:j<k+1),fX (l[j]'(by omega))=true):0<=bD (l.take k)/\bD (l.take k)<268435456/\0<=gV l[k]/\gV l[k]<16/\bD (l.take (k+1))=bD (l.take k)*16+gV l[k]:=by
 obtain⟨h1,h2⟩:=JN (l:=l.take (k+1)) (fun j hj=>by
  rw[List.length_take]at hj
  rw[List.getElem_take]
  exact h j (by omega)) k (by rw[List.length_take];omega)
 rw[List.take_take,Nat.min_eq_left (by omega)]at h1 h2
 obtain⟨h3,h4⟩:=BE (h k (by omega))
 have hp:(16:Int) ^ k<=16 ^ 7:=by
  have:(16:Nat) ^ k<=16 ^ 7:=Nat.pow_le_pow_right (by omega) (by omega)
  exact_mod_cast this
 have p9:(16:Int) ^ 7=268435456:=rfl
 refine⟨h1,by omega,h3,h4,?_⟩
 rw[List.take_succ_eq_append_getElem hk,Em]
theorem Ra{s:ByteArray}{k:Nat}(hk:k<s.data.toList.length)(hl:s.data.toList.length=8)(h:∀ j (hj:j<k+1),fX (s.data.toList[j]'(by omega))=true):mw ((s,bD (s.data.toList.take k),(k:Int),()),())=some (.inl ((s,bD (s.data.toList.take (k+1)),((k+1:Nat):Int),()),())):=by
 obtain⟨h1,h2,h3,h4,e⟩:=Q9 hk hl h
 have es:s.data.toList.length=s.size:=rfl
 rw[e]
 unfold mw
 dsimp only
 rw[decide_eq_true (by omega),cond_true,dif_pos ⟨by omega,by omega⟩]
 simp only[Int.toNat_natCast,gU (show k<s.size from hk) hk]
 rw[Q8,bf,decide_eq_false (by omega),cond_false,show (2:Int) ^ (min (4:Int).toNat IntKind.i64.bits)=16 from rfl,bu (by omega) (by omega),J3 _ _ (by omega) (by omega) (by omega) (by omega),dJ (by omega),Int.mul_comm 16]
theorem Rb{s:ByteArray}{k:Nat}(hk:k<s.data.toList.length)(hl:s.data.toList.length=8)(h:∀ j (hj:j<k+1),fX (s.data.toList[j]'(by omega))=true):qC ((s,bD (s.data.toList.take k),(k:Int),()),())=some (.inl ((s,bD (s.data.toList.take (k+1)),((k+1:Nat):Int),()),())):=by
 obtain⟨h1,h2,h3,h4,e⟩:=Q9 hk hl h
 have es:s.data.toList.length=s.size:=rfl
 rw[e]
 unfold qC
 dsimp only
 rw[decide_eq_true (by omega),cond_true,dif_pos ⟨by omega,by omega⟩]
 simp only[Int.toNat_natCast,gU (show k<s.size from hk) hk]
 rw[Q7,bf,decide_eq_false (by omega),cond_false,bu (n:=bD (s.data.toList.take k)*16) (by omega) (by omega),bu (by omega) (by omega),dJ (by omega)]
theorem abW{s:ByteArray}(hl:s.data.toList.length=8):iter mw big ((s,(0:Int),(0:Int),()),())=some (bif s.data.toList.all fX then .inr (.inl ((bD s.data.toList,()),()))else .inl (((0:Int),false,()),())):=by
 have es:s.data.toList.length=s.size:=rfl
 cases ha:s.data.toList.all fX with
 | true=>
  have e:=iM (step:=mw) s.data.toList.length (fun i=>((s,bD (s.data.toList.take i),(i:Int),()),())) (.inr (.inl ((bD s.data.toList,()),()))) big (fun k h=>Ra h hl (fun j hj=>List.all_eq_true.1 ha _ (List.getElem_mem _))) (by
   unfold mw
   dsimp only
   rw[decide_eq_false (by omega),cond_false,List.take_length]) (dY (by omega))
  rw[Int.natCast_zero,List.take_zero]at e
  exact e
 | false=>
  obtain⟨k,hk,h1,h2⟩:=BD fX _ ha
  have e:=iM (step:=mw) k (fun i=>((s,bD (s.data.toList.take i),(i:Int),()),())) (.inl (((0:Int),false,()),())) big (fun j h=>Ra (by omega) hl (fun i hi=>h2 i (by omega))) (by
   unfold mw
   dsimp only
   rw[decide_eq_true (by omega),cond_true,dif_pos ⟨by omega,by omega⟩]
   simp only[Int.toNat_natCast,gU (show k<s.size from hk) hk]
   rw[Q8,bf,Q6 h1]
   rfl) (dY (by omega))
  rw[Int.natCast_zero,List.take_zero]at e
  exact e
theorem abX{s:ByteArray}(hl:s.data.toList.length=8):iter qC big ((s,(0:Int),(0:Int),()),())=some (bif s.data.toList.all fX then .inr (.inl ((bD s.data.toList,()),()))else .inl (((0:Int),false,()),())):=by
 have es:s.data.toList.length=s.size:=rfl
 cases ha:s.data.toList.all fX with
 | true=>
  have e:=iM (step:=qC) s.data.toList.length (fun i=>((s,bD (s.data.toList.take i),(i:Int),()),())) (.inr (.inl ((bD s.data.toList,()),()))) big (fun k h=>Rb h hl (fun j hj=>List.all_eq_true.1 ha _ (List.getElem_mem _))) (by
   unfold qC
   dsimp only
   rw[decide_eq_false (by omega),cond_false,List.take_length]) (dY (by omega))
  rw[Int.natCast_zero,List.take_zero]at e
  exact e
 | false=>
  obtain⟨k,hk,h1,h2⟩:=BD fX _ ha
  have e:=iM (step:=qC) k (fun i=>((s,bD (s.data.toList.take i),(i:Int),()),())) (.inl (((0:Int),false,()),())) big (fun j h=>Rb (by omega) hl (fun i hi=>h2 i (by omega))) (by
   unfold qC
   dsimp only
   rw[decide_eq_true (by omega),cond_true,dif_pos ⟨by omega,by omega⟩]
   simp only[Int.toNat_natCast,gU (show k<s.size from hk) hk]
   rw[Q7,bf,Q6 h1]
   rfl) (dY (by omega))
  rw[Int.natCast_zero,List.take_zero]at e
  exact e
def oK(s:ByteArray):Option Int:=bif decide (s.size=8)&&s.data.toList.all fX then some (bD s.data.toList)else none
def qL(s:ByteArray):Int×Bool:=match oK s with
 | some v=>(v,true)
 | none=>(0,false)
theorem Rc(s:ByteArray):xy s=some (qL s):=by
 have es:s.data.toList.length=s.size:=rfl
 unfold xy qL oK
 by_cases h8:s.size=8
 ·rw[show ((s.size:Int) != 8)=false by rw[h8];rfl,cond_false,abW (by omega),bf,decide_eq_true h8,Bool.true_and]
  cases s.data.toList.all fX <;>rfl
 ·rw[show ((s.size:Int) != 8)=true from bne_iff_ne.2 (by omega),cond_true,decide_eq_false h8]
  rfl
theorem abY(s:ByteArray):DR s=some (qL s):=by
 have es:s.data.toList.length=s.size:=rfl
 unfold DR qL oK
 by_cases h8:s.size=8
 ·rw[show ((s.size:Int) != 8)=false by rw[h8];rfl,cond_false,abX (by omega),bf,decide_eq_true h8,Bool.true_and]
  cases s.data.toList.all fX <;>rfl
 ·rw[show ((s.size:Int) != 8)=true from bne_iff_ne.2 (by omega),cond_true,decide_eq_false h8]
  rfl
theorem abZ(l:List UInt8){k:Nat}(hk:k<l.length)(h:∀ j (hj:j<l.length),fX l[j]=true)(n:Nat)(hn:bD l=(n:Int))(m:Nat)(hm:k+1+m=l.length):n / 16 ^ m % 16=(gV l[k]).toNat:=by
 have key:∀ m k,k+m=l.length->((n / 16 ^ m:Nat):Int)=bD (l.take k):=by
  intro m
  induction m with
  | zero=>
   intro k hk
   rw[Nat.pow_zero,Nat.div_one,<-hn,List.take_of_length_le (by omega)]
  | succ m ih=>
   intro k hk
   have e:=ih (k+1) (by omega)
   have U:=BE (h k (by omega))
   rw[List.take_succ_eq_append_getElem (by omega:k<l.length),Em]at e
   rw[Nat.pow_succ,<-Nat.div_div_eq_div_mul]
   omega
 have e1:=key m (k+1) hm
 have U:=BE (h k hk)
 rw[List.take_succ_eq_append_getElem hk,Em]at e1
 omega
theorem Rd{s:ByteArray}{x:Int}(h:oK s=some x):s=c8 x/\0<=x/\x<=4294967295:=by
 have es:s.data.toList.length=s.size:=rfl
 unfold oK at h
 cases hc:(decide (s.size=8)&&s.data.toList.all fX)with
 | false=>rw[hc]at h;cases h
 | true=>
  rw[hc,cond_true]at h
  injection h with h
  simp only[Bool.and_eq_true,decide_eq_true_eq]at hc
  have ha:∀ j (hj:j<s.data.toList.length),fX s.data.toList[j]=true:=fun j hj=>List.all_eq_true.1 hc.2 _ (List.getElem_mem hj)
  obtain⟨h0,h1⟩:=JN ha 8 (by omega)
  rw[List.take_of_length_le (by omega)]at h0 h1
  have p8:(16:Int) ^ 8=4294967296:=rfl
  rw[h]at h0 h1
  refine⟨?_,h0,by omega⟩
  obtain⟨n,rfl⟩:=Int.eq_ofNat_of_zero_le h0
  unfold c8
  rw[vh.2 ⟨h0,by omega⟩,cond_true]
  refine kX (List.ext_getElem ?_ fun k hk Du=>?_)
  ·show s.size=(gC (n:Int)).size
   unfold gC
   rw[xF,Bv,hc.1]
  ·have Re:k<(gC (n:Int)).size:=Du
   have e:=Qy (x:=n) (k:=k) (by omega) Re
   rw[gU Re Du]at e
   have hd:n / 2 ^ (28-4*k) % 16=(gV s.data.toList[k]).toNat:=by
    have:=abZ s.data.toList hk ha n h (7-k) (by omega)
    rw[<-this,show (16:Nat)=2 ^ 4 from rfl,<-Nat.pow_mul,show 28-4*k=4*(7-k) by omega]
   have U:=BE (ha k hk)
   rw[e,Qx (by omega) (by omega),hd,Int.toNat_of_nonneg U.1,abT (ha k hk)]
theorem ab0{x:Int}(h0:0<=x)(h1:x<=4294967295):oK (c8 x)=some x:=by
 have e:=Qz h0 h1
 rw[Rc]at e
 unfold qL at e
 cases h:oK (c8 x)with
 | none=>rw[h]at e;cases e
 | some v=>
  rw[h]at e
  injection e with e
  injection e with e
  rw[e]
def ke:aC:=⟨0,zR,0,0,⟨0,0,0⟩,zP⟩
def oL(w:ByteArray)(a b c d e f g h i j k:Int):aC×Int:=
 bif w.toList==gD.toList then (⟨1,⟨a,b,c,false,0,0⟩,0,0,⟨0,0,0⟩,zP⟩,3)else
 bif w.toList==bn.toList then (⟨1,⟨a,b,c,true,d,0⟩,0,0,⟨0,0,0⟩,zP⟩,4)else
 bif w.toList==gE.toList then (⟨2,zR,a,0,⟨0,0,0⟩,zP⟩,1)else
 bif w.toList==gl.toList then (⟨4,zR,a,0,⟨0,0,0⟩,zP⟩,1)else
 bif w.toList==fV.toList then (⟨3,zR,e,d,⟨a,b,c⟩,zP⟩,5)else
 bif w.toList==fA.toList then (⟨6,zR,0,0,⟨a,b,0⟩,zP⟩,2)else
 bif w.toList==fB.toList then (⟨5,zR,0,0,⟨0,0,0⟩,⟨a,b,c,d,e,[f,g,h,i],⟨j,k⟩⟩⟩,11)else (ke,-1)
def dR(w:ByteArray)(l:List Int):aC×Int:=oL w (l.getD 0 0) (l.getD 1 0) (l.getD 2 0) (l.getD 3 0) (l.getD 4 0) (l.getD 5 0) (l.getD 6 0) (l.getD 7 0) (l.getD 8 0) (l.getD 9 0) (l.getD 10 0)
theorem Rf{l:List Int}(h:l.length=11):∃ a b c d e f g x i j k,l=[a,b,c,d,e,f,g,x,i,j,k]:=by
 rcases l with _ | ⟨a,_ | ⟨b,_ | ⟨c,_ | ⟨d,_ | ⟨e,_ | ⟨f,_ | ⟨g,_ | ⟨x,_ | ⟨i,_ | ⟨j,_ | ⟨k,_ | ⟨m,l⟩⟩⟩⟩⟩⟩⟩⟩⟩⟩⟩⟩ <;>first | exact⟨_,_,_,_,_,_,_,_,_,_,_,rfl⟩ | (simp at h)
theorem ab1(w:ByteArray){ns:List Int}(h:ns.length<=11):iter xu big ((w,(),(),()),(ns,z21,([]:List Int),()))=some (.inl ((w,(),(),()),(cS ns ns.length,z21,([]:List Int),()))):=by
 have e:=iM (step:=xu) (11-ns.length) (fun i=>((w,(),(),()),(ns++List.replicate i (0:Int),z21,([]:List Int),()))) (.inl ((w,(),(),()),(cS ns ns.length,z21,([]:List Int),()))) big (fun k hk=>by
  have hl:(ns++List.replicate k (0:Int)).length=ns.length+k:=by simp
  unfold xu
  dsimp only
  rw[decide_eq_true (by omega),cond_true,jG (by rw[hl];simp;omega),cond_true,List.append_assoc,List.replicate_succ']) (by
  have hl:(ns++List.replicate (11-ns.length) (0:Int)).length=11:=by simp;omega
  unfold xu
  dsimp only
  rw[decide_eq_false (by omega),cond_false]
  unfold cS
  rw[List.take_length]) (dY (by omega))
 rw[List.replicate_zero,List.append_nil]at e
 exact e
theorem ab2(w:ByteArray){ns:List Int}(h:ns.length<=11):Be w ns=some (dR w (cS ns ns.length),([],())):=by
 unfold Be
 refine(congrArg (fun o=>Option.bind o _) (ab1 w h)).trans ?_
 rw[bf]
 obtain⟨a,b,c,d,e,f,g,x,i,j,k,bT⟩:=Rf (Jz (Nat.le_refl ns.length) h)
 rw[bT]
 simp only[Sum.elim_inl]
 unfold dR oL gD bn gE gl fV fA fB
 generalize (w.toList==(ByteArray.mk #[114,101,97,100]).toList)=t1
 generalize (w.toList==(ByteArray.mk #[119,114,105,116,101]).toList)=t2
 generalize (w.toList==(ByteArray.mk #[119,97,105,116]).toList)=t3
 generalize (w.toList==(ByteArray.mk #[104,101,97,116]).toList)=t4
 generalize (w.toList==(ByteArray.mk #[102,108,105,112]).toList)=t5
 generalize (w.toList==(ByteArray.mk #[114,101,116,105,114,101]).toList)=t6
 generalize (w.toList==(ByteArray.mk #[112,111,108,105,99,121]).toList)=t7
 cases t1 with
 | true=>rfl
 | false=>
  cases t2 with
  | true=>rfl
  | false=>
   cases t3 with
   | true=>rfl
   | false=>
    cases t4 with
    | true=>rfl
    | false=>
     cases t5 with
     | true=>rfl
     | false=>
      cases t6 with
      | true=>rfl
      | false=>
       cases t7 with
       | true=>rfl
       | false=>rfl
def nN(w e:ByteArray)(i:Nat):Option Int:=bif (w.toList==bn.toList)&&Nat.beq i 4 then oK e else lQ e
def jJ(w:ByteArray):Nat->List ByteArray->Option (List Int)
 | _,[]=>some []
 | i,e :: l=>match nN w e i with
  | none=>none
  | some v=>(jJ w (i+1) l).map (v :: ·)
theorem Rg(w:ByteArray):∀ (l:List ByteArray) (i:Nat) (vs:List Int),jJ w i l=some vs->vs.length=l.length
 | [],i,vs,h=>by
  injection h with h
  subst h
  rfl
 | e :: l,i,vs,h=>by
  unfold jJ at h
  cases h1:nN w e i with
  | none=>rw[h1]at h;cases h
  | some v=>
   rw[h1]at h
   simp only[]at h
   cases h2:jJ w (i+1) l with
   | none=>rw[h2]at h;cases h
   | some us=>
    rw[h2]at h
    injection h with h
    subst h
    rw[List.length_cons,List.length_cons,Rg w l (i+1) us h2]
def ab3(ws:List ByteArray)(iN:List Int):Option (List Int)->((Unit×Bool×Unit)×((Int×Int×Int×Int×Bool×Int×Int×Int×Int×Int×Int×Int×Int×Int×Int×Int×Int×Unit×Int×Int×Unit)×(List Int)×Unit))⊕(((Unit×Unit×Unit×Unit)×((Int×Int×Int×Int×Bool×Int×Int×Int×Int×Int×Int×Int×Int×Int×Int×Int×Int×Unit×Int×Int×Unit)×(List ByteArray)×(List Int)×(List Int)×Unit))⊕Empty)
 | some vs=>.inr (.inl (((),(),(),()),(z21,ws,iN++vs,([]:List Int),())))
 | none=>.inl (((),false,()),(z21,([]:List Int),()))
theorem ab4{w:ByteArray}{bs:List ByteArray}(hl:bs.length<=11):∀ (rest:List ByteArray) (i:Nat) (iN:List Int) (fuel:Nat),(w :: bs).drop i=rest->i+rest.length=bs.length+1->iN.length<=i->rest.length<fuel->
  iter uU fuel (((),(),(),(i:Int),()),(z21,w :: bs,iN,([]:List Int),()))=some (ab3 (w :: bs) iN (jJ w i rest)):=by
 have QB:(w :: bs).length=bs.length+1:=rfl
 intro rest
 induction rest with
 | nil=>
  intro i iN fuel hd hi hn hf
  obtain⟨m,rfl⟩:∃ m,fuel=m+1:=⟨fuel-1,by omega⟩
  have st:uU (((),(),(),(i:Int),()),(z21,w :: bs,iN,([]:List Int),()))=some (.inr (.inr (.inl (((),(),(),()),(z21,w :: bs,iN,([]:List Int),()))))):=by
   unfold uU
   dsimp only
   simp only[List.length_nil]at hi
   rw[decide_eq_false (by omega),cond_false]
  simp only[iter,st]
  show _=some (Sum.inr (Sum.inl (((),(),(),()),(z21,w :: bs,iN++[],([]:List Int),()))))
  rw[List.append_nil]
 | cons e rest ih=>
  intro i iN fuel hd hi hn hf
  obtain⟨m,rfl⟩:∃ m,fuel=m+1:=⟨fuel-1,by omega⟩
  simp only[List.length_cons]at hi hf
  have aW:i<(w :: bs).length:=by omega
  have eP:=List.drop_eq_getElem_cons aW
  rw[eP]at hd
  injection hd with he hd
  have st:uU (((),(),(),(i:Int),()),(z21,w :: bs,iN,([]:List Int),()))=some (match nN w e i with
    | some v=>.inl (((),(),(),((i+1:Nat):Int),()),(z21,w :: bs,iN++[v],([]:List Int),()))
    | none=>.inr (.inl (((),false,()),(z21,([]:List Int),())))):=by
   unfold uU
   dsimp only
   rw[decide_eq_true (by omega),cond_true,dif_pos ⟨by omega,by omega⟩,dif_pos (by omega)]
   simp only[Int.toNat_natCast,he]
   rw[abR,bf,dif_pos ⟨by omega,by show 0<_;omega⟩,dif_pos (by show 0<_;omega)]
   rw[show (w :: bs)[(0:Int).toNat]'(by show 0<_;omega)=w from rfl,show (ByteArray.mk #[119,114,105,116,101])=bn from rfl]
   unfold nN
   have u:(bif (!(jI e).2)then (some (.inr (.inl (((),false,()),(((0:Int),(0:Int),(0:Int),(0:Int),false,(0:Int),(0:Int),(0:Int),(0:Int),(0:Int),(0:Int),(0:Int),(0:Int),(0:Int),(0:Int),(0:Int),(0:Int),(),(0:Int),(0:Int),()),([]:List Int),())))):Option (((Unit×Unit×Unit×Int×Unit)×((Int×Int×Int×Int×Bool×Int×Int×Int×Int×Int×Int×Int×Int×Int×Int×Int×Int×Unit×Int×Int×Unit)×(List ByteArray)×(List Int)×(List Int)×Unit))⊕(((Unit×Bool×Unit)×((Int×Int×Int×Int×Bool×Int×Int×Int×Int×Int×Int×Int×Int×Int×Int×Int×Int×Unit×Int×Int×Unit)×(List Int)×Unit))⊕(((Unit×Unit×Unit×Unit)×((Int×Int×Int×Int×Bool×Int×Int×Int×Int×Int×Int×Int×Int×Int×Int×Int×Int×Unit×Int×Int×Unit)×(List ByteArray)×(List Int)×(List Int)×Unit))⊕Empty))))else bif aY (iN.length+([(jI e).1]:List Int).length)then some (.inl (((),(),(),(IntKind.i64.wrap ((i:Int)+(1:Int))),()),(z21,w :: bs,(iN++([(jI e).1]:List Int)),([]:List Int),())))else none)=some (match lQ e with
    | some v=>.inl (((),(),(),((i+1:Nat):Int),()),(z21,w :: bs,iN++[v],([]:List Int),()))
    | none=>.inr (.inl (((),false,()),(z21,([]:List Int),())))):=by
    unfold jI
    cases lQ e with
    | none=>rfl
    | some v=>
     simp only[Bool.not_true,cond_false]
     rw[jG (by simp;omega),cond_true,dJ (by omega)]
   cases hw:w.toList==bn.toList with
   | false=>
    rw[cond_false,Bool.false_and,cond_false]
    exact u
   | true=>
    rw[cond_true,Bool.true_and]
    by_cases h4:i=4
    ·subst h4
     rw[show (((4:Nat):Int)==4)=true from rfl,cond_true,dif_pos ⟨by omega,by omega⟩,dif_pos (by omega),abY,bf,show Nat.beq 4 4=true from rfl,cond_true]
     unfold qL
     cases oK e with
     | none=>rfl
     | some v=>
      simp only[Bool.not_true,cond_false]
      rw[jG (by simp;omega),cond_true,dJ (by omega)]
    ·rw[show ((i:Int)==4)=false from beq_eq_false_iff_ne.2 (by omega),cond_false,show Nat.beq i 4=false from Bool.eq_false_iff.2 (fun e=>h4 (Nat.eq_of_beq_eq_true e)),cond_false]
     exact u
  unfold jJ
  cases ha:nN w e i with
  | none=>
   rw[ha]at st
   simp only[iter,st]
   rfl
  | some v=>
   rw[ha]at st
   rw[jj st,ih (i+1) (iN++[v]) m hd (by omega) (by simp;omega) (by omega)]
   simp only[]
   cases jJ w (i+1) rest with
   | none=>rfl
   | some vs=>
    show some (Sum.inr (Sum.inl (((),(),(),()),(z21,w :: bs,(iN++[v])++vs,([]:List Int),()))))=_
    rw[List.append_assoc]
    rfl
def nO(w:ByteArray)(bs:List ByteArray):aC×Bool:=match jJ w 1 bs with
 | none=>(ke,false)
 | some vs=>bif (dR w (cS vs vs.length)).2 != (vs.length:Int)then (ke,false)else ((dR w (cS vs vs.length)).1,true)
theorem ab5{s w:ByteArray}{bs:List ByteArray}(hs:jk s=(w :: bs,true))(hl:bs.length<=11):lJ s=some (nO w bs):=by
 have QB:(w :: bs).length=bs.length+1:=rfl
 unfold lJ
 rw[BC,bf,hs]
 dsimp only
 rw[Bool.not_true,cond_false,show (((w :: bs).length:Int)==0)=false from beq_eq_false_iff_ne.2 (by omega),cond_false,decide_eq_false (by omega),cond_false]
 refine(congrArg (fun o=>Option.bind o _) (ab4 (w:=w) hl bs 1 [] big rfl (by omega) (by simp) (dY (by omega)))).trans ?_
 rw[bf]
 unfold nO
 cases ha:jJ w 1 bs with
 | none=>rfl
 | some vs=>
  have hv:=Rg w bs 1 vs ha
  show (if iQ:0<=(0:Int)/\(0:Int).toNat<(w :: bs).length then if jr:(0:Int).toNat<(w :: bs).length then _ else none else none)=_
  rw[dif_pos ⟨by omega,by show 0<_;omega⟩,dif_pos (by show 0<_;omega)]
  show ((Be w ([]++vs)).bind _)=_
  rw[List.nil_append,ab2 w (by omega),bf]
  show (bif (dR w (cS vs vs.length)).2 != ((vs.length-0:Nat):Int)then some (ke,false)else some ((dR w (cS vs vs.length)).1,true))=_
  rw[Nat.sub_zero]
  simp only[]
  cases ((dR w (cS vs vs.length)).2 != (vs.length:Int)) <;>rfl
inductive KA:aC->ByteArray->List Int->Prop
 | read (i t l:Int):KA ⟨1,⟨i,t,l,false,0,0⟩,0,0,⟨0,0,0⟩,zP⟩ gD [i,t,l]
 | write (i t l d:Int):KA ⟨1,⟨i,t,l,true,d,0⟩,0,0,⟨0,0,0⟩,zP⟩ bn [i,t,l]
 | wait (n:Int):KA ⟨2,zR,n,0,⟨0,0,0⟩,zP⟩ gE [n]
 | qM (n:Int):KA ⟨4,zR,n,0,⟨0,0,0⟩,zP⟩ gl [n]
 | flip (b r c p n:Int):KA ⟨3,zR,n,p,⟨b,r,c⟩,zP⟩ fV [b,r,c,p,n]
 | ret (b r:Int):KA ⟨6,zR,0,0,⟨b,r,0⟩,zP⟩ fA [b,r]
 | qN (a b c e f g h i j k l:Int):KA ⟨5,zR,0,0,⟨0,0,0⟩,⟨a,b,c,e,f,[g,h,i,j],⟨k,l⟩⟩⟩ fB [a,b,c,e,f,g,h,i,j,k,l]
def tx(a:aC)(w:ByteArray)(ns:List Int):ByteArray:=bif a.request.write then (eF w ns++ByteArray.mk #[32])++c8 a.request.data else eF w ns
theorem vm{a:aC}{w:ByteArray}{ns:List Int}(aA:(w.toList==(ByteArray.mk #[]).toList)=false)(hn:ns≠[])(hr:∀ n∈ns,0<=n/\n<=1000000000)(bT:ns.length<=11)(hw:w.size<=100)(qI:a.ak.weights.length<1073741824)(hd:0<=a.request.data/\a.request.data<=4294967295):ji a a w ns=some (tx a w ns,true):=by
 have b9:∀ n∈ns,b7 n:=fun n hn=>by
  have:=hr n hn
  unfold b7
  omega
 have eR:ns.all vi=true:=List.all_eq_true.2 (fun n hn=>vh.2 (hr n hn))
 rw[qH aA hn b9 (by omega) hw qI,abA,vh.2 hd]
 unfold fin tx
 rw[eR]
 cases a.request.write <;>rfl
theorem ab6{a:aC}{w:ByteArray}{ns:List Int}(h:KA a w ns)(hr:∀ n∈ns,0<=n/\n<=1000000000)(hd:0<=a.request.data/\a.request.data<=4294967295):lK a=some (tx a w ns,true):=by
 obtain⟨e1,e2,e3,e4,e5,e6,e7⟩:=Bz
 rw[Ef]
 cases h with
 | read i t l=>exact vm (w:=gD) (ns:=[i,t,l]) e1 (by simp) hr (by simp) (by decide +kernel) (by show ([]:List Int).length<_;simp) hd
 | write i t l d=>exact vm (w:=bn) (ns:=[i,t,l]) e2 (by simp) hr (by simp) (by decide +kernel) (by show ([]:List Int).length<_;simp) hd
 | wait n=>exact vm (w:=gE) (ns:=[n]) e3 (by simp) hr (by simp) (by decide +kernel) (by show ([]:List Int).length<_;simp) hd
 | qM n=>exact vm (w:=gl) (ns:=[n]) e4 (by simp) hr (by simp) (by decide +kernel) (by show ([]:List Int).length<_;simp) hd
 | flip b r c p n=>exact vm (w:=fV) (ns:=[b,r,c,p,n]) e5 (by simp) hr (by simp) (by decide +kernel) (by show ([]:List Int).length<_;simp) hd
 | ret b r=>exact vm (w:=fA) (ns:=[b,r]) e6 (by simp) hr (by simp) (by decide +kernel) (by show ([]:List Int).length<_;simp) hd
 | qN a b c e f g h i j k l=>exact vm (w:=fB) (ns:=[a,b,c,e,f,g,h,i,j,k,l]) e7 (by simp) hr (by simp) (by decide +kernel) (by show [g,h,i,j].length<_;simp) hd
theorem ab7(a:aC)(h:xH a){t:ByteArray}(hf:lK a=some (t,true)):∃ w ns,KA a w ns/\(∀ n∈ns,0<=n/\n<=1000000000)/\(0<=a.request.data/\a.request.data<=4294967295)/\t=tx a w ns:=by
 obtain⟨_,⟨r1,r2,r3,_,r5,r6⟩,i1,i2,⟨b1,b2,b3⟩,⟨p1,p2,p3,p4,p5,p6,p7⟩⟩:=h
 obtain⟨e1,e2,e3,e4,e5,e6,e7⟩:=Bz
 have z:([]:List Int).length<1073741824:=by simp
 have bQ:=hf
 rw[Ef]at bQ
 unfold xz at bQ
 by_cases k2:a.kind=2
 ·simp only[k2,show ((2:Int)==1)=false from rfl,show ((2:Int)==2)=true from rfl,cond_true,cond_false]at bQ
  obtain⟨e,hd,hr,ht⟩:=qJ (u:=uN a) (a:=a) rfl e3 (by simp) (by simp only[List.forall_mem_cons];exact⟨i1,fun _ h=>by cases h⟩) (by simp) (by decide +kernel) z bQ
  have q:KA (uN a) gE [a.n]:=by unfold uN;rw[k2];exact KA.wait a.n
  rw[e]at q
  exact⟨_,_,q,hr,hd,ht⟩
 by_cases k4:a.kind=4
 ·simp only[k4,show ((4:Int)==1)=false from rfl,show ((4:Int)==2)=false from rfl,show ((4:Int)==4)=true from rfl,cond_true,cond_false]at bQ
  obtain⟨e,hd,hr,ht⟩:=qJ (u:=uN a) (a:=a) rfl e4 (by simp) (by simp only[List.forall_mem_cons];exact⟨i1,fun _ h=>by cases h⟩) (by simp) (by decide +kernel) z bQ
  have q:KA (uN a) gl [a.n]:=by unfold uN;rw[k4];exact KA.qM a.n
  rw[e]at q
  exact⟨_,_,q,hr,hd,ht⟩
 by_cases k3:a.kind=3
 ·simp only[k3,show ((3:Int)==1)=false from rfl,show ((3:Int)==2)=false from rfl,show ((3:Int)==4)=false from rfl,show ((3:Int)==3)=true from rfl,cond_true,cond_false]at bQ
  obtain⟨e,hd,hr,ht⟩:=qJ (u:=uF a) (a:=a) rfl e5 (by simp) (by simp only[List.forall_mem_cons];exact⟨b1,b2,b3,i2,i1,fun _ h=>by cases h⟩) (by simp) (by decide +kernel) z bQ
  have q:KA (uF a) fV [a.addr.cO,a.addr.row,a.addr.dZ,a.cz,a.n]:=by unfold uF;rw[k3];exact KA.flip _ _ _ _ _
  rw[e]at q
  exact⟨_,_,q,hr,hd,ht⟩
 by_cases k6:a.kind=6
 ·simp only[k6,show ((6:Int)==1)=false from rfl,show ((6:Int)==2)=false from rfl,show ((6:Int)==4)=false from rfl,show ((6:Int)==3)=false from rfl,show ((6:Int)==5)=false from rfl,show ((6:Int)==6)=true from rfl,cond_true,cond_false]at bQ
  obtain⟨e,hd,hr,ht⟩:=qJ (u:=uR a) (a:=a) rfl e6 (by simp) (by simp only[List.forall_mem_cons];exact⟨b1,b2,fun _ h=>by cases h⟩) (by simp) (by decide +kernel) z bQ
  have q:KA (uR a) fA [a.addr.cO,a.addr.row]:=by unfold uR;rw[k6];exact KA.ret _ _
  rw[e]at q
  exact⟨_,_,q,hr,hd,ht⟩
 by_cases k1:a.kind=1
 ·simp only[k1,show ((1:Int)==1)=true from rfl,cond_true]at bQ
  have b9:∀ n∈[a.request.id,a.request.de,a.request.line],b7 n:=by
   simp only[List.forall_mem_cons]
   exact⟨r1,r2,r3,fun _ h=>by cases h⟩
  cases hw:a.request.write with
  | true=>
   rw[hw]at bQ
   obtain⟨e,hd,hr,ht⟩:=qJ (u:=uA a a.request.data) (a:=a) rfl e2 (by simp) b9 (by simp) (by decide +kernel) z bQ
   have q:KA (uA a a.request.data) bn [a.request.id,a.request.de,a.request.line]:=by unfold uA;rw[k1,hw];exact KA.write _ _ _ _
   rw[e]at q
   exact⟨_,_,q,hr,hd,ht⟩
  | false=>
   rw[hw]at bQ
   obtain⟨e,hd,hr,ht⟩:=qJ (u:=uA a 0) (a:=a) rfl e1 (by simp) b9 (by simp) (by decide +kernel) z bQ
   have q:KA (uA a 0) gD [a.request.id,a.request.de,a.request.line]:=by unfold uA;rw[k1,hw];exact KA.read _ _ _
   rw[e]at q
   exact⟨_,_,q,hr,hd,ht⟩
 have c1:(a.kind==1)=false:=by simpa using k1
 have c2:(a.kind==2)=false:=by simpa using k2
 have c3:(a.kind==3)=false:=by simpa using k3
 have c4:(a.kind==4)=false:=by simpa using k4
 have c6:(a.kind==6)=false:=by simpa using k6
 have no:∀ {u:aC} {ns:List Int},ji a u (ByteArray.mk #[]) ns=some (t,true)->False:=fun h=>by
  rw[Eg]at h
  have:=congrArg Prod.snd (Option.some.inj h)
  cases this
 by_cases k5:a.kind=5
 ·simp only[k5,show ((5:Int)==1)=false from rfl,show ((5:Int)==2)=false from rfl,show ((5:Int)==4)=false from rfl,show ((5:Int)==3)=false from rfl,show ((5:Int)==6)=false from rfl,show ((5:Int)==5)=true from rfl,cond_true,cond_false]at bQ
  by_cases h4:a.ak.weights.length=4
  ·have c:((a.ak.weights.length:Int)==4)=true:=by simp[h4]
   rw[c,cond_true,dif_pos ⟨by omega,by show 0<_;omega⟩,dif_pos ⟨by omega,by show 1<_;omega⟩,dif_pos ⟨by omega,by show 2<_;omega⟩,dif_pos ⟨by omega,by show 3<_;omega⟩]at bQ
   have JC:=four h4
   obtain⟨e,hd,hr,ht⟩:=qJ (u:=uP a) (a:=a) (ns:=[a.ak.dr,a.ak.cap,a.ak.dw,a.ak.low,a.ak.high,a.ak.weights[0],a.ak.weights[1],a.ak.weights[2],a.ak.weights[3],a.ak.bP.down,a.ak.bP.sleep]) rfl e7 (by simp) (by
    simp only[List.forall_mem_cons]
    exact⟨p1,p2,p3,p4,p5,p6.2 _ (List.getElem_mem _),p6.2 _ (List.getElem_mem _),p6.2 _ (List.getElem_mem _),p6.2 _ (List.getElem_mem _),p7.1,p7.2,fun _ h=>by cases h⟩) (by simp) (by decide +kernel) (show a.ak.weights.length<_ by omega) bQ
   have q:=KA.qN a.ak.dr a.ak.cap a.ak.dw a.ak.low a.ak.high a.ak.weights[0] a.ak.weights[1] a.ak.weights[2] a.ak.weights[3] a.ak.bP.down a.ak.bP.sleep
   rw[<-JC]at q
   have q2:KA (uP a) fB [a.ak.dr,a.ak.cap,a.ak.dw,a.ak.low,a.ak.high,a.ak.weights[0],a.ak.weights[1],a.ak.weights[2],a.ak.weights[3],a.ak.bP.down,a.ak.bP.sleep]:=by
    unfold uP
    rw[k5]
    exact q
   rw[e]at q2
   exact⟨_,_,q2,hr,hd,ht⟩
  ·have c:((a.ak.weights.length:Int)==4)=false:=by simp;omega
   rw[c,cond_false]at bQ
   exact(no bQ).elim
 have c5:(a.kind==5)=false:=by simpa using k5
 simp only[c1,c2,c3,c4,c5,c6,cond_false]at bQ
 exact(no bQ).elim
def kf(w:ByteArray)(i:Nat)(v:Int):ByteArray:=bif (w.toList==bn.toList)&&Nat.beq i 4 then c8 v else cy v
def kY(w:ByteArray)(i:Nat)(v:Int):Prop:=bif (w.toList==bn.toList)&&Nat.beq i 4 then 0<=v/\v<=4294967295 else 0<=v/\v<=1000000000
def lR(w:ByteArray):Nat->List Int->List ByteArray
 | _,[]=>[]
 | i,v :: l=>kf w i v :: lR w (i+1) l
def qO(w:ByteArray):Nat->List Int->Prop
 | _,[]=>True
 | i,v :: l=>kY w i v/\qO w (i+1) l
theorem ab8{w e:ByteArray}{i:Nat}{v:Int}(h:nN w e i=some v):e=kf w i v/\kY w i v:=by
 unfold nN at h
 unfold kf kY
 cases hc:((w.toList==bn.toList)&&Nat.beq i 4)with
 | true=>
  rw[hc,cond_true]at h
  exact Rd h
 | false=>
  rw[hc,cond_false]at h
  exact Q5 h
theorem ab9{w:ByteArray}{i:Nat}{v:Int}(h:kY w i v):nN w (kf w i v) i=some v:=by
 unfold kY at h
 unfold nN kf
 cases hc:((w.toList==bn.toList)&&Nat.beq i 4)with
 | true=>
  rw[hc,cond_true]at h
  exact ab0 h.1 h.2
 | false=>
  rw[hc,cond_false]at h
  exact abS h.1 h.2
theorem Rh(w:ByteArray):∀ (bs:List ByteArray) (i:Nat) (vs:List Int),jJ w i bs=some vs->bs=lR w i vs/\qO w i vs
 | [],i,vs,h=>by
  injection h with h
  subst h
  exact⟨rfl,trivial⟩
 | e :: l,i,vs,h=>by
  unfold jJ at h
  cases h1:nN w e i with
  | none=>rw[h1]at h;cases h
  | some v=>
   rw[h1]at h
   simp only[]at h
   cases h2:jJ w (i+1) l with
   | none=>rw[h2]at h;cases h
   | some us=>
    rw[h2]at h
    injection h with h
    subst h
    obtain⟨e1,e2⟩:=Rh w l (i+1) us h2
    obtain⟨e3,e4⟩:=ab8 h1
    exact⟨by rw[e1,e3];rfl,e4,e2⟩
theorem Ri(w:ByteArray):∀ (vs:List Int) (i:Nat),qO w i vs->jJ w i (lR w i vs)=some vs
 | [],i,h=>rfl
 | v :: l,i,h=>by
  show (match nN w (kf w i v) i with | none=>none | some v=>(jJ w (i+1) (lR w (i+1) l)).map (v :: ·))=_
  rw[ab9 h.1,Ri w l (i+1) h.2]
  rfl
def En(w:ByteArray):Prop:=(w.toList==bn.toList)=false
theorem Rj{w:ByteArray}(h:En w):∀ (vs:List Int) (i:Nat),lR w i vs=vs.map cy
 | [],i=>rfl
 | v :: l,i=>by
  show kf w i v :: lR w (i+1) l=_
  rw[Rj h l (i+1)]
  unfold kf
  rw[h]
  rfl
theorem JO{w:ByteArray}(h:En w):∀ (vs:List Int) (i:Nat),qO w i vs ↔ ∀ n∈vs,0<=n/\n<=1000000000
 | [],i=>by simp[qO]
 | v :: l,i=>by
  show kY w i v/\qO w (i+1) l ↔ _
  rw[JO h l (i+1),List.forall_mem_cons]
  unfold kY
  rw[h]
  exact Iff.rfl
theorem acd:(bn.toList==gD.toList)=false:=by decide +kernel
theorem JP:(gE.toList==gD.toList)=false/\(gE.toList==bn.toList)=false:=by decide +kernel
theorem JQ:(gl.toList==gD.toList)=false/\(gl.toList==bn.toList)=false/\(gl.toList==gE.toList)=false:=by decide +kernel
theorem JR:(fV.toList==gD.toList)=false/\(fV.toList==bn.toList)=false/\(fV.toList==gE.toList)=false/\(fV.toList==gl.toList)=false:=by decide +kernel
theorem JS:(fA.toList==gD.toList)=false/\(fA.toList==bn.toList)=false/\(fA.toList==gE.toList)=false/\(fA.toList==gl.toList)=false/\(fA.toList==fV.toList)=false:=by decide +kernel
theorem JT:(fB.toList==gD.toList)=false/\(fB.toList==bn.toList)=false/\(fB.toList==gE.toList)=false/\(fB.toList==gl.toList)=false/\(fB.toList==fV.toList)=false/\(fB.toList==fA.toList)=false:=by decide +kernel
theorem Rk:(gD.toList==bn.toList)=false:=by decide +kernel
def vn(a:aC)(ns:List Int):List Int:=bif a.request.write then ns++[a.request.data]else ns
theorem Ro(l:List Int):dR gD l=(⟨1,⟨l.getD 0 0,l.getD 1 0,l.getD 2 0,false,0,0⟩,0,0,⟨0,0,0⟩,zP⟩,3):=by
 unfold dR oL
 rw[beq_self_eq_true,cond_true]
theorem Rp(l:List Int):dR bn l=(⟨1,⟨l.getD 0 0,l.getD 1 0,l.getD 2 0,true,l.getD 3 0,0⟩,0,0,⟨0,0,0⟩,zP⟩,4):=by
 unfold dR oL
 rw[acd,cond_false,beq_self_eq_true,cond_true]
theorem Rq(l:List Int):dR gE l=(⟨2,zR,l.getD 0 0,0,⟨0,0,0⟩,zP⟩,1):=by
 obtain⟨h1,h2⟩:=JP
 unfold dR oL
 rw[h1,h2,cond_false,cond_false,beq_self_eq_true,cond_true]
theorem Rr(l:List Int):dR gl l=(⟨4,zR,l.getD 0 0,0,⟨0,0,0⟩,zP⟩,1):=by
 obtain⟨h1,h2,h3⟩:=JQ
 unfold dR oL
 rw[h1,h2,h3,cond_false,cond_false,cond_false,beq_self_eq_true,cond_true]
theorem Rs(l:List Int):dR fV l=(⟨3,zR,l.getD 4 0,l.getD 3 0,⟨l.getD 0 0,l.getD 1 0,l.getD 2 0⟩,zP⟩,5):=by
 obtain⟨h1,h2,h3,h4⟩:=JR
 unfold dR oL
 rw[h1,h2,h3,h4,cond_false,cond_false,cond_false,cond_false,beq_self_eq_true,cond_true]
theorem Rt(l:List Int):dR fA l=(⟨6,zR,0,0,⟨l.getD 0 0,l.getD 1 0,0⟩,zP⟩,2):=by
 obtain⟨h1,h2,h3,h4,h5⟩:=JS
 unfold dR oL
 rw[h1,h2,h3,h4,h5,cond_false,cond_false,cond_false,cond_false,cond_false,beq_self_eq_true,cond_true]
theorem Ru(l:List Int):dR fB l=(⟨5,zR,0,0,⟨0,0,0⟩,⟨l.getD 0 0,l.getD 1 0,l.getD 2 0,l.getD 3 0,l.getD 4 0,[l.getD 5 0,l.getD 6 0,l.getD 7 0,l.getD 8 0],⟨l.getD 9 0,l.getD 10 0⟩⟩⟩,11):=by
 obtain⟨h1,h2,h3,h4,h5,h6⟩:=JT
 unfold dR oL
 rw[h1,h2,h3,h4,h5,h6,cond_false,cond_false,cond_false,cond_false,cond_false,cond_false,beq_self_eq_true,cond_true]
theorem ace{a:aC}{w:ByteArray}{ns:List Int}(h:KA a w ns):dR w (cS (vn a ns) (vn a ns).length)=(a,((vn a ns).length:Int)):=by
 cases h with
 | read i t l=>rw[Ro];rfl
 | write i t l d=>rw[Rp];rfl
 | wait n=>rw[Rq];rfl
 | qM n=>rw[Rr];rfl
 | flip b r c p n=>rw[Rs];rfl
 | ret b r=>rw[Rt];rfl
 | qN a b c e f g h i j k l=>rw[Ru];rfl
theorem acf{w:ByteArray}{vs:List Int}(h:(dR w (cS vs vs.length)).2=(vs.length:Int)):∃ ns,KA (dR w (cS vs vs.length)).1 w ns/\vs=vn (dR w (cS vs vs.length)).1 ns:=by
 by_cases h1:w=gD
 ·subst h1
  rw[Ro]at h ⊢
  have hl:vs.length=3:=by have:(3:Int)=(vs.length:Int):=h;omega
  match vs,hl with
  | [i,t,l],_=>exact⟨[i,t,l],KA.read i t l,rfl⟩
 by_cases h2:w=bn
 ·subst h2
  rw[Rp]at h ⊢
  have hl:vs.length=4:=by have:(4:Int)=(vs.length:Int):=h;omega
  match vs,hl with
  | [i,t,l,d],_=>exact⟨[i,t,l],KA.write i t l d,rfl⟩
 by_cases h3:w=gE
 ·subst h3
  rw[Rq]at h ⊢
  have hl:vs.length=1:=by have:(1:Int)=(vs.length:Int):=h;omega
  match vs,hl with
  | [n],_=>exact⟨[n],KA.wait n,rfl⟩
 by_cases h4:w=gl
 ·subst h4
  rw[Rr]at h ⊢
  have hl:vs.length=1:=by have:(1:Int)=(vs.length:Int):=h;omega
  match vs,hl with
  | [n],_=>exact⟨[n],KA.qM n,rfl⟩
 by_cases h5:w=fV
 ·subst h5
  rw[Rs]at h ⊢
  have hl:vs.length=5:=by have:(5:Int)=(vs.length:Int):=h;omega
  match vs,hl with
  | [b,r,c,p,n],_=>exact⟨[b,r,c,p,n],KA.flip b r c p n,rfl⟩
 by_cases h6:w=fA
 ·subst h6
  rw[Rt]at h ⊢
  have hl:vs.length=2:=by have:(2:Int)=(vs.length:Int):=h;omega
  match vs,hl with
  | [b,r],_=>exact⟨[b,r],KA.ret b r,rfl⟩
 by_cases h7:w=fB
 ·subst h7
  rw[Ru]at h ⊢
  have hl:vs.length=11:=by have:(11:Int)=(vs.length:Int):=h;omega
  match vs,hl with
  | [a,b,c,e,f,g,x,i,j,k,l],_=>exact⟨[a,b,c,e,f,g,x,i,j,k,l],KA.qN a b c e f g x i j k l,rfl⟩
 exfalso
 have e:(dR w (cS vs vs.length)).2 = -1:=by
  unfold dR oL
  rw[qK,qK,qK,qK,qK,qK,qK,decide_eq_false h1,decide_eq_false h2,decide_eq_false h3,decide_eq_false h4,decide_eq_false h5,decide_eq_false h6,decide_eq_false h7]
  rfl
 omega
theorem Rv{a:aC}{w:ByteArray}{ns:List Int}(h:KA a w ns):qO w 1 (vn a ns) ↔ (∀ n∈ns,0<=n/\n<=1000000000)/\(0<=a.request.data/\a.request.data<=4294967295):=by
 have z:(0:Int)<=0/\(0:Int)<=4294967295:=by omega
 have gen:∀ {w:ByteArray} {ns:List Int},En w->(qO w 1 ns ↔ (∀ n∈ns,0<=n/\n<=1000000000)/\((0:Int)<=0/\(0:Int)<=4294967295)):=fun hn=>⟨fun h=>⟨(JO hn _ 1).1 h,z⟩,fun h=>(JO hn _ 1).2 h.1⟩
 cases h with
 | read i t l=>exact gen Rk
 | write i t l d=>
  show kY bn 1 i/\kY bn 2 t/\kY bn 3 l/\kY bn 4 d/\True ↔ _
  unfold kY
  rw[beq_self_eq_true]
  simp only[List.forall_mem_cons]
  show (0<=i/\i<=1000000000)/\(0<=t/\t<=1000000000)/\(0<=l/\l<=1000000000)/\(0<=d/\d<=4294967295)/\True ↔ _
  constructor
  ·rintro⟨a1,a2,a3,a4,_⟩
   exact⟨⟨a1,a2,a3,fun _ h=>by cases h⟩,a4⟩
  ·rintro⟨⟨a1,a2,a3,_⟩,a4⟩
   exact⟨a1,a2,a3,a4,trivial⟩
 | wait n=>exact gen JP.2
 | qM n=>exact gen JQ.2.1
 | flip b r c p n=>exact gen JR.2.1
 | ret b r=>exact gen JS.2.1
 | qN a b c e f g h i j k l=>exact gen JT.2.1
theorem Rw{a:aC}{w:ByteArray}{ns:List Int}(h:KA a w ns):(tx a w ns).data.toList=w.data.toList++lay (lR w 1 (vn a ns)):=by
 have gen:∀ {w:ByteArray} {ns:List Int},En w->(eF w ns).data.toList=w.data.toList++lay (lR w 1 ns):=fun {w ns} hn=>by
  rw[Rj hn,<-Ei]
  rfl
 cases h with
 | read i t l=>exact gen Rk
 | write i t l d=>
  show ((eF bn [i,t,l]++ByteArray.mk #[32])++c8 d).data.toList=_
  have e:lR bn 1 [i,t,l,d]=[i,t,l].map cy++[c8 d]:=by
   show [kf bn 1 i,kf bn 2 t,kf bn 3 l,kf bn 4 d]=_
   unfold kf
   rw[beq_self_eq_true]
   rfl
  show _=bn.data.toList++lay (lR bn 1 [i,t,l,d])
  rw[e,oI,oI,QA,<-Ei]
  show (bn.data.toList++fJ [i,t,l])++[32]++(c8 d).data.toList=_
  simp[lay]
 | wait n=>exact gen JP.2
 | qM n=>exact gen JQ.2.1
 | flip b r c p n=>exact gen JR.2.1
 | ret b r=>exact gen JS.2.1
 | qN a b c e f g h i j k l=>exact gen JT.2.1
theorem acg{w:ByteArray}{i:Nat}{v:Int}(h:kY w i v):eG (kf w i v):=by
 unfold kY at h
 unfold kf
 cases hc:((w.toList==bn.toList)&&Nat.beq i 4)with
 | true=>
  rw[hc,cond_true]at h
  exact Qu h.1 h.2
 | false=>
  rw[hc,cond_false]at h
  exact Jy h.1 h.2
theorem Rx{w:ByteArray}:∀ {vs:List Int} {i:Nat},qO w i vs->∀ x∈lR w i vs,eG x
 | [],i,h,x,hx=>by cases hx
 | v :: l,i,h,x,hx=>by
  rcases List.mem_cons.1 hx with rfl | hx
  ·exact acg h.1
  ·exact Rx h.2 x hx
theorem Ry(w:ByteArray):∀ (vs:List Int) (i:Nat),(lR w i vs).length=vs.length
 | [],i=>rfl
 | v :: l,i=>by
  show (lR w (i+1) l).length+1=_
  rw[Ry w l (i+1)]
  rfl
theorem ach{a:aC}{w:ByteArray}{ns:List Int}(h:KA a w ns):eG w/\(vn a ns).length<=11:=by
 cases h with
 | read i t l=>exact⟨lP _ (by decide +kernel),by show 3<=11;omega⟩
 | write i t l d=>exact⟨lP _ (by decide +kernel),by show 4<=11;omega⟩
 | wait n=>exact⟨lP _ (by decide +kernel),by show 1<=11;omega⟩
 | qM n=>exact⟨lP _ (by decide +kernel),by show 1<=11;omega⟩
 | flip b r c p n=>exact⟨lP _ (by decide +kernel),by show 5<=11;omega⟩
 | ret b r=>exact⟨lP _ (by decide +kernel),by show 2<=11;omega⟩
 | qN a b c e f g h i j k l=>exact⟨lP _ (by decide +kernel),by show 11<=11;omega⟩
theorem aci{a:aC}{w v:ByteArray}{ns:List Int}{bs:List ByteArray}(h:KA a w ns)(hr:∀ n∈ns,0<=n/\n<=1000000000)(hd:0<=a.request.data/\a.request.data<=4294967295)(hv:eG v)(ou:∀ x∈bs,eG x)(ht:(tx a w ns).data.toList=v.data.toList++lay bs):nO v bs=(a,true)/\bs.length<=11:=by
 have bM:=(Rv h).2 ⟨hr,hd⟩
 obtain⟨hw,bT⟩:=ach h
 rw[Rw h]at ht
 obtain⟨rfl,rfl⟩:=abJ hw (Rx bM) hv ou ht
 unfold nO
 rw[Ri w _ 1 bM,Ry]
 simp only[]
 rw[ace h,bne_self_eq_false]
 exact⟨rfl,bT⟩
theorem acj{w:ByteArray}{bs:List ByteArray}{a:aC}(h:nO w bs=(a,true)):∃ ns,KA a w ns/\(∀ n∈ns,0<=n/\n<=1000000000)/\(0<=a.request.data/\a.request.data<=4294967295)/\(tx a w ns).data.toList=w.data.toList++lay bs:=by
 unfold nO at h
 cases ha:jJ w 1 bs with
 | none=>rw[ha]at h;cases h
 | some vs=>
  rw[ha]at h
  simp only[]at h
  cases hc:((dR w (cS vs vs.length)).2 != (vs.length:Int))with
  | true=>rw[hc]at h;cases h
  | false=>
   rw[hc,cond_false]at h
   have Aq:(dR w (cS vs vs.length)).2=(vs.length:Int):=by simpa using hc
   obtain⟨ns,hk,cT⟩:=acf Aq
   have e:(dR w (cS vs vs.length)).1=a:=congrArg Prod.fst h
   rw[e]at hk cT
   obtain⟨e1,e2⟩:=Rh w bs 1 vs ha
   rw[cT]at e1 e2
   obtain⟨h1,h2⟩:=(Rv hk).1 e2
   exact⟨ns,hk,h1,h2,by rw[Rw hk,e1]⟩
theorem JU:∀ (l cur:List UInt8),(lay ((ck cur l).map dK)).length<=cur.length+l.length+1
 | [],cur=>by
  cases cur with
  | nil=>exact Nat.zero_le _
  | cons c cur=>
   show (lay [dK (c :: cur)]).length<=_
   simp[lay,abG]
 | b :: l,cur=>by
  have h1:=JU l []
  have h2:=JU l (cur++[b])
  have e:ck cur (b :: l)=bif b==32 then (bif cur.isEmpty then ck [] l else cur :: ck [] l)else ck (cur++[b]) l:=rfl
  rw[e]
  cases b==32 with
  | false=>
   rw[cond_false]
   simp only[List.length_append,List.length_cons,List.length_nil]at h2 ⊢
   omega
  | true=>
   rw[cond_true]
   cases cur with
   | nil=>
    show (lay ((ck [] l).map dK)).length<=_
    simp only[List.length_nil,List.length_cons]at h1 ⊢
    omega
   | cons c cur=>
    show (lay (dK (c :: cur) :: (ck [] l).map dK)).length<=_
    have e2:lay (dK (c :: cur) :: (ck [] l).map dK)=(32 :: (c :: cur))++lay ((ck [] l).map dK):=rfl
    rw[e2,List.length_append]
    simp only[List.length_nil,List.length_cons]at h1 ⊢
    omega
theorem JV{s w:ByteArray}{bs:List ByteArray}(h:jk s=(w :: bs,true)):eG w/\(∀ x∈bs,eG x)/\bs.length<=23/\(w.data.toList++lay bs).length<=600:=by
 unfold jk at h
 cases hc:vk s with
 | none=>rw[hc]at h;cases h
 | some ws=>
  rw[hc]at h
  have e:ws=w :: bs:=congrArg Prod.fst h
  subst e
  obtain⟨h1,h2⟩:=abM hc
  simp only[List.length_cons]at h2
  refine⟨h1 w (.head _),fun x hx=>h1 x (.tail _ hx),by omega,?_⟩
  unfold vk at hc
  cases hd:(decide (s.size<=600)&&(s.data.toList.all fC&&decide ((ck [] s.data.toList).length<=24)))with
  | false=>rw[hd]at hc;cases hc
  | true=>
   rw[hd,cond_true]at hc
   have hc:=Option.some.inj hc
   simp only[Bool.and_eq_true,decide_eq_true_eq]at hd
   have h3:=JU s.data.toList []
   rw[hc]at h3
   have e2:lay (w :: bs)=32 :: (w.data.toList++lay bs):=rfl
   rw[e2]at h3
   simp only[List.length_cons,List.length_nil]at h3
   have es:s.data.toList.length=s.size:=rfl
   omega
theorem ack(e:ByteArray):0<=(jI e).1/\(jI e).1<=1000000000:=by
 unfold jI
 cases h:lQ e with
 | none=>exact⟨by decide,by decide⟩
 | some v=>exact(Q5 h).2
theorem acm(e:ByteArray):0<=(qL e).1/\(qL e).1<=4294967295:=by
 unfold qL
 cases h:oK e with
 | none=>exact⟨by decide,by decide⟩
 | some v=>exact(Rd h).2
def BF(L:List Int):Prop:=∀ x∈L,0<=x/\x<=1000000000
theorem acn(ws args:List ByteArray)(d:Int)(hl:args.length<=100):∀ (n i:Nat) (L:List Int) (fuel:Nat),11-i<=n->i<=11->L.length=11->BF L->n<fuel->
  ∃ L',L'.length=11/\BF L'/\iter j3 fuel (((),ws,args,d,(),(i:Int),()),(z21,L,([]:List Int),()))=some (.inl (((),ws,d,(),()),(z21,L',([]:List Int),()))):=by
 intro n
 induction n with
 | zero=>
  intro i L fuel hn hi bT hr hf
  obtain⟨m,rfl⟩:∃ m,fuel=m+1:=⟨fuel-1,by omega⟩
  have st:j3 (((),ws,args,d,(),(i:Int),()),(z21,L,([]:List Int),()))=some (.inr (.inl (((),ws,d,(),()),(z21,L,([]:List Int),())))):=by
   unfold j3
   dsimp only
   rw[decide_eq_false (by omega:¬ (i:Int)<(L.length:Int))]
   cases decide ((i:Int)<(args.length:Int)) <;>rfl
  exact⟨L,bT,hr,by simp only[iter,st]⟩
 | succ n ih=>
  intro i L fuel hn hi bT hr hf
  obtain⟨m,rfl⟩:∃ m,fuel=m+1:=⟨fuel-1,by omega⟩
  by_cases hg:i<args.length/\i<11
  ·have st:j3 (((),ws,args,d,(),(i:Int),()),(z21,L,([]:List Int),()))=some (.inl (((),ws,args,d,(),((i+1:Nat):Int),()),(z21,L.set i (jI (args[i]'hg.1)).1,([]:List Int),()))):=by
    have h1:=hg.1
    have h2:=hg.2
    unfold j3
    dsimp only
    rw[decide_eq_true (by omega),cond_true,decide_eq_true (by omega),cond_true,dif_pos ⟨by omega,by omega⟩]
    simp only[Int.toNat_natCast]
    rw[Q4,bf,dif_pos ⟨by omega,by omega⟩,dif_pos (by omega),dJ (by omega)]
   rw[jj st]
   refine ih (i+1) _ m (by omega) (by omega) (by rw[List.length_set];exact bT) (fun x hx=>?_) (by omega)
   rcases List.mem_or_eq_of_mem_set hx with hx | rfl
   ·exact hr x hx
   ·exact ack _
  ·have st:j3 (((),ws,args,d,(),(i:Int),()),(z21,L,([]:List Int),()))=some (.inr (.inl (((),ws,d,(),()),(z21,L,([]:List Int),())))):=by
    unfold j3
    dsimp only
    by_cases h1:i<args.length
    ·rw[decide_eq_true (by omega),cond_true,decide_eq_false (by omega),cond_false]
    ·rw[decide_eq_false (by omega),cond_false]
   exact⟨L,bT,hr,by simp only[iter,st]⟩
theorem aco(a:aC)(h:xH a)(hz:a.ak.weights.length<=4):∃ y,lK a=some y:=by
 obtain⟨_,⟨r1,r2,r3,_,r5,r6⟩,i1,i2,⟨b1,b2,b3⟩,⟨p1,p2,p3,p4,p5,p6,p7⟩⟩:=h
 obtain⟨e1,e2,e3,e4,e5,e6,e7⟩:=Bz
 have z:([]:List Int).length<1073741824:=by simp
 rw[Ef]
 unfold xz
 by_cases k1:a.kind=1
 ·simp only[k1,show ((1:Int)==1)=true from rfl,cond_true]
  have b9:∀ n∈[a.request.id,a.request.de,a.request.line],b7 n:=by
   simp only[List.forall_mem_cons]
   exact⟨r1,r2,r3,fun _ h=>by cases h⟩
  cases a.request.write with
  | true=>exact⟨_,qH (u:=uA a a.request.data) (w:=bn) e2 (by simp) b9 (by simp) (by decide +kernel) z⟩
  | false=>exact⟨_,qH (u:=uA a 0) (w:=gD) e1 (by simp) b9 (by simp) (by decide +kernel) z⟩
 have c1:(a.kind==1)=false:=by simpa using k1
 by_cases k2:a.kind=2
 ·simp only[k2,show ((2:Int)==1)=false from rfl,show ((2:Int)==2)=true from rfl,cond_true,cond_false]
  have b9:∀ n∈[a.n],b7 n:=by
   simp only[List.forall_mem_cons]
   exact⟨i1,fun _ h=>by cases h⟩
  exact⟨_,qH (u:=uN a) (w:=gE) e3 (by simp) b9 (by simp) (by decide +kernel) z⟩
 have c2:(a.kind==2)=false:=by simpa using k2
 by_cases k4:a.kind=4
 ·simp only[k4,show ((4:Int)==1)=false from rfl,show ((4:Int)==2)=false from rfl,show ((4:Int)==4)=true from rfl,cond_true,cond_false]
  have b9:∀ n∈[a.n],b7 n:=by
   simp only[List.forall_mem_cons]
   exact⟨i1,fun _ h=>by cases h⟩
  exact⟨_,qH (u:=uN a) (w:=gl) e4 (by simp) b9 (by simp) (by decide +kernel) z⟩
 have c4:(a.kind==4)=false:=by simpa using k4
 by_cases k3:a.kind=3
 ·simp only[k3,show ((3:Int)==1)=false from rfl,show ((3:Int)==2)=false from rfl,show ((3:Int)==4)=false from rfl,show ((3:Int)==3)=true from rfl,cond_true,cond_false]
  have b9:∀ n∈[a.addr.cO,a.addr.row,a.addr.dZ,a.cz,a.n],b7 n:=by
   simp only[List.forall_mem_cons]
   exact⟨b1,b2,b3,i2,i1,fun _ h=>by cases h⟩
  exact⟨_,qH (u:=uF a) (w:=fV) e5 (by simp) b9 (by simp) (by decide +kernel) z⟩
 have c3:(a.kind==3)=false:=by simpa using k3
 by_cases k6:a.kind=6
 ·simp only[k6,show ((6:Int)==1)=false from rfl,show ((6:Int)==2)=false from rfl,show ((6:Int)==4)=false from rfl,show ((6:Int)==3)=false from rfl,show ((6:Int)==5)=false from rfl,show ((6:Int)==6)=true from rfl,cond_true,cond_false]
  have b9:∀ n∈[a.addr.cO,a.addr.row],b7 n:=by
   simp only[List.forall_mem_cons]
   exact⟨b1,b2,fun _ h=>by cases h⟩
  exact⟨_,qH (u:=uR a) (w:=fA) e6 (by simp) b9 (by simp) (by decide +kernel) z⟩
 have c6:(a.kind==6)=false:=by simpa using k6
 by_cases k5:a.kind=5
 ·simp only[k5,show ((5:Int)==1)=false from rfl,show ((5:Int)==2)=false from rfl,show ((5:Int)==4)=false from rfl,show ((5:Int)==3)=false from rfl,show ((5:Int)==6)=false from rfl,show ((5:Int)==5)=true from rfl,cond_true,cond_false]
  by_cases h4:a.ak.weights.length=4
  ·have c:((a.ak.weights.length:Int)==4)=true:=by simp[h4]
   rw[c,cond_true,dif_pos ⟨by omega,by show 0<_;omega⟩,dif_pos ⟨by omega,by show 1<_;omega⟩,dif_pos ⟨by omega,by show 2<_;omega⟩,dif_pos ⟨by omega,by show 3<_;omega⟩]
   exact⟨_,qH (a:=a) (u:=uP a) (w:=fB) (ns:=[a.ak.dr,a.ak.cap,a.ak.dw,a.ak.low,a.ak.high,a.ak.weights[0],a.ak.weights[1],a.ak.weights[2],a.ak.weights[3],a.ak.bP.down,a.ak.bP.sleep]) e7 (by simp) (by
    simp only[List.forall_mem_cons]
    exact⟨p1,p2,p3,p4,p5,p6.2 _ (List.getElem_mem _),p6.2 _ (List.getElem_mem _),p6.2 _ (List.getElem_mem _),p6.2 _ (List.getElem_mem _),p7.1,p7.2,fun _ h=>by cases h⟩) (by simp) (by decide +kernel) (show a.ak.weights.length<_ by omega)⟩
  ·have c:((a.ak.weights.length:Int)==4)=false:=by simp;omega
   rw[c,cond_false]
   exact⟨_,Eg⟩
 have c5:(a.kind==5)=false:=by simpa using k5
 simp only[c1,c2,c3,c4,c5,c6,cond_false]
 exact⟨_,Eg⟩
theorem acp(w:ByteArray){L:List Int}(bT:L.length=11)(hr:BF L){D:Int}(hd:0<=D/\D<=4294967295):∃ A,fI w L D=some A/\xH A/\A.ak.weights.length<=4:=by
 obtain⟨a,b,c,d,e,f,g,x,i,j,k,rfl⟩:=Rf bT
 unfold BF at hr
 simp only[List.forall_mem_cons]at hr
 obtain⟨ra,rb,rc,rd,re,rf,rg,rx,ri,rj,rk,_⟩:=hr
 have i9:∀ {n:Int},0<=n/\n<=1000000000->b7 n:=fun h=>by unfold b7;omega
 have z0:b7 0:=by unfold b7;omega
 have kn:∀ (n:Nat),n<10->b7 (n:Int):=fun n h=>by unfold b7;omega
 have zr:Jq zR:=⟨z0,z0,z0,trivial,z0,z0⟩
 have zd:Jr ⟨0,0,0⟩:=⟨z0,z0,z0⟩
 have zp:Js zP:=⟨z0,z0,z0,z0,z0,⟨by show 0<=maxLen;exact Nat.zero_le _,fun _ h=>by cases h⟩,⟨z0,z0⟩⟩
 have iD:b7 D:=by unfold b7;omega
 have sh:∀ {A:aC},A.ak=zP->A.ak.weights.length<=4:=fun h=>by rw[h];exact Nat.zero_le _
 unfold fI
 generalize (w.toList==(ByteArray.mk #[114,101,97,100]).toList)=t1
 generalize (w.toList==(ByteArray.mk #[119,114,105,116,101]).toList)=t2
 generalize (w.toList==(ByteArray.mk #[119,97,105,116]).toList)=t3
 generalize (w.toList==(ByteArray.mk #[104,101,97,116]).toList)=t4
 generalize (w.toList==(ByteArray.mk #[102,108,105,112]).toList)=t5
 generalize (w.toList==(ByteArray.mk #[112,111,108,105,99,121]).toList)=t6
 generalize (w.toList==(ByteArray.mk #[114,101,116,105,114,101]).toList)=t7
 cases t1 with
 | true=>exact⟨⟨1,⟨a,b,c,t2,D,0⟩,0,0,⟨0,0,0⟩,zP⟩,rfl,⟨kn 1 (by omega),⟨i9 ra,i9 rb,i9 rc,trivial,iD,z0⟩,z0,z0,zd,zp⟩,sh rfl⟩
 | false=>
  cases t2 with
  | true=>exact⟨⟨1,⟨a,b,c,true,D,0⟩,0,0,⟨0,0,0⟩,zP⟩,rfl,⟨kn 1 (by omega),⟨i9 ra,i9 rb,i9 rc,trivial,iD,z0⟩,z0,z0,zd,zp⟩,sh rfl⟩
  | false=>
   cases t3 with
   | true=>exact⟨⟨2,zR,a,0,⟨0,0,0⟩,zP⟩,rfl,⟨kn 2 (by omega),zr,i9 ra,z0,zd,zp⟩,sh rfl⟩
   | false=>
    cases t4 with
    | true=>exact⟨⟨4,zR,a,0,⟨0,0,0⟩,zP⟩,rfl,⟨kn 4 (by omega),zr,i9 ra,z0,zd,zp⟩,sh rfl⟩
    | false=>
     cases t5 with
     | true=>exact⟨⟨3,zR,e,d,⟨a,b,c⟩,zP⟩,rfl,⟨kn 3 (by omega),zr,i9 re,i9 rd,⟨i9 ra,i9 rb,i9 rc⟩,zp⟩,sh rfl⟩
     | false=>
      cases t6 with
      | true=>
       refine⟨⟨5,zR,0,0,⟨0,0,0⟩,⟨a,b,c,d,e,[f,g,x,i],⟨j,k⟩⟩⟩,rfl,⟨kn 5 (by omega),zr,z0,z0,zd,⟨i9 ra,i9 rb,i9 rc,i9 rd,i9 re,⟨?_,?_⟩,⟨i9 rj,i9 rk⟩⟩⟩,Nat.le_refl 4⟩
       ·show 4<=maxLen
        decide
       ·simp only[List.forall_mem_cons]
        exact⟨i9 rf,i9 rg,i9 rx,i9 ri,fun _ h=>by cases h⟩
      | false=>
       cases t7 with
       | true=>exact⟨⟨6,zR,0,0,⟨a,b,0⟩,zP⟩,rfl,⟨kn 6 (by omega),zr,z0,z0,⟨i9 ra,i9 rb,z0⟩,zp⟩,sh rfl⟩
       | false=>exact⟨⟨0,zR,0,0,⟨0,0,0⟩,zP⟩,rfl,⟨z0,zr,z0,z0,zd,zp⟩,sh rfl⟩
def Eo(w:ByteArray)(bs:List ByteArray)(r:aC×Bool):Prop:=r=(ke,false)\/∃ a t,r=(a,true)/\xH a/\lK a=some (t,true)/\t.data.toList=w.data.toList++lay bs
def Ep(ws:List ByteArray)(L:List Int)(d:Int):Option (aC×Bool):=
 if kZ:0 <= (0:Int)/\(0:Int).toNat<ws.length then (let uX:=ws[(0:Int).toNat]'kZ.2;(fI uX L d).bind fun u5=>(lK u5).bind fun Bl=>(let Bm:Bool -> Option (aC×Bool):=fun Jh=>bif Jh then some (ke,false)else some (u5,true);bif (!Bl.2)then (Bm true)else (kU ws (ByteArray.mk #[32])).bind fun Ji=>(Bm (!(Bl.1.toList==Ji.toList)))))else none
theorem acq{w:ByteArray}{bs:List ByteArray}(U:bs.length<=23)(hj:(w.data.toList++lay bs).length<=600):kU (w :: bs) (ByteArray.mk #[32])=some ⟨(w.data.toList++lay bs).toArray⟩:=by
 unfold kU
 rw[show (ByteArray.mk #[32]).data.toList=[32]from rfl,JA,decide_eq_true (by simp;omega),decide_eq_true (by omega)]
 rfl
theorem acr{w:ByteArray}{bs:List ByteArray}(U:bs.length<=23)(hj:(w.data.toList++lay bs).length<=600){L:List Int}(bT:L.length=11)(hr:BF L){D:Int}(hd:0<=D/\D<=4294967295):∃ r,Ep (w :: bs) L D=some r/\Eo w bs r:=by
 obtain⟨A,e1,hI,hz⟩:=acp w bT hr hd
 obtain⟨⟨t,ok⟩,e2⟩:=aco A hI hz
 unfold Ep
 rw[dif_pos ⟨by omega,by show 0<bs.length+1;omega⟩]
 rw[show (w :: bs)[(0:Int).toNat]'(by show 0<bs.length+1;omega)=w from rfl]
 simp only[]
 rw[e1,bf,e2,bf]
 cases ok with
 | false=>exact⟨_,rfl,.inl rfl⟩
 | true=>
  simp only[Bool.not_true,cond_false]
  rw[acq U hj,bf,qK]
  by_cases h:t=⟨(w.data.toList++lay bs).toArray⟩
  ·rw[decide_eq_true h]
   exact⟨_,rfl,.inr ⟨A,t,rfl,hI,e2,by rw[h]⟩⟩
  ·rw[decide_eq_false h]
   exact⟨_,rfl,.inl rfl⟩
theorem Rz{w:ByteArray}{bs args:List ByteArray}(U:bs.length<=23)(hj:(w.data.toList++lay bs).length<=600)(ha:args.length<=100){D:Int}(hd:0<=D/\D<=4294967295):
  ∃ r,((iter j3 big (((),w :: bs,args,D,(),(0:Int),()),(z21,List.replicate 11 (0:Int),([]:List Int),()))).bind (Sum.elim (fun lN=>Ep lN.1.2.1 lN.2.2.1 lN.1.2.2.1) (fun z=>nomatch z)))=some r/\Eo w bs r:=by
 obtain⟨L,bT,hr,e⟩:=acn (w :: bs) args D ha 11 0 (List.replicate 11 0) big (by omega) (by omega) (by simp) (fun x hx=>by
  obtain⟨_,rfl⟩:=List.mem_replicate.1 hx
  exact⟨by decide,by decide⟩) (dY (by omega))
 rw[Int.natCast_zero]at e
 obtain⟨r,e2,hg⟩:=acr U hj bT hr hd
 exact⟨r,(congrArg (fun o=>Option.bind o _) e).trans e2,hg⟩
theorem acs{s w:ByteArray}{bs:List ByteArray}(hs:jk s=(w :: bs,true)):∃ r,gj s=some r/\Eo w bs r:=by
 obtain⟨hw,ou,U,hj⟩:=JV hs
 have hl:(w :: bs).length=bs.length+1:=rfl
 have z:(0:Int)<=0/\(0:Int)<=4294967295:=by omega
 have cR:(((w :: bs).take (((w :: bs).length:Int)).toNat).drop (1:Int).toNat)=bs:=by
  rw[Int.toNat_natCast,List.take_length]
  rfl
 unfold gj
 rw[xN,bf,hs]
 dsimp only
 rw[Bool.not_true,cond_false,show (((w :: bs).length:Int)==0)=false from beq_eq_false_iff_ne.2 (by omega),cond_false,if_pos ⟨by omega,by omega,by omega⟩,dif_pos ⟨by omega,by show 0<_;omega⟩]
 rw[show (w :: bs)[(0:Int).toNat]'(by show 0<_;omega)=w from rfl]
 simp only[cR]
 have pl:∃ r,(if 0<=(11:Int)/\(11:Int)<=11/\(11:Int)<1073741824 then ((iter j3 big (((),w :: bs,bs,(0:Int),(),(0:Int),()),(z21,List.replicate 11 (0:Int),([]:List Int),()))).bind (Sum.elim (fun lN=>Ep lN.1.2.1 lN.2.2.1 lN.1.2.2.1) (fun z=>nomatch z)))else none)=some r/\Eo w bs r:=by
  rw[if_pos ⟨by omega,by omega,by omega⟩]
  exact Rz U hj (by omega) z
 cases (w.toList==(ByteArray.mk #[119,114,105,116,101]).toList)with
 | false=>exact pl
 | true=>
  rw[cond_true]
  cases h0:decide ((bs.length:Int) > 0)with
  | false=>exact pl
  | true=>
   have h0:=of_decide_eq_true h0
   have hi:(IntKind.i64.wrap ((bs.length:Int)-(1:Int)))=(bs.length:Int)-1:=bu (by omega) (by omega)
   rw[cond_true]
   simp only[hi]
   rw[dif_pos ⟨by omega,by omega⟩,Rc,bf,if_pos ⟨by omega,by omega,by omega⟩,if_pos ⟨by omega,by omega,by omega⟩]
   exact Rz U hj (by rw[List.length_drop,List.length_take];omega) (acm _)
theorem acu{a:aC}{w:ByteArray}{ns:List Int}(h:KA a w ns)(hr:∀ n∈ns,0<=n/\n<=1000000000)(hd:0<=a.request.data/\a.request.data<=4294967295):xH a:=by
 have i9:∀ {n:Int},0<=n/\n<=1000000000->b7 n:=fun h=>by unfold b7;omega
 have z0:b7 0:=by unfold b7;omega
 have kn:∀ (n:Nat),n<10->b7 (n:Int):=fun n h=>by unfold b7;omega
 have zr:Jq zR:=⟨z0,z0,z0,trivial,z0,z0⟩
 have zd:Jr ⟨0,0,0⟩:=⟨z0,z0,z0⟩
 have zp:Js zP:=⟨z0,z0,z0,z0,z0,⟨by show 0<=maxLen;exact Nat.zero_le _,fun _ h=>by cases h⟩,⟨z0,z0⟩⟩
 have iD:b7 a.request.data:=by unfold b7;omega
 cases h with
 | read i t l=>
  simp only[List.forall_mem_cons]at hr
  exact⟨kn 1 (by omega),⟨i9 hr.1,i9 hr.2.1,i9 hr.2.2.1,trivial,z0,z0⟩,z0,z0,zd,zp⟩
 | write i t l d=>
  simp only[List.forall_mem_cons]at hr
  exact⟨kn 1 (by omega),⟨i9 hr.1,i9 hr.2.1,i9 hr.2.2.1,trivial,iD,z0⟩,z0,z0,zd,zp⟩
 | wait n=>
  simp only[List.forall_mem_cons]at hr
  exact⟨kn 2 (by omega),zr,i9 hr.1,z0,zd,zp⟩
 | qM n=>
  simp only[List.forall_mem_cons]at hr
  exact⟨kn 4 (by omega),zr,i9 hr.1,z0,zd,zp⟩
 | flip b r c p n=>
  simp only[List.forall_mem_cons]at hr
  exact⟨kn 3 (by omega),zr,i9 hr.2.2.2.2.1,i9 hr.2.2.2.1,⟨i9 hr.1,i9 hr.2.1,i9 hr.2.2.1⟩,zp⟩
 | ret b r=>
  simp only[List.forall_mem_cons]at hr
  exact⟨kn 6 (by omega),zr,z0,z0,⟨i9 hr.1,i9 hr.2.1,z0⟩,zp⟩
 | qN a b c e f g h i j k l=>
  simp only[List.forall_mem_cons]at hr
  obtain⟨ra,rb,rc,re,rf,rg,rh,ri,rj,rk,rl,_⟩:=hr
  refine⟨kn 5 (by omega),zr,z0,z0,zd,⟨i9 ra,i9 rb,i9 rc,i9 re,i9 rf,⟨?_,?_⟩,⟨i9 rk,i9 rl⟩⟩⟩
  ·show 4<=maxLen
   decide
  ·simp only[List.forall_mem_cons]
   exact⟨i9 rg,i9 rh,i9 ri,i9 rj,fun _ h=>by cases h⟩
theorem acv{a:aC}{w:ByteArray}{ns:List Int}(h:KA a w ns):a.ak.weights.length<=4:=by
 cases h with
 | read i t l=>exact Nat.zero_le _
 | write i t l d=>exact Nat.zero_le _
 | wait n=>exact Nat.zero_le _
 | qM n=>exact Nat.zero_le _
 | flip b r c p n=>exact Nat.zero_le _
 | ret b r=>exact Nat.zero_le _
 | qN a b c e f g h i j k l=>exact Nat.le_refl 4
theorem acw{s t:ByteArray}(h:jk s=jk t):gj s=gj t:=by
 unfold gj
 rw[xN,xN,h]
theorem acy(w:ByteArray)(bs:List ByteArray):nO w bs=(ke,false)\/∃ a,nO w bs=(a,true):=by
 unfold nO
 cases jJ w 1 bs with
 | none=>exact .inl rfl
 | some vs=>
  simp only[]
  cases ((dR w (cS vs vs.length)).2 != (vs.length:Int))with
  | true=>exact .inl rfl
  | false=>exact .inr ⟨_,rfl⟩
theorem acz(s:ByteArray):∃ r,lJ s=some r/\gj s=some r/\r.1.ak.weights.length<=4:=by
 have z4:(ke,false).1.ak.weights.length<=4:=Nat.zero_le _
 have no:∀ ws,(∃ ok,jk s=(ws,ok)/\(ok=false\/ws=[]))->lJ s=some (ke,false)/\gj s=some (ke,false):=by
  rintro ws ⟨ok,e,h⟩
  unfold lJ gj
  rw[BC,xN,bf,bf,e]
  rcases h with rfl | rfl
  ·exact⟨rfl,rfl⟩
  ·cases ok
   ·exact⟨rfl,rfl⟩
   ·exact⟨rfl,rfl⟩
 obtain⟨ws,ok⟩:List ByteArray×Bool:=jk s
 cases fZ:jk s with
 | mk ws ok=>
  cases ok with
  | false=>
   obtain⟨h1,h2⟩:=no ws ⟨false,fZ,.inl rfl⟩
   exact⟨_,h1,h2,z4⟩
  | true=>
   cases ws with
   | nil=>
    obtain⟨h1,h2⟩:=no [] ⟨true,fZ,.inr rfl⟩
    exact⟨_,h1,h2,z4⟩
   | cons w bs=>
    obtain⟨hw,ou,U,hj⟩:=JV fZ
    obtain⟨r,hi,hg⟩:=acs fZ
    have hs:∃ r',lJ s=some r'/\(r'=(ke,false)\/r'=nO w bs/\bs.length<=11)/\(bs.length<=11->r'=nO w bs):=by
     by_cases bT:bs.length<=11
     ·exact⟨_,ab5 fZ bT,.inr ⟨rfl,bT⟩,fun _=>rfl⟩
     ·refine⟨(ke,false),?_,.inl rfl,fun h=>absurd h bT⟩
      unfold lJ
      rw[BC,bf,fZ]
      dsimp only
      have hl:(w :: bs).length=bs.length+1:=rfl
      rw[Bool.not_true,cond_false,show (((w :: bs).length:Int)==0)=false from beq_eq_false_iff_ne.2 (by omega),cond_false,decide_eq_true (by omega)]
      rfl
    obtain⟨r',hs,bx,acA⟩:=hs
    rcases hg with rfl | ⟨a,t,rfl,hI,hf,ht⟩
    ·rcases acy w bs with h0 | ⟨a,h1⟩
     ·refine⟨(ke,false),?_,hi,z4⟩
      rcases bx with rfl | ⟨rfl,_⟩
      ·exact hs
      ·rw[hs,h0]
     ·rcases bx with rfl | ⟨rfl,bT⟩
      ·exact⟨(ke,false),hs,hi,z4⟩
      ·exfalso
       obtain⟨ns,hk,hr,hd,RB⟩:=acj h1
       have hf:=ab6 hk hr hd
       have hp:=abz a (acu hk hr hd) hf
       have hsz:(tx a w ns).size=(tx a w ns).data.toList.length:=rfl
       have acB:jk (tx a w ns)=(w :: bs,true):=by
        have e:=Jx (s:=tx a w ns) (by rw[hsz,RB];exact hj) RB hw ou (by omega)
        rw[xN]at e
        exact Option.some.inj e
       rw[acw (fZ.trans acB.symm),hp]at hi
       have:=congrArg Prod.snd (Option.some.inj hi)
       cases this
    ·obtain⟨w',ns,hk,hr,hd,rfl⟩:=ab7 a hI hf
     obtain⟨h1,bT⟩:=aci hk hr hd hw ou ht
     exact⟨(a,true),by rw[hs,acA bT,h1],hi,acv hk⟩
def xP:ByteArray:=ByteArray.mk #[10]
theorem RC:∀ {l:List UInt8},(∀ b∈l,b≠10)->Lib.indexByte l 10 = -1
 | [],_=>rfl
 | b :: l,h=>by
  have U:(b==10)=false:=by simpa using h b (.head _)
  rw[Lib.indexByte,U,RC fun x hx=>h x (.tail _ hx)]
  rfl
theorem RD:∀ {l r:List UInt8},(∀ b∈l,b≠10)->Lib.indexByte (l++10 :: r) 10=(l.length:Int)
 | [],r,_=>rfl
 | b :: l,r,h=>by
  have U:(b==10)=false:=by simpa using h b (.head _)
  have ih:=RD (l:=l) (r:=r) fun x hx=>h x (.tail _ hx)
  show (if b==10 then 0 else if Lib.indexByte (l++10 :: r) 10 == -1 then -1 else Lib.indexByte (l++10 :: r) 10+1)=_
  rw[U,ih]
  rw[beI (by omega)]
  simp
def gW(s:ByteArray):List ByteArray:=Lib.splitB xP 0 (Lib.countB s xP) s
theorem JW{a:ByteArray}(ha:∀ b∈a.data.toList,b≠10):gW a=[a]:=by
 have Er:Lib.indexB a xP = -1:=(Lib.index_one _ _).trans (RC ha)
 unfold gW
 rw[Lib.splitB_miss _ _ _ _ Er]
theorem RE{s a r:ByteArray}(ha:∀ b∈a.data.toList,b≠10)(h:s.data.toList=a.data.toList++10 :: r.data.toList):gW s=a :: gW r:=by
 have Er:Lib.indexB s xP=(a.size:Int):=by
  refine(Lib.index_one _ _).trans ?_
  rw[h]
  exact RD ha
 have hsz:s.size=a.size+1+r.size:=by
  have:=congrArg List.length h
  rw[List.length_append,List.length_cons]at this
  have e1:s.data.toList.length=s.size:=rfl
  have e2:a.data.toList.length=a.size:=rfl
  have e3:r.data.toList.length=r.size:=rfl
  omega
 have e1:s.extract 0 (a.size+0)=a:=by
  have:=xJ (s:=s) (w:=a) (p:=0) h
  rwa [Nat.zero_add]at this
 have e2:s.extract (a.size+xP.size) s.size=r:=by
  have hd:s.data.toList.drop (a.size+1)=r.data.toList++[]:=by
   rw[h,List.append_nil,show a.size+1=a.data.toList.length+1 from rfl,<-List.drop_drop,List.drop_left']
   rfl
   rfl
  have:=xJ (s:=s) (w:=r) (p:=a.size+1) hd
  rw[hsz]
  exact this
 unfold gW
 rw[Lib.countB_hit s xP a.size (by decide) Er,Nat.add_comm 1,Lib.splitB_hit _ _ _ _ _ Er,e1,e2]
theorem acC:∀ (l:List UInt8) (h:0<l.length) (d:UInt8),l[0]=l.headD d
 | x :: l,_,_=>rfl
theorem acD{w:ByteArray}{d:UInt8}(h:0<w.size):w[0]'h=w.data.toList.headD d:=by
 have h':0<w.data.toList.length:=h
 rw[gU h h']
 exact acC _ h' d
theorem acE{ls:List ByteArray}{bq:List aC}:va (((),(),(),(ls.length:Int),(ls.length:Int),()),(bq,ls,()))=some (.inr (.inr (.inl (((),(),()),(bq,ls,()))))):=by
 unfold va
 dsimp only
 rw[decide_eq_false (by omega),cond_false]
theorem xQ{α β:Type}{step:α->Option (α⊕β)}{a:α}{b:β}{n:Nat}(h:step a=some (.inr b)):iter step (n+1) a=some b:=by
 simp only[iter,h]
def fD(s:ByteArray):aC×Bool:=(gj s).getD (ke,false)
theorem Es(s:ByteArray):lJ s=some (fD s)/\gj s=some (fD s)/\(fD s).1.ak.weights.length<=4:=by
 obtain⟨r,h1,h2,h3⟩:=acz s
 have e:fD s=r:=by unfold fD;rw[h2];rfl
 rw[e]
 exact⟨h1,h2,h3⟩
def qP(s:ByteArray):Bool:=match jk s with
 | (_,false)=>false
 | ([],true)=>true
 | (w :: _,true)=>decide ((w.data.toList.headD 0).toNat=59)
def jl:List ByteArray->Nat->List aC->Nat⊕(Nat×List aC)
 | [],n,bq=>.inr (n,bq)
 | s :: ls,n,bq=>bif qP s then jl ls (n+1) bq else bif (fD s).2 then jl ls (n+1) (bq++[(fD s).1])else .inl (n+1)
theorem RG{β:Type}(line:ByteArray)(JX BG:Option β)(BH:aC->Option β):
  ((some (jk line)).bind fun y5=>bif y5.2 then bif ((y5.1.length:Int)==(0:Int))then JX else if h6:0 <= (0:Int)/\(0:Int).toNat<y5.1.length then if h7:(0:Int).toNat<y5.1.length then (if h9:0 <= (0:Int)/\(0:Int).toNat<(y5.1[(0:Int).toNat]'h7).size then bif ((((y5.1[(0:Int).toNat]'h7)[(0:Int).toNat]'h9.2).toNat:Int)==(59:Int))then JX else (some (fD line)).bind fun xC=>bif (!xC.2)then BG else BH xC.1 else none)else none else none else (some (fD line)).bind fun qF=>bif (!qF.2)then BG else BH qF.1)
    = bif qP line then JX else bif (fD line).2 then BH (fD line).1 else BG:=by
 have pa:((some (fD line)).bind fun qF=>bif (!qF.2)then BG else BH qF.1)=bif (fD line).2 then BH (fD line).1 else BG:=by
  rw[bf]
  cases (fD line).2 <;>rfl
 rw[pa,bf]
 unfold qP
 cases h:jk line with
 | mk ws ok=>
  cases ok with
  | false=>rfl
  | true=>
   cases ws with
   | nil=>rfl
   | cons w bs=>
    have hw:=(JV h).1.1
    have hl:(w :: bs).length=bs.length+1:=rfl
    simp only[]
    rw[cond_true,show (((w :: bs).length:Int)==0)=false from beq_eq_false_iff_ne.2 (by omega),cond_false,dif_pos ⟨by omega,by show 0<_;omega⟩,dif_pos (by show 0<_;omega)]
    rw[show (w :: bs)[(0:Int).toNat]'(by show 0<_;omega)=w from rfl,dif_pos ⟨by omega,hw⟩]
    have hg:w[(0:Int).toNat]'hw=w.data.toList.headD 0:=by
     exact acD hw
    rw[hg]
    have:(((w.data.toList.headD 0).toNat:Int)==59)=decide ((w.data.toList.headD 0).toNat=59):=by
     by_cases h3:(w.data.toList.headD 0).toNat=59
     ·rw[decide_eq_true h3,beq_iff_eq]
      omega
     ·rw[decide_eq_false h3,beq_eq_false_iff_ne]
      omega
    rw[this]
theorem acF{ls:List ByteArray}{i:Nat}{bq:List aC}(hi:i<ls.length)(hl:ls.length<=1000000)(ha:bq.length<=1000000):va (((),(),(),(ls.length:Int),(i:Int),()),(bq,ls,()))=bif qP ls[i]then some (.inl (((),(),(),(ls.length:Int),((i+1:Nat):Int),()),(bq,ls,())))else bif (fD ls[i]).2 then some (.inl (((),(),(),(ls.length:Int),((i+1:Nat):Int),()),(bq++[(fD ls[i]).1],ls,())))else some (.inr (.inl (((),((i+1:Nat):Int),false,()),(([]:List aC),())))):=by
 unfold va
 dsimp only
 rw[decide_eq_true (by omega),cond_true,dif_pos ⟨by omega,by omega⟩,dif_pos (by omega)]
 simp only[Int.toNat_natCast]
 rw[xN,(Es ls[i]).2.1,dJ (by omega)]
 refine(RG (β:=((Unit×Unit×Unit×Int×Int×Unit)×((List aC)×(List ByteArray)×Unit))⊕(((Unit×Int×Bool×Unit)×((List aC)×Unit))⊕(((Unit×Unit×Unit)×((List aC)×(List ByteArray)×Unit))⊕Empty))) ls[i] (some (.inl (((),(),(),(ls.length:Int),((i+1:Nat):Int),()),(bq,ls,())))) (some (.inr (.inl (((),((i+1:Nat):Int),false,()),(([]:List aC),()))))) (fun a=>bif aY (bq.length+[a].length)then some (.inl (((),(),(),(ls.length:Int),((i+1:Nat):Int),()),((bq++[a]),ls,())))else none)).trans ?_
 rw[jG (by simp only[List.length_singleton];omega),cond_true]
def RH(ls:List ByteArray):Nat⊕(Nat×List aC)->(((Unit×Int×Bool×Unit)×((List aC)×Unit))⊕(((Unit×Unit×Unit)×((List aC)×(List ByteArray)×Unit))⊕Empty))
 | .inl n=>.inl (((),(n:Int),false,()),(([]:List aC),()))
 | .inr (n,a)=>.inr (.inl (((),(),()),(a,ls,())))
theorem JY{ls:List ByteArray}(hl:ls.length<=1000000):∀ (r:List ByteArray) (p:List ByteArray) (bq:List aC) (fuel:Nat),ls=p++r->bq.length<=p.length->r.length<fuel->iter va fuel (((),(),(),(ls.length:Int),(p.length:Int),()),(bq,ls,()))=some (RH ls (jl r p.length bq))
 | [],p,bq,fuel+1,h,ha,hf=>by
  have e:p.length=ls.length:=by rw[h,List.append_nil]
  rw[e]
  exact xQ acE
 | l :: r,p,bq,fuel+1,h,ha,hf=>by
  have e:ls.length=p.length+r.length+1:=by rw[h,List.length_append,List.length_cons];omega
  have hi:p.length<ls.length:=by omega
  have hx:ls[p.length]=l:=by
   have:ls[p.length]?=some l:=by rw[h,List.getElem?_append_right (Nat.le_refl _),Nat.sub_self];rfl
   exact(List.getElem?_eq_some_iff.1 this).2
  have hs:=acF (bq:=bq) hi hl (by omega)
  rw[hx]at hs
  have h':ls=(p++[l])++r:=by rw[h,List.append_assoc];rfl
  have hp:(p++[l]).length=p.length+1:=by rw[List.length_append];rfl
  have bQ:r.length<fuel:=by rw[List.length_cons]at hf;omega
  unfold jl
  cases hr:qP l with
  | true=>
   rw[hr,cond_true]at hs
   have g:=JY hl r (p++[l]) bq fuel h' (by omega) bQ
   rw[hp]at g
   rw[jj hs,g,cond_true]
  | false=>
   rw[hr,cond_false]at hs
   cases hq:(fD l).2 with
   | true=>
    rw[hq,cond_true]at hs
    have g:=JY hl r (p++[l]) (bq++[(fD l).1]) fuel h' (by rw[hp,List.length_append,List.length_singleton];omega) bQ
    rw[hp]at g
    rw[jj hs,g,cond_false,cond_true]
   | false=>
    rw[hq,cond_false]at hs
    rw[cond_false,cond_false]
    exact xQ hs
theorem JZ:∀ (l:List UInt8),(∀ b∈l,b≠10)\/∃ a r,l=a++10 :: r/\∀ b∈a,b≠10
 | []=>.inl fun b h=>by cases h
 | x :: l=>by
  by_cases hx:x=10
  ·exact .inr ⟨[],l,by rw[hx];rfl,fun b h=>by cases h⟩
  ·rcases JZ l with h | ⟨a,r,h,ha⟩
   ·exact .inl fun b U=>by
     rcases List.mem_cons.1 U with rfl | U
     ·exact hx
     ·exact h b U
   ·exact .inr ⟨x :: a,r,by rw[h];rfl,fun b U=>by
     rcases List.mem_cons.1 U with rfl | U
     ·exact hx
     ·exact ha b U⟩
def gX(l:List UInt8):ByteArray:=⟨l.toArray⟩
theorem acG:∀ (k:Nat) (l:List UInt8),l.length<=k->(gW (gX l)).length<=l.length+1:=by
 intro k
 induction k with
 | zero=>
  intro l hl
  have:l=[]:=List.eq_nil_of_length_eq_zero (by omega)
  subst this
  rw[JW (a:=gX []) fun b h=>by cases h]
  exact Nat.le_refl 1
 | succ k ih=>
  intro l hl
  rcases JZ l with h | ⟨a,r,rfl,ha⟩
  ·rw[JW (a:=gX l) h]
   simp
  ·rw[RE (s:=gX (a++10 :: r)) (a:=gX a) (r:=gX r) ha rfl]
   have ep:(a++10 :: r).length=a.length+r.length+1:=by rw[List.length_append,List.length_cons];omega
   have:=ih r (by omega)
   rw[List.length_cons]
   omega
theorem Et:∀ (ls:List ByteArray) (n:Nat) (bq:List aC) (m:Nat) (r:List aC),jl ls n bq = .inr (m,r)->m=n+ls.length/\((∀ a∈bq,a.ak.weights.length<=4)->∀ a∈r,a.ak.weights.length<=4)
 | [],n,bq,m,r,h=>by
  unfold jl at h
  injection h with h
  injection h with h1 h2
  subst h1 h2
  exact⟨rfl,fun h=>h⟩
 | l :: ls,n,bq,m,r,h=>by
  unfold jl at h
  rw[List.length_cons]
  cases hr:qP l with
  | true=>
   rw[hr,cond_true]at h
   obtain⟨h1,h2⟩:=Et ls _ _ _ _ h
   exact⟨by omega,h2⟩
  | false=>
   rw[hr,cond_false]at h
   cases hq:(fD l).2 with
   | true=>
    rw[hq,cond_true]at h
    obtain⟨h1,h2⟩:=Et ls _ _ _ _ h
    refine⟨by omega,fun ha=>h2 fun a hm=>?_⟩
    rcases List.mem_append.1 hm with hm | hm
    ·exact ha a hm
    ·rw[List.mem_singleton.1 hm]
     exact(Es l).2.2
   | false=>
    rw[hq,cond_false]at h
    cases h
def s6(s:ByteArray):List aC×Int×Bool:=match jl (gW s) 0 []with
 | .inl n=>([],(n:Int),false)
 | .inr (n,a)=>bif decide ((a.length:Int) > 60)then ([],0,false)else (a,(n:Int),true)
theorem RI(s:ByteArray):(s6 s).1.length<=60/\∀ a∈(s6 s).1,a.ak.weights.length<=4:=by
 unfold s6
 cases h:jl (gW s) 0 []with
 | inl n=>exact⟨Nat.zero_le _,fun a h=>by cases h⟩
 | inr x=>
  obtain⟨n,a⟩:=x
  have:=(Et _ _ _ _ _ h).2 fun a h=>by cases h
  dsimp only
  cases hd:decide ((a.length:Int) > 60)with
  | true=>exact⟨Nat.zero_le _,fun a h=>by cases h⟩
  | false=>
   rw[cond_false]
   have:=of_decide_eq_false hd
   exact⟨by show a.length<=60;omega,‹_›⟩
theorem acH(s:ByteArray)(hs:s.size<=20000):vb s=some (s6 s):=by
 have hn:(gW s).length<=s.size+1:=acG s.size s.data.toList (Nat.le_refl _)
 have fZ:uT s (ByteArray.mk #[10])=some (gW s):=by
  unfold uT
  rw[decide_eq_true (by omega),decide_eq_true (by decide)]
  rfl
 have g:=JY (ls:=gW s) (by omega) (gW s) [] [] big rfl (Nat.le_refl _) (dY (by omega))
 unfold vb
 rw[decide_eq_false (by omega),cond_false,fZ,bf]
 refine(congrArg (fun o=>Option.bind o _) g).trans ?_
 rw[bf]
 unfold s6
 show Sum.elim _ _ (RH (gW s) (jl (gW s) 0 []))=_
 cases h:jl (gW s) 0 []with
 | inl n=>rfl
 | inr x=>
  obtain⟨n,a⟩:=x
  have:=(Et _ _ _ _ _ h).1
  have e:n=(gW s).length:=by omega
  subst e
  show (bif decide ((a.length:Int) > 60)then _ else _)=_
  dsimp only
  cases decide ((a.length:Int) > 60) <;>rfl
theorem acI{s:ByteArray}{n b i:Nat}{bq:List aC}(hs:s.size<=20000)(hi:i<s.size)(h:s[i]'hi≠10):nD ((s,(),(n:Int),(b:Int),(i:Int),()),(bq,()))=some (.inl ((s,(),(n:Int),(b:Int),((i+1:Nat):Int),()),(bq,()))):=by
 unfold nD
 dsimp only
 rw[decide_eq_true (by omega),cond_true,decide_eq_true (by omega),cond_true,dif_pos ⟨by omega,by omega⟩]
 simp only[Int.toNat_natCast]
 have:(((s[i]'hi).toNat:Int) != 10)=true:=by
  rw[bne_iff_ne]
  intro e
  apply h
  apply UInt8.toNat_inj.1
  show (s[i]'hi).toNat=10
  omega
 rw[this,cond_true,dJ (by omega)]
theorem RJ{s:ByteArray}{n b i:Nat}{bq:List aC}(hs:s.size<=20000)(hi:i<=s.size)(U:b<=i)(hn:n<=1000000)(ha:bq.length<=1000000)(h:∀ hi:i<s.size,s[i]'hi=10):nD ((s,(),(n:Int),(b:Int),(i:Int),()),(bq,()))=bif qP (s.extract b i)then some (.inl ((s,(),((n+1:Nat):Int),((i+1:Nat):Int),((i+1:Nat):Int),()),(bq,())))else bif (fD (s.extract b i)).2 then some (.inl ((s,(),((n+1:Nat):Int),((i+1:Nat):Int),((i+1:Nat):Int),()),(bq++[(fD (s.extract b i)).1],())))else some (.inr (.inl (((),((n+1:Nat):Int),false,()),(([]:List aC),())))):=by
 have L:=RG (β:=((ByteArray×Unit×Int×Int×Int×Unit)×((List aC)×Unit))⊕(((Unit×Int×Bool×Unit)×((List aC)×Unit))⊕(((Unit×Int×Unit)×((List aC)×Unit))⊕Empty))) (s.extract b i) (some (.inl ((s,(),((n+1:Nat):Int),((i+1:Nat):Int),((i+1:Nat):Int),()),(bq,())))) (some (.inr (.inl (((),((n+1:Nat):Int),false,()),(([]:List aC),()))))) (fun a=>bif aY (bq.length+[a].length)then some (.inl ((s,(),((n+1:Nat):Int),((i+1:Nat):Int),((i+1:Nat):Int),()),((bq++[a]),())))else none)
 rw[jG (by simp only[List.length_singleton];omega),cond_true]at L
 unfold nD
 dsimp only
 rw[decide_eq_true (by omega),cond_true]
 by_cases h1:i<s.size
 ·rw[decide_eq_true (by omega),cond_true,dif_pos ⟨by omega,by omega⟩]
  simp only[Int.toNat_natCast]
  rw[h h1,show ((((10:UInt8).toNat:Int)) != 10)=false from rfl,cond_false,if_pos ⟨by omega,by omega,by omega⟩,BC,(Es (s.extract b i)).1,dJ (by omega),dJ (by omega)]
  exact L
 ·rw[decide_eq_false (by omega),cond_false,if_pos ⟨by omega,by omega,by omega⟩]
  simp only[Int.toNat_natCast]
  rw[BC,(Es (s.extract b i)).1,dJ (by omega),dJ (by omega)]
  exact L
theorem RL{s:ByteArray}{n b:Nat}{bq:List aC}:nD ((s,(),(n:Int),(b:Int),((s.size+1:Nat):Int),()),(bq,()))=some (.inr (.inr (.inl (((),(n:Int),()),(bq,()))))):=by
 unfold nD
 dsimp only
 rw[decide_eq_false (by omega),cond_false]
theorem J0{s:ByteArray}{n b:Nat}{bq:List aC}(hs:s.size<=20000):∀ (a:List UInt8) (i:Nat) (l:List UInt8) (fuel:Nat),i<=s.size->s.data.toList.drop i=a++l->(∀ x∈a,x≠10)->iter nD (fuel+a.length) ((s,(),(n:Int),(b:Int),(i:Int),()),(bq,()))=iter nD fuel ((s,(),(n:Int),(b:Int),((i+a.length:Nat):Int),()),(bq,()))
 | [],i,l,fuel,_,_,_=>rfl
 | x :: a,i,l,fuel,hi,h,hx=>by
  obtain⟨h1,h2⟩:=xI (k:=0) h (by simp)
  have h1:i<s.size:=h1
  have h2:s[i]=x:=h2
  have hd:s.data.toList.drop (i+1)=a++l:=s5 (a:=[x]) h
  have g:=J0 (n:=n) (b:=b) (bq:=bq) hs a (i+1) l fuel (by omega) hd fun y hy=>hx y (.tail _ hy)
  have st:=acI (n:=n) (b:=b) (bq:=bq) hs h1 (by rw[h2];exact hx x (.head _))
  rw[List.length_cons,<-Nat.add_assoc,jj st,g,show i+1+a.length=i+(a.length+1) by omega]
def RM:Nat⊕(Nat×List aC)->(((Unit×Int×Bool×Unit)×((List aC)×Unit))⊕(((Unit×Int×Unit)×((List aC)×Unit))⊕Empty))
 | .inl n=>.inl (((),(n:Int),false,()),(([]:List aC),()))
 | .inr (n,a)=>.inr (.inl (((),(n:Int),()),(a,())))
theorem acJ{s:ByteArray}(hs:s.size<=20000):∀ (k:Nat) (l:List UInt8) (n b:Nat) (bq:List aC) (fuel:Nat),l.length<=k->b<=s.size->s.data.toList.drop b=l->n<=b->bq.length<=n->2*l.length+3<=fuel->iter nD fuel ((s,(),(n:Int),(b:Int),(b:Int),()),(bq,()))=some (RM (jl (gW (gX l)) n bq)):=by
 have hz:s.data.toList.length=s.size:=rfl
 intro k
 induction k using Nat.strongRecOn with
 | ind k ih=>
  intro l n b bq fuel hl U hd hn ha hf
  have hlen:s.size-b=l.length:=by rw[<-hd,List.length_drop,hz]
  rcases JZ l with h | ⟨a,r,rfl,ug⟩
  ·obtain⟨f,rfl⟩:∃ f,fuel=f+2+l.length:=⟨fuel-2-l.length,by omega⟩
   have g:=J0 (n:=n) (b:=b) (bq:=bq) hs l b [] (f+2) U (by rw[List.append_nil];exact hd) h
   have hx:s.extract b (b+l.length)=gX l:=xJ (s:=s) (w:=gX l) (p:=b) (l:=[]) (by rw[List.append_nil];exact hd)
   have e:b+l.length=s.size:=by omega
   have L:=RJ (s:=s) (n:=n) (b:=b) (i:=b+l.length) (bq:=bq) hs (by omega) (by omega) (by omega) (by omega) (fun h=>by omega)
   rw[hx]at L
   rw[g,JW (a:=gX l) h]
   unfold jl jl
   have e1:((b+l.length+1:Nat):Int)=((s.size+1:Nat):Int):=by omega
   cases hr:qP (gX l)with
   | true=>
    rw[hr,cond_true,e1]at L
    rw[jj L,cond_true]
    exact xQ RL
   | false=>
    rw[hr,cond_false]at L
    cases hq:(fD (gX l)).2 with
    | true=>
     rw[hq,cond_true,e1]at L
     rw[jj L,cond_false,cond_true]
     exact xQ RL
    | false=>
     rw[hq,cond_false]at L
     rw[cond_false,cond_false]
     exact xQ L
  ·have ep:(a++10 :: r).length=a.length+r.length+1:=by rw[List.length_append,List.length_cons];omega
   obtain⟨f,rfl⟩:∃ f,fuel=f+1+a.length:=⟨fuel-1-a.length,by omega⟩
   have g:=J0 (n:=n) (b:=b) (bq:=bq) hs a b (10 :: r) (f+1) U hd ug
   have hx:s.extract b (b+a.length)=gX a:=xJ (s:=s) (w:=gX a) (p:=b) (l:=10 :: r) hd
   have n6:=s5 hd
   have eP:s.data.toList.drop (b+a.length+1)=r:=s5 (a:=[10]) n6
   have L:=RJ (s:=s) (n:=n) (b:=b) (i:=b+a.length) (bq:=bq) hs (by omega) (by omega) (by omega) (by omega) (fun h=>by
    obtain⟨h1,h2⟩:=xI (k:=0) n6 (by simp)
    exact h2)
   rw[hx]at L
   rw[g,RE (s:=gX (a++10 :: r)) (a:=gX a) (r:=gX r) ug rfl]
   unfold jl
   have nx:=fun(RN:List aC) (h':RN.length<=n+1)=>ih r.length (by omega) r (n+1) (b+a.length+1) RN f (Nat.le_refl _) (by omega) eP (by omega) h' (by omega)
   cases hr:qP (gX a)with
   | true=>
    rw[hr,cond_true]at L
    rw[jj L,cond_true]
    exact nx bq (by omega)
   | false=>
    rw[hr,cond_false]at L
    cases hq:(fD (gX a)).2 with
    | true=>
     rw[hq,cond_true]at L
     rw[jj L,cond_false,cond_true]
     exact nx _ (by rw[List.length_append,List.length_singleton];omega)
    | false=>
     rw[hq,cond_false]at L
     rw[cond_false,cond_false]
     exact xQ L
theorem acK(s:ByteArray)(hs:s.size<=20000):xx s=some (s6 s):=by
 have hz:s.data.toList.length=s.size:=rfl
 have g:=acJ hs s.size s.data.toList 0 0 [] big (Nat.le_refl _) (Nat.zero_le _) rfl (Nat.le_refl _) (Nat.le_refl _) (by have:=dY (show 1000000<1073741824 by omega);omega)
 unfold xx
 rw[decide_eq_false (by omega),cond_false]
 refine(congrArg (fun o=>Option.bind o _) g).trans ?_
 rw[bf]
 unfold s6
 show Sum.elim _ _ (RM (jl (gW s) 0 []))=_
 cases h:jl (gW s) 0 []with
 | inl n=>rfl
 | inr x=>
  obtain⟨n,a⟩:=x
  show (bif decide ((a.length:Int) > 60)then _ else _)=_
  dsimp only
  cases decide ((a.length:Int) > 60) <;>rfl
theorem acL(s:ByteArray):∃ r,xx s=some r/\vb s=some r/\r.1.length<=60/\∀ a∈r.1,a.ak.weights.length<=4:=by
 by_cases hs:s.size<=20000
 ·exact⟨s6 s,acK s hs,acH s hs,(RI s).1,(RI s).2⟩
 ·refine⟨([],0,false),?_,?_,Nat.zero_le _,fun a h=>by cases h⟩
  ·unfold xx
   rw[decide_eq_true (by omega),cond_true]
  ·unfold vb
   rw[decide_eq_true (by omega),cond_true]
theorem iO{α β:Type}{a:List α}{i:Nat}{z:α}{y:i<(a.set i z).length->α}{K:List α->Option β}(h:i<(a.set i z).length):(if h1:0 <= (i:Int)/\i<(a.set i z).length then if h2:i<(a.set i z).length then gT (a.set i (y h2)) K else none else none)=K (a.set i (y h)):=by
 rw[dif_pos ⟨by omega,h⟩,dif_pos h]
 rfl
def mD(x:aC)(k:Int):aC×Int:=(⟨k,⟨k+1,k+1+1,k+1+1+1,((k+1+1+1+1).tmod 3==0),k+1+1+1+1+1,k+1+1+1+1+1+1⟩,k+1+1+1+1+1+1+1,k+1+1+1+1+1+1+1+1,⟨k+1+1+1+1+1+1+1+1+1,k+1+1+1+1+1+1+1+1+1+1,k+1+1+1+1+1+1+1+1+1+1+1⟩,⟨k+1+1+1+1+1+1+1+1+1+1+1+1,k+1+1+1+1+1+1+1+1+1+1+1+1+1,k+1+1+1+1+1+1+1+1+1+1+1+1+1+1,k+1+1+1+1+1+1+1+1+1+1+1+1+1+1+1,k+1+1+1+1+1+1+1+1+1+1+1+1+1+1+1+1,(bA fW x.ak.weights (k+1+1+1+1+1+1+1+1+1+1+1+1+1+1+1+1+1)).1,⟨(bA fW x.ak.weights (k+1+1+1+1+1+1+1+1+1+1+1+1+1+1+1+1+1)).2,(bA fW x.ak.weights (k+1+1+1+1+1+1+1+1+1+1+1+1+1+1+1+1+1)).2+1⟩⟩⟩,(bA fW x.ak.weights (k+1+1+1+1+1+1+1+1+1+1+1+1+1+1+1+1+1)).2+1+1)
theorem J1(x:aC)(h:x.ak.weights.length<=1048576)(k:Int):k<=(mD x k).2/\(mD x k).2<=k+(2097153:Nat):=by
 have:=JG x.ak.weights h (k+1+1+1+1+1+1+1+1+1+1+1+1+1+1+1+1+1)
 unfold mD
 dsimp only
 omega
theorem acM(l:List aC)(hl:l.length<=1048576)(hz:∀ y∈l,y.ak.weights.length<=1048576)(k:Int)(h0:0<=k)(h1:k<=1152921504606846976):Br l k=some ((bA mD l k).2,((bA mD l k).1,())):=by
 unfold Br
 rw[QL mD 2097153 1152921504606846976 Bq l hl (by omega) (fun x hx=>J1 x (hz x hx)) (fun a i k h hi hx h0 h1=>by
  have c2:0<=(i:Int):=by omega
  have U:=JG a[i].ak.weights (hz _ hx) (k+1+1+1+1+1+1+1+1+1+1+1+1+1+1+1+1+1)
  unfold Bq
  dsimp only
  rw[decide_eq_true (by omega),cond_true,dif_pos ⟨by omega,h⟩,dif_pos (show (i:Int).toNat<a.length from h)]
  rw[bu (n:=k+1) (by omega) (by omega),bu (n:=k+1+1) (by omega) (by omega),bu (n:=k+1+1+1) (by omega) (by omega),bu (n:=k+1+1+1+1) (by omega) (by omega),bu (n:=k+1+1+1+1+1) (by omega) (by omega),bu (n:=k+1+1+1+1+1+1) (by omega) (by omega),bu (n:=k+1+1+1+1+1+1+1) (by omega) (by omega),bu (n:=k+1+1+1+1+1+1+1+1) (by omega) (by omega),bu (n:=k+1+1+1+1+1+1+1+1+1) (by omega) (by omega),bu (n:=k+1+1+1+1+1+1+1+1+1+1) (by omega) (by omega),bu (n:=k+1+1+1+1+1+1+1+1+1+1+1) (by omega) (by omega),bu (n:=k+1+1+1+1+1+1+1+1+1+1+1+1) (by omega) (by omega),bu (n:=k+1+1+1+1+1+1+1+1+1+1+1+1+1) (by omega) (by omega),bu (n:=k+1+1+1+1+1+1+1+1+1+1+1+1+1+1) (by omega) (by omega),bu (n:=k+1+1+1+1+1+1+1+1+1+1+1+1+1+1+1) (by omega) (by omega),bu (n:=k+1+1+1+1+1+1+1+1+1+1+1+1+1+1+1+1) (by omega) (by omega),bu (n:=k+1+1+1+1+1+1+1+1+1+1+1+1+1+1+1+1+1) (by omega) (by omega),dJ (by omega)]
  simp only[Int.toNat_natCast,List.set_set,List.getElem_set_self]
  rw[iO (by rw[List.length_set];exact h)]
  simp only[List.set_set,List.getElem_set_self]
  rw[iO (by rw[List.length_set];exact h)]
  simp only[List.set_set,List.getElem_set_self]
  rw[iO (by rw[List.length_set];exact h)]
  simp only[List.set_set,List.getElem_set_self]
  rw[iO (by rw[List.length_set];exact h)]
  simp only[List.set_set,List.getElem_set_self]
  rw[iO (by rw[List.length_set];exact h)]
  simp only[List.set_set,List.getElem_set_self]
  rw[iO (by rw[List.length_set];exact h)]
  simp only[List.set_set,List.getElem_set_self]
  rw[iO (by rw[List.length_set];exact h)]
  simp only[List.set_set,List.getElem_set_self]
  rw[iO (by rw[List.length_set];exact h)]
  simp only[List.set_set,List.getElem_set_self]
  rw[iO (by rw[List.length_set];exact h)]
  simp only[List.set_set,List.getElem_set_self]
  rw[iO (by rw[List.length_set];exact h)]
  simp only[List.set_set,List.getElem_set_self]
  rw[iO (by rw[List.length_set];exact h)]
  simp only[List.set_set,List.getElem_set_self]
  rw[iO (by rw[List.length_set];exact h)]
  simp only[List.set_set,List.getElem_set_self]
  rw[iO (by rw[List.length_set];exact h)]
  simp only[List.set_set,List.getElem_set_self]
  rw[iO (by rw[List.length_set];exact h)]
  simp only[List.set_set,List.getElem_set_self]
  rw[iO (by rw[List.length_set];exact h)]
  simp only[List.set_set,List.getElem_set_self]
  rw[iO (by rw[List.length_set];exact h)]
  simp only[List.set_set,List.getElem_set_self]
  have hs:∀ z,i<(a.set i z).length:=fun z=>by rw[List.length_set];exact h
  rw[dif_pos ⟨by omega,hs _⟩,dif_pos (hs _),dif_pos (hs _),abC _ (hz _ hx) _ (by omega) (by omega),bf]
  simp only[List.set_set,List.getElem_set_self]
  rw[iO (hs _)]
  simp only[List.set_set,List.getElem_set_self]
  rw[bu (n:=(bA fW a[i].ak.weights (k+1+1+1+1+1+1+1+1+1+1+1+1+1+1+1+1+1)).2+1) (by omega) (by omega),bu (n:=(bA fW a[i].ak.weights (k+1+1+1+1+1+1+1+1+1+1+1+1+1+1+1+1+1)).2+1+1) (by omega) (by omega),iO (hs _)]
  rfl) (fun a k=>by
  unfold Bq
  dsimp only
  rw[decide_eq_false (by omega),cond_false]) k h0 h1]
 rfl
theorem acN(l:List aC)(hl:l.length<=1048576)(hz:∀ y∈l,y.ak.weights.length<=1048576)(k:Int)(h0:0<=k)(h1:k<=1152921504606846976):xD (bA mD l k).1 k=some (bA mD l k).2:=by
 unfold xD
 rw[QM mD 2097153 1152921504606846976 Bt l hl (by omega) (fun x hx=>J1 x (hz x hx)) (fun a x i k h hi hm hx h0 h1=>by
  have c2:0<=(i:Int):=by omega
  have U:=JG x.ak.weights (hz _ hm) (k+1+1+1+1+1+1+1+1+1+1+1+1+1+1+1+1+1)
  unfold Bt
  dsimp only
  rw[decide_eq_true (by omega),cond_true,bu (n:=k+1) (by omega) (by omega),bu (n:=k+1+1) (by omega) (by omega),bu (n:=k+1+1+1) (by omega) (by omega),bu (n:=k+1+1+1+1) (by omega) (by omega),bu (n:=k+1+1+1+1+1) (by omega) (by omega),bu (n:=k+1+1+1+1+1+1) (by omega) (by omega),bu (n:=k+1+1+1+1+1+1+1) (by omega) (by omega),bu (n:=k+1+1+1+1+1+1+1+1) (by omega) (by omega),bu (n:=k+1+1+1+1+1+1+1+1+1) (by omega) (by omega),bu (n:=k+1+1+1+1+1+1+1+1+1+1) (by omega) (by omega),bu (n:=k+1+1+1+1+1+1+1+1+1+1+1) (by omega) (by omega),bu (n:=k+1+1+1+1+1+1+1+1+1+1+1+1) (by omega) (by omega),bu (n:=k+1+1+1+1+1+1+1+1+1+1+1+1+1) (by omega) (by omega),bu (n:=k+1+1+1+1+1+1+1+1+1+1+1+1+1+1) (by omega) (by omega),bu (n:=k+1+1+1+1+1+1+1+1+1+1+1+1+1+1+1) (by omega) (by omega),bu (n:=k+1+1+1+1+1+1+1+1+1+1+1+1+1+1+1+1) (by omega) (by omega),bu (n:=k+1+1+1+1+1+1+1+1+1+1+1+1+1+1+1+1+1) (by omega) (by omega),dJ (by omega)]
  simp only[Int.toNat_natCast,c2,h,and_self,dite_true,hx]
  rw[show (mD x k).1.ak.weights=(bA fW x.ak.weights (k+1+1+1+1+1+1+1+1+1+1+1+1+1+1+1+1+1)).1 from rfl,abD _ (hz _ hm) _ (by omega) (by omega)]
  simp only[mD,bne_self_eq_false,beq_self_eq_true,Bool.not_true,cond_false,bf]
  rw[decide_eq_false (by omega),cond_false,bu (n:=(bA fW x.ak.weights (k+1+1+1+1+1+1+1+1+1+1+1+1+1+1+1+1+1)).2+1) (by omega) (by omega),bu (n:=(bA fW x.ak.weights (k+1+1+1+1+1+1+1+1+1+1+1+1+1+1+1+1+1)).2+1+1) (by omega) (by omega),bne_self_eq_false,cond_false]) (fun a k=>by
  unfold Bt
  dsimp only
  rw[decide_eq_false (by omega),cond_false]) k h0 h1]
 rfl
theorem acO(l:List aC)(hl:l.length<=1048576)(hz:∀ y∈l,y.ak.weights.length<=1048576):MH Br xD l:=abB mD 2097153 hl (by omega) (fun x hx=>J1 x (hz x hx)) (fun k h0 h1=>acM l hl hz k h0 (by omega)) (fun k h0 h1=>acN l hl hz k h0 (by omega))
theorem acP(x:List aC)(hl:x.length<=1048576)(hz:∀ y∈x,y.ak.weights.length<=1048576):Bo x x=some true:=by
 have hh:=Qg Bn x (fun y hy=>aa5 y (hz y hy)) (by omega)
 unfold Bo
 rw[show ((x.length:Int) != (x.length:Int))=false by simp,cond_false]
 refine(congrArg (fun o=>Option.bind o _) hh).trans ?_
 rfl
theorem acQ(s:ByteArray):Jj s=some true:=by
 unfold Jj
 by_cases hs:s.size<=1048576
 ·rw[decide_eq_false (by omega),cond_false]
  obtain⟨⟨a,n,ok⟩,h1,h2,h3,h4⟩:=acL s
  have hl:a.length<=1048576:=by have:a.length<=60:=h3;omega
  have hz:∀ y∈a,y.ak.weights.length<=1048576:=fun y hy=>by have:=h4 y hy;omega
  have he:=acP a hl hz
  obtain⟨m,l',hm,hh,U,_⟩:=acO a hl hz 1 (by omega) (by omega)
  rw[h1,bf,h2,bf]
  simp only[he,bf,Bool.not_true,cond_false,beq_self_eq_true,bne_self_eq_false,hm,hh]
  rw[decide_eq_false (by omega),cond_false,cond_false]
 ·rw[decide_eq_true (by omega),cond_true]
theorem acR(v0:Value)(w:World)(r0:J7 w v0)(hQ:Qw w):Calls Tryd.prog 4 #[v0] w fun e w'=>e = .returned (.bool true)/\Below w.heap.size w w':=by
 obtain⟨s,rfl,hs⟩:=r0
 exact Yz aaN (YA (ai:=[(false,.str)]) (x:=(s,())) (by kernel_rfl) (acQ s)) (YB (.str _ s)) (TD hQ)
end Go.Proofs.YtjldnlbiefpekaaDoor
