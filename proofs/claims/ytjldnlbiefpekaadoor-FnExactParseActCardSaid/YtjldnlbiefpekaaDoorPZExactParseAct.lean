/-
  Plain laws. Nothing here is a claim.
-/
import Derived.Test.YtjldnlbiefpekaaDoorVZ
import Derived.Test.YtjldnlbiefpekaaDoorOpenV
import Derived.Test.YtjldnlbiefpekaaDoorG1
namespace Go.Proofs.YtjldnlbiefpekaaDoor
open Go.RowKit
set_option linter.unusedVariables false
set_option linter.unusedSimpArgs false
set_option maxRecDepth 100000
theorem dX{n:Int}(h1:-9223372036854775808<=n)(h2:n<9223372036854775808):IntKind.i64.wrap n=n:=by
 rw[IntKind.wrap_i64];omega
theorem Oi{α β:Type}{step:α->Option (α⊕β)}(I:α->Prop)(m:α->Nat)(Q:β->Prop)
  (h:∀ x,I x->(∃ y,step x=some (.inl y)/\I y/\m y<m x)\/∃ z,step x=some (.inr z)/\Q z):
  ∀ (n:Nat) (x:α),I x->m x<n->∃ z,iter step n x=some z/\Q z
 | 0,x,_,hm=>by omega
 | n+1,x,hx,hm=>by
  unfold iter
  rcases h x hx with ⟨y,h1,h2,h3⟩ | ⟨z,h1,h2⟩
  ·rw[h1]
   exact Oi I m Q h n y h2 (by omega)
  ·rw[h1]
   exact⟨z,rfl,h2⟩
theorem bg{α β:Type}(x:α)(f:α->Option β):(some x).bind f=f x:=rfl
theorem Oj{α β T:Type}{step:α->Option (α⊕β)}(l:List T)(q:T->Bool)(S:Nat->α)(zf z:β)(fuel:Nat)(hs:∀ k (h:k<l.length),step (S k)=some (bif q l[k]then .inl (S (k+1))else .inr zf))(hz:step (S l.length)=some (.inr z))(hf:l.length<fuel):
  iter step fuel (S 0)=some (bif l.all q then z else zf):=by
 have key:∀ (n i fuel:Nat),i+n=l.length->n<fuel->iter step fuel (S i)=some (bif (l.drop i).all q then z else zf):=by
  intro n
  induction n with
  | zero=>
   intro i fuel hi hf
   match fuel,hf with
   | f+1,_=>
    have:i=l.length:=by omega
    subst this
    unfold iter
    rw[hz]
    simp
  | succ n ih=>
   intro i fuel hi hf
   match fuel,hf with
   | f+1,hf=>
    have aV:i<l.length:=by omega
    unfold iter
    rw[hs i aV,List.drop_eq_getElem_cons aV,List.all_cons]
    cases q l[i]with
    | true=>simp only[cond_true,Bool.true_and];exact ih (i+1) f (by omega) (by omega)
    | false=>rfl
 exact key l.length 0 fuel (by omega) hf
theorem iA{α β:Type}{step:α->Option (α⊕β)}(n:Nat)(S:Nat->α)(z:β)(fuel:Nat)(hs:∀ k,k<n->step (S k)=some (.inl (S (k+1))))(hz:step (S n)=some (.inr z))(hf:n<fuel):iter step fuel (S 0)=some z:=by
 have key:∀ (m i fuel:Nat),i+m=n->m<fuel->iter step fuel (S i)=some z:=by
  intro m
  induction m with
  | zero=>
   intro i fuel hi hf
   match fuel,hf with
   | f+1,_=>
    have:i=n:=by omega
    subst this
    unfold iter
    rw[hz]
  | succ m ih=>
   intro i fuel hi hf
   match fuel,hf with
   | f+1,hf=>
    unfold iter
    rw[hs i (by omega)]
    exact ih (i+1) f (by omega) (by omega)
 exact key n 0 fuel (by omega) hf
theorem kC{n:Nat}(h:n<1073741824):bz n=true:=decide_eq_true h
theorem eP{i:Nat}(h:i<4611686018427387904):IntKind.i64.wrap ((i:Int)+1)=((i+1:Nat):Int):=by
 rw[dX (by omega) (by omega)];simp
theorem en{n:Nat}(h:n<1073741824):n<big:=by unfold big;omega
def lg(x a b:Int):Bool:=decide (a<=x)&&decide (x<=b)
theorem ud{x a b:Int}:lg x a b=true ↔ a<=x/\x<=b:=by simp[lg]
theorem Ok(x a b:Int):Ag x a b=some (lg x a b):=by
 unfold Ag lg
 by_cases h:a<=x <;>simp[h]
theorem Ol{α:Type}{l:List α}{i:Nat}(h:i<l.length):l.take (i+1)=l.take i++[l[i]]:=by
 rw[List.take_succ_eq_append_getElem h]
def Gv{γ:Type}(P:γ->Prop)(o:Option γ):Prop:=∃ y,o=some y/\P y
theorem Gv.pure{γ:Type}{P:γ->Prop}{y:γ}(h:P y):Gv P (some y):=⟨y,rfl,h⟩
theorem Gv.cond{γ:Type}{P:γ->Prop}{b:Bool}{x y:Option γ}(h1:b=true->Gv P x)(h2:b=false->Gv P y):Gv P (bif b then x else y):=by
 cases b
 ·exact h2 rfl
 ·exact h1 rfl
theorem Gv.ite{γ:Type}{P:γ->Prop}{c:Prop}[Decidable c]{x y:Option γ}(hc:c)(h:Gv P x):Gv P (if c then x else y):=by
 rw[if_pos hc];exact h
theorem Gv.Y4{γ:Type}{P:γ->Prop}{c:Prop}[Decidable c]{x y:Option γ}(hc:¬ c)(h:Gv P y):Gv P (if c then x else y):=by
 rw[if_neg hc];exact h
theorem Gv.loop{α β γ:Type}{step:α->Option (α⊕β)}(n:Nat)(I:Nat->α->Prop){P:γ->Prop}{K:β->Option γ}{x:α}{fuel:Nat}(h0:I 0 x)(hf:n<fuel)(hs:∀ k,k<=n->∀ x,I k x->Gv (Sum.elim (fun y=>k<n/\I (k+1) y) (fun z=>Gv P (K z))) (step x)):Gv P ((iter step fuel x).bind K):=by
 have key:∀ (m i fuel:Nat) (x:α),i+m=n->m<fuel->I i x->Gv P ((iter step fuel x).bind K):=by
  intro m
  induction m with
  | zero=>
   intro i fuel x hi hf hx
   match fuel,hf with
   | f+1,_=>
    obtain⟨y,h1,h2⟩:=hs i (by omega) x hx
    unfold iter
    rw[h1]
    cases y with
    | inl y=>exact absurd h2.1 (by omega)
    | inr z=>exact h2
  | succ m ih=>
   intro i fuel x hi hf hx
   match fuel,hf with
   | f+1,hf=>
    obtain⟨y,h1,h2⟩:=hs i (by omega) x hx
    unfold iter
    rw[h1]
    cases y with
    | inl y=>exact ih (i+1) f y (by omega) (by omega) h2.2
    | inr z=>exact h2
 exact key n 0 fuel x (by omega) hf h0
def cm(n:Int):ByteArray:=⟨(Lib.itoa n).toArray⟩
theorem kD{a b:ByteArray}(h:a.data.toList=b.data.toList):a=b:=by
 obtain⟨⟨a⟩⟩:=a
 obtain⟨⟨b⟩⟩:=b
 have h:a=b:=h
 rw[h]
theorem nY(a b:ByteArray):(a++b).data.toList=a.data.toList++b.data.toList:=by
 rw[ByteArray.data_append,Array.toList_append]
theorem Ao(a b:ByteArray):(a++b).size=a.size+b.size:=by
 show (a++b).data.size=a.data.size+b.data.size
 rw[ByteArray.data_append,Array.size_append]
def dd(v:Nat):List UInt8:=if v=0 then []else Lib.decDigits v
theorem mP{v:Nat}(h:v≠0):dd v=dd (v / 10)++[UInt8.ofNat (48+v % 10)]:=by
 unfold dd
 rw[if_neg h,Lib.decDigits]
 by_cases iG:v<10
 ·rw[dif_pos iG,if_pos (by omega),Nat.mod_eq_of_lt iG];rfl
 ·rw[dif_neg iG,if_neg (by omega)]
theorem HO{d:Nat}(h:d<10):Ab (d:Int)=some (48+(d:Int)):=by
 unfold Ab
 rw[decide_eq_true (by omega),cond_true,dX (by omega) (by omega),IntKind.wrap_u8]
 congr 1
 omega
theorem HP(d:Nat):(strOfNums [48+(d:Int)]).data.toList=[UInt8.ofNat (48+d)]:=by
 have:(48+(d:Int)).toNat=48+d:=by omega
 show [UInt8.ofNat (48+(d:Int)).toNat]=_
 rw[this]
theorem wz(x:Int):(strOfNums [x]).size=1:=rfl
theorem Y5(v:Nat):(v:Int).tmod 10=((v % 10:Nat):Int)/\(v:Int).tdiv 10=((v / 10:Nat):Int):=by
 constructor
 ·rw[Int.tmod_eq_emod_of_nonneg (by omega)];omega
 ·rw[Int.tdiv_eq_ediv_of_nonneg (by omega)];omega
theorem Y6{n:Int}(h1:-9223372036854775808<=n)(h2:n<=9223372036854775807):wh n=some (cm n):=by
 suffices g:Gv (fun y=>y=cm n) (wh n) by
  obtain⟨y,e,rfl⟩:=g
  exact e
 unfold wh
 refine Gv.cond (fun h=>Gv.pure ?_) fun h0=>?_
 ·have h:n=0:=by simpa using h
  subst h
  refine kD ?_
  show [48]=Lib.itoa 0
  unfold Lib.itoa
  rw[if_neg (by omega),Lib.decDigits]
  rfl
 have h0:n≠0:=by simpa using h0
 have Y7:(10:Nat) ^ 20=100000000000000000000:=by rfl
 have hit:(Lib.itoa n)=if n<0 then 45 :: dd n.natAbs else dd n.natAbs:=by
  have e:dd n.natAbs=Lib.decDigits n.natAbs:=by unfold dd;rw[if_neg (by omega)]
  rw[e]
  unfold Lib.itoa
  by_cases hn:n<0
  ·rw[if_pos hn,if_pos hn]
  ·rw[if_neg hn,if_neg hn,show n.toNat=n.natAbs by omega]
 refine Gv.loop 20 (fun k x=>∃ (v:Nat) (s:ByteArray),x=(((if n<0 then -(v:Int)else (v:Int)),decide (n<0),s,()),())/\dd v++s.data.toList=dd n.natAbs/\v<10 ^ (20-k)/\s.size<=k/\v<=9223372036854775808) ⟨n.natAbs,ByteArray.mk #[],?_,by simp,by rw[Y7];omega,Nat.le_refl _,by omega⟩ (en (by omega)) ?_
 ·by_cases hn:n<0
  ·rw[if_pos hn,show -(n.natAbs:Int)=n by omega]
  ·rw[if_neg hn,show (n.natAbs:Int)=n by omega]
 rintro k hk x ⟨v,s,rfl,hd,hv,hs,hu⟩
 obtain⟨t1,t2⟩:=Y5 v
 unfold Hp
 dsimp only
 refine Gv.cond (fun h=>?_) (fun h=>?_)
 ·have jx:v≠0:=by
   rintro rfl
   by_cases hn:n<0 <;>simp[hn]at h
  have HQ:k<20:=by
   rcases Nat.lt_or_ge k 20 with h' | h'
   ·exact h'
   ·have:20-k=0:=by omega
    rw[this]at hv
    omega
  have bT:v / 10<10 ^ (20-(k+1)):=by
   have:20-k=(20-(k+1))+1:=by omega
   rw[this,Nat.pow_succ]at hv
   omega
  have dz:=mP jx
  have fin:∀ w:ByteArray,w.data.toList=[UInt8.ofNat (48+v % 10)]->w.size=1->dd (v / 10)++(w++s).data.toList=dd n.natAbs/\(w++s).size<=k+1:=by
   intro w hw Y8
   rw[nY,hw,<-List.append_assoc,<-dz,Ao,Y8]
   exact⟨hd,by omega⟩
  have hm:v % 10<10:=Nat.mod_lt _ (by omega)
  have ho:∀ w:ByteArray,w.size=1->bz (w.size+s.size)=true:=fun w hw=>kC (by omega)
  by_cases hn:n<0
  ·simp only[hn,if_true]
   rw[Int.neg_tmod,Int.neg_tdiv,t1,t2]
   rw[dX (n:=0 - -((v % 10:Nat):Int)) (by omega) (by omega),dX (n:=-((v / 10:Nat):Int)) (by omega) (by omega),show (0:Int) - -((v % 10:Nat):Int)=((v % 10:Nat):Int) by omega,HO hm,bg]
   refine Gv.cond (fun U=>?_) fun U=>?_
   ·obtain⟨f1,f2⟩:=fin _ (HP (v % 10)) (wz _)
    rw[ho _ (wz _),cond_true]
    exact Gv.pure ⟨HQ,v / 10,_,by simp only[hn,if_true],f1,bT,f2,by omega⟩
   ·have hz:v % 10=0:=by simp at U;omega
    have e0:-((v % 10:Nat):Int)=((v % 10:Nat):Int):=by omega
    rw[e0,HO hm,bg]
    obtain⟨f1,f2⟩:=fin _ (HP (v % 10)) (wz _)
    rw[ho _ (wz _),cond_true]
    exact Gv.pure ⟨HQ,v / 10,_,by simp only[hn,if_true],f1,bT,f2,by omega⟩
  ·simp only[hn,if_false]
   rw[t1,t2,decide_eq_false (show ¬ (((v % 10:Nat):Int)<0) by omega),cond_false,dX (n:=((v / 10:Nat):Int)) (by omega) (by omega),HO hm,bg]
   obtain⟨f1,f2⟩:=fin _ (HP (v % 10)) (wz _)
   rw[ho _ (wz _),cond_true]
   exact Gv.pure ⟨HQ,v / 10,_,by simp only[hn,if_false],f1,bT,f2,by omega⟩
 ·have jx:v=0:=by
   by_cases hn:n<0 <;>simp[hn]at h <;>omega
  subst jx
  have hd:s.data.toList=dd n.natAbs:=by rw[<-hd];rfl
  refine Gv.pure ?_
  simp only[Sum.elim_inl,Sum.elim_inr]
  by_cases hn:n<0
  ·rw[decide_eq_true hn,cond_true,kC (by show 1+s.size<_;omega),cond_true]
   refine Gv.pure (kD ?_)
   rw[nY,hd]
   show 45 :: dd n.natAbs=Lib.itoa n
   rw[hit,if_pos hn]
  ·rw[decide_eq_false hn,cond_false]
   refine Gv.pure (kD ?_)
   rw[hd]
   show dd n.natAbs=Lib.itoa n
   rw[hit,if_neg hn]
theorem Y9{n:Int}(h1:-9223372036854775808<=n)(h2:n<=9223372036854775807):(cm n).size<=21:=Lib.itoa_length_le n h1 h2
theorem HR{sep:List UInt8}{r:List (List UInt8)}(h:r≠[]):Lib.joinTail sep r=sep++Lib.join r sep:=by
 cases r with
 | nil=>exact absurd rfl h
 | cons y r=>rw[Lib.join_cons];simp[Lib.joinTail]
theorem lE(y:Int):0<=bits .and .i64 y 15/\bits .and .i64 y 15<=15:=by
 have e:bits .and .i64 y 15=IntKind.i64.wrap ((BitVec.ofInt 64 y &&& BitVec.ofInt 64 15).toNat:Int):=rfl
 have h:(BitVec.ofInt 64 y &&& BitVec.ofInt 64 15).toNat<=15:=by
  rw[BitVec.toNat_and]
  exact Nat.le_trans Nat.and_le_right (by decide)
 rw[e,IntKind.wrap_i64]
 omega
def dg(x:Int)(j:Nat):Int:=bits .and .i64 (x.fdiv (2 ^ (28-4*j))) 15
def mQ(d:Int):Int:=if d<10 then 48+d else 87+d
def lY(x:Int)(n:Nat):List Int:=(List.range n).map fun j=>mQ (dg x j)
def gp(x:Int):ByteArray:=strOfNums (lY x 8)
theorem Za(x:Int)(n:Nat):lY x (n+1)=lY x n++[mQ (dg x n)]:=by
 unfold lY
 rw[List.range_succ,List.map_append]
 rfl
theorem Zb(a b:List Int):strOfNums (a++b)=strOfNums a++strOfNums b:=by
 refine kD ?_
 rw[nY]
 show (List.map _ _).toArray.toList=(List.map _ _).toArray.toList++(List.map _ _).toArray.toList
 simp
theorem wA(a:List Int):(strOfNums a).size=a.length:=by
 show (List.map _ _).toArray.size=_
 simp
theorem Ap(x:Int)(n:Nat):(lY x n).length=n:=by simp[lY]
theorem Zc:∀ d:Nat,d<16->((ByteArray.mk #[48,49,50,51,52,53,54,55,56,57,97,98,99,100,101,102]).extract d (d+1)).data.toList=(strOfNums [mQ (d:Int)]).data.toList:=by
 intro d hd
 have:d=0\/d=1\/d=2\/d=3\/d=4\/d=5\/d=6\/d=7\/d=8\/d=9\/d=10\/d=11\/d=12\/d=13\/d=14\/d=15:=by omega
 rcases this with rfl | rfl | rfl | rfl | rfl | rfl | rfl | rfl | rfl | rfl | rfl | rfl | rfl | rfl | rfl | rfl <;>rfl
theorem Om(x:Int):tX x=some (lg x 0 4294967295):=by
 unfold tX
 rw[Ok,bg]
def cV(x:Int):ByteArray:=bif lg x 0 4294967295 then gp x else ByteArray.mk #[]
theorem Zd(x:Int):si x=some (cV x):=by
 suffices g:Gv (fun y=>y=cV x) (si x) by
  obtain⟨y,e,rfl⟩:=g
  exact e
 unfold si cV
 rw[Om,bg]
 cases hx:lg x 0 4294967295 with
 | false=>exact Gv.pure rfl
 | true=>
  rw[Bool.not_true,cond_false,cond_true]
  refine Gv.loop 8 (fun j z=>z=((x,strOfNums (lY x j),28-4*(j:Int),()),())) rfl (en (by omega)) ?_
  rintro j hj z rfl
  unfold HE
  dsimp only
  refine Gv.cond (fun h=>?_) (fun h=>?_)
  ·have hj:j<=7:=by simp at h;omega
   have G7:(28-4*(j:Int)).toNat=28-4*j:=by omega
   rw[G7,show min (28-4*j) IntKind.i64.bits=28-4*j from Nat.min_eq_left (by show _<=64;omega)]
   refine Gv.Y4 (by omega) ?_
   have hd:=lE (x.fdiv (2 ^ (28-4*j)))
   have Ze:bits .and .i64 (x.fdiv (2 ^ (28-4*j))) 15=dg x j:=rfl
   rw[Ze]at hd ⊢
   have hw:IntKind.i64.wrap (dg x j+1)=dg x j+1:=dX (by omega) (by omega)
   rw[hw]
   refine Gv.ite ⟨hd.1,by omega,by show dg x j+1<=16;omega⟩ ?_
   have HS:((ByteArray.mk #[48,49,50,51,52,53,54,55,56,57,97,98,99,100,101,102]).extract (dg x j).toNat (dg x j+1).toNat)=strOfNums [mQ (dg x j)]:=by
    have h1:(dg x j+1).toNat=(dg x j).toNat+1:=by omega
    have h2:=Zc (dg x j).toNat (by omega)
    rw[Int.toNat_of_nonneg hd.1]at h2
    rw[h1]
    exact kD h2
   rw[HS,wA,wA,Ap,kC (by show j+1<_;omega),cond_true]
   refine Gv.pure ⟨by omega,?_⟩
   rw[<-Zb,<-Za,dX (by omega) (by omega),show (28:Int)-4*(j:Int)-4=28-4*((j+1:Nat):Int) by omega]
  ·have:j=8:=by simp at h;omega
   subst this
   exact Gv.pure (Gv.pure rfl)
theorem On(x:Int):(cV x).size<=8:=by
 unfold cV
 cases lg x 0 4294967295 with
 | false=>exact Nat.zero_le _
 | true=>
  show (strOfNums (lY x 8)).size<=8
  rw[wA,Ap]
  exact Nat.le_refl _
theorem Zf{n:Int}(h1:-9223372036854775808<=n)(h2:n<=9223372036854775807):CM n=some (cm n):=by
 unfold CM wg
 rw[decide_eq_true h1,decide_eq_true h2]
 rfl
def wB(a b:List Int):Bool:=((a.length:Int)==(b.length:Int))&&(a.zip b).all fun p=>p.1==p.2
theorem CV{A B:Type}{a:List A}{b:List B}(h:a.length=b.length):(a.zip b).length=a.length:=by
 rw[List.length_zip]
 omega
theorem HT{A B:Type}{a:List A}{b:List B}(h:a.length=b.length){k:Nat}(hk:k<(a.zip b).length):(a.zip b)[k]=(a[k]'(by rw[CV h]at hk;exact hk),b[k]'(by rw[CV h]at hk;omega)):=by
 rw[List.getElem_zip]
theorem Zg{a b:List Int}(ha:a.length<1073741824):CL a b=some (wB a b):=by
 unfold CL wB
 by_cases h:a.length=b.length
 ·have hz:=CV h
  have e:=Oj (step:=Af) (a.zip b) (fun p=>p.1==p.2) (fun i=>((a,b,(a.length:Int),(i:Int),()),())) (.inl ((false,()),())) (.inr (.inl ((),()))) big (fun k hk=>by
   unfold Af
   dsimp only
   rw[decide_eq_true (by omega),cond_true,dif_pos ⟨by omega,by omega⟩,dif_pos ⟨by omega,by omega⟩,eP (by omega),HT h hk]
   simp only[Int.toNat_natCast]
   rw[bne]
   cases a[k]==b[k] <;>rfl) (by
   unfold Af
   dsimp only
   rw[decide_eq_false (by omega),cond_false]) (en (by omega))
  rw[Int.natCast_zero]at e
  rw[show ((a.length:Int) != (b.length:Int))=false by simp[h],cond_false,show ((a.length:Int)==(b.length:Int))=true by simp[h],Bool.true_and]
  refine(congrArg (fun o=>Option.bind o _) e).trans ?_
  cases (a.zip b).all fun p=>p.1==p.2 <;>rfl
 ·rw[show ((a.length:Int) != (b.length:Int))=true by simp;omega,cond_true,show ((a.length:Int)==(b.length:Int))=false by simp;omega,Bool.false_and]
def HU(x:lB):Prop:=bX x.id/\bX x.dN/\bX x.line/\True/\bX x.data/\bX x.at_
def HV(x:lZ):Prop:=bX x.cT/\bX x.row/\bX x.eC
def Zh(x:n8):Prop:=bX x.down/\bX x.sleep
def HW(x:gv):Prop:=bX x.eI/\bX x.cap/\bX x.eJ/\bX x.low/\bX x.high/\(x.weights.length<=maxLen/\∀ y∈x.weights,bX y)/\Zh x.cw
def wC(x:aL):Prop:=bX x.kind/\HU x.request/\bX x.n/\bX x.eR/\HV x.addr/\HW x.aB
theorem Zi{T:Type}(f:T->T->Option Bool)(l:List T)(hf:∀ x∈l,f x x=some true)(hl:l.length<1073741824):
  iter (α:=((List T×List T×Int×Unit)×Unit)) (β:=(((Bool×Unit)×Unit)⊕((Unit×Unit)⊕Empty))) (fun x=>bif (decide (x.1.2.2.1<(x.1.1.length:Int)))then if h1:0<=x.1.2.2.1/\x.1.2.2.1.toNat<x.1.1.length then (let e2:=x.1.1[x.1.2.2.1.toNat]'h1.2;if h3:0<=x.1.2.2.1/\x.1.2.2.1.toNat<x.1.2.1.length then (let e4:=x.1.2.1[x.1.2.2.1.toNat]'h3.2;(f e2 e4).bind fun y5=>bif (!y5)then some (.inr (.inl ((false,()),())))else some (.inl ((x.1.1,x.1.2.1,(IntKind.i64.wrap (x.1.2.2.1+(1:Int))),()),())))else none)else none else some (.inr (.inr (.inl ((),())))))
   big ((l,l,(0:Int),()),())=some (.inr (.inl ((),()))):=by
 obtain⟨z,h1,h2⟩:=Oi (step:=(fun x:((List T×List T×Int×Unit)×Unit)=>(bif (decide (x.1.2.2.1<(x.1.1.length:Int)))then if h1:0<=x.1.2.2.1/\x.1.2.2.1.toNat<x.1.1.length then (let e2:=x.1.1[x.1.2.2.1.toNat]'h1.2;if h3:0<=x.1.2.2.1/\x.1.2.2.1.toNat<x.1.2.1.length then (let e4:=x.1.2.1[x.1.2.2.1.toNat]'h3.2;(f e2 e4).bind fun y5=>bif (!y5)then some (.inr (.inl ((false,()),())))else some (.inl ((x.1.1,x.1.2.1,(IntKind.i64.wrap (x.1.2.2.1+(1:Int))),()),())))else none)else none else some (.inr (.inr (.inl ((),())))):Option (((List T×List T×Int×Unit)×Unit)⊕(((Bool×Unit)×Unit)⊕((Unit×Unit)⊕Empty))))))
  (fun x=>∃ (i:Nat),x=((l,l,(i:Int),()),())/\i<=l.length)
  (fun x=>l.length-x.1.2.2.1.toNat) (fun z=>z = .inr (.inl ((),()))) (by
   rintro x ⟨i,rfl,hi⟩
   dsimp only
   by_cases h:i<l.length
   ·left
    have c1:decide ((i:Int)<(l.length:Int))=true:=by simpa using h
    have c2:0<=(i:Int)/\(i:Int).toNat<l.length:=⟨by omega,by simpa using h⟩
    rw[c1,cond_true,dif_pos c2,dif_pos c2,hf _ (List.getElem_mem _),bg]
    refine⟨_,rfl,⟨i+1,?_,by omega⟩,?_⟩
    ·rw[dX (by omega) (by omega)]
     simp
    ·dsimp only
     rw[dX (by omega) (by omega)]
     omega
   ·right
    have c1:decide ((i:Int)<(l.length:Int))=false:=by simpa using h
    rw[c1,cond_false]
    exact⟨_,rfl,rfl⟩)
  big ((l,l,(0:Int),()),()) ⟨0,rfl,by omega⟩ (by dsimp only;unfold big;omega)
 rw[h1,h2]
def Oo(x:gv):Prop:=(x.weights.length<=1048576)
def Oq(x:aL):Prop:=Oo x.aB
theorem Zj(x:lB):CO x x=some true:=by
 unfold CO
 simp only[bg,bne_self_eq_false,beq_self_eq_true,Bool.not_true,cond_false]
theorem Zk(x:lZ):CP x x=some true:=by
 unfold CP
 simp only[bg,bne_self_eq_false,beq_self_eq_true,Bool.not_true,cond_false]
theorem Zl(x:List Int)(hz:(x.length<=1048576)):CQ x x=some true:=by
 have hl:=hz
 have hh:=Zi (fun a b:Int=>some (a==b)) x (fun y hy=>by simp) (by omega)
 unfold CQ
 rw[show ((x.length:Int) != (x.length:Int))=false by simp,cond_false]
 refine(congrArg (fun o=>Option.bind o _) hh).trans ?_
 rfl
theorem Zm(x:n8):CR x x=some true:=by
 unfold CR
 simp only[bg,bne_self_eq_false,beq_self_eq_true,Bool.not_true,cond_false]
theorem Zn(x:gv)(hz:Oo x):CS x x=some true:=by
 have Zo:=hz
 unfold CS
 simp only[Zl x.weights Zo,Zm x.cw,bg,bne_self_eq_false,beq_self_eq_true,Bool.not_true,cond_false]
theorem Zp(x:aL)(hz:Oq x):Ak x x=some true:=by
 have Zq:=hz
 unfold Ak
 simp only[Zj x.request,Zk x.addr,Zn x.aB Zq,bg,bne_self_eq_false,beq_self_eq_true,Bool.not_true,cond_false]
def ue(n:Int):Bool:=lg n 0 1000000000
def fB(l:List Int):List UInt8:=(l.map fun n=>32 :: Lib.itoa n).flatten
def eo(w:ByteArray)(l:List Int):ByteArray:=⟨(w.data.toList++fB l).toArray⟩
theorem HX{l:List Int}(h:∀ n∈l,bX n):(fB l).length<=22*l.length:=by
 induction l with
 | nil=>simp[fB]
 | cons b l ih=>
  have h1:(Lib.itoa b).length<=21:=Y9 (h b (.head _)).1 (h b (.head _)).2
  have h2:=ih fun x hx=>h x (.tail _ hx)
  have e:fB (b :: l)=32 :: (Lib.itoa b++fB l):=by simp[fB]
  rw[e]
  simp only[List.length_append,List.length_cons]
  omega
theorem HY{w:ByteArray}{l:List Int}(h:∀ n∈l,bX n):(eo w l).size<=w.size+22*l.length:=by
 have h1:=HX h
 have e:(eo w l).size=w.size+(fB l).length:=by
  show (w.data.toList++fB l).length=w.data.toList.length+(fB l).length
  rw[List.length_append]
 omega
def Aq(a:aL):=(a.kind,a.request.id,a.request.dN,a.request.line,a.request.write,a.request.data,a.request.at_,a.n,a.eR,a.addr.cT,a.addr.row,a.addr.eC,a.aB.eI,a.aB.cap,a.aB.eJ,a.aB.low,a.aB.high,a.aB.weights,a.aB.cw.down,a.aB.cw.sleep,())
theorem Zr(a:aL)(w:ByteArray){ns:List Int}(hl:ns.length<=2000000):
  iter sj big (((),w,(),(),(ns.length:Int),(0:Int),()),(Aq a,ns,()))=some (bif ns.all ue then .inr (.inl (((),w,(),()),(Aq a,ns,())))else .inl ((ByteArray.mk #[],false,()),())):=by
 have e:=Oj (step:=sj) ns ue (fun i=>(((),w,(),(),(ns.length:Int),(i:Int),()),(Aq a,ns,()))) (.inl ((ByteArray.mk #[],false,()),())) (.inr (.inl (((),w,(),()),(Aq a,ns,())))) big (fun k h=>by
  unfold sj ue
  dsimp only
  rw[decide_eq_true (by omega),cond_true,dif_pos ⟨by omega,by omega⟩,dif_pos (by omega)]
  simp only[Int.toNat_natCast]
  rw[Ok,bg,eP (by omega)]
  cases lg ns[k] 0 1000000000 <;>rfl) (by
  unfold sj
  dsimp only
  rw[decide_eq_false (by omega),cond_false]) (en (by omega))
 rw[Int.natCast_zero]at e
 exact e
def jn(ns:List Int):ByteArray:=⟨(Lib.join (ns.map Lib.itoa) [32]).toArray⟩
theorem As:∀ (n:Int) (ns:List Int),32 :: Lib.join ((n :: ns).map Lib.itoa) [32]=fB (n :: ns)
 | n,[]=>by simp[fB,Lib.join_one]
 | n,m :: ns=>by
  have ih:=As m ns
  rw[List.map_cons,Lib.join_cons,HR (by simp)]
  have e:fB (n :: m :: ns)=32 :: (Lib.itoa n++fB (m :: ns)):=by simp[fB]
  rw[e,<-ih]
  simp
theorem Zs{ns:List Int}(az:ns≠[])(bZ:∀ n∈ns,bX n)(hl:ns.length<=2000000):tY ns=some (jn ns):=by
 have e:=iA (step:=Ah) ns.length (fun i=>(((),ns,(ns.length:Int),(i:Int),()),((ns.take i).map cm,()))) (.inl (((),()),(ns.map cm,()))) big (fun k h=>by
  have h2:=bZ _ (List.getElem_mem h)
  unfold Ah
  dsimp only
  rw[decide_eq_true (by omega),cond_true,dif_pos ⟨by omega,by omega⟩]
  simp only[Int.toNat_natCast]
  rw[Zf h2.1 h2.2,bg,kC (by simp;omega),cond_true,eP (by omega),Ol h,List.map_append]
  rfl) (by
  unfold Ah
  dsimp only
  rw[decide_eq_false (by omega),cond_false,List.take_length]) (en (by omega))
 rw[Int.natCast_zero,List.take_zero]at e
 unfold tY
 refine(congrArg (fun o=>Option.bind o _) e).trans ?_
 rw[bg]
 simp only[Sum.elim_inl]
 have hm:(ns.map cm).map (·.data.toList)=ns.map Lib.itoa:=by
  rw[List.map_map]
  exact List.map_congr_left fun n _=>rfl
 have hj:(Lib.join (ns.map Lib.itoa) [32]).length<=22*ns.length:=by
  obtain⟨n,l,rfl⟩:=List.exists_cons_of_ne_nil az
  have:=HX bZ
  rw[<-As,List.length_cons]at this
  omega
 unfold kA
 rw[hm,show (ByteArray.mk #[32]).data.toList=[32]from rfl,decide_eq_true (by simp;omega),decide_eq_true (by omega)]
 rfl
theorem Ot(w:ByteArray){ns:List Int}(az:ns≠[]):(w++ByteArray.mk #[32])++jn ns=eo w ns:=by
 obtain⟨n,l,rfl⟩:=List.exists_cons_of_ne_nil az
 refine kD ?_
 rw[nY,nY]
 show (w.data.toList++[32])++Lib.join ((n :: l).map Lib.itoa) [32]=w.data.toList++fB (n :: l)
 rw[<-As]
 simp
def fin(a:aL)(w:ByteArray)(ns:List Int):ByteArray×Bool:=bif ns.all ue then (bif a.request.write then ((eo w ns++ByteArray.mk #[32])++cV a.request.data,true)else (eo w ns,true))else (ByteArray.mk #[],false)
def HZ(a:aL)(w:ByteArray)(ns:List Int):Option (ByteArray×Bool):=(iter sj big (((),w,(),(),(ns.length:Int),(0:Int),()),(Aq a,ns,()))).bind (Sum.elim (fun z=>some (z.1.1,z.1.2.1)) (Sum.elim (fun z=>bif bz (z.1.2.1.size+(ByteArray.mk #[32]).size)then (tY z.2.2.1).bind fun kB=>bif bz ((z.1.2.1++(ByteArray.mk #[32])).size+kB.size)then bif z.2.1.2.2.2.2.1 then (si z.2.1.2.2.2.2.2.1).bind fun mO=>bif bz ((ByteArray.mk #[32]).size+mO.size)then bif bz (((z.1.2.1++(ByteArray.mk #[32]))++kB).size+((ByteArray.mk #[32])++mO).size)then some (((z.1.2.1++(ByteArray.mk #[32]))++kB)++((ByteArray.mk #[32])++mO),true)else none else none else some ((z.1.2.1++(ByteArray.mk #[32]))++kB,true)else none else none) (fun z=>nomatch z)))
theorem Zt(a:aL)(w:ByteArray){ns:List Int}(az:ns≠[])(bZ:∀ n∈ns,bX n)(hl:ns.length<=2000000)(hw:w.size<=100):HZ a w ns=some (fin a w ns):=by
 have h1:=HY (w:=w) bZ
 have h2:=On a.request.data
 have h3:(jn ns).size<=22*ns.length:=by
  obtain⟨n,l,rfl⟩:=List.exists_cons_of_ne_nil az
  have:=HX bZ
  rw[<-As,List.length_cons]at this
  show (Lib.join ((n :: l).map Lib.itoa) [32]).length<=_
  omega
 unfold HZ fin
 rw[Zr a w hl,bg]
 cases ns.all ue with
 | false=>rfl
 | true=>
  rw[cond_true,cond_true]
  show (bif bz (w.size+1)then (tY ns).bind fun kB=>bif bz ((w++(ByteArray.mk #[32])).size+kB.size)then bif a.request.write then (si a.request.data).bind fun mO=>bif bz (1+mO.size)then bif bz (((w++(ByteArray.mk #[32]))++kB).size+((ByteArray.mk #[32])++mO).size)then some (((w++(ByteArray.mk #[32]))++kB)++((ByteArray.mk #[32])++mO),true)else none else none else some ((w++(ByteArray.mk #[32]))++kB,true)else none else none)=_
  rw[kC (by omega),cond_true,Zs az bZ hl,bg,kC (by rw[Ao];show w.size+1+_<_;omega),cond_true]
  cases a.request.write with
  | false=>rw[cond_false,cond_false,Ot w az]
  | true=>
   rw[cond_true,cond_true,Zd,bg,kC (by omega),cond_true,Ot w az,kC (by rw[Ao];show (eo w ns).size+(1+_)<_;omega),cond_true]
   congr 2
   exact kD (by simp only[nY,List.append_assoc])
theorem Zu(a x:Bool):(bif a then some x else some false)=some (a&&x):=by cases a <;>rfl
theorem Ou{a b:List Int}:wB a b=true ↔ a=b:=by
 unfold wB
 rw[Bool.and_eq_true,List.all_eq_true]
 constructor
 ·rintro⟨h1,h2⟩
  have hl:a.length=b.length:=by simp at h1;omega
  refine List.ext_getElem hl fun i hi hj=>?_
  have hz:i<(a.zip b).length:=by rw[CV hl];exact hi
  have:=h2 (a.zip b)[i] (List.getElem_mem hz)
  rw[HT hl hz]at this
  simpa using this
 ·rintro rfl
  refine⟨by simp,fun p hp=>?_⟩
  obtain⟨i,hi,rfl⟩:=List.getElem_of_mem hp
  rw[HT rfl hi]
  simp
def pE(x y:gv):Bool:=(x.eI==y.eI)&&((x.cap==y.cap)&&((x.eJ==y.eJ)&&((x.low==y.low)&&((x.high==y.high)&&(wB x.weights y.weights&&((x.cw.down==y.cw.down)&&((x.cw.sleep==y.cw.sleep)&&true)))))))
theorem Zv(x y:gv)(h:x.weights.length<1073741824):wq x y=some (pE x y):=by
 unfold wq pE
 simp only[Zg h,bg,Zu]
def iE(u a:aL):Bool:=((u.request.id==a.request.id)&&((u.request.dN==a.request.dN)&&((u.request.line==a.request.line)&&((u.request.write==a.request.write)&&((u.request.data==a.request.data)&&((u.request.at_==a.request.at_)&&true))))))&&((u.n==a.n)&&((u.eR==a.eR)&&(((u.addr.cT==a.addr.cT)&&((u.addr.row==a.addr.row)&&((u.addr.eC==a.addr.eC)&&true)))&&pE u.aB a.aB)))
def uA(a:aL)(d:Int):aL:=⟨a.kind,⟨a.request.id,a.request.dN,a.request.line,a.request.write,d,0⟩,0,0,⟨0,0,0⟩,⟨0,0,0,0,0,[],⟨0,0⟩⟩⟩
def uN(a:aL):aL:=⟨a.kind,⟨0,0,0,false,0,0⟩,a.n,0,⟨0,0,0⟩,⟨0,0,0,0,0,[],⟨0,0⟩⟩⟩
def uF(a:aL):aL:=⟨a.kind,⟨0,0,0,false,0,0⟩,a.n,a.eR,⟨a.addr.cT,a.addr.row,a.addr.eC⟩,⟨0,0,0,0,0,[],⟨0,0⟩⟩⟩
def uR(a:aL):aL:=⟨a.kind,⟨0,0,0,false,0,0⟩,0,0,⟨a.addr.cT,a.addr.row,0⟩,⟨0,0,0,0,0,[],⟨0,0⟩⟩⟩
def uP(a:aL):aL:=⟨a.kind,⟨0,0,0,false,0,0⟩,0,0,⟨0,0,0⟩,a.aB⟩
def u0(k:Int):aL:=⟨k,⟨0,0,0,false,0,0⟩,0,0,⟨0,0,0⟩,⟨0,0,0,0,0,[],⟨0,0⟩⟩⟩
def gq:ByteArray:=ByteArray.mk #[114,101,97,100]
def bh:ByteArray:=ByteArray.mk #[119,114,105,116,101]
def gu:ByteArray:=ByteArray.mk #[119,97,105,116]
def fX:ByteArray:=ByteArray.mk #[104,101,97,116]
def fN:ByteArray:=ByteArray.mk #[102,108,105,112]
def fh:ByteArray:=ByteArray.mk #[114,101,116,105,114,101]
def fj:ByteArray:=ByteArray.mk #[112,111,108,105,99,121]
def iX(a u:aL)(w:ByteArray)(ns:List Int):Option (ByteArray×Bool):=
 let k:Bool->Option (ByteArray×Bool):=fun j=>bif j then some (ByteArray.mk #[],false)else HZ a w ns
 bif (w.toList==(ByteArray.mk #[]).toList)then k true else bif (!((u.request.id==a.request.id)&&((u.request.dN==a.request.dN)&&((u.request.line==a.request.line)&&((u.request.write==a.request.write)&&((u.request.data==a.request.data)&&((u.request.at_==a.request.at_)&&true)))))))then k true else bif (u.n != a.n)then k true else bif (u.eR != a.eR)then k true else bif (!((u.addr.cT==a.addr.cT)&&((u.addr.row==a.addr.row)&&((u.addr.eC==a.addr.eC)&&true))))then k true else (wq u.aB a.aB).bind fun y=>bif (!y)then k true else (tX a.request.data).bind fun y=>k (!y)
theorem CW(a:aL):k9 a=(wo a).bind fun y=>bif (a.kind==(1:Int))then bif (!a.request.write)then iX a (uA a 0) y.1 y.2 else iX a (uA a a.request.data) y.1 y.2 else (let k3:Bool->Option (ByteArray×Bool):=fun j=>bif j then iX a (uN a) y.1 y.2 else bif (a.kind==(3:Int))then iX a (uF a) y.1 y.2 else bif (a.kind==(5:Int))then iX a (uP a) y.1 y.2 else bif (a.kind==(6:Int))then iX a (uR a) y.1 y.2 else iX a (u0 a.kind) y.1 y.2;bif (a.kind==(2:Int))then k3 (a.kind==(2:Int))else k3 (a.kind==(4:Int))):=rfl
def Ov:ByteArray×Bool:=(ByteArray.mk #[],false)
theorem pU{a u:aL}{w:ByteArray}{ns:List Int}(az:(w.toList==(ByteArray.mk #[]).toList)=false)(hn:ns≠[])(bZ:∀ n∈ns,bX n)(hl:ns.length<=2000000)(hw:w.size<=100)(pV:u.aB.weights.length<1073741824):
  iX a u w ns=some (bif iE u a&&lg a.request.data 0 4294967295 then fin a w ns else Ov):=by
 unfold iX
 simp only[az,cond_false,Zv _ _ pV,bg,Om,Zt a w hn bZ hl hw]
 unfold iE
 cases ((u.request.id==a.request.id)&&((u.request.dN==a.request.dN)&&((u.request.line==a.request.line)&&((u.request.write==a.request.write)&&((u.request.data==a.request.data)&&((u.request.at_==a.request.at_)&&true))))))with
 | false=>rfl
 | true=>
  rw[bne,bne]
  cases (u.n==a.n)with
  | false=>rfl
  | true=>
   cases (u.eR==a.eR)with
   | false=>rfl
   | true=>
    cases ((u.addr.cT==a.addr.cT)&&((u.addr.row==a.addr.row)&&((u.addr.eC==a.addr.eC)&&true)))with
    | false=>rfl
    | true=>
     cases pE u.aB a.aB with
     | false=>rfl
     | true=>cases lg a.request.data 0 4294967295 <;>rfl
theorem Zw:((ByteArray.mk #[]).toList==(ByteArray.mk #[]).toList)=true:=beq_self_eq_true _
theorem CX{a u:aL}{ns:List Int}:iX a u (ByteArray.mk #[]) ns=some Ov:=by
 unfold iX
 simp only[Zw,cond_true]
 rfl
theorem four{l:List Int}(h:l.length=4):l=[l[0],l[1],l[2],l[3]]:=by
 match l,h with
 | [a,b,c,d],_=>rfl
theorem At:(gq.toList==(ByteArray.mk #[]).toList)=false/\(bh.toList==(ByteArray.mk #[]).toList)=false/\(gu.toList==(ByteArray.mk #[]).toList)=false/\(fX.toList==(ByteArray.mk #[]).toList)=false/\(fN.toList==(ByteArray.mk #[]).toList)=false/\(fh.toList==(ByteArray.mk #[]).toList)=false/\(fj.toList==(ByteArray.mk #[]).toList)=false:=by
 unfold gq bh gu fX fN fh fj
 decide +kernel
def bu(l:List UInt8):Int:=l.foldl (fun a b=>a*10+((b.toNat:Int)-48)) 0
def jk(b:UInt8):Prop:=48<=b.toNat/\b.toNat<=57
theorem Au(l:List UInt8)(b:UInt8):bu (l++[b])=bu l*10+((b.toNat:Int)-48):=by simp[bu,List.foldl_append]
theorem so{l:List UInt8}(h:∀ b∈l,jk b):∀ k,k<=l.length->0<=bu (l.take k)/\bu (l.take k)<10 ^ k
 | 0,_=>by simp[bu]
 | k+1,hk=>by
  obtain⟨h1,h2⟩:=so h k (by omega)
  have h3:=h l[k] (List.getElem_mem (by omega))
  have e:l.take (k+1)=l.take k++[l[k]]:=by rw[List.take_succ_eq_append_getElem (by omega)]
  unfold jk at h3
  rw[e,Au,Int.pow_succ]
  omega
theorem iB{s:ByteArray}{i:Nat}(h:i<s.size)(h':i<s.data.toList.length):s[i]=s.data.toList[i]:=by
 rw[Array.getElem_toList]
 rfl
theorem Zx{s:ByteArray}(hd:∀ b∈s.data.toList,jk b)(hl:s.size<=10){k:Nat}(h:k<s.size):iW ((s,bu (s.data.toList.take k),(k:Int),()),())=some (.inl ((s,bu (s.data.toList.take (k+1)),((k+1:Nat):Int),()),())):=by
 have h':k<s.data.toList.length:=h
 obtain⟨h1,h2⟩:=so hd k (by omega)
 have h3:=hd s.data.toList[k] (List.getElem_mem h')
 have e:s.data.toList.take (k+1)=s.data.toList.take k++[s.data.toList[k]]:=by rw[List.take_succ_eq_append_getElem h']
 have hp:(10:Int) ^ k<=10 ^ 9:=by
  have:(10:Nat) ^ k<=10 ^ 9:=Nat.pow_le_pow_right (by omega) (by omega)
  exact_mod_cast this
 have p9:(10:Int) ^ 9=1000000000:=rfl
 unfold jk at h3
 unfold iW
 dsimp only
 rw[decide_eq_true (by omega),cond_true,dif_pos ⟨by omega,by omega⟩]
 simp only[Int.toNat_natCast,iB h h']
 rw[decide_eq_false (by omega),cond_false,dif_pos ⟨by omega,h⟩,decide_eq_false (by omega),cond_false,dif_pos ⟨by omega,h⟩,e,Au,eP (by omega),IntKind.wrap_u8]
 rw[dX (n:=bu (s.data.toList.take k)*10) (by omega) (by omega),dX (n:=((s.data.toList[k].toNat:Int)-48) % 256) (by omega) (by omega),dX (by omega) (by omega)]
 have:((s.data.toList[k].toNat:Int)-48) % 256=(s.data.toList[k].toNat:Int)-48:=by omega
 rw[this]
theorem Zy{s:ByteArray}(hd:∀ b∈s.data.toList,jk b)(hl:s.size<=10):iter iW big ((s,(0:Int),(0:Int),()),())=some (.inr (.inl ((bu s.data.toList,()),()))):=by
 have e:=iA (step:=iW) s.size (fun i=>((s,bu (s.data.toList.take i),(i:Int),()),())) (.inr (.inl ((bu s.data.toList,()),()))) big (fun k h=>Zx hd hl h) (by
  unfold iW
  dsimp only
  rw[decide_eq_false (by omega),cond_false,show s.size=s.data.toList.length from rfl,List.take_length]) (en (by omega))
 rw[Int.natCast_zero,List.take_zero]at e
 exact e
theorem Ow:HA=iW:=rfl
theorem Ox{s:ByteArray}(hd:∀ b∈s.data.toList,jk b)(h0:0<s.size)(hl:s.size<=10)(hz:1<s.size->s.data.toList.head?≠some 48)(hv:bu s.data.toList<=1000000000):tV s=some (bu s.data.toList,true):=by
 unfold tV
 rw[Ow,show ((s.size:Int)==0)=false from beq_eq_false_iff_ne.2 (by omega),cond_false,decide_eq_false (by omega),cond_false]
 have tl:(iter iW big ((s,(0:Int),(0:Int),()),())).bind (Sum.elim (fun z5=>some (z5.1.1,z5.1.2.1)) (Sum.elim (fun z6=>bif (decide (z6.1.1 > (1000000000:Int)))then some ((0:Int),false)else some (z6.1.1,true)) (fun z=>nomatch z)))=some (bu s.data.toList,true):=by
  rw[Zy hd hl,bg]
  show (bif (decide (bu s.data.toList > 1000000000))then some ((0:Int),false)else some (bu s.data.toList,true))=_
  rw[decide_eq_false (by omega),cond_false]
 by_cases h1:1<s.size
 ·rw[decide_eq_true (by omega),cond_true,dif_pos ⟨by omega,h0⟩]
  have az:(((s[(0:Int).toNat]'h0).toNat:Int)==48)=false:=by
   have h2:=hz h1
   have h3:s[(0:Int).toNat]'h0=s.data.toList[0]'h0:=iB h0 h0
   rw[List.head?_eq_getElem?,List.getElem?_eq_getElem (show 0<s.data.toList.length from h0)]at h2
   rw[h3]
   simp only[beq_eq_false_iff_ne]
   intro e
   refine h2 (congrArg some ?_)
   have:(s.data.toList[0]'h0).toNat=48:=by omega
   exact UInt8.toNat_inj.1 this
  rw[az,cond_false]
  exact tl
 ·rw[decide_eq_false (by omega),cond_false]
  exact tl
theorem Oy:∀ v:Nat,∀ b∈dd v,jk b:=by
 intro v
 induction v using Nat.strongRecOn with
 | ind v ih=>
  by_cases h:v=0
  ·subst h;simp[dd]
  ·intro b U
   rw[mP h]at U
   rcases List.mem_append.1 U with U | U
   ·exact ih (v / 10) (by omega) b U
   ·obtain rfl:=List.mem_singleton.1 U
    unfold jk
    have:v % 10<10:=Nat.mod_lt _ (by omega)
    rw[UInt8.toNat_ofNat']
    omega
theorem Zz:∀ v:Nat,bu (dd v)=(v:Int):=by
 intro v
 induction v using Nat.strongRecOn with
 | ind v ih=>
  by_cases h:v=0
  ·subst h;simp[dd,bu]
  ·rw[mP h,Au,ih (v / 10) (by omega),UInt8.toNat_ofNat']
   omega
theorem Oz:∀ v:Nat,(dd v).head?≠some 48:=by
 intro v
 induction v using Nat.strongRecOn with
 | ind v ih=>
  by_cases h:v=0
  ·subst h;simp[dd]
  ·rw[mP h]
   by_cases h2:v / 10=0
   ·rw[h2]
    have:v % 10=v:=by omega
    simp only[dd,if_true,List.nil_append,List.head?_cons,this]
    intro e
    have e:=Option.some.inj e
    have:=congrArg UInt8.toNat e
    rw[UInt8.toNat_ofNat']at this
    simp at this
    omega
   ·have az:dd (v / 10)≠[]:=by
     rw[mP h2];simp
    obtain⟨b,l,e⟩:=List.exists_cons_of_ne_nil az
    have h3:=ih (v / 10) (by omega)
    rw[e]at h3 ⊢
    exact h3
theorem OA:∀ (k v:Nat),v<10 ^ k->(dd v).length<=k
 | 0,v,h=>by
  have:v=0:=by simpa using h
  subst this;simp[dd]
 | k+1,v,h=>by
  by_cases h0:v=0
  ·subst h0;simp[dd]
  ·have:=OA k (v / 10) (by rw[Nat.pow_succ]at h;omega)
   rw[mP h0,List.length_append,List.length_singleton]
   omega
theorem CY{n:Int}(h:0<=n):Lib.itoa n=if n=0 then [48]else dd n.toNat:=by
 unfold Lib.itoa
 rw[if_neg (by omega)]
 by_cases h0:n=0
 ·subst h0
  rw[if_pos rfl,Lib.decDigits]
  rfl
 ·rw[if_neg h0]
  unfold dd
  rw[if_neg (by omega)]
theorem OB{n:Int}(h0:0<=n)(h1:n<=1000000000):tV (cm n)=some (n,true):=by
 have e:(cm n).data.toList=if n=0 then [48]else dd n.toNat:=CY h0
 have hs:(cm n).size=(cm n).data.toList.length:=rfl
 by_cases hz:n=0
 ·subst hz
  rw[if_pos rfl]at e
  have:=Ox (s:=cm 0) (by rw[e];intro b U;obtain rfl:=List.mem_singleton.1 U;exact⟨by decide,by decide⟩) (by rw[hs,e];decide) (by rw[hs,e];decide) (by rw[hs,e];intro h;simp at h) (by rw[e];decide)
  rw[this,e]
  rfl
 ·rw[if_neg hz]at e
  have hl:=OA 10 n.toNat (by omega)
  have az:dd n.toNat≠[]:=by rw[mP (by omega)];simp
  have hv:=Zz n.toNat
  have:=Ox (s:=cm n) (by rw[e];exact Oy _) (by rw[hs,e];exact List.length_pos_iff.2 az) (by rw[hs,e];omega) (by rw[e];exact fun _=>Oz _) (by rw[e,hv];omega)
  rw[this,e,hv,Int.toNat_of_nonneg h0]
def nZ(b:UInt8):Prop:=33<=b.toNat/\b.toNat<=126
def ep(w:ByteArray):Prop:=0<w.size/\∀ b∈w.data.toList,nZ b
theorem CZ{s:ByteArray}{p k:Nat}{l:List UInt8}(h:s.data.toList.drop p=l)(hk:k<l.length):∃ h':p+k<s.size,s[p+k]'h' = l[k]:=by
 have hl:p+k<s.data.toList.length:=by
  have:=congrArg List.length h
  rw[List.length_drop]at this
  omega
 refine⟨hl,?_⟩
 rw[iB hl hl]
 subst h
 rw[List.getElem_drop]
theorem OC{s w:ByteArray}{p:Nat}{l:List UInt8}(h:s.data.toList.drop p=w.data.toList++l):s.extract p (p+w.size)=w:=by
 refine kD ?_
 rw[ByteArray.data_extract,Array.toList_extract]
 show List.take (p+w.size-p) (List.drop p s.data.toList)=_
 rw[h,show p+w.size-p=w.data.toList.length by show p+w.size-p=w.size;omega,List.take_left']
 rfl
theorem H6{s w:ByteArray}{p:Nat}{l:List UInt8}{bQ:List ByteArray}(hs:s.size<=600)(h:s.data.toList.drop p=w.data.toList++l)(hw:ep w)(hl:l=[]\/∃ l',l=32 :: l')(ho:bQ.length<=10000):
  iV ((s,(),(p:Int),()),(bQ,()))=some (.inl ((s,(),((p+w.size:Nat):Int),()),(bQ++[w],()))):=by
 have mR:w.size=w.data.toList.length:=rfl
 have hlen:p+w.size+l.length=s.size:=by
  have:=congrArg List.length h
  rw[List.length_drop,List.length_append]at this
  have e:s.data.toList.length=s.size:=rfl
  have:=hw.1
  omega
 have gw:∀ k (hk:k<w.data.toList.length),∃ h':p+k<s.size,s[p+k]'h' = w.data.toList[k]:=fun k hk=>by
  obtain⟨h1,h2⟩:=CZ (k:=k) h (by rw[List.length_append];omega)
  exact⟨h1,by rw[h2,List.getElem_append_left hk]⟩
 have e:=iA (step:=Ae) w.size (fun i=>((s,(),((p+i:Nat):Int),(p:Int),()),(bQ,()))) (.inl ((s,(),((p+w.size:Nat):Int),(p:Int),()),(bQ,()))) big (fun k hk=>by
  obtain⟨h1,h2⟩:=gw k hk
  have h3:=hw.2 _ (List.getElem_mem hk)
  unfold nZ at h3
  unfold Ae
  dsimp only
  rw[decide_eq_true (by omega),cond_true,dif_pos ⟨by omega,by omega⟩]
  simp only[Int.toNat_natCast,h2]
  rw[show (((w.data.toList[k]).toNat:Int) != 32)=true from bne_iff_ne.2 (by omega),cond_true,eP (by omega)]
  rfl) (by
  unfold Ae
  dsimp only
  rcases hl with rfl | ⟨l',rfl⟩
  ·rw[decide_eq_false (by simp at hlen;omega),cond_false]
  ·obtain⟨h1,h2⟩:=CZ (k:=w.size) h (by rw[List.length_append];simp only[List.length_cons];omega)
   rw[decide_eq_true (by omega),cond_true,dif_pos ⟨by omega,by omega⟩]
   simp only[Int.toNat_natCast,h2]
   rw[List.getElem_append_right (by omega)]
   simp only[mR,Nat.sub_self,List.getElem_cons_zero]
   rfl) (en (by omega))
 obtain⟨h1,h2⟩:=gw 0 (by rw[<-mR];exact hw.1)
 have h3:=hw.2 _ (List.getElem_mem (by rw[<-mR];exact hw.1:0<w.data.toList.length))
 unfold nZ at h3
 rw[Nat.add_zero]at e
 simp only[Nat.add_zero]at h1 h2
 unfold iV
 dsimp only
 rw[decide_eq_true (by omega),cond_true,dif_pos ⟨by omega,by omega⟩]
 simp only[Int.toNat_natCast,h2]
 rw[show (((w.data.toList[0]'(by rw[<-mR];exact hw.1)).toNat:Int)==32)=false from beq_eq_false_iff_ne.2 (by omega),cond_false]
 refine(congrArg (fun o=>Option.bind o _) e).trans ?_
 rw[bg]
 simp only[Sum.elim_inl]
 rw[if_pos ⟨by omega,by omega,by omega⟩]
 simp only[Int.toNat_natCast]
 rw[OC h,kC (by simp;omega),cond_true]
theorem n5{α β:Type}{step:α->Option (α⊕β)}{a b:α}{n:Nat}(h:step a=some (.inl b)):iter step (n+1) a=iter step n b:=by
 simp only[iter,h]
def lay(ws:List ByteArray):List UInt8:=(ws.map fun w=>32 :: w.data.toList).flatten
theorem OD(ws:List ByteArray):lay ws=[]\/∃ l',lay ws=32 :: l':=by
 cases ws with
 | nil=>exact .inl rfl
 | cons w ws=>exact .inr ⟨w.data.toList++lay ws,rfl⟩
theorem Av{l:List UInt8}{p:Nat}{a b:List UInt8}(h:l.drop p=a++b):l.drop (p+a.length)=b:=by
 rw[<-List.drop_drop,h,List.drop_left']
 rfl
theorem OE{s:ByteArray}(hs:s.size<=600):∀ (ws:List ByteArray) (p:Nat) (bQ:List ByteArray) (fuel:Nat),(∀ w∈ws,ep w)->p<=s.size->s.data.toList.drop p=lay ws->bQ.length+ws.length<=10000->2*ws.length<fuel->
  iter iV fuel ((s,(),(p:Int),()),(bQ,()))=some (.inl (((),()),(bQ++ws,())))
 | [],p,bQ,fuel,hw,hp,h,ho,hf=>by
  obtain⟨n,rfl⟩:∃ n,fuel=n+1:=⟨fuel-1,by omega⟩
  have hl:s.size<=p:=by
   have:=congrArg List.length h
   rw[List.length_drop]at this
   have e:s.data.toList.length=s.size:=rfl
   simp[lay]at this
   omega
  have:iV ((s,(),(p:Int),()),(bQ,()))=some (.inr (.inl (((),()),(bQ,())))):=by
   unfold iV
   dsimp only
   rw[decide_eq_false (by omega),cond_false]
  simp only[iter,this,List.append_nil]
 | w :: ws,p,bQ,fuel,hw,hp,h,ho,hf=>by
  obtain⟨n,rfl⟩:∃ n,fuel=n+1+1:=⟨fuel-2,by simp at hf;omega⟩
  have h':s.data.toList.drop p=[32]++(w.data.toList++lay ws):=h
  obtain⟨h1,h2⟩:=CZ (k:=0) h' (by simp)
  simp only[Nat.add_zero]at h1 h2
  have st:iV ((s,(),(p:Int),()),(bQ,()))=some (.inl ((s,(),((p+1:Nat):Int),()),(bQ,()))):=by
   unfold iV
   dsimp only
   rw[decide_eq_true (by omega),cond_true,dif_pos ⟨by omega,by omega⟩]
   simp only[Int.toNat_natCast,h2]
   rw[eP (by omega)]
   rfl
  have h3:s.data.toList.drop (p+1)=w.data.toList++lay ws:=Av h'
  rw[n5 st,n5 (H6 hs h3 (hw w (.head _)) (OD ws) (by simp at ho;omega))]
  have h4:s.data.toList.drop (p+1+w.size)=lay ws:=Av h3
  have hle:p+1+w.size<=s.size:=by
   have:=congrArg List.length h3
   rw[List.length_drop,List.length_append]at this
   have e:s.data.toList.length=s.size:=rfl
   have e2:w.data.toList.length=w.size:=rfl
   have:=(hw w (.head _)).1
   omega
  rw[OE hs ws (p+1+w.size) (bQ++[w]) n (fun x hx=>hw x (.tail _ hx)) hle h4 (by simp at ho ⊢;omega) (by simp at hf;omega)]
  simp
theorem OF{s:ByteArray}(hs:s.size<=600)(hc:∀ b∈s.data.toList,32<=b.toNat/\b.toNat<=126):iter nX big ((s,(0:Int),()),())=some (.inr (.inl ((s,()),()))):=by
 have e:=iA (step:=nX) s.size (fun i=>((s,(i:Int),()),())) (.inr (.inl ((s,()),()))) big (fun k h=>by
  have h':k<s.data.toList.length:=h
  have h3:=hc _ (List.getElem_mem h')
  unfold nX
  dsimp only
  rw[decide_eq_true (by omega),cond_true,dif_pos ⟨by omega,by omega⟩]
  simp only[Int.toNat_natCast,iB h h']
  rw[decide_eq_false (by omega),cond_false,dif_pos ⟨by omega,h⟩,decide_eq_false (by omega),cond_false,eP (by omega)]) (by
  unfold nX
  dsimp only
  rw[decide_eq_false (by omega),cond_false]) (en (by omega))
 rw[Int.natCast_zero]at e
 exact e
theorem ZA{ws:List ByteArray}(h:∀ w∈ws,ep w):∀ b∈lay ws,32<=b.toNat/\b.toNat<=126:=by
 intro b U
 unfold lay at U
 obtain⟨l,hl,U⟩:=List.mem_flatten.1 U
 obtain⟨w,hw,rfl⟩:=List.mem_map.1 hl
 rcases List.mem_cons.1 U with rfl | U
 ·decide
 ·have:=(h w hw).2 b U
  unfold nZ at this
  omega
theorem H7{s w:ByteArray}{ws:List ByteArray}(hs:s.size<=600)(h:s.data.toList=w.data.toList++lay ws)(hw:ep w)(mR:∀ x∈ws,ep x)(hn:ws.length<24):tU s=some (w :: ws,true):=by
 have hc:∀ b∈s.data.toList,32<=b.toNat/\b.toNat<=126:=by
  intro b U
  rw[h]at U
  rcases List.mem_append.1 U with U | U
  ·have:=hw.2 b U
   unfold nZ at this
   omega
  ·exact ZA mR b U
 have h0:s.data.toList.drop 0=w.data.toList++lay ws:=h
 have st:=H6 (bQ:=[]) hs h0 hw (OD ws) (by simp)
 have hle:0+w.size<=s.size:=by
  have:=congrArg List.length h
  rw[List.length_append]at this
  have e:s.data.toList.length=s.size:=rfl
  have e2:w.data.toList.length=w.size:=rfl
  omega
 obtain⟨n,U⟩:∃ n,big=n+1:=⟨big-1,by have:=en (show 1000<1073741824 by omega);omega⟩
 have Bn:2*ws.length<n:=by have:=en (show 1000<1073741824 by omega);omega
 have go:=OE hs ws (0+w.size) ([]++[w]) n mR hle (Av h0) (by simp;omega) Bn
 unfold tU
 rw[decide_eq_false (by omega),cond_false,OF hs hc,bg]
 simp only[Sum.elim_inl,Sum.elim_inr]
 rw[Int.natCast_zero]at st
 rw[U,n5 st,go,bg]
 simp only[Sum.elim_inl]
 rw[decide_eq_false (by simp;omega),cond_false]
 rfl
theorem H8{n:Int}(h0:0<=n)(h1:n<=1000000000):ep (cm n):=by
 have e:(cm n).data.toList=if n=0 then [48]else dd n.toNat:=CY h0
 have hs:(cm n).size=(cm n).data.toList.length:=rfl
 by_cases hz:n=0
 ·rw[if_pos hz]at e
  refine⟨by rw[hs,e];decide,by rw[e];intro b U;obtain rfl:=List.mem_singleton.1 U;exact⟨by decide,by decide⟩⟩
 ·rw[if_neg hz]at e
  have az:dd n.toNat≠[]:=by rw[mP (by omega)];simp
  refine⟨by rw[hs,e];exact List.length_pos_iff.2 az,?_⟩
  rw[e]
  intro b U
  have:=Oy _ b U
  unfold jk at this
  unfold nZ
  omega
theorem ZB:∀ d:Nat,d<16->33<=(UInt8.ofNat (mQ (d:Int)).toNat).toNat/\(UInt8.ofNat (mQ (d:Int)).toNat).toNat<=126:=by decide +kernel
theorem OG{x:Int}(h0:0<=x)(h1:x<=4294967295):ep (cV x):=by
 have ef:cV x=gp x:=by
  unfold cV
  rw[ud.2 ⟨h0,h1⟩]
  rfl
 have hs:(gp x).size=8:=by
  unfold gp
  rw[wA,Ap]
 rw[ef]
 refine⟨by omega,fun b U=>?_⟩
 have e:(gp x).data.toList=(lY x 8).map fun n=>UInt8.ofNat n.toNat:=by
  unfold gp strOfNums
  simp
 rw[e]at U
 obtain⟨n,hn,rfl⟩:=List.mem_map.1 U
 unfold lY at hn
 obtain⟨j,hj,rfl⟩:=List.mem_map.1 hn
 have h:=lE (x.fdiv (2 ^ (28-4*j)))
 have e:dg x j=((dg x j).toNat:Int):=(Int.toNat_of_nonneg h.1).symm
 rw[e]
 exact ZB _ (by have:dg x j<=15:=h.2;omega)
theorem C0(ns:List Int):fB ns=lay (ns.map cm):=by
 unfold fB lay
 rw[List.map_map]
 rfl
def cM(ns:List Int)(k:Nat):List Int:=ns.take k++List.replicate (11-k) 0
theorem ZC{ns:List Int}{k:Nat}(hk:k<ns.length)(b7:ns.length<=11):(cM ns k).set k ns[k]=cM ns (k+1):=by
 unfold cM
 have hl:(ns.take k).length=k:=by rw[List.length_take];omega
 rw[List.set_append_right _ _ (by omega),hl,Nat.sub_self,show 11-k=(11-(k+1))+1 by omega,List.replicate_succ,List.set_cons_zero,List.take_succ_eq_append_getElem hk,List.append_assoc]
 rfl
theorem H9{ns:List Int}{k:Nat}(hk:k<=ns.length)(b7:ns.length<=11):(cM ns k).length=11:=by
 unfold cM
 simp
 omega
def z21:=((0:Int),(0:Int),(0:Int),(0:Int),false,(0:Int),(0:Int),(0:Int),(0:Int),(0:Int),(0:Int),(0:Int),(0:Int),(0:Int),(0:Int),(0:Int),(0:Int),(),(0:Int),(0:Int),())
theorem OH(C1:List ByteArray)(d:Int){ns:List Int}(bZ:∀ n∈ns,0<=n/\n<=1000000000)(b7:ns.length<=11):
  iter jI big (((),C1,ns.map cm,d,(),(0:Int),()),(z21,List.replicate 11 (0:Int),([]:List Int),()))=some (.inl (((),C1,d,(),()),(z21,cM ns ns.length,([]:List Int),()))):=by
 have e:=iA (step:=jI) ns.length (fun i=>(((),C1,ns.map cm,d,(),(i:Int),()),(z21,cM ns i,([]:List Int),()))) (.inl (((),C1,d,(),()),(z21,cM ns ns.length,([]:List Int),()))) big (fun k h=>by
  have h1:=H9 (show k<=ns.length by omega) b7
  have h2:=bZ _ (List.getElem_mem h)
  have hm:(ns.map cm).length=ns.length:=List.length_map _
  unfold jI
  dsimp only
  rw[decide_eq_true (by omega),cond_true,decide_eq_true (by omega),cond_true,dif_pos ⟨by omega,by omega⟩]
  simp only[Int.toNat_natCast,List.getElem_map]
  rw[OB h2.1 h2.2,bg,dif_pos ⟨by omega,by omega⟩,dif_pos (by omega),eP (by omega),ZC h b7]) (by
  have h1:=H9 (show ns.length<=ns.length by omega) b7
  unfold jI
  dsimp only
  have hm:(ns.map cm).length=ns.length:=List.length_map _
  rw[decide_eq_false (by omega),cond_false]) (en (by omega))
 have e0:cM ns 0=List.replicate 11 (0:Int):=by simp[cM]
 rw[Int.natCast_zero,e0]at e
 exact e
def pv(x:Nat)(k:Nat):Nat:=x / 2 ^ (32-4*k)
theorem OI{x:Nat}(hx:x<4294967296){j:Nat}(h:j<8):dg (x:Int) j=((x / 2 ^ (28-4*j) % 16:Nat):Int):=by
 have e:(x:Int).fdiv (2 ^ (28-4*j))=((x / 2 ^ (28-4*j):Nat):Int):=by
  rw[Int.fdiv_eq_ediv_of_nonneg _ (Int.pow_nonneg (by omega))]
  simp
 have hl:x / 2 ^ (28-4*j)<=x:=Nat.div_le_self _ _
 unfold dg
 rw[e]
 generalize x / 2 ^ (28-4*j)=q at hl
 rw[PS _ (by omega) (by omega),Int.toNat_natCast]
theorem ZD{x:Nat}{k:Nat}(h:k<8):pv x (k+1)=16*pv x k+x / 2 ^ (28-4*k) % 16:=by
 unfold pv
 have e1:32-4*(k+1)=28-4*k:=by omega
 have e2:2 ^ (32-4*k)=2 ^ (28-4*k)*16:=by
  rw[show 32-4*k=(28-4*k)+4 by omega,Nat.pow_add]
 rw[e1,e2,<-Nat.div_div_eq_div_mul]
 generalize x / 2 ^ (28-4*k)=q
 omega
theorem ZE:∀ d:Nat,d<16->Aa (ByteArray.mk #[48,49,50,51,52,53,54,55,56,57,97,98,99,100,101,102]) ((UInt8.ofNat (mQ (d:Int)).toNat).toNat:Int)=some (d:Int):=by
 decide +kernel
theorem OJ{x:Nat}{k:Nat}(h:k<8)(h':k<(gp (x:Int)).size):(gp (x:Int))[k]'h' = UInt8.ofNat (mQ (dg (x:Int) k)).toNat:=by
 have h2:k<(gp (x:Int)).data.toList.length:=h'
 have e:(gp (x:Int)).data.toList=(lY (x:Int) 8).map fun n=>UInt8.ofNat n.toNat:=by
  unfold gp strOfNums
  simp
 rw[iB h' h2]
 simp only[e,List.getElem_map,lY,List.getElem_range]
theorem OK{x:Int}(h0:0<=x)(h1:x<=4294967295):wm (cV x)=some (x,true):=by
 obtain⟨n,rfl⟩:=Int.eq_ofNat_of_zero_le h0
 have hn:n<4294967296:=by omega
 have ef:cV (n:Int)=gp (n:Int):=by
  unfold cV
  rw[ud.2 ⟨h0,h1⟩]
  rfl
 have hs:(gp (n:Int)).size=8:=by
  unfold gp
  rw[wA,Ap]
 rw[ef]
 have e:=iA (step:=lX) 8 (fun i=>((gp (n:Int),(pv n i:Int),(i:Int),()),())) (.inr (.inl (((n:Int),()),()))) big (fun k h=>by
  have aV:pv n k<268435456:=by
   unfold pv
   refine Nat.div_lt_of_lt_mul ?_
   have:16<=2 ^ (32-4*k):=Nat.le_trans (by decide:16<=2 ^ 4) (Nat.pow_le_pow_right (by omega) (by omega))
   omega
  have hd:n / 2 ^ (28-4*k) % 16<16:=Nat.mod_lt _ (by omega)
  unfold lX
  dsimp only
  rw[decide_eq_true (by omega),cond_true,dif_pos ⟨by omega,by omega⟩]
  have hw:=OJ (x:=n) h (show k<(gp (n:Int)).size by omega)
  simp only[Int.toNat_natCast]
  rw[hw,OI hn h,ZE _ hd,bg,decide_eq_false (by omega),cond_false,show (2:Int) ^ (min (4:Int).toNat IntKind.i64.bits)=16 from rfl,dX (by omega) (by omega),Iy _ _ (by omega) (by omega) (by omega) (by omega),eP (by omega),ZD h]
  rfl) (by
  unfold lX
  dsimp only
  rw[decide_eq_false (by omega),cond_false]
  have:pv n 8=n:=by simp[pv]
  rw[this]) (en (by omega))
 have lP:pv n 0=0:=by
  unfold pv
  exact Nat.div_eq_of_lt hn
 rw[Int.natCast_zero,lP,Int.natCast_zero]at e
 unfold wm
 rw[show (((gp (n:Int)).size:Int) != 8)=false by rw[hs];rfl,cond_false]
 exact(congrArg (fun o=>Option.bind o _) e).trans rfl
theorem ZF{w:ByteArray}{ns:List Int}(hl:(eo w ns).size<=600)(b7:ns.length<=11):kA (w :: ns.map cm) (ByteArray.mk #[32])=some (eo w ns):=by
 have hm:(w :: ns.map cm).map (·.data.toList)=w.data.toList :: ns.map Lib.itoa:=by
  rw[List.map_cons,List.map_map]
  rfl
 have hj:Lib.join (w.data.toList :: ns.map Lib.itoa) [32]=w.data.toList++fB ns:=by
  cases ns with
  | nil=>simp[Lib.join_one,fB]
  | cons n l=>
   rw[Lib.join_cons,HR (by simp),<-As]
   rfl
 have hs:(eo w ns).size=(w.data.toList++fB ns).length:=rfl
 unfold kA
 rw[hm,show (ByteArray.mk #[32]).data.toList=[32]from rfl,hj,decide_eq_true (by simp;omega),decide_eq_true (by omega)]
 rfl
theorem ZG{w:ByteArray}{ns:List Int}{b:aL}(hw:ep w)(az:(w.toList==(ByteArray.mk #[119,114,105,116,101]).toList)=false)(bZ:∀ n∈ns,0<=n/\n<=1000000000)(b7:ns.length<=11)(hs:(eo w ns).size<=600)
  (ha:fA w (cM ns ns.length) 0=some b) (hf:k9 b=some (eo w ns,true)):gO (eo w ns)=some (b,true):=by
 have gy:tU (eo w ns)=some (w :: ns.map cm,true):=H7 hs (by
  show w.data.toList++fB ns=_
  rw[C0]) hw (fun x hx=>by
  obtain⟨n,hn,rfl⟩:=List.mem_map.1 hx
  exact H8 (bZ n hn).1 (bZ n hn).2) (by rw[List.length_map];omega)
 have hl:(w :: ns.map cm).length=ns.length+1:=by simp
 have cX:(((w :: ns.map cm).take (((w :: ns.map cm).length:Int)).toNat).drop (1:Int).toNat)=ns.map cm:=by
  rw[Int.toNat_natCast,List.take_length]
  rfl
 unfold gO
 rw[gy,bg]
 dsimp only
 rw[Bool.not_true,cond_false,show (((w :: ns.map cm).length:Int)==0)=false from beq_eq_false_iff_ne.2 (by omega),cond_false,if_pos ⟨by omega,by omega,by omega⟩,dif_pos ⟨by omega,by show 0<_;omega⟩]
 rw[show (w :: ns.map cm)[(0:Int).toNat]'(by show 0<_;omega)=w from rfl,az]
 simp only[cX,cond_false]
 rw[if_pos ⟨by omega,by omega,by omega⟩]
 refine(congrArg (fun o=>Option.bind o _) (OH (w :: ns.map cm) 0 bZ b7)).trans ?_
 rw[bg]
 simp only[Sum.elim_inl]
 rw[dif_pos ⟨by omega,by show 0<_;omega⟩]
 rw[show (w :: ns.map cm)[(0:Int).toNat]'(by show 0<_;omega)=w from rfl,ha,bg,hf,bg,Bool.not_true,cond_false,ZF hs b7,bg,beq_self_eq_true]
 rfl
theorem Ia:∀ (w:ByteArray) (ls:List ByteArray),Lib.join ((w :: ls).map (·.data.toList)) [32]=w.data.toList++lay ls
 | w,[]=>by simp[Lib.join_one,lay]
 | w,x :: ls=>by
  have ih:=Ia x ls
  rw[List.map_cons,Lib.join_cons,HR (by simp),ih]
  rfl
theorem OL(a b:List ByteArray):lay (a++b)=lay a++lay b:=by simp[lay]
theorem ZH{ns:List Int}{d:Int}{b:aL}(bZ:∀ n∈ns,0<=n/\n<=1000000000)(b7:ns.length<=11)(hd:0<=d/\d<=4294967295)(hs:((eo bh ns++ByteArray.mk #[32])++cV d).size<=600)
  (ha:fA bh (cM ns ns.length) d=some b) (hf:k9 b=some ((eo bh ns++ByteArray.mk #[32])++cV d,true)):gO ((eo bh ns++ByteArray.mk #[32])++cV d)=some (b,true):=by
 have ZI:ep bh:=by
  refine⟨by show 0<5;omega,fun b U=>?_⟩
  have h:b∈[119,114,105,116,101]:=U
  simp only[List.mem_cons,List.not_mem_nil,or_false]at h
  rcases h with rfl | rfl | rfl | rfl | rfl <;>exact⟨by decide,by decide⟩
 have Ib:((eo bh ns++ByteArray.mk #[32])++cV d).data.toList=bh.data.toList++lay (ns.map cm++[cV d]):=by
  rw[nY,nY,OL,<-C0]
  show (bh.data.toList++fB ns)++[32]++(cV d).data.toList=_
  simp[lay]
 have bJ:∀ x∈ns.map cm++[cV d],ep x:=by
  intro x hx
  rcases List.mem_append.1 hx with hx | hx
  ·obtain⟨n,hn,rfl⟩:=List.mem_map.1 hx
   exact H8 (bZ n hn).1 (bZ n hn).2
  ·obtain rfl:=List.mem_singleton.1 hx
   exact OG hd.1 hd.2
 have gy:=H7 hs Ib ZI bJ (by simp;omega)
 have ZJ:kA (bh :: (ns.map cm++[cV d])) (ByteArray.mk #[32])=some ((eo bh ns++ByteArray.mk #[32])++cV d):=by
  have hsz:((eo bh ns++ByteArray.mk #[32])++cV d).size=((eo bh ns++ByteArray.mk #[32])++cV d).data.toList.length:=rfl
  rw[Ib]at hsz
  unfold kA
  rw[show (ByteArray.mk #[32]).data.toList=[32]from rfl,Ia,decide_eq_true (by simp;omega),decide_eq_true (by omega)]
  exact congrArg some (kD (by rw[Ib]))
 generalize (eo bh ns++ByteArray.mk #[32])++cV d=t at *
 have hl:(ns.map cm++[cV d]).length=ns.length+1:=by simp
 generalize hA:ns.map cm++[cV d]=A at *
 have OM:(bh :: A).length=A.length+1:=rfl
 have cX:(((bh :: A).take (((bh :: A).length:Int)).toNat).drop (1:Int).toNat)=A:=by
  rw[Int.toNat_natCast,List.take_length]
  rfl
 have ZK:∀ (h:(IntKind.i64.wrap ((A.length:Int)-(1:Int))).toNat<A.length),A[(IntKind.i64.wrap ((A.length:Int)-(1:Int))).toNat]'h=cV d:=by
  intro h
  have e:(IntKind.i64.wrap ((A.length:Int)-(1:Int))).toNat=ns.length:=by rw[dX (by omega) (by omega)];omega
  simp only[e]
  subst hA
  rw[List.getElem_append_right (by simp)]
  simp
 have HS:((A.take (IntKind.i64.wrap ((A.length:Int)-(1:Int))).toNat).drop (0:Int).toNat)=ns.map cm:=by
  have e:(IntKind.i64.wrap ((A.length:Int)-(1:Int))).toNat=(ns.map cm).length:=by rw[dX (by omega) (by omega),List.length_map];omega
  rw[e,<-hA,List.take_left']
  ·rfl
  ·rfl
 have ZL:(bh.toList==(ByteArray.mk #[119,114,105,116,101]).toList)=true:=beq_self_eq_true _
 have hi:(IntKind.i64.wrap ((A.length:Int)-(1:Int)))=(ns.length:Int):=by rw[dX (by omega) (by omega)];omega
 unfold gO
 rw[gy,bg]
 dsimp only
 rw[Bool.not_true,cond_false,show (((bh :: A).length:Int)==0)=false from beq_eq_false_iff_ne.2 (by omega),cond_false,if_pos ⟨by omega,by omega,by omega⟩,dif_pos ⟨by omega,by show 0<_;omega⟩]
 rw[show (bh :: A)[(0:Int).toNat]'(by show 0<_;omega)=bh from rfl,ZL,cond_true]
 simp only[cX]
 rw[decide_eq_true (by omega),cond_true,dif_pos ⟨by rw[hi];omega,by rw[hi];omega⟩,ZK,OK hd.1 hd.2,bg,if_pos ⟨by omega,by rw[hi];omega,by rw[hi];omega⟩,if_pos ⟨by omega,by omega,by omega⟩,HS]
 refine(congrArg (fun o=>Option.bind o _) (OH (bh :: A) d bZ b7)).trans ?_
 rw[bg]
 simp only[Sum.elim_inl]
 rw[dif_pos ⟨by omega,by show 0<_;omega⟩]
 rw[show (bh :: A)[(0:Int).toNat]'(by show 0<_;omega)=bh from rfl,ha,bg,hf,bg,Bool.not_true,cond_false,ZJ,bg,beq_self_eq_true]
 rfl
theorem ZM{u a:aL}(hk:u.kind=a.kind)(h:iE u a=true):u=a:=by
 simp only[iE,pE,Bool.and_eq_true,beq_iff_eq,Ou]at h
 obtain⟨⟨r1,r2,r3,r4,r5,r6,_⟩,n,c,⟨b1,b2,b3,_⟩,p1,p2,p3,p4,p5,w,d1,d2,_⟩:=h
 obtain⟨k,⟨q1,q2,q3,q4,q5,q6⟩,m,e,⟨x1,x2,x3⟩,⟨y1,y2,y3,y4,y5,y6,⟨z1,z2⟩⟩⟩:=u
 obtain⟨k',⟨q1',q2',q3',q4',q5',q6'⟩,m',e',⟨x1',x2',x3'⟩,⟨y1',y2',y3',y4',y5',y6',⟨z1',z2'⟩⟩⟩:=a
 simp only at hk r1 r2 r3 r4 r5 r6 n c b1 b2 b3 p1 p2 p3 p4 p5 w d1 d2
 subst hk r1 r2 r3 r4 r5 r6 n c b1 b2 b3 p1 p2 p3 p4 p5 w d1 d2
 rfl
def zR:lB:=⟨0,0,0,false,0,0⟩
def zP:gv:=⟨0,0,0,0,0,[],⟨0,0⟩⟩
theorem ON:(gq.toList==(ByteArray.mk #[119,114,105,116,101]).toList)=false:=by decide +kernel
theorem ZN:(bh.toList==(ByteArray.mk #[114,101,97,100]).toList)=false:=by decide +kernel
theorem ZO:(gq.toList==(ByteArray.mk #[114,101,97,100]).toList)=true:=beq_self_eq_true _
theorem ZP:(bh.toList==(ByteArray.mk #[119,114,105,116,101]).toList)=true:=beq_self_eq_true _
theorem ZQ(i t l d:Int):fA gq (cM [i,t,l] 3) d=some ⟨1,⟨i,t,l,false,d,0⟩,0,0,⟨0,0,0⟩,zP⟩:=by
 unfold fA
 simp only[ZO,ON,cond_true,cond_false]
 rfl
theorem ZR(i t l d:Int):fA bh (cM [i,t,l] 3) d=some ⟨1,⟨i,t,l,true,d,0⟩,0,0,⟨0,0,0⟩,zP⟩:=by
 unfold fA
 simp only[ZP,ZN,cond_true,cond_false]
 rfl
theorem OO:(gu.toList==(ByteArray.mk #[114,101,97,100]).toList)=false/\(gu.toList==(ByteArray.mk #[119,114,105,116,101]).toList)=false/\(gu.toList==(ByteArray.mk #[119,97,105,116]).toList)=true:=by decide +kernel
theorem ZS(n d:Int):fA gu (cM [n] 1) d=some ⟨2,zR,n,0,⟨0,0,0⟩,zP⟩:=by
 unfold fA
 obtain⟨h1,h2,h3⟩:=OO
 simp only[h1,h2,h3,cond_true,cond_false]
 rfl
theorem OP:(fX.toList==(ByteArray.mk #[114,101,97,100]).toList)=false/\(fX.toList==(ByteArray.mk #[119,114,105,116,101]).toList)=false/\(fX.toList==(ByteArray.mk #[119,97,105,116]).toList)=false/\(fX.toList==(ByteArray.mk #[104,101,97,116]).toList)=true:=by decide +kernel
theorem ZT(n d:Int):fA fX (cM [n] 1) d=some ⟨4,zR,n,0,⟨0,0,0⟩,zP⟩:=by
 unfold fA
 obtain⟨h1,h2,h3,h4⟩:=OP
 simp only[h1,h2,h3,h4,cond_true,cond_false]
 rfl
theorem OQ:(fN.toList==(ByteArray.mk #[114,101,97,100]).toList)=false/\(fN.toList==(ByteArray.mk #[119,114,105,116,101]).toList)=false/\(fN.toList==(ByteArray.mk #[119,97,105,116]).toList)=false/\(fN.toList==(ByteArray.mk #[104,101,97,116]).toList)=false/\(fN.toList==(ByteArray.mk #[102,108,105,112]).toList)=true:=by decide +kernel
theorem ZU(b r c p n d:Int):fA fN (cM [b,r,c,p,n] 5) d=some ⟨3,zR,n,p,⟨b,r,c⟩,zP⟩:=by
 unfold fA
 obtain⟨h1,h2,h3,h4,h5⟩:=OQ
 simp only[h1,h2,h3,h4,h5,cond_true,cond_false]
 rfl
theorem OR:(fh.toList==(ByteArray.mk #[114,101,97,100]).toList)=false/\(fh.toList==(ByteArray.mk #[119,114,105,116,101]).toList)=false/\(fh.toList==(ByteArray.mk #[119,97,105,116]).toList)=false/\(fh.toList==(ByteArray.mk #[104,101,97,116]).toList)=false/\(fh.toList==(ByteArray.mk #[102,108,105,112]).toList)=false/\(fh.toList==(ByteArray.mk #[112,111,108,105,99,121]).toList)=false/\(fh.toList==(ByteArray.mk #[114,101,116,105,114,101]).toList)=true:=by decide +kernel
theorem ZV(b r d:Int):fA fh (cM [b,r] 2) d=some ⟨6,zR,0,0,⟨b,r,0⟩,zP⟩:=by
 unfold fA
 obtain⟨h1,h2,h3,h4,h5,h6,h7⟩:=OR
 simp only[h1,h2,h3,h4,h5,h6,h7,cond_true,cond_false]
 rfl
theorem OS:(fj.toList==(ByteArray.mk #[114,101,97,100]).toList)=false/\(fj.toList==(ByteArray.mk #[119,114,105,116,101]).toList)=false/\(fj.toList==(ByteArray.mk #[119,97,105,116]).toList)=false/\(fj.toList==(ByteArray.mk #[104,101,97,116]).toList)=false/\(fj.toList==(ByteArray.mk #[102,108,105,112]).toList)=false/\(fj.toList==(ByteArray.mk #[112,111,108,105,99,121]).toList)=true/\(fj.toList==(ByteArray.mk #[114,101,116,105,114,101]).toList)=false:=by decide +kernel
theorem ZW(a b c e f g h i j k l d:Int):fA fj (cM [a,b,c,e,f,g,h,i,j,k,l] 11) d=some ⟨5,zR,0,0,⟨0,0,0⟩,⟨a,b,c,e,f,[g,h,i,j],⟨k,l⟩⟩⟩:=by
 unfold fA
 obtain⟨h1,h2,h3,h4,h5,h6,h7⟩:=OS
 simp only[h1,h2,h3,h4,h5,h6,h7,cond_true,cond_false]
 rfl
theorem pW{a u:aL}{w t:ByteArray}{ns:List Int}(hk:u.kind=a.kind)(az:(w.toList==(ByteArray.mk #[]).toList)=false)(hn:ns≠[])(bZ:∀ n∈ns,bX n)(hl:ns.length<=2000000)(hw:w.size<=100)(pV:u.aB.weights.length<1073741824)
  (h:iX a u w ns=some (t,true)):u=a/\(0<=a.request.data/\a.request.data<=4294967295)/\(∀ n∈ns,0<=n/\n<=1000000000)/\t=bif a.request.write then (eo w ns++ByteArray.mk #[32])++cV a.request.data else eo w ns:=by
 rw[pU az hn bZ hl hw pV]at h
 have h:=Option.some.inj h
 cases hc:(iE u a&&lg a.request.data 0 4294967295)with
 | false=>rw[hc]at h;cases h
 | true=>
  rw[hc,cond_true]at h
  rw[Bool.and_eq_true]at hc
  unfold fin at h
  cases ha:ns.all ue with
  | false=>rw[ha]at h;cases h
  | true=>
   rw[ha,cond_true]at h
   refine⟨ZM hk hc.1,ud.1 hc.2,fun n hn=>ud.1 (List.all_eq_true.1 ha n hn),?_⟩
   cases hw:a.request.write with
   | true=>rw[hw]at h;exact(congrArg Prod.fst h).symm
   | false=>rw[hw]at h;exact(congrArg Prod.fst h).symm
theorem lp(w:ByteArray)(h:(decide (0<w.size)&&w.data.toList.all (fun b=>decide (33<=b.toNat)&&decide (b.toNat<=126)))=true):ep w:=by
 rw[Bool.and_eq_true,List.all_eq_true]at h
 refine⟨of_decide_eq_true h.1,fun b U=>?_⟩
 have:=h.2 b U
 rw[Bool.and_eq_true]at this
 exact⟨of_decide_eq_true this.1,of_decide_eq_true this.2⟩
theorem wD{a u:aL}{w t:ByteArray}{ns:List Int}(hk:u.kind=a.kind)(az:(w.toList==(ByteArray.mk #[]).toList)=false)(ZX:(w.toList==(ByteArray.mk #[119,114,105,116,101]).toList)=false)(ZY:ep w)(hw:w.size<=100)(hn:ns≠[])(bZ:∀ n∈ns,bX n)(b7:ns.length<=11)(pV:u.aB.weights.length<1073741824)(hu:u.request.write=false)
  (ha:fA w (cM ns ns.length) 0=some u) (hf:k9 a=some (t,true)) (h:iX a u w ns=some (t,true)):gO t=some (a,true):=by
 obtain⟨e,hd,hr,ht⟩:=pW hk az hn bZ (by omega) hw pV h
 subst e
 rw[hu,cond_false]at ht
 subst ht
 have hs:=HY (w:=w) bZ
 exact ZG ZY ZX hr b7 (by omega) ha hf
theorem ZZ{a u:aL}{t:ByteArray}{ns:List Int}(hk:u.kind=a.kind)(hn:ns≠[])(bZ:∀ n∈ns,bX n)(b7:ns.length<=11)(pV:u.aB.weights.length<1073741824)(hu:u.request.write=true)
  (ha:fA bh (cM ns ns.length) u.request.data=some u) (hf:k9 a=some (t,true)) (h:iX a u bh ns=some (t,true)):gO t=some (a,true):=by
 obtain⟨e,hd,hr,ht⟩:=pW hk At.2.1 hn bZ (by omega) (by decide +kernel) pV h
 subst e
 rw[hu,cond_true]at ht
 subst ht
 have hs:=HY (w:=bh) bZ
 have hw5:bh.size=5:=rfl
 have h8:=On u.request.data
 refine ZH hr (by omega) hd ?_ ha hf
 rw[Ao,Ao]
 show (eo bh ns).size+1+_<=_
 omega
theorem Z0(a:aL)(h:wC a){t:ByteArray}(hf:k9 a=some (t,true)):gO t=some (a,true):=by
 obtain⟨_,⟨r1,r2,r3,_,r5,r6⟩,i1,i2,⟨b1,b2,b3⟩,⟨p1,p2,p3,p4,p5,p6,p7⟩⟩:=h
 obtain⟨e1,e2,e3,e4,e5,e6,e7⟩:=At
 have z:([]:List Int).length<1073741824:=by simp
 have bO:=hf
 rw[CW]at bO
 unfold wo at bO
 by_cases k2:a.kind=2
 ·simp only[k2,show ((2:Int)==1)=false from rfl,show ((2:Int)==2)=true from rfl,cond_true,cond_false]at bO
  exact wD (u:=uN a) rfl e3 OO.2.1 (lp _ (by decide +kernel)) (by decide +kernel) (by simp) (by simp only[List.forall_mem_cons];exact⟨i1,fun _ h=>by cases h⟩) (by simp) z rfl ((ZS a.n 0).trans (by unfold uN;rw[k2];rfl)) hf bO
 by_cases k4:a.kind=4
 ·simp only[k4,show ((4:Int)==1)=false from rfl,show ((4:Int)==2)=false from rfl,show ((4:Int)==4)=true from rfl,cond_true,cond_false]at bO
  exact wD (u:=uN a) rfl e4 OP.2.1 (lp _ (by decide +kernel)) (by decide +kernel) (by simp) (by simp only[List.forall_mem_cons];exact⟨i1,fun _ h=>by cases h⟩) (by simp) z rfl ((ZT a.n 0).trans (by unfold uN;rw[k4];rfl)) hf bO
 by_cases k3:a.kind=3
 ·simp only[k3,show ((3:Int)==1)=false from rfl,show ((3:Int)==2)=false from rfl,show ((3:Int)==4)=false from rfl,show ((3:Int)==3)=true from rfl,cond_true,cond_false]at bO
  exact wD (u:=uF a) rfl e5 OQ.2.1 (lp _ (by decide +kernel)) (by decide +kernel) (by simp) (by simp only[List.forall_mem_cons];exact⟨b1,b2,b3,i2,i1,fun _ h=>by cases h⟩) (by simp) z rfl ((ZU a.addr.cT a.addr.row a.addr.eC a.eR a.n 0).trans (by unfold uF;rw[k3];rfl)) hf bO
 by_cases k6:a.kind=6
 ·simp only[k6,show ((6:Int)==1)=false from rfl,show ((6:Int)==2)=false from rfl,show ((6:Int)==4)=false from rfl,show ((6:Int)==3)=false from rfl,show ((6:Int)==5)=false from rfl,show ((6:Int)==6)=true from rfl,cond_true,cond_false]at bO
  exact wD (u:=uR a) rfl e6 OR.2.1 (lp _ (by decide +kernel)) (by decide +kernel) (by simp) (by simp only[List.forall_mem_cons];exact⟨b1,b2,fun _ h=>by cases h⟩) (by simp) z rfl ((ZV a.addr.cT a.addr.row 0).trans (by unfold uR;rw[k6];rfl)) hf bO
 by_cases k1:a.kind=1
 ·simp only[k1,show ((1:Int)==1)=true from rfl,cond_true]at bO
  have bZ:∀ n∈[a.request.id,a.request.dN,a.request.line],bX n:=by
   simp only[List.forall_mem_cons]
   exact⟨r1,r2,r3,fun _ h=>by cases h⟩
  cases hw:a.request.write with
  | true=>
   rw[hw]at bO
   exact ZZ (u:=uA a a.request.data) rfl (by simp) bZ (by simp) z hw ((ZR a.request.id a.request.dN a.request.line a.request.data).trans (by unfold uA;rw[k1,hw];rfl)) hf bO
  | false=>
   rw[hw]at bO
   exact wD (u:=uA a 0) rfl e1 ON (lp _ (by decide +kernel)) (by decide +kernel) (by simp) bZ (by simp) z hw ((ZQ a.request.id a.request.dN a.request.line 0).trans (by unfold uA;rw[k1,hw];rfl)) hf bO
 have c1:(a.kind==1)=false:=by simpa using k1
 have c2:(a.kind==2)=false:=by simpa using k2
 have c3:(a.kind==3)=false:=by simpa using k3
 have c4:(a.kind==4)=false:=by simpa using k4
 have c6:(a.kind==6)=false:=by simpa using k6
 have no:∀ {u:aL} {ns:List Int},iX a u (ByteArray.mk #[]) ns=some (t,true)->gO t=some (a,true):=fun h=>by
  rw[CX]at h
  have:=congrArg Prod.snd (Option.some.inj h)
  cases this
 by_cases k5:a.kind=5
 ·simp only[k5,show ((5:Int)==1)=false from rfl,show ((5:Int)==2)=false from rfl,show ((5:Int)==4)=false from rfl,show ((5:Int)==3)=false from rfl,show ((5:Int)==6)=false from rfl,show ((5:Int)==5)=true from rfl,cond_true,cond_false]at bO
  by_cases h4:a.aB.weights.length=4
  ·have c:((a.aB.weights.length:Int)==4)=true:=by simp[h4]
   rw[c,cond_true,dif_pos ⟨by omega,by show 0<_;omega⟩,dif_pos ⟨by omega,by show 1<_;omega⟩,dif_pos ⟨by omega,by show 2<_;omega⟩,dif_pos ⟨by omega,by show 3<_;omega⟩]at bO
   have Ic:=four h4
   refine wD (u:=uP a) (ns:=[a.aB.eI,a.aB.cap,a.aB.eJ,a.aB.low,a.aB.high,a.aB.weights[0],a.aB.weights[1],a.aB.weights[2],a.aB.weights[3],a.aB.cw.down,a.aB.cw.sleep]) rfl e7 OS.2.1 (lp _ (by decide +kernel)) (by decide +kernel) (by simp) ?_ (by simp) (show a.aB.weights.length<_ by omega) rfl ?_ hf bO
   ·simp only[List.forall_mem_cons]
    exact⟨p1,p2,p3,p4,p5,p6.2 _ (List.getElem_mem _),p6.2 _ (List.getElem_mem _),p6.2 _ (List.getElem_mem _),p6.2 _ (List.getElem_mem _),p7.1,p7.2,fun _ h=>by cases h⟩
   ·refine(ZW _ _ _ _ _ _ _ _ _ _ _ 0).trans ?_
    rw[<-Ic]
    unfold uP
    rw[k5]
    rfl
  ·have c:((a.aB.weights.length:Int)==4)=false:=by simp;omega
   rw[c,cond_false]at bO
   exact no bO
 have c5:(a.kind==5)=false:=by simpa using k5
 simp only[c1,c2,c3,c4,c5,c6,cond_false]at bO
 exact no bO
theorem Z1(x:aL):iE x x=true:=by
 have h:wB x.aB.weights x.aB.weights=true:=Ou.2 rfl
 simp[iE,pE,h]
def cq{T:Type}(g:T->Int->T×Int):List T->Int->List T×Int
 | [],k=>([],k)
 | x :: l,k=>((g x k).1 :: (cq g l (g x k).2).1,(cq g l (g x k).2).2)
theorem OT{T:Type}(g:T->Int->T×Int)(x:T):∀ (l:List T) (k:Int),cq g (l++[x]) k=((cq g l k).1++[(g x (cq g l k).2).1],(g x (cq g l k).2).2)
 | [],k=>rfl
 | y :: l,k=>by
  rw[List.cons_append]
  unfold cq
  rw[OT g x l]
  rfl
theorem wE{T:Type}(g:T->Int->T×Int):∀ (l:List T) (k:Int),(cq g l k).1.length=l.length
 | [],k=>rfl
 | y :: l,k=>by
  unfold cq
  rw[List.length_cons,List.length_cons,wE g l]
theorem C2{T:Type}(g:T->Int->T×Int)(s:Nat):∀ (l:List T) (k:Int),(∀ x∈l,∀ k,k<=(g x k).2/\(g x k).2<=k+s)->k<=(cq g l k).2/\(cq g l k).2<=k+((s*l.length:Nat):Int)
 | [],k,_=>by simp[cq]
 | y :: l,k,h=>by
  have h1:=h y (.head _) k
  have h2:=C2 g s l (g y k).2 fun x hx=>h x (.tail _ hx)
  have h3:s*(y :: l).length=s*l.length+s:=by rw[List.length_cons,Nat.mul_succ]
  show k<=(cq g l (g y k).2).2/\(cq g l (g y k).2).2<=_
  rw[h3]
  omega
theorem OU{T:Type}(g:T->Int->T×Int)(l:List T)(k:Int){i:Nat}(hi:i<l.length):cq g (l.take (i+1)) k=((cq g (l.take i) k).1++[(g l[i] (cq g (l.take i) k).2).1],(g l[i] (cq g (l.take i) k).2).2):=by
 rw[Ol hi,OT]
theorem OV{T:Type}(g:T->Int->T×Int):∀ (l:List T) (k:Int) (i:Nat) (hi:i<l.length) (hj:i<(cq g l k).1.length),(cq g l k).1[i]=(g l[i] (cq g (l.take i) k).2).1
 | [],k,i,hi,hj=>by simp at hi
 | y :: l,k,0,hi,hj=>rfl
 | y :: l,k,i+1,hi,hj=>OV g l (g y k).2 i (by simpa using hi) (by rw[wE];simpa using hi)
theorem OW{s n i:Nat}(hs:s<=2097154)(hi:i<=n)(hn:n<=1048576):s*i<=2199025352704:=Nat.le_trans (Nat.mul_le_mul hs (Nat.le_trans hi hn)) (by decide)
theorem Z2{T:Type}(g:T->Int->T×Int)(s:Nat)(B:Int)(st:((Unit×Int×Int×Unit)×(List T×Unit))->Option (((Unit×Int×Int×Unit)×(List T×Unit))⊕(((Int×Unit)×(List T×Unit))⊕Empty)))(l:List T)(hl:l.length<=1048576)(hs:s<=2097154)(U:∀ x∈l,∀ k,k<=(g x k).2/\(g x k).2<=k+s)
  (Ie:∀ (a:List T) (i:Nat) (k:Int) (h:i<a.length),i<1048576->a[i]∈l->0<=k->k<=B+2199025352704->st (((),k,(i:Int),()),(a,()))=some (.inl (((),(g a[i] k).2,((i+1:Nat):Int),()),(a.set i (g a[i] k).1,()))))
  (tP:∀ (a:List T) (k:Int),st (((),k,(a.length:Int),()),(a,()))=some (.inr (.inl ((k,()),(a,()))))) (k:Int) (h0:0<=k) (h1:k<=B):iter st big (((),k,(0:Int),()),(l,()))=some (.inl (((cq g l k).2,()),((cq g l k).1,()))):=by
 have e:=iA (step:=st) l.length (fun i=>(((),(cq g (l.take i) k).2,(i:Int),()),((cq g (l.take i) k).1++l.drop i,()))) (.inl (((cq g l k).2,()),((cq g l k).1,()))) big (fun i hi=>by
  have gV:=C2 g s (l.take i) k fun x hx=>U x (List.mem_of_mem_take hx)
  have hm:=OW hs (Nat.le_of_lt hi) hl
  have ht:(l.take i).length=i:=by rw[List.length_take];omega
  have hg:(cq g (l.take i) k).1.length=i:=by rw[wE,ht]
  rw[ht]at gV
  have ha:((cq g (l.take i) k).1++l.drop i).length=l.length:=by rw[List.length_append,hg,List.length_drop];omega
  have hx:((cq g (l.take i) k).1++l.drop i)[i]'(by omega)=l[i]:=by
   rw[List.getElem_append_right (by omega),List.getElem_drop]
   congr 1
   omega
  have hq:=Ie _ i (cq g (l.take i) k).2 (by omega:i<((cq g (l.take i) k).1++l.drop i).length) (by omega) (by rw[hx];exact List.getElem_mem _) (by omega) (by omega)
  rw[hx]at hq
  refine hq.trans ?_
  rw[OU g l k hi,List.set_append_right _ _ (by omega),hg,Nat.sub_self,List.drop_eq_getElem_cons hi,List.set_cons_zero,List.append_assoc]
  rfl) (by
  have hq:=tP (cq g l k).1 (cq g l k).2
  rw[wE]at hq
  rw[List.take_length,List.drop_length,List.append_nil]
  exact hq) (en (by omega))
 exact e
theorem Z3{T:Type}(g:T->Int->T×Int)(s:Nat)(B:Int)(st:((List T×Int×Int×Unit)×Unit)->Option (((List T×Int×Int×Unit)×Unit)⊕(((Int×Unit)×Unit)⊕(((Int×Unit)×Unit)⊕Empty))))(l:List T)(hl:l.length<=1048576)(hs:s<=2097154)(U:∀ x∈l,∀ k,k<=(g x k).2/\(g x k).2<=k+s)
  (Ie:∀ (a:List T) (x:T) (i:Nat) (k:Int) (h:i<a.length),i<1048576->x∈l->a[i]=(g x k).1->0<=k->k<=B+2199025352704->st ((a,k,(i:Int),()),())=some (.inl ((a,(g x k).2,((i+1:Nat):Int),()),())))
  (tP:∀ (a:List T) (k:Int),st ((a,k,(a.length:Int),()),())=some (.inr (.inr (.inl ((k,()),()))))) (k:Int) (h0:0<=k) (h1:k<=B):iter st big (((cq g l k).1,k,(0:Int),()),())=some (.inr (.inl (((cq g l k).2,()),()))):=by
 have e:=iA (step:=st) l.length (fun i=>(((cq g l k).1,(cq g (l.take i) k).2,(i:Int),()),())) (.inr (.inl (((cq g l k).2,()),()))) big (fun i hi=>by
  have gV:=C2 g s (l.take i) k fun x hx=>U x (List.mem_of_mem_take hx)
  have hm:=OW hs (Nat.le_of_lt hi) hl
  have ht:(l.take i).length=i:=by rw[List.length_take];omega
  rw[ht]at gV
  have hg:=wE g l k
  have hq:=Ie (cq g l k).1 l[i] i (cq g (l.take i) k).2 (by omega) (by omega) (List.getElem_mem _) (OV g l k i hi (by omega)) (by omega) (by omega)
  rw[OU g l k hi]
  exact hq) (by
  have hq:=tP (cq g l k).1 (cq g l k).2
  rw[wE]at hq
  rw[List.take_length]
  exact hq) (en (by omega))
 exact e
def lq(_:Int)(k:Int):Int×Int:=(k,k+1)
theorem Ig(x:Int)(k:Int):k<=(lq x k).2/\(lq x k).2<=k+(1:Nat):=by
 unfold lq
 dsimp only
 omega
theorem Z4(l:List Int)(hl:l.length<=1048576)(k:Int)(h0:0<=k)(h1:k<=2305843009213693952):CT l k=some ((cq lq l k).2,((cq lq l k).1,())):=by
 unfold CT
 rw[Z2 lq 1 2305843009213693952 Al l hl (by omega) (fun x _=>Ig x) (fun a i k h hi _ h0 h1=>by
  have c2:0<=(i:Int):=by omega
  unfold Al
  dsimp only
  rw[decide_eq_true (by omega),cond_true]
  simp only[List.length_set,Int.toNat_natCast,c2,h,and_self,dite_true,List.getElem_set_self,List.set_set]
  rw[eP (by omega),dX (n:=k+1) (by omega) (by omega)]
  rfl) (fun a k=>by
  unfold Al
  dsimp only
  rw[decide_eq_false (by omega),cond_false]) k h0 h1]
 rfl
theorem Z5(l:List Int)(hl:l.length<=1048576)(k:Int)(h0:0<=k)(h1:k<=2305843009213693952):CU (cq lq l k).1 k=some (cq lq l k).2:=by
 unfold CU
 rw[Z3 lq 1 2305843009213693952 Am l hl (by omega) (fun x _=>Ig x) (fun a x i k h hi _ hx h0 h1=>by
  have c2:0<=(i:Int):=by omega
  unfold Am
  dsimp only
  rw[decide_eq_true (by omega),cond_true]
  simp only[Int.toNat_natCast,c2,h,and_self,dite_true,hx]
  rw[eP (by omega),dX (n:=k+1) (by omega) (by omega)]
  simp only[lq,bne_self_eq_false,beq_self_eq_true,Bool.not_true,cond_false]) (fun a k=>by
  unfold Am
  dsimp only
  rw[decide_eq_false (by omega),cond_false]) k h0 h1]
 rfl
def iC(l:List Int):List (List UInt8):=l.map fun d=>(cm d).data.toList
theorem Z6:∀ (n:Nat) (l:List UInt8),l.length<=n->(∀ b∈l,jk b)->l.head?≠some 48->dd (bu l).toNat=l:=by
 intro n
 induction n with
 | zero=>
  intro l hl _ _
  have:l=[]:=List.length_eq_zero_iff.1 (by omega)
  subst this
  rfl
 | succ n ih=>
  intro l hl hd hh
  rcases List.eq_nil_or_concat l with rfl | ⟨l',b,rfl⟩
  ·rfl
  ·rw[List.concat_eq_append]at *
   have U:jk b:=hd b (by simp)
   have kK:∀ x∈l',jk x:=fun x hx=>hd x (by simp[hx])
   unfold jk at U
   have hv:=so (l:=l') kK l'.length (Nat.le_refl _)
   rw[List.take_length]at hv
   rw[Au]
   have bI:l'.length<=n:=by simp at hl;omega
   have OX:UInt8.ofNat (48+(b.toNat-48))=b:=by rw[show 48+(b.toNat-48)=b.toNat by omega];exact UInt8.ofNat_toNat
   cases l' with
   | nil=>
    have Z7:b≠48:=by simpa using hh
    have az:b.toNat≠48:=fun e=>Z7 (UInt8.toNat_inj.1 e)
    have e:(bu []*10+((b.toNat:Int)-48)).toNat=b.toNat-48:=by
     show ((0:Int)*10+((b.toNat:Int)-48)).toNat=_
     omega
    rw[e]
    rw[mP (by omega),show (b.toNat-48) / 10=0 by omega,show (b.toNat-48) % 10=b.toNat-48 by omega,OX]
    rfl
   | cons x l'=>
    have wF:=ih (x :: l') bI kK (by simpa using hh)
    have e:(bu (x :: l')*10+((b.toNat:Int)-48)).toNat=(bu (x :: l')).toNat*10+(b.toNat-48):=by omega
    have hn0:(bu (x :: l')).toNat≠0:=by
     intro e0
     rw[e0]at wF
     cases wF
    rw[e]
    rw[mP (by omega),show ((bu (x :: l')).toNat*10+(b.toNat-48)) / 10=(bu (x :: l')).toNat by omega,show ((bu (x :: l')).toNat*10+(b.toNat-48)) % 10=b.toNat-48 by omega,OX,wF]
def uf(l:List UInt8):Bool:=l.all (fun b=>decide (48<=b.toNat)&&decide (b.toNat<=57))&&(decide (0<l.length)&&(decide (l.length=1) || l.head? != some 48))
theorem OY{l:List UInt8}(h:uf l=true):Lib.itoa (bu l)=l:=by
 simp only[uf,Bool.and_eq_true,Bool.or_eq_true,decide_eq_true_eq,List.all_eq_true,bne_iff_ne]at h
 obtain⟨h1,h2,h3⟩:=h
 have hd:∀ b∈l,jk b:=fun b U=>h1 b U
 have hv:=so (l:=l) hd l.length (Nat.le_refl _)
 rw[List.take_length]at hv
 rw[CY hv.1]
 by_cases mZ:l.head?=some 48
 ·have hl:l.length=1:=by
   rcases h3 with h3 | h3
   ·exact h3
   ·exact absurd mZ h3
  obtain⟨x,rfl⟩:=List.length_eq_one_iff.1 hl
  have:x=48:=by simpa using mZ
  subst this
  rfl
 ·have e:=Z6 l.length l (Nat.le_refl _) hd mZ
  by_cases h0:bu l=0
  ·rw[h0]at e
   unfold dd at e
   simp at e
   subst e
   exact absurd h2 (by simp)
  ·rw[if_neg h0,e]
def dx(l:List UInt8):ByteArray:=⟨l.toArray⟩
theorem Z8(l:List UInt8):(dx l).data.toList=l:=rfl
theorem Z9(s:ByteArray):dx s.data.toList=s:=kD rfl
def b6:List UInt8->List UInt8->List (List UInt8)
 | cur,[]=>bif cur.isEmpty then []else [cur]
 | cur,b :: l=>bif b==32 then (bif cur.isEmpty then b6 [] l else cur :: b6 [] l)else b6 (cur++[b]) l
theorem C3:∀ (w cur l:List UInt8),(∀ b∈w,b≠32)->b6 cur (w++l)=b6 (cur++w) l
 | [],cur,l,_=>by rw[List.nil_append,List.append_nil]
 | b :: w,cur,l,h=>by
  have U:(b==32)=false:=by simpa using h b (.head _)
  show (bif b==32 then _ else b6 (cur++[b]) (w++l))=_
  rw[U,cond_false,C3 w (cur++[b]) l (fun x hx=>h x (.tail _ hx)),List.append_assoc]
  rfl
theorem OZ{w:List UInt8}(h:w≠[]):b6 w []=[w]:=by
 cases w with
 | nil=>exact absurd rfl h
 | cons b w=>rfl
theorem O0{w:List UInt8}(h:w≠[])(l:List UInt8):b6 w (32 :: l)=w :: b6 [] l:=by
 cases w with
 | nil=>exact absurd rfl h
 | cons b w=>rfl
theorem O1(l:List UInt8):b6 [] (32 :: l)=b6 [] l:=rfl
def fk(b:UInt8):Bool:=decide (32<=b.toNat)&&decide (b.toNat<=126)
theorem C4:∀ (l cur:List UInt8),(∀ b∈cur,nZ b)->(∀ b∈l,fk b=true)->∀ w∈b6 cur l,w≠[]/\∀ b∈w,nZ b
 | [],cur,hc,_,w,hw=>by
  cases cur with
  | nil=>cases hw
  | cons c cur=>
   obtain rfl:=List.mem_singleton.1 hw
   exact⟨by simp,hc⟩
 | b :: l,cur,hc,hl,w,hw=>by
  have cY:∀ x∈l,fk x=true:=fun x hx=>hl x (.tail _ hx)
  have U:=hl b (.head _)
  simp only[fk,Bool.and_eq_true,decide_eq_true_eq]at U
  change w∈(bif b==32 then (bif cur.isEmpty then b6 [] l else cur :: b6 [] l)else b6 (cur++[b]) l)at hw
  cases h:b==32 with
  | true=>
   rw[h,cond_true]at hw
   cases cur with
   | nil=>exact C4 l [] (fun _ h=>by cases h) cY w hw
   | cons c cur=>
    rcases List.mem_cons.1 hw with rfl | hw
    ·exact⟨by simp,hc⟩
    ·exact C4 l [] (fun _ h=>by cases h) cY w hw
  | false=>
   rw[h,cond_false]at hw
   have az:b.toNat≠32:=fun e=>by
    have:b=32:=UInt8.toNat_inj.1 e
    rw[this]at h
    cases h
   refine C4 l (cur++[b]) (fun x hx=>?_) cY w hw
   rcases List.mem_append.1 hx with hx | hx
   ·exact hc x hx
   ·obtain rfl:=List.mem_singleton.1 hx
    exact⟨by omega,by omega⟩
theorem Ih:∀ (l cur:List UInt8),(b6 cur l).length<=l.length+1
 | [],cur=>by
  show (bif cur.isEmpty then []else [cur]:List (List UInt8)).length<=_
  cases cur.isEmpty <;>simp
 | b :: l,cur=>by
  have h1:=Ih l []
  have h2:=Ih l (cur++[b])
  show (bif b==32 then (bif cur.isEmpty then b6 [] l else cur :: b6 [] l)else b6 (cur++[b]) l:List (List UInt8)).length<=_
  cases b==32 <;>cases cur.isEmpty <;>simp <;>omega
theorem O2:∀ (l:List UInt8),∃ w r,l=w++r/\(∀ b∈w,b≠32)/\(r=[]\/∃ r',r=32 :: r')
 | []=>⟨[],[],rfl,(fun _ h=>by cases h),.inl rfl⟩
 | b :: l=>by
  by_cases U:b=32
  ·subst U
   exact⟨[],32 :: l,rfl,(fun _ h=>by cases h),.inr ⟨l,rfl⟩⟩
  ·obtain⟨w,r,e,h1,h2⟩:=O2 l
   refine⟨b :: w,r,by rw[e];rfl,fun x hx=>?_,h2⟩
   rcases List.mem_cons.1 hx with rfl | hx
   ·exact U
   ·exact h1 x hx
theorem aaa{s:ByteArray}(hs:s.size<=600)(hp:∀ b∈s.data.toList,fk b=true):∀ (n p:Nat) (bQ:List ByteArray) (fuel:Nat),s.size-p<=n->p<=s.size->bQ.length+n<=9000->n<fuel->
  iter iV fuel ((s,(),(p:Int),()),(bQ,()))=some (.inl (((),()),(bQ++(b6 [] (s.data.toList.drop p)).map dx,()))):=by
 have es:s.data.toList.length=s.size:=rfl
 intro n
 induction n with
 | zero=>
  intro p bQ fuel hn hle ho hf
  obtain⟨m,rfl⟩:∃ m,fuel=m+1:=⟨fuel-1,by omega⟩
  have:iV ((s,(),(p:Int),()),(bQ,()))=some (.inr (.inl (((),()),(bQ,())))):=by
   unfold iV
   dsimp only
   rw[decide_eq_false (by omega),cond_false]
  rw[List.drop_of_length_le (by omega)]
  simp only[iter,this]
  show _=some (Sum.inl (((),()),(bQ++[],())))
  rw[List.append_nil]
 | succ n ih=>
  intro p bQ fuel hn hle ho hf
  obtain⟨m,rfl⟩:∃ m,fuel=m+1:=⟨fuel-1,by omega⟩
  by_cases L7:p=s.size
  ·have:iV ((s,(),(p:Int),()),(bQ,()))=some (.inr (.inl (((),()),(bQ,())))):=by
    unfold iV
    dsimp only
    rw[decide_eq_false (by omega),cond_false]
   rw[List.drop_of_length_le (by omega)]
   simp only[iter,this]
   show _=some (Sum.inl (((),()),(bQ++[],())))
   rw[List.append_nil]
  ·have aV:p<s.data.toList.length:=by omega
   have hd:s.data.toList.drop p=s.data.toList[p] :: s.data.toList.drop (p+1):=List.drop_eq_getElem_cons aV
   by_cases U:s.data.toList[p]=32
   ·have st:iV ((s,(),(p:Int),()),(bQ,()))=some (.inl ((s,(),((p+1:Nat):Int),()),(bQ,()))):=by
     unfold iV
     dsimp only
     rw[decide_eq_true (by omega),cond_true,dif_pos ⟨by omega,by omega⟩]
     simp only[Int.toNat_natCast,iB (show p<s.size from aV) aV,U]
     rw[eP (by omega)]
     rfl
    rw[n5 st,ih (p+1) bQ m (by omega) (by omega) (by omega) (by omega),hd,U,O1]
   ·obtain⟨w,r,e,h1,h2⟩:=O2 (s.data.toList.drop p)
    have Ii:w≠[]:=by
     rintro rfl
     rw[List.nil_append]at e
     rcases h2 with h2 | ⟨r',h2⟩
     ·rw[e,h2]at hd;cases hd
     ·rw[e,h2]at hd
      injection hd with hd _
      exact U hd.symm
    have hch:∀ b∈w,nZ b:=fun b O3=>by
     have hm:b∈s.data.toList:=List.mem_of_mem_drop (by rw[e];exact List.mem_append_left _ O3)
     have h3:=hp b hm
     simp only[fk,Bool.and_eq_true,decide_eq_true_eq]at h3
     have h4:b.toNat≠32:=fun e2=>h1 b O3 (UInt8.toNat_inj.1 e2)
     exact⟨by omega,by omega⟩
    have hwl:0<w.length:=List.length_pos_iff.2 Ii
    have bJ:ep (dx w):=⟨by show 0<(dx w).data.toList.length;exact hwl,hch⟩
    have mR:(dx w).size=w.length:=rfl
    have hlen:w.length+r.length=s.size-p:=by
     have:=congrArg List.length e
     rw[List.length_drop,List.length_append]at this
     omega
    have st:=H6 (w:=dx w) (l:=r) (bQ:=bQ) hs e bJ h2 (by omega)
    have bS:s.data.toList.drop (p+w.length)=r:=Av e
    rw[n5 st,mR,ih (p+w.length) (bQ++[dx w]) m (by omega) (by omega) (by rw[List.length_append,List.length_singleton];omega) (by omega),bS,e,C3 w [] r h1,List.nil_append]
    rcases h2 with rfl | ⟨r',rfl⟩
    ·rw[OZ Ii]
     show some (Sum.inl (((),()),((bQ++[dx w])++[],())))=_
     rw[List.append_nil]
     rfl
    ·rw[O0 Ii,O1,List.append_assoc]
     rfl
theorem O4{w:ByteArray}(h:ep w):w.data.toList≠[]/\∀ b∈w.data.toList,b≠32:=by
 refine⟨fun e=>?_,fun b U e=>?_⟩
 ·have h1:=h.1
  have:w.data.toList.length=0:=by rw[e];rfl
  have e2:w.data.toList.length=w.size:=rfl
  omega
 ·have:=h.2 b U
  subst e
  unfold nZ at this
  have e3:(32:UInt8).toNat=32:=rfl
  omega
theorem Ij:∀ (ws:List ByteArray) (w:ByteArray),ep w->(∀ x∈ws,ep x)->b6 [] (w.data.toList++lay ws)=(w :: ws).map (·.data.toList)
 | [],w,hw,_=>by
  obtain⟨h1,h2⟩:=O4 hw
  rw[C3 _ _ _ h2]
  exact OZ h1
 | x :: ws,w,hw,hs=>by
  obtain⟨h1,h2⟩:=O4 hw
  rw[C3 _ _ _ h2]
  show b6 w.data.toList (32 :: (x.data.toList++lay ws))=_
  rw[O0 h1,Ij ws x (hs x (.head _)) (fun y hy=>hs y (.tail _ hy))]
  rfl
theorem Ik:∀ (ws:List ByteArray),(ws.map (·.data.toList)).map dx=ws
 | []=>rfl
 | w :: ws=>by
  show dx w.data.toList :: (ws.map (·.data.toList)).map dx=_
  rw[Z9,Ik ws]
theorem aab{w v:ByteArray}{ws vs:List ByteArray}(hw:ep w)(mR:∀ x∈ws,ep x)(hv:ep v)(cN:∀ x∈vs,ep x)(h:w.data.toList++lay ws=v.data.toList++lay vs):w=v/\ws=vs:=by
 have e:=Ij ws w hw mR
 rw[h,Ij vs v hv cN]at e
 have e2:=congrArg (List.map dx) e
 rw[Ik,Ik]at e2
 injection e2 with e2 e3
 exact⟨e2.symm,e3.symm⟩
theorem O5:∀ (l:List UInt8),l.all fk=false->∃ k,∃ hk:k<l.length,fk l[k]=false/\∀ j (hj:j<k),fk (l[j]'(by omega))=true
 | [],h=>by cases h
 | b :: l,h=>by
  cases U:fk b with
  | false=>exact⟨0,Nat.succ_pos _,U,fun j hj=>absurd hj (by omega)⟩
  | true=>
   rw[List.all_cons,U,Bool.true_and]at h
   obtain⟨k,hk,h1,h2⟩:=O5 l h
   refine⟨k+1,Nat.succ_lt_succ hk,h1,fun j hj=>?_⟩
   cases j with
   | zero=>exact U
   | succ j=>exact h2 j (by omega)
def ug(s:ByteArray):Option (List ByteArray):=bif decide (s.size<=600)&&(s.data.toList.all fk&&decide ((b6 [] s.data.toList).length<=24))then some ((b6 [] s.data.toList).map dx)else none
def kE(s:ByteArray):List ByteArray×Bool:=match ug s with
 | some ws=>(ws,true)
 | none=>([],false)
theorem aac{s:ByteArray}(hs:s.size<=600)(h:s.data.toList.all fk=false):iter nX big ((s,(0:Int),()),())=some (.inl (((),false,()),(([]:List ByteArray),()))):=by
 obtain⟨k,hk,h1,h2⟩:=O5 _ h
 have es:s.data.toList.length=s.size:=rfl
 have e:=iA (step:=nX) k (fun i=>((s,(i:Int),()),())) (.inl (((),false,()),(([]:List ByteArray),()))) big (fun j hj=>by
  have jS:j<s.data.toList.length:=by omega
  have h3:=h2 j hj
  simp only[fk,Bool.and_eq_true,decide_eq_true_eq]at h3
  unfold nX
  dsimp only
  rw[decide_eq_true (by omega),cond_true,dif_pos ⟨by omega,by omega⟩]
  simp only[Int.toNat_natCast,iB (show j<s.size from jS) jS]
  rw[decide_eq_false (by omega),cond_false,dif_pos ⟨by omega,jS⟩,decide_eq_false (by omega),cond_false,eP (by omega)]) (by
  unfold nX
  dsimp only
  rw[decide_eq_true (by omega),cond_true,dif_pos ⟨by omega,by omega⟩]
  simp only[Int.toNat_natCast,iB (show k<s.size from hk) hk]
  cases aV:decide (((s.data.toList[k]).toNat:Int)<32)with
  | true=>rfl
  | false=>
   have aV:=of_decide_eq_false aV
   rw[cond_false,dif_pos ⟨by omega,hk⟩]
   have:decide (((s.data.toList[k]).toNat:Int) > 126)=true:=by
    simp only[fk,Bool.and_eq_false_iff,decide_eq_false_iff_not]at h1
    rw[decide_eq_true_eq]
    omega
   rw[this]
   rfl) (en (by omega))
 rw[Int.natCast_zero]at e
 exact e
theorem Il{s:ByteArray}(h:s.data.toList.all fk=true):∀ b∈s.data.toList,fk b=true:=List.all_eq_true.1 h
theorem Aw(s:ByteArray):tU s=some (kE s):=by
 have es:s.data.toList.length=s.size:=rfl
 unfold tU kE ug
 by_cases hs:s.size<=600
 ·rw[decide_eq_false (by omega),cond_false,decide_eq_true hs,Bool.true_and]
  cases hp:s.data.toList.all fk with
  | false=>
   rw[aac hs hp]
   rfl
  | true=>
   rw[OF hs (fun b U=>by
    have:=Il hp b U
    simp only[fk,Bool.and_eq_true,decide_eq_true_eq]at this
    exact this),bg]
   have e:=aaa hs (Il hp) s.size 0 [] big (by omega) (by omega) (by simp;omega) (en (by omega))
   rw[Int.natCast_zero,List.drop_zero,List.nil_append]at e
   show ((iter iV big ((s,(),(0:Int),()),(([]:List ByteArray),()))).bind _)=_
   rw[e,bg]
   show (bif decide ((((b6 [] s.data.toList).map dx).length:Int) > 24)then some (([]:List ByteArray),false)else some ((b6 [] s.data.toList).map dx,true))=_
   rw[List.length_map,Bool.true_and]
   by_cases kJ:(b6 [] s.data.toList).length<=24
   ·rw[decide_eq_false (by omega),decide_eq_true kJ]
    rfl
   ·rw[decide_eq_true (by omega),decide_eq_false kJ]
    rfl
 ·rw[decide_eq_true (by omega),cond_true,decide_eq_false hs,Bool.false_and]
  rfl
theorem O6{s:ByteArray}{st:Nat}{cur rest:List UInt8}(h:s.data.toList.drop st=cur++rest):s.extract st (st+cur.length)=dx cur:=OC (w:=dx cur) h
theorem aad{s:ByteArray}(hs:s.size<=600):∀ (rest cur:List UInt8) (st:Nat) (bQ:List ByteArray) (fuel:Nat),s.data.toList.drop st=cur++rest->st+cur.length+rest.length=s.size->bQ.length+rest.length<=9000->rest.length+1<fuel->
  iter k8 fuel ((s,(),(st:Int),((st+cur.length:Nat):Int),()),(bQ,()))=some (bif rest.all fk then .inr (.inl (((),()),(bQ++(b6 cur rest).map dx,())))else .inl (((),false,()),(([]:List ByteArray),()))):=by
 have es:s.data.toList.length=s.size:=rfl
 intro rest
 induction rest with
 | nil=>
  intro cur st bQ fuel h hl ho hf
  obtain⟨m,rfl⟩:∃ m,fuel=m+1+1:=⟨fuel-2,by simp at hf;omega⟩
  simp only[List.length_nil,Nat.add_zero]at hl
  rw[hl]
  have last:∀ (o:List ByteArray),k8 ((s,(),((s.size+1:Nat):Int),((s.size+1:Nat):Int),()),(o,()))=some (.inr (.inr (.inl (((),()),(o,()))))):=fun o=>by
   unfold k8
   dsimp only
   rw[decide_eq_false (by omega),cond_false]
  have uh:k8 ((s,(),(st:Int),(s.size:Int),()),(bQ,()))=some (.inl ((s,(),((s.size+1:Nat):Int),((s.size+1:Nat):Int),()),(bQ++(b6 cur []).map dx,()))):=by
   unfold k8
   dsimp only
   rw[decide_eq_true (by omega),cond_true,decide_eq_false (by omega),cond_false,cond_false]
   cases cur with
   | nil=>
    simp only[List.length_nil,Nat.add_zero]at hl
    rw[decide_eq_false (by omega),cond_false,eP (by omega)]
    show _=some (Sum.inl ((s,(),_,_,()),(bQ++[],())))
    rw[List.append_nil]
   | cons c cur=>
    have hc:st<s.size:=by simp only[List.length_cons]at hl;omega
    rw[decide_eq_true (by omega),cond_true,if_pos ⟨by omega,by omega,by omega⟩]
    simp only[Int.toNat_natCast]
    rw[show s.extract st s.size=dx (c :: cur) by rw[<-hl];exact O6 h,kC (by simp at ho ⊢;omega),cond_true,eP (by omega)]
    rfl
  rw[n5 uh]
  simp only[iter,last]
  rfl
 | cons b rest ih=>
  intro cur st bQ fuel h hl ho hf
  obtain⟨m,rfl⟩:∃ m,fuel=m+1:=⟨fuel-1,by omega⟩
  simp only[List.length_cons]at hl ho hf
  have aV:st+cur.length<s.size:=by omega
  obtain⟨h1,h2⟩:=CZ (k:=cur.length) h (by simp)
  rw[List.getElem_append_right (Nat.le_refl _)]at h2
  simp only[Nat.sub_self,List.getElem_cons_zero]at h2
  rw[List.all_cons]
  cases U:fk b with
  | false=>
   have uh:k8 ((s,(),(st:Int),((st+cur.length:Nat):Int),()),(bQ,()))=some (.inr (.inl (((),false,()),(([]:List ByteArray),())))):=by
    unfold k8
    dsimp only
    rw[decide_eq_true (by omega),cond_true,decide_eq_true (by omega),cond_true,dif_pos ⟨by omega,by omega⟩]
    simp only[Int.toNat_natCast,h2]
    cases aV:decide ((b.toNat:Int)<32)with
    | true=>rfl
    | false=>
     have aV:=of_decide_eq_false aV
     rw[cond_false,dif_pos ⟨by omega,h1⟩]
     have:decide ((b.toNat:Int) > 126)=true:=by
      simp only[fk,Bool.and_eq_false_iff,decide_eq_false_iff_not]at U
      rw[decide_eq_true_eq]
      omega
     rw[this]
     rfl
   simp only[iter,uh]
   rfl
  | true=>
   have gV:=U
   simp only[fk,Bool.and_eq_true,decide_eq_true_eq]at gV
   rw[Bool.true_and]
   by_cases qO:b=32
   ·subst qO
    have hd:s.data.toList.drop (st+cur.length+1)=rest:=by
     have:s.data.toList.drop st=(cur++[32])++rest:=by rw[h,List.append_assoc];rfl
     have:=Av this
     rw[List.length_append,List.length_singleton]at this
     exact this
    have uh:k8 ((s,(),(st:Int),((st+cur.length:Nat):Int),()),(bQ,()))=some (.inl ((s,(),((st+cur.length+1:Nat):Int),((st+cur.length+1:Nat):Int),()),(bQ++(b6 cur []).map dx,()))):=by
     unfold k8
     dsimp only
     rw[decide_eq_true (by omega),cond_true,decide_eq_true (by omega),cond_true,dif_pos ⟨by omega,by omega⟩]
     simp only[Int.toNat_natCast,h2]
     rw[decide_eq_false (by decide),cond_false,dif_pos ⟨by omega,h1⟩,decide_eq_false (by decide),cond_false,cond_true,dif_pos ⟨by omega,h1⟩,show (((32:UInt8).toNat:Int) != 32)=false from rfl,cond_false]
     cases cur with
     | nil=>
      simp only[List.length_nil,Nat.add_zero]
      rw[decide_eq_false (by omega),cond_false,eP (by omega)]
      show _=some (Sum.inl ((s,(),_,_,()),(bQ++[],())))
      rw[List.append_nil]
     | cons c cur=>
      rw[decide_eq_true (by simp only[List.length_cons];omega),cond_true,if_pos ⟨by omega,by omega,by omega⟩]
      rw[O6 h,kC (by simp at ho ⊢;omega),cond_true,eP (by omega)]
      rfl
    have wF:=ih [] (st+cur.length+1) (bQ++(b6 cur []).map dx) m (by rw[hd];rfl) (by simp only[List.length_nil];omega) (by
     have:=Ih [] cur
     simp only[List.length_append,List.length_map,List.length_nil]at *
     omega) (by omega)
    rw[n5 uh]
    simp only[List.length_nil,Nat.add_zero]at wF
    rw[wF]
    have ef:b6 cur (32 :: rest)=b6 cur []++b6 [] rest:=by
     cases cur with
     | nil=>rfl
     | cons c cur=>rfl
    rw[ef,List.map_append,List.append_assoc]
   ·have az:b.toNat≠32:=fun e=>qO (UInt8.toNat_inj.1 e)
    have uh:k8 ((s,(),(st:Int),((st+cur.length:Nat):Int),()),(bQ,()))=some (.inl ((s,(),(st:Int),((st+(cur++[b]).length:Nat):Int),()),(bQ,()))):=by
     unfold k8
     dsimp only
     rw[decide_eq_true (by omega),cond_true,decide_eq_true (by omega),cond_true,dif_pos ⟨by omega,by omega⟩]
     simp only[Int.toNat_natCast,h2]
     rw[decide_eq_false (by omega),cond_false,dif_pos ⟨by omega,h1⟩,decide_eq_false (by omega),cond_false,cond_true,dif_pos ⟨by omega,h1⟩,show ((b.toNat:Int) != 32)=true from bne_iff_ne.2 (by omega),cond_true,eP (by omega),List.length_append]
     rfl
    rw[n5 uh,ih (cur++[b]) st bQ m (by rw[h,List.append_assoc];rfl) (by rw[List.length_append,List.length_singleton];omega) (by omega) (by omega)]
    have:b6 cur (b :: rest)=b6 (cur++[b]) rest:=by
     show (bif b==32 then _ else b6 (cur++[b]) rest)=_
     rw[show (b==32)=false from beq_eq_false_iff_ne.2 qO]
     rfl
    rw[this]
theorem Im(s:ByteArray):CH s=some (kE s):=by
 have es:s.data.toList.length=s.size:=rfl
 unfold CH kE ug
 by_cases hs:s.size<=600
 ·rw[decide_eq_false (by omega),cond_false,decide_eq_true hs,Bool.true_and]
  have e:=aad hs s.data.toList [] 0 [] big (by rw[List.drop_zero];rfl) (by simp only[List.length_nil];omega) (by simp only[List.length_nil];omega) (en (by omega))
  simp only[List.length_nil,Nat.add_zero,Int.natCast_zero,List.nil_append]at e
  rw[e,bg]
  cases hp:s.data.toList.all fk with
  | false=>rfl
  | true=>
   show (bif decide ((((b6 [] s.data.toList).map dx).length:Int) > 24)then some (([]:List ByteArray),false)else some ((b6 [] s.data.toList).map dx,true))=_
   rw[List.length_map,Bool.true_and]
   by_cases kJ:(b6 [] s.data.toList).length<=24
   ·rw[decide_eq_false (by omega),decide_eq_true kJ]
    rfl
   ·rw[decide_eq_true (by omega),decide_eq_false kJ]
    rfl
 ·rw[decide_eq_true (by omega),cond_true,decide_eq_false hs,Bool.false_and]
  rfl
theorem aae{s:ByteArray}{ws:List ByteArray}(h:ug s=some ws):(∀ w∈ws,ep w)/\ws.length<=24:=by
 unfold ug at h
 cases hc:(decide (s.size<=600)&&(s.data.toList.all fk&&decide ((b6 [] s.data.toList).length<=24)))with
 | false=>rw[hc]at h;cases h
 | true=>
  rw[hc,cond_true]at h
  injection h with h
  subst h
  simp only[Bool.and_eq_true,decide_eq_true_eq]at hc
  refine⟨fun w hw=>?_,by rw[List.length_map];exact hc.2.2⟩
  obtain⟨l,hl,rfl⟩:=List.mem_map.1 hw
  obtain⟨h1,h2⟩:=C4 _ [] (fun _ h=>by cases h) (Il hc.2.1) l hl
  exact⟨List.length_pos_iff.2 h1,h2⟩
theorem pX(a b:ByteArray):(a.toList==b.toList)=decide (a=b):=by
 rw[Lib.toList_data,Lib.toList_data]
 by_cases h:a=b
 ·subst h
  rw[decide_eq_true rfl,beq_self_eq_true]
 ·rw[decide_eq_false h,beq_eq_false_iff_ne]
  exact fun e=>h (kD e)
def fY(b:UInt8):Bool:=decide (48<=b.toNat)&&decide (b.toNat<=57)
def lu(s:ByteArray):Option Int:=bif uf s.data.toList&&(decide (s.size<=10)&&decide (bu s.data.toList<=1000000000))then some (bu s.data.toList)else none
def jl(s:ByteArray):Int×Bool:=match lu s with
 | some v=>(v,true)
 | none=>(0,false)
theorem Ax(p:UInt8->Bool):∀ (l:List UInt8),l.all p=false->∃ k,∃ hk:k<l.length,p l[k]=false/\∀ j (hj:j<k),p (l[j]'(by omega))=true
 | [],h=>by cases h
 | b :: l,h=>by
  cases U:p b with
  | false=>exact⟨0,Nat.succ_pos _,U,fun j hj=>absurd hj (by omega)⟩
  | true=>
   rw[List.all_cons,U,Bool.true_and]at h
   obtain⟨k,hk,h1,h2⟩:=Ax p l h
   refine⟨k+1,Nat.succ_lt_succ hk,h1,fun j hj=>?_⟩
   cases j with
   | zero=>exact U
   | succ j=>exact h2 j (by omega)
theorem aaf{l:List UInt8}{k:Nat}(hk:k<l.length)(h:∀ j (hj:j<k+1),fY (l[j]'(by omega))=true):∀ b∈l.take (k+1),jk b:=by
 intro b U
 obtain⟨j,hj,rfl⟩:=List.mem_iff_getElem.1 U
 rw[List.length_take]at hj
 have:=h j (by omega)
 simp only[fY,Bool.and_eq_true,decide_eq_true_eq]at this
 rw[List.getElem_take]
 exact this
theorem O7{l:List UInt8}{k:Nat}(hk:k<l.length)(hl:l.length<=10)(h:∀ j (hj:j<k+1),fY (l[j]'(by omega))=true):0<=bu (l.take k)/\bu (l.take k)<1000000000/\48<=l[k].toNat/\l[k].toNat<=57/\bu (l.take (k+1))=bu (l.take k)*10+((l[k].toNat:Int)-48):=by
 have hd:=aaf hk h
 obtain⟨h1,h2⟩:=so hd k (by rw[List.length_take];omega)
 rw[List.take_take,Nat.min_eq_left (by omega)]at h1 h2
 have h3:=h k (by omega)
 simp only[fY,Bool.and_eq_true,decide_eq_true_eq]at h3
 have hp:(10:Int) ^ k<=10 ^ 9:=by
  have:(10:Nat) ^ k<=10 ^ 9:=Nat.pow_le_pow_right (by omega) (by omega)
  exact_mod_cast this
 have p9:(10:Int) ^ 9=1000000000:=rfl
 refine⟨h1,by omega,h3.1,h3.2,?_⟩
 rw[List.take_succ_eq_append_getElem hk,Au]
theorem O8{s:ByteArray}{k:Nat}(hk:k<s.data.toList.length)(hl:s.data.toList.length<=10)(h:∀ j (hj:j<k+1),fY (s.data.toList[j]'(by omega))=true):iW ((s,bu (s.data.toList.take k),(k:Int),()),())=some (.inl ((s,bu (s.data.toList.take (k+1)),((k+1:Nat):Int),()),())):=by
 obtain⟨h1,h2,h3,h4,e⟩:=O7 hk hl h
 have es:s.data.toList.length=s.size:=rfl
 rw[e]
 unfold iW
 dsimp only
 rw[decide_eq_true (by omega),cond_true,dif_pos ⟨by omega,by omega⟩]
 simp only[Int.toNat_natCast,iB (show k<s.size from hk) hk]
 rw[decide_eq_false (by omega),cond_false,dif_pos ⟨by omega,hk⟩,decide_eq_false (by omega),cond_false,dif_pos ⟨by omega,hk⟩,eP (by omega),IntKind.wrap_u8]
 rw[dX (n:=bu (s.data.toList.take k)*10) (by omega) (by omega),dX (n:=((s.data.toList[k].toNat:Int)-48) % 256) (by omega) (by omega),dX (by omega) (by omega)]
 have:((s.data.toList[k].toNat:Int)-48) % 256=(s.data.toList[k].toNat:Int)-48:=by omega
 rw[this]
theorem O9{s:ByteArray}{k:Nat}(hk:k<s.data.toList.length)(hl:s.data.toList.length<=10)(h:∀ j (hj:j<k+1),fY (s.data.toList[j]'(by omega))=true):pR ((s,bu (s.data.toList.take k),(k:Int),()),())=some (.inl ((s,bu (s.data.toList.take (k+1)),((k+1:Nat):Int),()),())):=by
 obtain⟨h1,h2,h3,h4,e⟩:=O7 hk hl h
 have es:s.data.toList.length=s.size:=rfl
 rw[e]
 unfold pR
 dsimp only
 rw[decide_eq_true (by omega),cond_true,dif_pos ⟨by omega,by omega⟩]
 simp only[Int.toNat_natCast,iB (show k<s.size from hk) hk]
 rw[decide_eq_false (by omega),cond_false,dif_pos ⟨by omega,hk⟩,decide_eq_false (by omega),cond_false,dif_pos ⟨by omega,hk⟩,eP (by omega)]
 rw[dX (n:=10*bu (s.data.toList.take k)) (by omega) (by omega),dX (n:=(s.data.toList[k].toNat:Int)) (by omega) (by omega),dX (n:=10*bu (s.data.toList.take k)+(s.data.toList[k].toNat:Int)) (by omega) (by omega),dX (by omega) (by omega)]
 rw[show 10*bu (s.data.toList.take k)+(s.data.toList[k].toNat:Int)-48=bu (s.data.toList.take k)*10+((s.data.toList[k].toNat:Int)-48) by omega]
theorem Pa{b:UInt8}(h:fY b=false)(h1:¬ (b.toNat:Int)<48):(b.toNat:Int) > 57:=by
 simp only[fY,Bool.and_eq_false_iff,decide_eq_false_iff_not]at h
 omega
theorem aag{s:ByteArray}(hl:s.data.toList.length<=10):iter iW big ((s,(0:Int),(0:Int),()),())=some (bif s.data.toList.all fY then .inr (.inl ((bu s.data.toList,()),()))else .inl (((0:Int),false,()),())):=by
 have es:s.data.toList.length=s.size:=rfl
 cases ha:s.data.toList.all fY with
 | true=>
  have e:=iA (step:=iW) s.data.toList.length (fun i=>((s,bu (s.data.toList.take i),(i:Int),()),())) (.inr (.inl ((bu s.data.toList,()),()))) big (fun k h=>O8 h hl (fun j hj=>List.all_eq_true.1 ha _ (List.getElem_mem _))) (by
   unfold iW
   dsimp only
   rw[decide_eq_false (by omega),cond_false,List.take_length]) (en (by omega))
  rw[Int.natCast_zero,List.take_zero]at e
  exact e
 | false=>
  obtain⟨k,hk,h1,h2⟩:=Ax fY _ ha
  have e:=iA (step:=iW) k (fun i=>((s,bu (s.data.toList.take i),(i:Int),()),())) (.inl (((0:Int),false,()),())) big (fun j h=>O8 (by omega) hl (fun i hi=>h2 i (by omega))) (by
   unfold iW
   dsimp only
   rw[decide_eq_true (by omega),cond_true,dif_pos ⟨by omega,by omega⟩]
   simp only[Int.toNat_natCast,iB (show k<s.size from hk) hk]
   cases aV:decide (((s.data.toList[k]).toNat:Int)<48)with
   | true=>rfl
   | false=>
    rw[cond_false,dif_pos ⟨by omega,hk⟩,decide_eq_true (Pa h1 (of_decide_eq_false aV))]
    rfl) (en (by omega))
  rw[Int.natCast_zero,List.take_zero]at e
  exact e
theorem aah{s:ByteArray}(hl:s.data.toList.length<=10):iter pR big ((s,(0:Int),(0:Int),()),())=some (bif s.data.toList.all fY then .inr (.inl ((s,bu s.data.toList,()),()))else .inl (((0:Int),false,()),())):=by
 have es:s.data.toList.length=s.size:=rfl
 cases ha:s.data.toList.all fY with
 | true=>
  have e:=iA (step:=pR) s.data.toList.length (fun i=>((s,bu (s.data.toList.take i),(i:Int),()),())) (.inr (.inl ((s,bu s.data.toList,()),()))) big (fun k h=>O9 h hl (fun j hj=>List.all_eq_true.1 ha _ (List.getElem_mem _))) (by
   unfold pR
   dsimp only
   rw[decide_eq_false (by omega),cond_false,List.take_length]) (en (by omega))
  rw[Int.natCast_zero,List.take_zero]at e
  exact e
 | false=>
  obtain⟨k,hk,h1,h2⟩:=Ax fY _ ha
  have e:=iA (step:=pR) k (fun i=>((s,bu (s.data.toList.take i),(i:Int),()),())) (.inl (((0:Int),false,()),())) big (fun j h=>O9 (by omega) hl (fun i hi=>h2 i (by omega))) (by
   unfold pR
   dsimp only
   rw[decide_eq_true (by omega),cond_true,dif_pos ⟨by omega,by omega⟩]
   simp only[Int.toNat_natCast,iB (show k<s.size from hk) hk]
   cases aV:decide (((s.data.toList[k]).toNat:Int)<48)with
   | true=>rfl
   | false=>
    rw[cond_false,dif_pos ⟨by omega,hk⟩,decide_eq_true (Pa h1 (of_decide_eq_false aV))]
    rfl) (en (by omega))
  rw[Int.natCast_zero,List.take_zero]at e
  exact e
theorem Io{l:List UInt8}(h:l.all fY=true):∀ b∈l,jk b:=fun b U=>by
 have:=List.all_eq_true.1 h b U
 simp only[fY,Bool.and_eq_true,decide_eq_true_eq]at this
 exact this
theorem wG(l:List UInt8):uf l=(l.all fY&&(decide (0<l.length)&&(decide (l.length=1) || l.head? != some 48))):=rfl
theorem aai{s:ByteArray}(h:s.data.toList.all fY=true):uf s.data.toList=decide (cm (bu s.data.toList)=s):=by
 cases hc:uf s.data.toList with
 | true=>
  have e:=OY hc
  rw[decide_eq_true]
  exact kD e
 | false=>
  rw[decide_eq_false]
  intro e
  have e2:Lib.itoa (bu s.data.toList)=s.data.toList:=congrArg (·.data.toList) e
  have hv:=so (Io h) _ (Nat.le_refl _)
  rw[List.take_length]at hv
  rw[CY hv.1]at e2
  rw[wG,h,Bool.true_and,<-e2]at hc
  by_cases h0:bu s.data.toList=0
  ·rw[if_pos h0]at hc
   cases hc
  ·rw[if_neg h0]at hc
   have hh:=Oz (bu s.data.toList).toNat
   have hn:dd (bu s.data.toList).toNat≠[]:=by rw[mP (by omega)];simp
   rw[decide_eq_true (List.length_pos_iff.2 hn),Bool.true_and,bne_iff_ne.2 hh,Bool.or_true]at hc
   cases hc
theorem Pb(s:ByteArray):tV s=some (jl s):=by
 have es:s.data.toList.length=s.size:=rfl
 unfold tV jl lu
 rw[Ow]
 by_cases h0:s.size=0
 ·rw[show ((s.size:Int)==0)=true from beq_iff_eq.2 (by omega),cond_true,wG,decide_eq_false (by omega:¬ 0<s.data.toList.length)]
  simp
 rw[show ((s.size:Int)==0)=false from beq_eq_false_iff_ne.2 (by omega),cond_false]
 by_cases hl:s.size<=10
 ·have tl:∀ (mZ:1<s.size->s.data.toList.head?≠some 48),(iter iW big ((s,(0:Int),(0:Int),()),())).bind (Sum.elim (fun z5=>some (z5.1.1,z5.1.2.1)) (Sum.elim (fun z6=>bif (decide (z6.1.1 > (1000000000:Int)))then some ((0:Int),false)else some (z6.1.1,true)) (fun z=>nomatch z)))=some (jl s):=fun mZ=>by
   unfold jl lu
   rw[aag (by omega),bg,wG,decide_eq_true (by omega:0<s.data.toList.length),Bool.true_and]
   have:(decide (s.data.toList.length=1) || s.data.toList.head? != some 48)=true:=by
    rw[Bool.or_eq_true,decide_eq_true_eq,bne_iff_ne]
    by_cases h1:1<s.size
    ·exact .inr (mZ h1)
    ·exact .inl (by omega)
   rw[this,Bool.and_true,decide_eq_true hl,Bool.true_and]
   cases s.data.toList.all fY with
   | false=>rfl
   | true=>
    show (bif (decide (bu s.data.toList > 1000000000))then some ((0:Int),false)else some (bu s.data.toList,true))=_
    by_cases hv:bu s.data.toList<=1000000000
    ·rw[decide_eq_false (by omega),decide_eq_true hv]
     rfl
    ·rw[decide_eq_true (by omega),decide_eq_false hv]
     rfl
  unfold jl lu at tl
  rw[decide_eq_false (by omega),cond_false]
  by_cases h1:1<s.size
  ·rw[decide_eq_true (by omega),cond_true,dif_pos ⟨by omega,by show 0<s.size;omega⟩]
   have h3:s[(0:Int).toNat]'(by show 0<s.size;omega)=s.data.toList[0]'(by omega):=iB (by omega) (by omega)
   have hh:s.data.toList.head?=some (s.data.toList[0]'(by omega)):=by
    rw[List.head?_eq_getElem?,List.getElem?_eq_getElem]
   rw[h3]
   by_cases h4:s.data.toList[0]'(by omega)=48
   ·rw[wG,decide_eq_false (by omega:¬ s.data.toList.length=1),hh,h4]
    simp
   ·have:(((s.data.toList[0]'(by omega)).toNat:Int)==48)=false:=beq_eq_false_iff_ne.2 (fun e=>h4 (UInt8.toNat_inj.1 (by rw[show (48:UInt8).toNat=48 from rfl];omega)))
    rw[this,cond_false]
    exact tl (fun _=>by rw[hh];exact fun e=>h4 (Option.some.inj e))
  ·rw[decide_eq_false (by omega),cond_false]
   exact tl (fun h=>absurd h h1)
 ·rw[decide_eq_true (by omega),cond_true,decide_eq_false hl]
  simp
theorem aaj(s:ByteArray):CI s=some (jl s):=by
 have es:s.data.toList.length=s.size:=rfl
 unfold CI jl lu
 by_cases hl:s.size<=10
 ·rw[decide_eq_false (by omega),cond_false,aah (by omega),bg,decide_eq_true hl,Bool.true_and]
  cases ha:s.data.toList.all fY with
  | false=>
   rw[wG,ha]
   rfl
  | true=>
   show (bif (decide (bu s.data.toList > 1000000000))then some ((0:Int),false)else (wh (bu s.data.toList)).bind fun y6=>bif (!(y6.toList==s.toList))then some ((0:Int),false)else some (bu s.data.toList,true))=_
   have jx:=(so (Io ha) _ (Nat.le_refl _)).1
   rw[List.take_length]at jx
   by_cases hv:bu s.data.toList<=1000000000
   ·rw[decide_eq_false (by omega),cond_false,Y6 (by omega) (by omega),bg,pX,aai ha,decide_eq_true hv,Bool.and_true]
    cases decide (cm (bu s.data.toList)=s) <;>rfl
   ·rw[decide_eq_true (by omega),decide_eq_false hv,Bool.and_false]
    rfl
 ·rw[decide_eq_true (by omega),cond_true,decide_eq_false hl]
  simp
theorem Pc{s:ByteArray}{n:Int}(h:lu s=some n):s=cm n/\0<=n/\n<=1000000000:=by
 unfold lu at h
 cases hc:(uf s.data.toList&&(decide (s.size<=10)&&decide (bu s.data.toList<=1000000000)))with
 | false=>rw[hc]at h;cases h
 | true=>
  rw[hc,cond_true]at h
  injection h with h
  subst h
  simp only[Bool.and_eq_true,decide_eq_true_eq]at hc
  have e:=OY hc.1
  have hd:s.data.toList.all fY=true:=by
   have:=hc.1
   rw[wG,Bool.and_eq_true]at this
   exact this.1
  have jx:=(so (Io hd) _ (Nat.le_refl _)).1
  rw[List.take_length]at jx
  exact⟨kD e.symm,jx,hc.2.2⟩
theorem aak{n:Int}(h0:0<=n)(h1:n<=1000000000):lu (cm n)=some n:=by
 have e:=OB h0 h1
 rw[Pb]at e
 unfold jl at e
 cases h:lu (cm n)with
 | none=>rw[h]at e;cases e
 | some v=>
  rw[h]at e
  injection e with e
  injection e with e
  rw[e]
def gP(b:UInt8):Int:=bif decide (48<=b.toNat)&&decide (b.toNat<=57)then (b.toNat:Int)-48 else bif decide (97<=b.toNat)&&decide (b.toNat<=102)then (b.toNat:Int)-87 else -1
def fO(b:UInt8):Bool:=(decide (48<=b.toNat)&&decide (b.toNat<=57)) || (decide (97<=b.toNat)&&decide (b.toNat<=102))
theorem Ay{b:UInt8}(h:fO b=true):0<=gP b/\gP b<16:=by
 simp only[fO,Bool.or_eq_true,Bool.and_eq_true,decide_eq_true_eq]at h
 unfold gP
 by_cases h1:48<=b.toNat/\b.toNat<=57
 ·rw[decide_eq_true h1.1,decide_eq_true h1.2]
  show 0<=(b.toNat:Int)-48/\(b.toNat:Int)-48<16
  omega
 ·have h2:97<=b.toNat/\b.toNat<=102:=by omega
  rw[decide_eq_false (by omega:¬ b.toNat<=57),Bool.and_false,cond_false,decide_eq_true h2.1,decide_eq_true h2.2]
  show 0<=(b.toNat:Int)-87/\(b.toNat:Int)-87<16
  omega
theorem Pd{b:UInt8}(h:fO b=false):gP b = -1:=by
 simp only[fO,Bool.or_eq_false_iff]at h
 unfold gP
 rw[h.1,h.2]
 rfl
theorem aal{b:UInt8}(h:fO b=true):UInt8.ofNat (mQ (gP b)).toNat=b:=by
 simp only[fO,Bool.or_eq_true,Bool.and_eq_true,decide_eq_true_eq]at h
 have e:(mQ (gP b)).toNat=b.toNat:=by
  unfold gP mQ
  by_cases h1:48<=b.toNat/\b.toNat<=57
  ·rw[decide_eq_true h1.1,decide_eq_true h1.2]
   show (if (b.toNat:Int)-48<10 then 48+((b.toNat:Int)-48)else 87+((b.toNat:Int)-48)).toNat=_
   rw[if_pos (by omega)]
   omega
  ·have h2:97<=b.toNat/\b.toNat<=102:=by omega
   rw[decide_eq_false (by omega:¬ b.toNat<=57),Bool.and_false,cond_false,decide_eq_true h2.1,decide_eq_true h2.2]
   show (if (b.toNat:Int)-87<10 then 48+((b.toNat:Int)-87)else 87+((b.toNat:Int)-87)).toNat=_
   rw[if_neg (by omega)]
   omega
 rw[e]
 exact UInt8.ofNat_toNat
theorem aam:∀ n:Nat,n<256->CJ (n:Int)=some (gP (UInt8.ofNat n)):=by decide +kernel
theorem aan:∀ n:Nat,n<256->Aa (ByteArray.mk #[48,49,50,51,52,53,54,55,56,57,97,98,99,100,101,102]) (n:Int)=some (gP (UInt8.ofNat n)):=by decide +kernel
theorem Pe(b:UInt8):CJ (b.toNat:Int)=some (gP b):=by
 have:=aam b.toNat b.toNat_lt
 rwa [UInt8.ofNat_toNat]at this
theorem Pf(b:UInt8):Aa (ByteArray.mk #[48,49,50,51,52,53,54,55,56,57,97,98,99,100,101,102]) (b.toNat:Int)=some (gP b):=by
 have:=aan b.toNat b.toNat_lt
 rwa [UInt8.ofNat_toNat]at this
def bA(l:List UInt8):Int:=l.foldl (fun a b=>a*16+gP b) 0
theorem C5(l:List UInt8)(b:UInt8):bA (l++[b])=bA l*16+gP b:=by simp[bA,List.foldl_append]
theorem Ip{l:List UInt8}(h:∀ j (hj:j<l.length),fO l[j]=true):∀ k,k<=l.length->0<=bA (l.take k)/\bA (l.take k)<16 ^ k
 | 0,_=>by simp[bA]
 | k+1,hk=>by
  obtain⟨h1,h2⟩:=Ip h k (by omega)
  obtain⟨h3,h4⟩:=Ay (h k (by omega))
  rw[List.take_succ_eq_append_getElem (by omega),C5,Int.pow_succ]
  omega
theorem Pg{l:List UInt8}{k:Nat}(hk:k<l.length)(hl:l.length=8)(h:∀ j (hj:j<k+1),fO (l[j]'(by omega))=true):0<=bA (l.take k)/\bA (l.take k)<268435456/\0<=gP l[k]/\gP l[k]<16/\bA (l.take (k+1))=bA (l.take k)*16+gP l[k]:=by
 obtain⟨h1,h2⟩:=Ip (l:=l.take (k+1)) (fun j hj=>by
  rw[List.length_take]at hj
  rw[List.getElem_take]
  exact h j (by omega)) k (by rw[List.length_take];omega)
 rw[List.take_take,Nat.min_eq_left (by omega)]at h1 h2
 obtain⟨h3,h4⟩:=Ay (h k (by omega))
 have hp:(16:Int) ^ k<=16 ^ 7:=by
  have:(16:Nat) ^ k<=16 ^ 7:=Nat.pow_le_pow_right (by omega) (by omega)
  exact_mod_cast this
 have p9:(16:Int) ^ 7=268435456:=rfl
 refine⟨h1,by omega,h3,h4,?_⟩
 rw[List.take_succ_eq_append_getElem hk,C5]
theorem Ph{s:ByteArray}{k:Nat}(hk:k<s.data.toList.length)(hl:s.data.toList.length=8)(h:∀ j (hj:j<k+1),fO (s.data.toList[j]'(by omega))=true):lX ((s,bA (s.data.toList.take k),(k:Int),()),())=some (.inl ((s,bA (s.data.toList.take (k+1)),((k+1:Nat):Int),()),())):=by
 obtain⟨h1,h2,h3,h4,e⟩:=Pg hk hl h
 have es:s.data.toList.length=s.size:=rfl
 rw[e]
 unfold lX
 dsimp only
 rw[decide_eq_true (by omega),cond_true,dif_pos ⟨by omega,by omega⟩]
 simp only[Int.toNat_natCast,iB (show k<s.size from hk) hk]
 rw[Pf,bg,decide_eq_false (by omega),cond_false,show (2:Int) ^ (min (4:Int).toNat IntKind.i64.bits)=16 from rfl,dX (by omega) (by omega),Iy _ _ (by omega) (by omega) (by omega) (by omega),eP (by omega),Int.mul_comm 16]
theorem Pj{s:ByteArray}{k:Nat}(hk:k<s.data.toList.length)(hl:s.data.toList.length=8)(h:∀ j (hj:j<k+1),fO (s.data.toList[j]'(by omega))=true):pS ((s,bA (s.data.toList.take k),(k:Int),()),())=some (.inl ((s,bA (s.data.toList.take (k+1)),((k+1:Nat):Int),()),())):=by
 obtain⟨h1,h2,h3,h4,e⟩:=Pg hk hl h
 have es:s.data.toList.length=s.size:=rfl
 rw[e]
 unfold pS
 dsimp only
 rw[decide_eq_true (by omega),cond_true,dif_pos ⟨by omega,by omega⟩]
 simp only[Int.toNat_natCast,iB (show k<s.size from hk) hk]
 rw[Pe,bg,decide_eq_false (by omega),cond_false,dX (n:=bA (s.data.toList.take k)*16) (by omega) (by omega),dX (by omega) (by omega),eP (by omega)]
theorem aao{s:ByteArray}(hl:s.data.toList.length=8):iter lX big ((s,(0:Int),(0:Int),()),())=some (bif s.data.toList.all fO then .inr (.inl ((bA s.data.toList,()),()))else .inl (((0:Int),false,()),())):=by
 have es:s.data.toList.length=s.size:=rfl
 cases ha:s.data.toList.all fO with
 | true=>
  have e:=iA (step:=lX) s.data.toList.length (fun i=>((s,bA (s.data.toList.take i),(i:Int),()),())) (.inr (.inl ((bA s.data.toList,()),()))) big (fun k h=>Ph h hl (fun j hj=>List.all_eq_true.1 ha _ (List.getElem_mem _))) (by
   unfold lX
   dsimp only
   rw[decide_eq_false (by omega),cond_false,List.take_length]) (en (by omega))
  rw[Int.natCast_zero,List.take_zero]at e
  exact e
 | false=>
  obtain⟨k,hk,h1,h2⟩:=Ax fO _ ha
  have e:=iA (step:=lX) k (fun i=>((s,bA (s.data.toList.take i),(i:Int),()),())) (.inl (((0:Int),false,()),())) big (fun j h=>Ph (by omega) hl (fun i hi=>h2 i (by omega))) (by
   unfold lX
   dsimp only
   rw[decide_eq_true (by omega),cond_true,dif_pos ⟨by omega,by omega⟩]
   simp only[Int.toNat_natCast,iB (show k<s.size from hk) hk]
   rw[Pf,bg,Pd h1]
   rfl) (en (by omega))
  rw[Int.natCast_zero,List.take_zero]at e
  exact e
theorem aap{s:ByteArray}(hl:s.data.toList.length=8):iter pS big ((s,(0:Int),(0:Int),()),())=some (bif s.data.toList.all fO then .inr (.inl ((bA s.data.toList,()),()))else .inl (((0:Int),false,()),())):=by
 have es:s.data.toList.length=s.size:=rfl
 cases ha:s.data.toList.all fO with
 | true=>
  have e:=iA (step:=pS) s.data.toList.length (fun i=>((s,bA (s.data.toList.take i),(i:Int),()),())) (.inr (.inl ((bA s.data.toList,()),()))) big (fun k h=>Pj h hl (fun j hj=>List.all_eq_true.1 ha _ (List.getElem_mem _))) (by
   unfold pS
   dsimp only
   rw[decide_eq_false (by omega),cond_false,List.take_length]) (en (by omega))
  rw[Int.natCast_zero,List.take_zero]at e
  exact e
 | false=>
  obtain⟨k,hk,h1,h2⟩:=Ax fO _ ha
  have e:=iA (step:=pS) k (fun i=>((s,bA (s.data.toList.take i),(i:Int),()),())) (.inl (((0:Int),false,()),())) big (fun j h=>Pj (by omega) hl (fun i hi=>h2 i (by omega))) (by
   unfold pS
   dsimp only
   rw[decide_eq_true (by omega),cond_true,dif_pos ⟨by omega,by omega⟩]
   simp only[Int.toNat_natCast,iB (show k<s.size from hk) hk]
   rw[Pe,bg,Pd h1]
   rfl) (en (by omega))
  rw[Int.natCast_zero,List.take_zero]at e
  exact e
def n6(s:ByteArray):Option Int:=bif decide (s.size=8)&&s.data.toList.all fO then some (bA s.data.toList)else none
def pY(s:ByteArray):Int×Bool:=match n6 s with
 | some v=>(v,true)
 | none=>(0,false)
theorem Pk(s:ByteArray):wm s=some (pY s):=by
 have es:s.data.toList.length=s.size:=rfl
 unfold wm pY n6
 by_cases h8:s.size=8
 ·rw[show ((s.size:Int) != 8)=false by rw[h8];rfl,cond_false,aao (by omega),bg,decide_eq_true h8,Bool.true_and]
  cases s.data.toList.all fO <;>rfl
 ·rw[show ((s.size:Int) != 8)=true from bne_iff_ne.2 (by omega),cond_true,decide_eq_false h8]
  rfl
theorem aaq(s:ByteArray):CK s=some (pY s):=by
 have es:s.data.toList.length=s.size:=rfl
 unfold CK pY n6
 by_cases h8:s.size=8
 ·rw[show ((s.size:Int) != 8)=false by rw[h8];rfl,cond_false,aap (by omega),bg,decide_eq_true h8,Bool.true_and]
  cases s.data.toList.all fO <;>rfl
 ·rw[show ((s.size:Int) != 8)=true from bne_iff_ne.2 (by omega),cond_true,decide_eq_false h8]
  rfl
theorem aar(l:List UInt8){k:Nat}(hk:k<l.length)(h:∀ j (hj:j<l.length),fO l[j]=true)(n:Nat)(hn:bA l=(n:Int))(m:Nat)(hm:k+1+m=l.length):n / 16 ^ m % 16=(gP l[k]).toNat:=by
 have key:∀ m k,k+m=l.length->((n / 16 ^ m:Nat):Int)=bA (l.take k):=by
  intro m
  induction m with
  | zero=>
   intro k hk
   rw[Nat.pow_zero,Nat.div_one,<-hn,List.take_of_length_le (by omega)]
  | succ m ih=>
   intro k hk
   have e:=ih (k+1) (by omega)
   have U:=Ay (h k (by omega))
   rw[List.take_succ_eq_append_getElem (by omega:k<l.length),C5]at e
   rw[Nat.pow_succ,<-Nat.div_div_eq_div_mul]
   omega
 have e1:=key m (k+1) hm
 have U:=Ay (h k hk)
 rw[List.take_succ_eq_append_getElem hk,C5]at e1
 omega
theorem Pm{s:ByteArray}{x:Int}(h:n6 s=some x):s=cV x/\0<=x/\x<=4294967295:=by
 have es:s.data.toList.length=s.size:=rfl
 unfold n6 at h
 cases hc:(decide (s.size=8)&&s.data.toList.all fO)with
 | false=>rw[hc]at h;cases h
 | true=>
  rw[hc,cond_true]at h
  injection h with h
  simp only[Bool.and_eq_true,decide_eq_true_eq]at hc
  have ha:∀ j (hj:j<s.data.toList.length),fO s.data.toList[j]=true:=fun j hj=>List.all_eq_true.1 hc.2 _ (List.getElem_mem hj)
  obtain⟨h0,h1⟩:=Ip ha 8 (by omega)
  rw[List.take_of_length_le (by omega)]at h0 h1
  have p8:(16:Int) ^ 8=4294967296:=rfl
  rw[h]at h0 h1
  refine⟨?_,h0,by omega⟩
  obtain⟨n,rfl⟩:=Int.eq_ofNat_of_zero_le h0
  unfold cV
  rw[ud.2 ⟨h0,by omega⟩,cond_true]
  refine kD (List.ext_getElem ?_ fun k hk Cm=>?_)
  ·show s.size=(gp (n:Int)).size
   unfold gp
   rw[wA,Ap,hc.1]
  ·have Pn:k<(gp (n:Int)).size:=Cm
   have e:=OJ (x:=n) (k:=k) (by omega) Pn
   rw[iB Pn Cm]at e
   have hd:n / 2 ^ (28-4*k) % 16=(gP s.data.toList[k]).toNat:=by
    have:=aar s.data.toList hk ha n h (7-k) (by omega)
    rw[<-this,show (16:Nat)=2 ^ 4 from rfl,<-Nat.pow_mul,show 28-4*k=4*(7-k) by omega]
   have U:=Ay (ha k hk)
   rw[e,OI (by omega) (by omega),hd,Int.toNat_of_nonneg U.1,aal (ha k hk)]
theorem aas{x:Int}(h0:0<=x)(h1:x<=4294967295):n6 (cV x)=some x:=by
 have e:=OK h0 h1
 rw[Pk]at e
 unfold pY at e
 cases h:n6 (cV x)with
 | none=>rw[h]at e;cases e
 | some v=>
  rw[h]at e
  injection e with e
  injection e with e
  rw[e]
def kF:aL:=⟨0,zR,0,0,⟨0,0,0⟩,zP⟩
def n7(w:ByteArray)(a b c d e f g h i j k:Int):aL×Int:=
 bif w.toList==gq.toList then (⟨1,⟨a,b,c,false,0,0⟩,0,0,⟨0,0,0⟩,zP⟩,3)else
 bif w.toList==bh.toList then (⟨1,⟨a,b,c,true,d,0⟩,0,0,⟨0,0,0⟩,zP⟩,4)else
 bif w.toList==gu.toList then (⟨2,zR,a,0,⟨0,0,0⟩,zP⟩,1)else
 bif w.toList==fX.toList then (⟨4,zR,a,0,⟨0,0,0⟩,zP⟩,1)else
 bif w.toList==fN.toList then (⟨3,zR,e,d,⟨a,b,c⟩,zP⟩,5)else
 bif w.toList==fh.toList then (⟨6,zR,0,0,⟨a,b,0⟩,zP⟩,2)else
 bif w.toList==fj.toList then (⟨5,zR,0,0,⟨0,0,0⟩,⟨a,b,c,d,e,[f,g,h,i],⟨j,k⟩⟩⟩,11)else (kF,-1)
def dH(w:ByteArray)(l:List Int):aL×Int:=n7 w (l.getD 0 0) (l.getD 1 0) (l.getD 2 0) (l.getD 3 0) (l.getD 4 0) (l.getD 5 0) (l.getD 6 0) (l.getD 7 0) (l.getD 8 0) (l.getD 9 0) (l.getD 10 0)
theorem Po{l:List Int}(h:l.length=11):∃ a b c d e f g x i j k,l=[a,b,c,d,e,f,g,x,i,j,k]:=by
 rcases l with _ | ⟨a,_ | ⟨b,_ | ⟨c,_ | ⟨d,_ | ⟨e,_ | ⟨f,_ | ⟨g,_ | ⟨x,_ | ⟨i,_ | ⟨j,_ | ⟨k,_ | ⟨m,l⟩⟩⟩⟩⟩⟩⟩⟩⟩⟩⟩⟩ <;>first | exact⟨_,_,_,_,_,_,_,_,_,_,_,rfl⟩ | (simp at h)
theorem aat(w:ByteArray){ns:List Int}(h:ns.length<=11):iter wj big ((w,(),(),()),(ns,z21,([]:List Int),()))=some (.inl ((w,(),(),()),(cM ns ns.length,z21,([]:List Int),()))):=by
 have e:=iA (step:=wj) (11-ns.length) (fun i=>((w,(),(),()),(ns++List.replicate i (0:Int),z21,([]:List Int),()))) (.inl ((w,(),(),()),(cM ns ns.length,z21,([]:List Int),()))) big (fun k hk=>by
  have hl:(ns++List.replicate k (0:Int)).length=ns.length+k:=by simp
  unfold wj
  dsimp only
  rw[decide_eq_true (by omega),cond_true,kC (by rw[hl];simp;omega),cond_true,List.append_assoc,List.replicate_succ']) (by
  have hl:(ns++List.replicate (11-ns.length) (0:Int)).length=11:=by simp;omega
  unfold wj
  dsimp only
  rw[decide_eq_false (by omega),cond_false]
  unfold cM
  rw[List.take_length]) (en (by omega))
 rw[List.replicate_zero,List.append_nil]at e
 exact e
theorem aau(w:ByteArray){ns:List Int}(h:ns.length<=11):Ac w ns=some (dH w (cM ns ns.length),([],())):=by
 unfold Ac
 refine(congrArg (fun o=>Option.bind o _) (aat w h)).trans ?_
 rw[bg]
 obtain⟨a,b,c,d,e,f,g,x,i,j,k,b7⟩:=Po (H9 (Nat.le_refl ns.length) h)
 rw[b7]
 simp only[Sum.elim_inl]
 unfold dH n7 gq bh gu fX fN fh fj
 generalize (w.toList==(ByteArray.mk #[114,101,97,100]).toList)=t1
 generalize (w.toList==(ByteArray.mk #[119,114,105,116,101]).toList)=t2
 generalize (w.toList==(ByteArray.mk #[119,97,105,116]).toList)=t3
 generalize (w.toList==(ByteArray.mk #[104,101,97,116]).toList)=t4
 generalize (w.toList==(ByteArray.mk #[102,108,105,112]).toList)=t5
 generalize (w.toList==(ByteArray.mk #[114,101,116,105,114,101]).toList)=t6
 generalize (w.toList==(ByteArray.mk #[112,111,108,105,99,121]).toList)=t7
 cases t1 with
 | true=>rfl
 | false=>
  cases t2 with
  | true=>rfl
  | false=>
   cases t3 with
   | true=>rfl
   | false=>
    cases t4 with
    | true=>rfl
    | false=>
     cases t5 with
     | true=>rfl
     | false=>
      cases t6 with
      | true=>rfl
      | false=>
       cases t7 with
       | true=>rfl
       | false=>rfl
def mS(w e:ByteArray)(i:Nat):Option Int:=bif (w.toList==bh.toList)&&Nat.beq i 4 then n6 e else lu e
def jm(w:ByteArray):Nat->List ByteArray->Option (List Int)
 | _,[]=>some []
 | i,e :: l=>match mS w e i with
  | none=>none
  | some v=>(jm w (i+1) l).map (v :: ·)
theorem Pp(w:ByteArray):∀ (l:List ByteArray) (i:Nat) (vs:List Int),jm w i l=some vs->vs.length=l.length
 | [],i,vs,h=>by
  injection h with h
  subst h
  rfl
 | e :: l,i,vs,h=>by
  unfold jm at h
  cases h1:mS w e i with
  | none=>rw[h1]at h;cases h
  | some v=>
   rw[h1]at h
   simp only[]at h
   cases h2:jm w (i+1) l with
   | none=>rw[h2]at h;cases h
   | some us=>
    rw[h2]at h
    injection h with h
    subst h
    rw[List.length_cons,List.length_cons,Pp w l (i+1) us h2]
def aav(ws:List ByteArray)(iC:List Int):Option (List Int)->((Unit×Bool×Unit)×((Int×Int×Int×Int×Bool×Int×Int×Int×Int×Int×Int×Int×Int×Int×Int×Int×Int×Unit×Int×Int×Unit)×(List Int)×Unit))⊕(((Unit×Unit×Unit×Unit)×((Int×Int×Int×Int×Bool×Int×Int×Int×Int×Int×Int×Int×Int×Int×Int×Int×Int×Unit×Int×Int×Unit)×(List ByteArray)×(List Int)×(List Int)×Unit))⊕Empty)
 | some vs=>.inr (.inl (((),(),(),()),(z21,ws,iC++vs,([]:List Int),())))
 | none=>.inl (((),false,()),(z21,([]:List Int),()))
theorem aaw{w:ByteArray}{bs:List ByteArray}(hl:bs.length<=11):∀ (rest:List ByteArray) (i:Nat) (iC:List Int) (fuel:Nat),(w :: bs).drop i=rest->i+rest.length=bs.length+1->iC.length<=i->rest.length<fuel->
  iter tT fuel (((),(),(),(i:Int),()),(z21,w :: bs,iC,([]:List Int),()))=some (aav (w :: bs) iC (jm w i rest)):=by
 have OM:(w :: bs).length=bs.length+1:=rfl
 intro rest
 induction rest with
 | nil=>
  intro i iC fuel hd hi hn hf
  obtain⟨m,rfl⟩:∃ m,fuel=m+1:=⟨fuel-1,by omega⟩
  have st:tT (((),(),(),(i:Int),()),(z21,w :: bs,iC,([]:List Int),()))=some (.inr (.inr (.inl (((),(),(),()),(z21,w :: bs,iC,([]:List Int),()))))):=by
   unfold tT
   dsimp only
   simp only[List.length_nil]at hi
   rw[decide_eq_false (by omega),cond_false]
  simp only[iter,st]
  show _=some (Sum.inr (Sum.inl (((),(),(),()),(z21,w :: bs,iC++[],([]:List Int),()))))
  rw[List.append_nil]
 | cons e rest ih=>
  intro i iC fuel hd hi hn hf
  obtain⟨m,rfl⟩:∃ m,fuel=m+1:=⟨fuel-1,by omega⟩
  simp only[List.length_cons]at hi hf
  have aV:i<(w :: bs).length:=by omega
  have eZ:=List.drop_eq_getElem_cons aV
  rw[eZ]at hd
  injection hd with he hd
  have st:tT (((),(),(),(i:Int),()),(z21,w :: bs,iC,([]:List Int),()))=some (match mS w e i with
    | some v=>.inl (((),(),(),((i+1:Nat):Int),()),(z21,w :: bs,iC++[v],([]:List Int),()))
    | none=>.inr (.inl (((),false,()),(z21,([]:List Int),())))):=by
   unfold tT
   dsimp only
   rw[decide_eq_true (by omega),cond_true,dif_pos ⟨by omega,by omega⟩,dif_pos (by omega)]
   simp only[Int.toNat_natCast,he]
   rw[aaj,bg,dif_pos ⟨by omega,by show 0<_;omega⟩,dif_pos (by show 0<_;omega)]
   rw[show (w :: bs)[(0:Int).toNat]'(by show 0<_;omega)=w from rfl,show (ByteArray.mk #[119,114,105,116,101])=bh from rfl]
   unfold mS
   have u:(bif (!(jl e).2)then (some (.inr (.inl (((),false,()),(((0:Int),(0:Int),(0:Int),(0:Int),false,(0:Int),(0:Int),(0:Int),(0:Int),(0:Int),(0:Int),(0:Int),(0:Int),(0:Int),(0:Int),(0:Int),(0:Int),(),(0:Int),(0:Int),()),([]:List Int),())))):Option (((Unit×Unit×Unit×Int×Unit)×((Int×Int×Int×Int×Bool×Int×Int×Int×Int×Int×Int×Int×Int×Int×Int×Int×Int×Unit×Int×Int×Unit)×(List ByteArray)×(List Int)×(List Int)×Unit))⊕(((Unit×Bool×Unit)×((Int×Int×Int×Int×Bool×Int×Int×Int×Int×Int×Int×Int×Int×Int×Int×Int×Int×Unit×Int×Int×Unit)×(List Int)×Unit))⊕(((Unit×Unit×Unit×Unit)×((Int×Int×Int×Int×Bool×Int×Int×Int×Int×Int×Int×Int×Int×Int×Int×Int×Int×Unit×Int×Int×Unit)×(List ByteArray)×(List Int)×(List Int)×Unit))⊕Empty))))else bif bz (iC.length+([(jl e).1]:List Int).length)then some (.inl (((),(),(),(IntKind.i64.wrap ((i:Int)+(1:Int))),()),(z21,w :: bs,(iC++([(jl e).1]:List Int)),([]:List Int),())))else none)=some (match lu e with
    | some v=>.inl (((),(),(),((i+1:Nat):Int),()),(z21,w :: bs,iC++[v],([]:List Int),()))
    | none=>.inr (.inl (((),false,()),(z21,([]:List Int),())))):=by
    unfold jl
    cases lu e with
    | none=>rfl
    | some v=>
     simp only[Bool.not_true,cond_false]
     rw[kC (by simp;omega),cond_true,eP (by omega)]
   cases hw:w.toList==bh.toList with
   | false=>
    rw[cond_false,Bool.false_and,cond_false]
    exact u
   | true=>
    rw[cond_true,Bool.true_and]
    by_cases h4:i=4
    ·subst h4
     rw[show (((4:Nat):Int)==4)=true from rfl,cond_true,dif_pos ⟨by omega,by omega⟩,dif_pos (by omega),aaq,bg,show Nat.beq 4 4=true from rfl,cond_true]
     unfold pY
     cases n6 e with
     | none=>rfl
     | some v=>
      simp only[Bool.not_true,cond_false]
      rw[kC (by simp;omega),cond_true,eP (by omega)]
    ·rw[show ((i:Int)==4)=false from beq_eq_false_iff_ne.2 (by omega),cond_false,show Nat.beq i 4=false from Bool.eq_false_iff.2 (fun e=>h4 (Nat.eq_of_beq_eq_true e)),cond_false]
     exact u
  unfold jm
  cases ha:mS w e i with
  | none=>
   rw[ha]at st
   simp only[iter,st]
   rfl
  | some v=>
   rw[ha]at st
   rw[n5 st,ih (i+1) (iC++[v]) m hd (by omega) (by simp;omega) (by omega)]
   simp only[]
   cases jm w (i+1) rest with
   | none=>rfl
   | some vs=>
    show some (Sum.inr (Sum.inl (((),(),(),()),(z21,w :: bs,(iC++[v])++vs,([]:List Int),()))))=_
    rw[List.append_assoc]
    rfl
def mT(w:ByteArray)(bs:List ByteArray):aL×Bool:=match jm w 1 bs with
 | none=>(kF,false)
 | some vs=>bif (dH w (cM vs vs.length)).2 != (vs.length:Int)then (kF,false)else ((dH w (cM vs vs.length)).1,true)
theorem aax{s w:ByteArray}{bs:List ByteArray}(hs:kE s=(w :: bs,true))(hl:bs.length<=11):pT s=some (mT w bs):=by
 have OM:(w :: bs).length=bs.length+1:=rfl
 unfold pT
 rw[Im,bg,hs]
 dsimp only
 rw[Bool.not_true,cond_false,show (((w :: bs).length:Int)==0)=false from beq_eq_false_iff_ne.2 (by omega),cond_false,decide_eq_false (by omega),cond_false]
 refine(congrArg (fun o=>Option.bind o _) (aaw (w:=w) hl bs 1 [] big rfl (by omega) (by simp) (en (by omega)))).trans ?_
 rw[bg]
 unfold mT
 cases ha:jm w 1 bs with
 | none=>rfl
 | some vs=>
  have hv:=Pp w bs 1 vs ha
  show (if jq:0<=(0:Int)/\(0:Int).toNat<(w :: bs).length then if jr:(0:Int).toNat<(w :: bs).length then _ else none else none)=_
  rw[dif_pos ⟨by omega,by show 0<_;omega⟩,dif_pos (by show 0<_;omega)]
  show ((Ac w ([]++vs)).bind _)=_
  rw[List.nil_append,aau w (by omega),bg]
  show (bif (dH w (cM vs vs.length)).2 != ((vs.length-0:Nat):Int)then some (kF,false)else some ((dH w (cM vs vs.length)).1,true))=_
  rw[Nat.sub_zero]
  simp only[]
  cases ((dH w (cM vs vs.length)).2 != (vs.length:Int)) <;>rfl
inductive KA:aL->ByteArray->List Int->Prop
 | read (i t l:Int):KA ⟨1,⟨i,t,l,false,0,0⟩,0,0,⟨0,0,0⟩,zP⟩ gq [i,t,l]
 | write (i t l d:Int):KA ⟨1,⟨i,t,l,true,d,0⟩,0,0,⟨0,0,0⟩,zP⟩ bh [i,t,l]
 | wait (n:Int):KA ⟨2,zR,n,0,⟨0,0,0⟩,zP⟩ gu [n]
 | pZ (n:Int):KA ⟨4,zR,n,0,⟨0,0,0⟩,zP⟩ fX [n]
 | flip (b r c p n:Int):KA ⟨3,zR,n,p,⟨b,r,c⟩,zP⟩ fN [b,r,c,p,n]
 | ret (b r:Int):KA ⟨6,zR,0,0,⟨b,r,0⟩,zP⟩ fh [b,r]
 | qa (a b c e f g h i j k l:Int):KA ⟨5,zR,0,0,⟨0,0,0⟩,⟨a,b,c,e,f,[g,h,i,j],⟨k,l⟩⟩⟩ fj [a,b,c,e,f,g,h,i,j,k,l]
def tx(a:aL)(w:ByteArray)(ns:List Int):ByteArray:=bif a.request.write then (eo w ns++ByteArray.mk #[32])++cV a.request.data else eo w ns
theorem uj{a:aL}{w:ByteArray}{ns:List Int}(az:(w.toList==(ByteArray.mk #[]).toList)=false)(hn:ns≠[])(hr:∀ n∈ns,0<=n/\n<=1000000000)(b7:ns.length<=11)(hw:w.size<=100)(pV:a.aB.weights.length<1073741824)(hd:0<=a.request.data/\a.request.data<=4294967295):iX a a w ns=some (tx a w ns,true):=by
 have bZ:∀ n∈ns,bX n:=fun n hn=>by
  have:=hr n hn
  unfold bX
  omega
 have eH:ns.all ue=true:=List.all_eq_true.2 (fun n hn=>ud.2 (hr n hn))
 rw[pU az hn bZ (by omega) hw pV,Z1,ud.2 hd]
 unfold fin tx
 rw[eH]
 cases a.request.write <;>rfl
theorem aay{a:aL}{w:ByteArray}{ns:List Int}(h:KA a w ns)(hr:∀ n∈ns,0<=n/\n<=1000000000)(hd:0<=a.request.data/\a.request.data<=4294967295):k9 a=some (tx a w ns,true):=by
 obtain⟨e1,e2,e3,e4,e5,e6,e7⟩:=At
 rw[CW]
 cases h with
 | read i t l=>exact uj (w:=gq) (ns:=[i,t,l]) e1 (by simp) hr (by simp) (by decide +kernel) (by show ([]:List Int).length<_;simp) hd
 | write i t l d=>exact uj (w:=bh) (ns:=[i,t,l]) e2 (by simp) hr (by simp) (by decide +kernel) (by show ([]:List Int).length<_;simp) hd
 | wait n=>exact uj (w:=gu) (ns:=[n]) e3 (by simp) hr (by simp) (by decide +kernel) (by show ([]:List Int).length<_;simp) hd
 | pZ n=>exact uj (w:=fX) (ns:=[n]) e4 (by simp) hr (by simp) (by decide +kernel) (by show ([]:List Int).length<_;simp) hd
 | flip b r c p n=>exact uj (w:=fN) (ns:=[b,r,c,p,n]) e5 (by simp) hr (by simp) (by decide +kernel) (by show ([]:List Int).length<_;simp) hd
 | ret b r=>exact uj (w:=fh) (ns:=[b,r]) e6 (by simp) hr (by simp) (by decide +kernel) (by show ([]:List Int).length<_;simp) hd
 | qa a b c e f g h i j k l=>exact uj (w:=fj) (ns:=[a,b,c,e,f,g,h,i,j,k,l]) e7 (by simp) hr (by simp) (by decide +kernel) (by show [g,h,i,j].length<_;simp) hd
theorem aaz(a:aL)(h:wC a){t:ByteArray}(hf:k9 a=some (t,true)):∃ w ns,KA a w ns/\(∀ n∈ns,0<=n/\n<=1000000000)/\(0<=a.request.data/\a.request.data<=4294967295)/\t=tx a w ns:=by
 obtain⟨_,⟨r1,r2,r3,_,r5,r6⟩,i1,i2,⟨b1,b2,b3⟩,⟨p1,p2,p3,p4,p5,p6,p7⟩⟩:=h
 obtain⟨e1,e2,e3,e4,e5,e6,e7⟩:=At
 have z:([]:List Int).length<1073741824:=by simp
 have bO:=hf
 rw[CW]at bO
 unfold wo at bO
 by_cases k2:a.kind=2
 ·simp only[k2,show ((2:Int)==1)=false from rfl,show ((2:Int)==2)=true from rfl,cond_true,cond_false]at bO
  obtain⟨e,hd,hr,ht⟩:=pW (u:=uN a) (a:=a) rfl e3 (by simp) (by simp only[List.forall_mem_cons];exact⟨i1,fun _ h=>by cases h⟩) (by simp) (by decide +kernel) z bO
  have q:KA (uN a) gu [a.n]:=by unfold uN;rw[k2];exact KA.wait a.n
  rw[e]at q
  exact⟨_,_,q,hr,hd,ht⟩
 by_cases k4:a.kind=4
 ·simp only[k4,show ((4:Int)==1)=false from rfl,show ((4:Int)==2)=false from rfl,show ((4:Int)==4)=true from rfl,cond_true,cond_false]at bO
  obtain⟨e,hd,hr,ht⟩:=pW (u:=uN a) (a:=a) rfl e4 (by simp) (by simp only[List.forall_mem_cons];exact⟨i1,fun _ h=>by cases h⟩) (by simp) (by decide +kernel) z bO
  have q:KA (uN a) fX [a.n]:=by unfold uN;rw[k4];exact KA.pZ a.n
  rw[e]at q
  exact⟨_,_,q,hr,hd,ht⟩
 by_cases k3:a.kind=3
 ·simp only[k3,show ((3:Int)==1)=false from rfl,show ((3:Int)==2)=false from rfl,show ((3:Int)==4)=false from rfl,show ((3:Int)==3)=true from rfl,cond_true,cond_false]at bO
  obtain⟨e,hd,hr,ht⟩:=pW (u:=uF a) (a:=a) rfl e5 (by simp) (by simp only[List.forall_mem_cons];exact⟨b1,b2,b3,i2,i1,fun _ h=>by cases h⟩) (by simp) (by decide +kernel) z bO
  have q:KA (uF a) fN [a.addr.cT,a.addr.row,a.addr.eC,a.eR,a.n]:=by unfold uF;rw[k3];exact KA.flip _ _ _ _ _
  rw[e]at q
  exact⟨_,_,q,hr,hd,ht⟩
 by_cases k6:a.kind=6
 ·simp only[k6,show ((6:Int)==1)=false from rfl,show ((6:Int)==2)=false from rfl,show ((6:Int)==4)=false from rfl,show ((6:Int)==3)=false from rfl,show ((6:Int)==5)=false from rfl,show ((6:Int)==6)=true from rfl,cond_true,cond_false]at bO
  obtain⟨e,hd,hr,ht⟩:=pW (u:=uR a) (a:=a) rfl e6 (by simp) (by simp only[List.forall_mem_cons];exact⟨b1,b2,fun _ h=>by cases h⟩) (by simp) (by decide +kernel) z bO
  have q:KA (uR a) fh [a.addr.cT,a.addr.row]:=by unfold uR;rw[k6];exact KA.ret _ _
  rw[e]at q
  exact⟨_,_,q,hr,hd,ht⟩
 by_cases k1:a.kind=1
 ·simp only[k1,show ((1:Int)==1)=true from rfl,cond_true]at bO
  have bZ:∀ n∈[a.request.id,a.request.dN,a.request.line],bX n:=by
   simp only[List.forall_mem_cons]
   exact⟨r1,r2,r3,fun _ h=>by cases h⟩
  cases hw:a.request.write with
  | true=>
   rw[hw]at bO
   obtain⟨e,hd,hr,ht⟩:=pW (u:=uA a a.request.data) (a:=a) rfl e2 (by simp) bZ (by simp) (by decide +kernel) z bO
   have q:KA (uA a a.request.data) bh [a.request.id,a.request.dN,a.request.line]:=by unfold uA;rw[k1,hw];exact KA.write _ _ _ _
   rw[e]at q
   exact⟨_,_,q,hr,hd,ht⟩
  | false=>
   rw[hw]at bO
   obtain⟨e,hd,hr,ht⟩:=pW (u:=uA a 0) (a:=a) rfl e1 (by simp) bZ (by simp) (by decide +kernel) z bO
   have q:KA (uA a 0) gq [a.request.id,a.request.dN,a.request.line]:=by unfold uA;rw[k1,hw];exact KA.read _ _ _
   rw[e]at q
   exact⟨_,_,q,hr,hd,ht⟩
 have c1:(a.kind==1)=false:=by simpa using k1
 have c2:(a.kind==2)=false:=by simpa using k2
 have c3:(a.kind==3)=false:=by simpa using k3
 have c4:(a.kind==4)=false:=by simpa using k4
 have c6:(a.kind==6)=false:=by simpa using k6
 have no:∀ {u:aL} {ns:List Int},iX a u (ByteArray.mk #[]) ns=some (t,true)->False:=fun h=>by
  rw[CX]at h
  have:=congrArg Prod.snd (Option.some.inj h)
  cases this
 by_cases k5:a.kind=5
 ·simp only[k5,show ((5:Int)==1)=false from rfl,show ((5:Int)==2)=false from rfl,show ((5:Int)==4)=false from rfl,show ((5:Int)==3)=false from rfl,show ((5:Int)==6)=false from rfl,show ((5:Int)==5)=true from rfl,cond_true,cond_false]at bO
  by_cases h4:a.aB.weights.length=4
  ·have c:((a.aB.weights.length:Int)==4)=true:=by simp[h4]
   rw[c,cond_true,dif_pos ⟨by omega,by show 0<_;omega⟩,dif_pos ⟨by omega,by show 1<_;omega⟩,dif_pos ⟨by omega,by show 2<_;omega⟩,dif_pos ⟨by omega,by show 3<_;omega⟩]at bO
   have Ic:=four h4
   obtain⟨e,hd,hr,ht⟩:=pW (u:=uP a) (a:=a) (ns:=[a.aB.eI,a.aB.cap,a.aB.eJ,a.aB.low,a.aB.high,a.aB.weights[0],a.aB.weights[1],a.aB.weights[2],a.aB.weights[3],a.aB.cw.down,a.aB.cw.sleep]) rfl e7 (by simp) (by
    simp only[List.forall_mem_cons]
    exact⟨p1,p2,p3,p4,p5,p6.2 _ (List.getElem_mem _),p6.2 _ (List.getElem_mem _),p6.2 _ (List.getElem_mem _),p6.2 _ (List.getElem_mem _),p7.1,p7.2,fun _ h=>by cases h⟩) (by simp) (by decide +kernel) (show a.aB.weights.length<_ by omega) bO
   have q:=KA.qa a.aB.eI a.aB.cap a.aB.eJ a.aB.low a.aB.high a.aB.weights[0] a.aB.weights[1] a.aB.weights[2] a.aB.weights[3] a.aB.cw.down a.aB.cw.sleep
   rw[<-Ic]at q
   have q2:KA (uP a) fj [a.aB.eI,a.aB.cap,a.aB.eJ,a.aB.low,a.aB.high,a.aB.weights[0],a.aB.weights[1],a.aB.weights[2],a.aB.weights[3],a.aB.cw.down,a.aB.cw.sleep]:=by
    unfold uP
    rw[k5]
    exact q
   rw[e]at q2
   exact⟨_,_,q2,hr,hd,ht⟩
  ·have c:((a.aB.weights.length:Int)==4)=false:=by simp;omega
   rw[c,cond_false]at bO
   exact(no bO).elim
 have c5:(a.kind==5)=false:=by simpa using k5
 simp only[c1,c2,c3,c4,c5,c6,cond_false]at bO
 exact(no bO).elim
def jJ(w:ByteArray)(i:Nat)(v:Int):ByteArray:=bif (w.toList==bh.toList)&&Nat.beq i 4 then cV v else cm v
def kG(w:ByteArray)(i:Nat)(v:Int):Prop:=bif (w.toList==bh.toList)&&Nat.beq i 4 then 0<=v/\v<=4294967295 else 0<=v/\v<=1000000000
def lz(w:ByteArray):Nat->List Int->List ByteArray
 | _,[]=>[]
 | i,v :: l=>jJ w i v :: lz w (i+1) l
def qb(w:ByteArray):Nat->List Int->Prop
 | _,[]=>True
 | i,v :: l=>kG w i v/\qb w (i+1) l
theorem aaA{w e:ByteArray}{i:Nat}{v:Int}(h:mS w e i=some v):e=jJ w i v/\kG w i v:=by
 unfold mS at h
 unfold jJ kG
 cases hc:((w.toList==bh.toList)&&Nat.beq i 4)with
 | true=>
  rw[hc,cond_true]at h
  exact Pm h
 | false=>
  rw[hc,cond_false]at h
  exact Pc h
theorem aaB{w:ByteArray}{i:Nat}{v:Int}(h:kG w i v):mS w (jJ w i v) i=some v:=by
 unfold kG at h
 unfold mS jJ
 cases hc:((w.toList==bh.toList)&&Nat.beq i 4)with
 | true=>
  rw[hc,cond_true]at h
  exact aas h.1 h.2
 | false=>
  rw[hc,cond_false]at h
  exact aak h.1 h.2
theorem Pq(w:ByteArray):∀ (bs:List ByteArray) (i:Nat) (vs:List Int),jm w i bs=some vs->bs=lz w i vs/\qb w i vs
 | [],i,vs,h=>by
  injection h with h
  subst h
  exact⟨rfl,trivial⟩
 | e :: l,i,vs,h=>by
  unfold jm at h
  cases h1:mS w e i with
  | none=>rw[h1]at h;cases h
  | some v=>
   rw[h1]at h
   simp only[]at h
   cases h2:jm w (i+1) l with
   | none=>rw[h2]at h;cases h
   | some us=>
    rw[h2]at h
    injection h with h
    subst h
    obtain⟨e1,e2⟩:=Pq w l (i+1) us h2
    obtain⟨e3,e4⟩:=aaA h1
    exact⟨by rw[e1,e3];rfl,e4,e2⟩
theorem Pr(w:ByteArray):∀ (vs:List Int) (i:Nat),qb w i vs->jm w i (lz w i vs)=some vs
 | [],i,h=>rfl
 | v :: l,i,h=>by
  show (match mS w (jJ w i v) i with | none=>none | some v=>(jm w (i+1) (lz w (i+1) l)).map (v :: ·))=_
  rw[aaB h.1,Pr w l (i+1) h.2]
  rfl
def C6(w:ByteArray):Prop:=(w.toList==bh.toList)=false
theorem Pu{w:ByteArray}(h:C6 w):∀ (vs:List Int) (i:Nat),lz w i vs=vs.map cm
 | [],i=>rfl
 | v :: l,i=>by
  show jJ w i v :: lz w (i+1) l=_
  rw[Pu h l (i+1)]
  unfold jJ
  rw[h]
  rfl
theorem Iq{w:ByteArray}(h:C6 w):∀ (vs:List Int) (i:Nat),qb w i vs ↔ ∀ n∈vs,0<=n/\n<=1000000000
 | [],i=>by simp[qb]
 | v :: l,i=>by
  show kG w i v/\qb w (i+1) l ↔ _
  rw[Iq h l (i+1),List.forall_mem_cons]
  unfold kG
  rw[h]
  exact Iff.rfl
theorem aaC:(bh.toList==gq.toList)=false:=by decide +kernel
theorem Ir:(gu.toList==gq.toList)=false/\(gu.toList==bh.toList)=false:=by decide +kernel
theorem Is:(fX.toList==gq.toList)=false/\(fX.toList==bh.toList)=false/\(fX.toList==gu.toList)=false:=by decide +kernel
theorem It:(fN.toList==gq.toList)=false/\(fN.toList==bh.toList)=false/\(fN.toList==gu.toList)=false/\(fN.toList==fX.toList)=false:=by decide +kernel
theorem Iu:(fh.toList==gq.toList)=false/\(fh.toList==bh.toList)=false/\(fh.toList==gu.toList)=false/\(fh.toList==fX.toList)=false/\(fh.toList==fN.toList)=false:=by decide +kernel
theorem Iv:(fj.toList==gq.toList)=false/\(fj.toList==bh.toList)=false/\(fj.toList==gu.toList)=false/\(fj.toList==fX.toList)=false/\(fj.toList==fN.toList)=false/\(fj.toList==fh.toList)=false:=by decide +kernel
theorem Pv:(gq.toList==bh.toList)=false:=by decide +kernel
def uk(a:aL)(ns:List Int):List Int:=bif a.request.write then ns++[a.request.data]else ns
theorem Pw(l:List Int):dH gq l=(⟨1,⟨l.getD 0 0,l.getD 1 0,l.getD 2 0,false,0,0⟩,0,0,⟨0,0,0⟩,zP⟩,3):=by
 unfold dH n7
 rw[beq_self_eq_true,cond_true]
theorem Px(l:List Int):dH bh l=(⟨1,⟨l.getD 0 0,l.getD 1 0,l.getD 2 0,true,l.getD 3 0,0⟩,0,0,⟨0,0,0⟩,zP⟩,4):=by
 unfold dH n7
 rw[aaC,cond_false,beq_self_eq_true,cond_true]
theorem Py(l:List Int):dH gu l=(⟨2,zR,l.getD 0 0,0,⟨0,0,0⟩,zP⟩,1):=by
 obtain⟨h1,h2⟩:=Ir
 unfold dH n7
 rw[h1,h2,cond_false,cond_false,beq_self_eq_true,cond_true]
theorem Pz(l:List Int):dH fX l=(⟨4,zR,l.getD 0 0,0,⟨0,0,0⟩,zP⟩,1):=by
 obtain⟨h1,h2,h3⟩:=Is
 unfold dH n7
 rw[h1,h2,h3,cond_false,cond_false,cond_false,beq_self_eq_true,cond_true]
theorem PB(l:List Int):dH fN l=(⟨3,zR,l.getD 4 0,l.getD 3 0,⟨l.getD 0 0,l.getD 1 0,l.getD 2 0⟩,zP⟩,5):=by
 obtain⟨h1,h2,h3,h4⟩:=It
 unfold dH n7
 rw[h1,h2,h3,h4,cond_false,cond_false,cond_false,cond_false,beq_self_eq_true,cond_true]
theorem PC(l:List Int):dH fh l=(⟨6,zR,0,0,⟨l.getD 0 0,l.getD 1 0,0⟩,zP⟩,2):=by
 obtain⟨h1,h2,h3,h4,h5⟩:=Iu
 unfold dH n7
 rw[h1,h2,h3,h4,h5,cond_false,cond_false,cond_false,cond_false,cond_false,beq_self_eq_true,cond_true]
theorem PD(l:List Int):dH fj l=(⟨5,zR,0,0,⟨0,0,0⟩,⟨l.getD 0 0,l.getD 1 0,l.getD 2 0,l.getD 3 0,l.getD 4 0,[l.getD 5 0,l.getD 6 0,l.getD 7 0,l.getD 8 0],⟨l.getD 9 0,l.getD 10 0⟩⟩⟩,11):=by
 obtain⟨h1,h2,h3,h4,h5,h6⟩:=Iv
 unfold dH n7
 rw[h1,h2,h3,h4,h5,h6,cond_false,cond_false,cond_false,cond_false,cond_false,cond_false,beq_self_eq_true,cond_true]
theorem aaD{a:aL}{w:ByteArray}{ns:List Int}(h:KA a w ns):dH w (cM (uk a ns) (uk a ns).length)=(a,((uk a ns).length:Int)):=by
 cases h with
 | read i t l=>rw[Pw];rfl
 | write i t l d=>rw[Px];rfl
 | wait n=>rw[Py];rfl
 | pZ n=>rw[Pz];rfl
 | flip b r c p n=>rw[PB];rfl
 | ret b r=>rw[PC];rfl
 | qa a b c e f g h i j k l=>rw[PD];rfl
theorem aaE{w:ByteArray}{vs:List Int}(h:(dH w (cM vs vs.length)).2=(vs.length:Int)):∃ ns,KA (dH w (cM vs vs.length)).1 w ns/\vs=uk (dH w (cM vs vs.length)).1 ns:=by
 by_cases h1:w=gq
 ·subst h1
  rw[Pw]at h ⊢
  have hl:vs.length=3:=by have:(3:Int)=(vs.length:Int):=h;omega
  match vs,hl with
  | [i,t,l],_=>exact⟨[i,t,l],KA.read i t l,rfl⟩
 by_cases h2:w=bh
 ·subst h2
  rw[Px]at h ⊢
  have hl:vs.length=4:=by have:(4:Int)=(vs.length:Int):=h;omega
  match vs,hl with
  | [i,t,l,d],_=>exact⟨[i,t,l],KA.write i t l d,rfl⟩
 by_cases h3:w=gu
 ·subst h3
  rw[Py]at h ⊢
  have hl:vs.length=1:=by have:(1:Int)=(vs.length:Int):=h;omega
  match vs,hl with
  | [n],_=>exact⟨[n],KA.wait n,rfl⟩
 by_cases h4:w=fX
 ·subst h4
  rw[Pz]at h ⊢
  have hl:vs.length=1:=by have:(1:Int)=(vs.length:Int):=h;omega
  match vs,hl with
  | [n],_=>exact⟨[n],KA.pZ n,rfl⟩
 by_cases h5:w=fN
 ·subst h5
  rw[PB]at h ⊢
  have hl:vs.length=5:=by have:(5:Int)=(vs.length:Int):=h;omega
  match vs,hl with
  | [b,r,c,p,n],_=>exact⟨[b,r,c,p,n],KA.flip b r c p n,rfl⟩
 by_cases h6:w=fh
 ·subst h6
  rw[PC]at h ⊢
  have hl:vs.length=2:=by have:(2:Int)=(vs.length:Int):=h;omega
  match vs,hl with
  | [b,r],_=>exact⟨[b,r],KA.ret b r,rfl⟩
 by_cases h7:w=fj
 ·subst h7
  rw[PD]at h ⊢
  have hl:vs.length=11:=by have:(11:Int)=(vs.length:Int):=h;omega
  match vs,hl with
  | [a,b,c,e,f,g,x,i,j,k,l],_=>exact⟨[a,b,c,e,f,g,x,i,j,k,l],KA.qa a b c e f g x i j k l,rfl⟩
 exfalso
 have e:(dH w (cM vs vs.length)).2 = -1:=by
  unfold dH n7
  rw[pX,pX,pX,pX,pX,pX,pX,decide_eq_false h1,decide_eq_false h2,decide_eq_false h3,decide_eq_false h4,decide_eq_false h5,decide_eq_false h6,decide_eq_false h7]
  rfl
 omega
theorem PE{a:aL}{w:ByteArray}{ns:List Int}(h:KA a w ns):qb w 1 (uk a ns) ↔ (∀ n∈ns,0<=n/\n<=1000000000)/\(0<=a.request.data/\a.request.data<=4294967295):=by
 have z:(0:Int)<=0/\(0:Int)<=4294967295:=by omega
 have gen:∀ {w:ByteArray} {ns:List Int},C6 w->(qb w 1 ns ↔ (∀ n∈ns,0<=n/\n<=1000000000)/\((0:Int)<=0/\(0:Int)<=4294967295)):=fun hn=>⟨fun h=>⟨(Iq hn _ 1).1 h,z⟩,fun h=>(Iq hn _ 1).2 h.1⟩
 cases h with
 | read i t l=>exact gen Pv
 | write i t l d=>
  show kG bh 1 i/\kG bh 2 t/\kG bh 3 l/\kG bh 4 d/\True ↔ _
  unfold kG
  rw[beq_self_eq_true]
  simp only[List.forall_mem_cons]
  show (0<=i/\i<=1000000000)/\(0<=t/\t<=1000000000)/\(0<=l/\l<=1000000000)/\(0<=d/\d<=4294967295)/\True ↔ _
  constructor
  ·rintro⟨a1,a2,a3,a4,_⟩
   exact⟨⟨a1,a2,a3,fun _ h=>by cases h⟩,a4⟩
  ·rintro⟨⟨a1,a2,a3,_⟩,a4⟩
   exact⟨a1,a2,a3,a4,trivial⟩
 | wait n=>exact gen Ir.2
 | pZ n=>exact gen Is.2.1
 | flip b r c p n=>exact gen It.2.1
 | ret b r=>exact gen Iu.2.1
 | qa a b c e f g h i j k l=>exact gen Iv.2.1
theorem PF{a:aL}{w:ByteArray}{ns:List Int}(h:KA a w ns):(tx a w ns).data.toList=w.data.toList++lay (lz w 1 (uk a ns)):=by
 have gen:∀ {w:ByteArray} {ns:List Int},C6 w->(eo w ns).data.toList=w.data.toList++lay (lz w 1 ns):=fun {w ns} hn=>by
  rw[Pu hn,<-C0]
  rfl
 cases h with
 | read i t l=>exact gen Pv
 | write i t l d=>
  show ((eo bh [i,t,l]++ByteArray.mk #[32])++cV d).data.toList=_
  have e:lz bh 1 [i,t,l,d]=[i,t,l].map cm++[cV d]:=by
   show [jJ bh 1 i,jJ bh 2 t,jJ bh 3 l,jJ bh 4 d]=_
   unfold jJ
   rw[beq_self_eq_true]
   rfl
  show _=bh.data.toList++lay (lz bh 1 [i,t,l,d])
  rw[e,nY,nY,OL,<-C0]
  show (bh.data.toList++fB [i,t,l])++[32]++(cV d).data.toList=_
  simp[lay]
 | wait n=>exact gen Ir.2
 | pZ n=>exact gen Is.2.1
 | flip b r c p n=>exact gen It.2.1
 | ret b r=>exact gen Iu.2.1
 | qa a b c e f g h i j k l=>exact gen Iv.2.1
theorem aaF{w:ByteArray}{i:Nat}{v:Int}(h:kG w i v):ep (jJ w i v):=by
 unfold kG at h
 unfold jJ
 cases hc:((w.toList==bh.toList)&&Nat.beq i 4)with
 | true=>
  rw[hc,cond_true]at h
  exact OG h.1 h.2
 | false=>
  rw[hc,cond_false]at h
  exact H8 h.1 h.2
theorem PG{w:ByteArray}:∀ {vs:List Int} {i:Nat},qb w i vs->∀ x∈lz w i vs,ep x
 | [],i,h,x,hx=>by cases hx
 | v :: l,i,h,x,hx=>by
  rcases List.mem_cons.1 hx with rfl | hx
  ·exact aaF h.1
  ·exact PG h.2 x hx
theorem PI(w:ByteArray):∀ (vs:List Int) (i:Nat),(lz w i vs).length=vs.length
 | [],i=>rfl
 | v :: l,i=>by
  show (lz w (i+1) l).length+1=_
  rw[PI w l (i+1)]
  rfl
theorem aaG{a:aL}{w:ByteArray}{ns:List Int}(h:KA a w ns):ep w/\(uk a ns).length<=11:=by
 cases h with
 | read i t l=>exact⟨lp _ (by decide +kernel),by show 3<=11;omega⟩
 | write i t l d=>exact⟨lp _ (by decide +kernel),by show 4<=11;omega⟩
 | wait n=>exact⟨lp _ (by decide +kernel),by show 1<=11;omega⟩
 | pZ n=>exact⟨lp _ (by decide +kernel),by show 1<=11;omega⟩
 | flip b r c p n=>exact⟨lp _ (by decide +kernel),by show 5<=11;omega⟩
 | ret b r=>exact⟨lp _ (by decide +kernel),by show 2<=11;omega⟩
 | qa a b c e f g h i j k l=>exact⟨lp _ (by decide +kernel),by show 11<=11;omega⟩
theorem aaH{a:aL}{w v:ByteArray}{ns:List Int}{bs:List ByteArray}(h:KA a w ns)(hr:∀ n∈ns,0<=n/\n<=1000000000)(hd:0<=a.request.data/\a.request.data<=4294967295)(hv:ep v)(nK:∀ x∈bs,ep x)(ht:(tx a w ns).data.toList=v.data.toList++lay bs):mT v bs=(a,true)/\bs.length<=11:=by
 have bJ:=(PE h).2 ⟨hr,hd⟩
 obtain⟨hw,b7⟩:=aaG h
 rw[PF h]at ht
 obtain⟨rfl,rfl⟩:=aab hw (PG bJ) hv nK ht
 unfold mT
 rw[Pr w _ 1 bJ,PI]
 simp only[]
 rw[aaD h,bne_self_eq_false]
 exact⟨rfl,b7⟩
theorem aaI{w:ByteArray}{bs:List ByteArray}{a:aL}(h:mT w bs=(a,true)):∃ ns,KA a w ns/\(∀ n∈ns,0<=n/\n<=1000000000)/\(0<=a.request.data/\a.request.data<=4294967295)/\(tx a w ns).data.toList=w.data.toList++lay bs:=by
 unfold mT at h
 cases ha:jm w 1 bs with
 | none=>rw[ha]at h;cases h
 | some vs=>
  rw[ha]at h
  simp only[]at h
  cases hc:((dH w (cM vs vs.length)).2 != (vs.length:Int))with
  | true=>rw[hc]at h;cases h
  | false=>
   rw[hc,cond_false]at h
   have zc:(dH w (cM vs vs.length)).2=(vs.length:Int):=by simpa using hc
   obtain⟨ns,hk,cN⟩:=aaE zc
   have e:(dH w (cM vs vs.length)).1=a:=congrArg Prod.fst h
   rw[e]at hk cN
   obtain⟨e1,e2⟩:=Pq w bs 1 vs ha
   rw[cN]at e1 e2
   obtain⟨h1,h2⟩:=(PE hk).1 e2
   exact⟨ns,hk,h1,h2,by rw[PF hk,e1]⟩
theorem Iw:∀ (l cur:List UInt8),(lay ((b6 cur l).map dx)).length<=cur.length+l.length+1
 | [],cur=>by
  cases cur with
  | nil=>exact Nat.zero_le _
  | cons c cur=>
   show (lay [dx (c :: cur)]).length<=_
   simp[lay,Z8]
 | b :: l,cur=>by
  have h1:=Iw l []
  have h2:=Iw l (cur++[b])
  have e:b6 cur (b :: l)=bif b==32 then (bif cur.isEmpty then b6 [] l else cur :: b6 [] l)else b6 (cur++[b]) l:=rfl
  rw[e]
  cases b==32 with
  | false=>
   rw[cond_false]
   simp only[List.length_append,List.length_cons,List.length_nil]at h2 ⊢
   omega
  | true=>
   rw[cond_true]
   cases cur with
   | nil=>
    show (lay ((b6 [] l).map dx)).length<=_
    simp only[List.length_nil,List.length_cons]at h1 ⊢
    omega
   | cons c cur=>
    show (lay (dx (c :: cur) :: (b6 [] l).map dx)).length<=_
    have e2:lay (dx (c :: cur) :: (b6 [] l).map dx)=(32 :: (c :: cur))++lay ((b6 [] l).map dx):=rfl
    rw[e2,List.length_append]
    simp only[List.length_nil,List.length_cons]at h1 ⊢
    omega
theorem PJ{s w:ByteArray}{bs:List ByteArray}(h:kE s=(w :: bs,true)):ep w/\(∀ x∈bs,ep x)/\bs.length<=23/\(w.data.toList++lay bs).length<=600:=by
 unfold kE at h
 cases hc:ug s with
 | none=>rw[hc]at h;cases h
 | some ws=>
  rw[hc]at h
  have e:ws=w :: bs:=congrArg Prod.fst h
  subst e
  obtain⟨h1,h2⟩:=aae hc
  simp only[List.length_cons]at h2
  refine⟨h1 w (.head _),fun x hx=>h1 x (.tail _ hx),by omega,?_⟩
  unfold ug at hc
  cases hd:(decide (s.size<=600)&&(s.data.toList.all fk&&decide ((b6 [] s.data.toList).length<=24)))with
  | false=>rw[hd]at hc;cases hc
  | true=>
   rw[hd,cond_true]at hc
   have hc:=Option.some.inj hc
   simp only[Bool.and_eq_true,decide_eq_true_eq]at hd
   have h3:=Iw s.data.toList []
   rw[hc]at h3
   have e2:lay (w :: bs)=32 :: (w.data.toList++lay bs):=rfl
   rw[e2]at h3
   simp only[List.length_cons,List.length_nil]at h3
   have es:s.data.toList.length=s.size:=rfl
   omega
theorem aaJ(e:ByteArray):0<=(jl e).1/\(jl e).1<=1000000000:=by
 unfold jl
 cases h:lu e with
 | none=>exact⟨by decide,by decide⟩
 | some v=>exact(Pc h).2
theorem aaK(e:ByteArray):0<=(pY e).1/\(pY e).1<=4294967295:=by
 unfold pY
 cases h:n6 e with
 | none=>exact⟨by decide,by decide⟩
 | some v=>exact(Pm h).2
def Az(L:List Int):Prop:=∀ x∈L,0<=x/\x<=1000000000
theorem aaL(ws args:List ByteArray)(d:Int)(hl:args.length<=100):∀ (n i:Nat) (L:List Int) (fuel:Nat),11-i<=n->i<=11->L.length=11->Az L->n<fuel->
  ∃ L',L'.length=11/\Az L'/\iter jI fuel (((),ws,args,d,(),(i:Int),()),(z21,L,([]:List Int),()))=some (.inl (((),ws,d,(),()),(z21,L',([]:List Int),()))):=by
 intro n
 induction n with
 | zero=>
  intro i L fuel hn hi b7 hr hf
  obtain⟨m,rfl⟩:∃ m,fuel=m+1:=⟨fuel-1,by omega⟩
  have st:jI (((),ws,args,d,(),(i:Int),()),(z21,L,([]:List Int),()))=some (.inr (.inl (((),ws,d,(),()),(z21,L,([]:List Int),())))):=by
   unfold jI
   dsimp only
   rw[decide_eq_false (by omega:¬ (i:Int)<(L.length:Int))]
   cases decide ((i:Int)<(args.length:Int)) <;>rfl
  exact⟨L,b7,hr,by simp only[iter,st]⟩
 | succ n ih=>
  intro i L fuel hn hi b7 hr hf
  obtain⟨m,rfl⟩:∃ m,fuel=m+1:=⟨fuel-1,by omega⟩
  by_cases hg:i<args.length/\i<11
  ·have st:jI (((),ws,args,d,(),(i:Int),()),(z21,L,([]:List Int),()))=some (.inl (((),ws,args,d,(),((i+1:Nat):Int),()),(z21,L.set i (jl (args[i]'hg.1)).1,([]:List Int),()))):=by
    have h1:=hg.1
    have h2:=hg.2
    unfold jI
    dsimp only
    rw[decide_eq_true (by omega),cond_true,decide_eq_true (by omega),cond_true,dif_pos ⟨by omega,by omega⟩]
    simp only[Int.toNat_natCast]
    rw[Pb,bg,dif_pos ⟨by omega,by omega⟩,dif_pos (by omega),eP (by omega)]
   rw[n5 st]
   refine ih (i+1) _ m (by omega) (by omega) (by rw[List.length_set];exact b7) (fun x hx=>?_) (by omega)
   rcases List.mem_or_eq_of_mem_set hx with hx | rfl
   ·exact hr x hx
   ·exact aaJ _
  ·have st:jI (((),ws,args,d,(),(i:Int),()),(z21,L,([]:List Int),()))=some (.inr (.inl (((),ws,d,(),()),(z21,L,([]:List Int),())))):=by
    unfold jI
    dsimp only
    by_cases h1:i<args.length
    ·rw[decide_eq_true (by omega),cond_true,decide_eq_false (by omega),cond_false]
    ·rw[decide_eq_false (by omega),cond_false]
   exact⟨L,b7,hr,by simp only[iter,st]⟩
theorem aaM(a:aL)(h:wC a)(hz:a.aB.weights.length<=4):∃ y,k9 a=some y:=by
 obtain⟨_,⟨r1,r2,r3,_,r5,r6⟩,i1,i2,⟨b1,b2,b3⟩,⟨p1,p2,p3,p4,p5,p6,p7⟩⟩:=h
 obtain⟨e1,e2,e3,e4,e5,e6,e7⟩:=At
 have z:([]:List Int).length<1073741824:=by simp
 rw[CW]
 unfold wo
 by_cases k1:a.kind=1
 ·simp only[k1,show ((1:Int)==1)=true from rfl,cond_true]
  have bZ:∀ n∈[a.request.id,a.request.dN,a.request.line],bX n:=by
   simp only[List.forall_mem_cons]
   exact⟨r1,r2,r3,fun _ h=>by cases h⟩
  cases a.request.write with
  | true=>exact⟨_,pU (u:=uA a a.request.data) (w:=bh) e2 (by simp) bZ (by simp) (by decide +kernel) z⟩
  | false=>exact⟨_,pU (u:=uA a 0) (w:=gq) e1 (by simp) bZ (by simp) (by decide +kernel) z⟩
 have c1:(a.kind==1)=false:=by simpa using k1
 by_cases k2:a.kind=2
 ·simp only[k2,show ((2:Int)==1)=false from rfl,show ((2:Int)==2)=true from rfl,cond_true,cond_false]
  have bZ:∀ n∈[a.n],bX n:=by
   simp only[List.forall_mem_cons]
   exact⟨i1,fun _ h=>by cases h⟩
  exact⟨_,pU (u:=uN a) (w:=gu) e3 (by simp) bZ (by simp) (by decide +kernel) z⟩
 have c2:(a.kind==2)=false:=by simpa using k2
 by_cases k4:a.kind=4
 ·simp only[k4,show ((4:Int)==1)=false from rfl,show ((4:Int)==2)=false from rfl,show ((4:Int)==4)=true from rfl,cond_true,cond_false]
  have bZ:∀ n∈[a.n],bX n:=by
   simp only[List.forall_mem_cons]
   exact⟨i1,fun _ h=>by cases h⟩
  exact⟨_,pU (u:=uN a) (w:=fX) e4 (by simp) bZ (by simp) (by decide +kernel) z⟩
 have c4:(a.kind==4)=false:=by simpa using k4
 by_cases k3:a.kind=3
 ·simp only[k3,show ((3:Int)==1)=false from rfl,show ((3:Int)==2)=false from rfl,show ((3:Int)==4)=false from rfl,show ((3:Int)==3)=true from rfl,cond_true,cond_false]
  have bZ:∀ n∈[a.addr.cT,a.addr.row,a.addr.eC,a.eR,a.n],bX n:=by
   simp only[List.forall_mem_cons]
   exact⟨b1,b2,b3,i2,i1,fun _ h=>by cases h⟩
  exact⟨_,pU (u:=uF a) (w:=fN) e5 (by simp) bZ (by simp) (by decide +kernel) z⟩
 have c3:(a.kind==3)=false:=by simpa using k3
 by_cases k6:a.kind=6
 ·simp only[k6,show ((6:Int)==1)=false from rfl,show ((6:Int)==2)=false from rfl,show ((6:Int)==4)=false from rfl,show ((6:Int)==3)=false from rfl,show ((6:Int)==5)=false from rfl,show ((6:Int)==6)=true from rfl,cond_true,cond_false]
  have bZ:∀ n∈[a.addr.cT,a.addr.row],bX n:=by
   simp only[List.forall_mem_cons]
   exact⟨b1,b2,fun _ h=>by cases h⟩
  exact⟨_,pU (u:=uR a) (w:=fh) e6 (by simp) bZ (by simp) (by decide +kernel) z⟩
 have c6:(a.kind==6)=false:=by simpa using k6
 by_cases k5:a.kind=5
 ·simp only[k5,show ((5:Int)==1)=false from rfl,show ((5:Int)==2)=false from rfl,show ((5:Int)==4)=false from rfl,show ((5:Int)==3)=false from rfl,show ((5:Int)==6)=false from rfl,show ((5:Int)==5)=true from rfl,cond_true,cond_false]
  by_cases h4:a.aB.weights.length=4
  ·have c:((a.aB.weights.length:Int)==4)=true:=by simp[h4]
   rw[c,cond_true,dif_pos ⟨by omega,by show 0<_;omega⟩,dif_pos ⟨by omega,by show 1<_;omega⟩,dif_pos ⟨by omega,by show 2<_;omega⟩,dif_pos ⟨by omega,by show 3<_;omega⟩]
   exact⟨_,pU (a:=a) (u:=uP a) (w:=fj) (ns:=[a.aB.eI,a.aB.cap,a.aB.eJ,a.aB.low,a.aB.high,a.aB.weights[0],a.aB.weights[1],a.aB.weights[2],a.aB.weights[3],a.aB.cw.down,a.aB.cw.sleep]) e7 (by simp) (by
    simp only[List.forall_mem_cons]
    exact⟨p1,p2,p3,p4,p5,p6.2 _ (List.getElem_mem _),p6.2 _ (List.getElem_mem _),p6.2 _ (List.getElem_mem _),p6.2 _ (List.getElem_mem _),p7.1,p7.2,fun _ h=>by cases h⟩) (by simp) (by decide +kernel) (show a.aB.weights.length<_ by omega)⟩
  ·have c:((a.aB.weights.length:Int)==4)=false:=by simp;omega
   rw[c,cond_false]
   exact⟨_,CX⟩
 have c5:(a.kind==5)=false:=by simpa using k5
 simp only[c1,c2,c3,c4,c5,c6,cond_false]
 exact⟨_,CX⟩
theorem aaN(w:ByteArray){L:List Int}(b7:L.length=11)(hr:Az L){D:Int}(hd:0<=D/\D<=4294967295):∃ A,fA w L D=some A/\wC A/\A.aB.weights.length<=4:=by
 obtain⟨a,b,c,d,e,f,g,x,i,j,k,rfl⟩:=Po b7
 unfold Az at hr
 simp only[List.forall_mem_cons]at hr
 obtain⟨ra,rb,rc,rd,re,rf,rg,rx,ri,rj,rk,_⟩:=hr
 have i9:∀ {n:Int},0<=n/\n<=1000000000->bX n:=fun h=>by unfold bX;omega
 have z0:bX 0:=by unfold bX;omega
 have kn:∀ (n:Nat),n<10->bX (n:Int):=fun n h=>by unfold bX;omega
 have zr:HU zR:=⟨z0,z0,z0,trivial,z0,z0⟩
 have zd:HV ⟨0,0,0⟩:=⟨z0,z0,z0⟩
 have zp:HW zP:=⟨z0,z0,z0,z0,z0,⟨by show 0<=maxLen;exact Nat.zero_le _,fun _ h=>by cases h⟩,⟨z0,z0⟩⟩
 have iD:bX D:=by unfold bX;omega
 have sh:∀ {A:aL},A.aB=zP->A.aB.weights.length<=4:=fun h=>by rw[h];exact Nat.zero_le _
 unfold fA
 generalize (w.toList==(ByteArray.mk #[114,101,97,100]).toList)=t1
 generalize (w.toList==(ByteArray.mk #[119,114,105,116,101]).toList)=t2
 generalize (w.toList==(ByteArray.mk #[119,97,105,116]).toList)=t3
 generalize (w.toList==(ByteArray.mk #[104,101,97,116]).toList)=t4
 generalize (w.toList==(ByteArray.mk #[102,108,105,112]).toList)=t5
 generalize (w.toList==(ByteArray.mk #[112,111,108,105,99,121]).toList)=t6
 generalize (w.toList==(ByteArray.mk #[114,101,116,105,114,101]).toList)=t7
 cases t1 with
 | true=>exact⟨⟨1,⟨a,b,c,t2,D,0⟩,0,0,⟨0,0,0⟩,zP⟩,rfl,⟨kn 1 (by omega),⟨i9 ra,i9 rb,i9 rc,trivial,iD,z0⟩,z0,z0,zd,zp⟩,sh rfl⟩
 | false=>
  cases t2 with
  | true=>exact⟨⟨1,⟨a,b,c,true,D,0⟩,0,0,⟨0,0,0⟩,zP⟩,rfl,⟨kn 1 (by omega),⟨i9 ra,i9 rb,i9 rc,trivial,iD,z0⟩,z0,z0,zd,zp⟩,sh rfl⟩
  | false=>
   cases t3 with
   | true=>exact⟨⟨2,zR,a,0,⟨0,0,0⟩,zP⟩,rfl,⟨kn 2 (by omega),zr,i9 ra,z0,zd,zp⟩,sh rfl⟩
   | false=>
    cases t4 with
    | true=>exact⟨⟨4,zR,a,0,⟨0,0,0⟩,zP⟩,rfl,⟨kn 4 (by omega),zr,i9 ra,z0,zd,zp⟩,sh rfl⟩
    | false=>
     cases t5 with
     | true=>exact⟨⟨3,zR,e,d,⟨a,b,c⟩,zP⟩,rfl,⟨kn 3 (by omega),zr,i9 re,i9 rd,⟨i9 ra,i9 rb,i9 rc⟩,zp⟩,sh rfl⟩
     | false=>
      cases t6 with
      | true=>
       refine⟨⟨5,zR,0,0,⟨0,0,0⟩,⟨a,b,c,d,e,[f,g,x,i],⟨j,k⟩⟩⟩,rfl,⟨kn 5 (by omega),zr,z0,z0,zd,⟨i9 ra,i9 rb,i9 rc,i9 rd,i9 re,⟨?_,?_⟩,⟨i9 rj,i9 rk⟩⟩⟩,Nat.le_refl 4⟩
       ·show 4<=maxLen
        decide
       ·simp only[List.forall_mem_cons]
        exact⟨i9 rf,i9 rg,i9 rx,i9 ri,fun _ h=>by cases h⟩
      | false=>
       cases t7 with
       | true=>exact⟨⟨6,zR,0,0,⟨a,b,0⟩,zP⟩,rfl,⟨kn 6 (by omega),zr,z0,z0,⟨i9 ra,i9 rb,z0⟩,zp⟩,sh rfl⟩
       | false=>exact⟨⟨0,zR,0,0,⟨0,0,0⟩,zP⟩,rfl,⟨z0,zr,z0,z0,zd,zp⟩,sh rfl⟩
def C7(w:ByteArray)(bs:List ByteArray)(r:aL×Bool):Prop:=r=(kF,false)\/∃ a t,r=(a,true)/\wC a/\k9 a=some (t,true)/\t.data.toList=w.data.toList++lay bs
def C8(ws:List ByteArray)(L:List Int)(d:Int):Option (aL×Bool):=
 if lH:0 <= (0:Int)/\(0:Int).toNat<ws.length then (let tW:=ws[(0:Int).toNat]'lH.2;(fA tW L d).bind fun tZ=>(k9 tZ).bind fun Ai=>(let Aj:Bool -> Option (aL×Bool):=fun HK=>bif HK then some (kF,false)else some (tZ,true);bif (!Ai.2)then (Aj true)else (kA ws (ByteArray.mk #[32])).bind fun HL=>(Aj (!(Ai.1.toList==HL.toList)))))else none
theorem aaO{w:ByteArray}{bs:List ByteArray}(U:bs.length<=23)(hj:(w.data.toList++lay bs).length<=600):kA (w :: bs) (ByteArray.mk #[32])=some ⟨(w.data.toList++lay bs).toArray⟩:=by
 unfold kA
 rw[show (ByteArray.mk #[32]).data.toList=[32]from rfl,Ia,decide_eq_true (by simp;omega),decide_eq_true (by omega)]
 rfl
theorem aaP{w:ByteArray}{bs:List ByteArray}(U:bs.length<=23)(hj:(w.data.toList++lay bs).length<=600){L:List Int}(b7:L.length=11)(hr:Az L){D:Int}(hd:0<=D/\D<=4294967295):∃ r,C8 (w :: bs) L D=some r/\C7 w bs r:=by
 obtain⟨A,e1,hI,hz⟩:=aaN w b7 hr hd
 obtain⟨⟨t,ok⟩,e2⟩:=aaM A hI hz
 unfold C8
 rw[dif_pos ⟨by omega,by show 0<bs.length+1;omega⟩]
 rw[show (w :: bs)[(0:Int).toNat]'(by show 0<bs.length+1;omega)=w from rfl]
 simp only[]
 rw[e1,bg,e2,bg]
 cases ok with
 | false=>exact⟨_,rfl,.inl rfl⟩
 | true=>
  simp only[Bool.not_true,cond_false]
  rw[aaO U hj,bg,pX]
  by_cases h:t=⟨(w.data.toList++lay bs).toArray⟩
  ·rw[decide_eq_true h]
   exact⟨_,rfl,.inr ⟨A,t,rfl,hI,e2,by rw[h]⟩⟩
  ·rw[decide_eq_false h]
   exact⟨_,rfl,.inl rfl⟩
theorem PL{w:ByteArray}{bs args:List ByteArray}(U:bs.length<=23)(hj:(w.data.toList++lay bs).length<=600)(ha:args.length<=100){D:Int}(hd:0<=D/\D<=4294967295):
  ∃ r,((iter jI big (((),w :: bs,args,D,(),(0:Int),()),(z21,List.replicate 11 (0:Int),([]:List Int),()))).bind (Sum.elim (fun ld=>C8 ld.1.2.1 ld.2.2.1 ld.1.2.2.1) (fun z=>nomatch z)))=some r/\C7 w bs r:=by
 obtain⟨L,b7,hr,e⟩:=aaL (w :: bs) args D ha 11 0 (List.replicate 11 0) big (by omega) (by omega) (by simp) (fun x hx=>by
  obtain⟨_,rfl⟩:=List.mem_replicate.1 hx
  exact⟨by decide,by decide⟩) (en (by omega))
 rw[Int.natCast_zero]at e
 obtain⟨r,e2,hg⟩:=aaP U hj b7 hr hd
 exact⟨r,(congrArg (fun o=>Option.bind o _) e).trans e2,hg⟩
theorem aaQ{s w:ByteArray}{bs:List ByteArray}(hs:kE s=(w :: bs,true)):∃ r,gO s=some r/\C7 w bs r:=by
 obtain⟨hw,nK,U,hj⟩:=PJ hs
 have hl:(w :: bs).length=bs.length+1:=rfl
 have z:(0:Int)<=0/\(0:Int)<=4294967295:=by omega
 have cX:(((w :: bs).take (((w :: bs).length:Int)).toNat).drop (1:Int).toNat)=bs:=by
  rw[Int.toNat_natCast,List.take_length]
  rfl
 unfold gO
 rw[Aw,bg,hs]
 dsimp only
 rw[Bool.not_true,cond_false,show (((w :: bs).length:Int)==0)=false from beq_eq_false_iff_ne.2 (by omega),cond_false,if_pos ⟨by omega,by omega,by omega⟩,dif_pos ⟨by omega,by show 0<_;omega⟩]
 rw[show (w :: bs)[(0:Int).toNat]'(by show 0<_;omega)=w from rfl]
 simp only[cX]
 have pl:∃ r,(if 0<=(11:Int)/\(11:Int)<=11/\(11:Int)<1073741824 then ((iter jI big (((),w :: bs,bs,(0:Int),(),(0:Int),()),(z21,List.replicate 11 (0:Int),([]:List Int),()))).bind (Sum.elim (fun ld=>C8 ld.1.2.1 ld.2.2.1 ld.1.2.2.1) (fun z=>nomatch z)))else none)=some r/\C7 w bs r:=by
  rw[if_pos ⟨by omega,by omega,by omega⟩]
  exact PL U hj (by omega) z
 cases (w.toList==(ByteArray.mk #[119,114,105,116,101]).toList)with
 | false=>exact pl
 | true=>
  rw[cond_true]
  cases h0:decide ((bs.length:Int) > 0)with
  | false=>exact pl
  | true=>
   have h0:=of_decide_eq_true h0
   have hi:(IntKind.i64.wrap ((bs.length:Int)-(1:Int)))=(bs.length:Int)-1:=dX (by omega) (by omega)
   rw[cond_true]
   simp only[hi]
   rw[dif_pos ⟨by omega,by omega⟩,Pk,bg,if_pos ⟨by omega,by omega,by omega⟩,if_pos ⟨by omega,by omega,by omega⟩]
   exact PL U hj (by rw[List.length_drop,List.length_take];omega) (aaK _)
theorem aaR{a:aL}{w:ByteArray}{ns:List Int}(h:KA a w ns)(hr:∀ n∈ns,0<=n/\n<=1000000000)(hd:0<=a.request.data/\a.request.data<=4294967295):wC a:=by
 have i9:∀ {n:Int},0<=n/\n<=1000000000->bX n:=fun h=>by unfold bX;omega
 have z0:bX 0:=by unfold bX;omega
 have kn:∀ (n:Nat),n<10->bX (n:Int):=fun n h=>by unfold bX;omega
 have zr:HU zR:=⟨z0,z0,z0,trivial,z0,z0⟩
 have zd:HV ⟨0,0,0⟩:=⟨z0,z0,z0⟩
 have zp:HW zP:=⟨z0,z0,z0,z0,z0,⟨by show 0<=maxLen;exact Nat.zero_le _,fun _ h=>by cases h⟩,⟨z0,z0⟩⟩
 have iD:bX a.request.data:=by unfold bX;omega
 cases h with
 | read i t l=>
  simp only[List.forall_mem_cons]at hr
  exact⟨kn 1 (by omega),⟨i9 hr.1,i9 hr.2.1,i9 hr.2.2.1,trivial,z0,z0⟩,z0,z0,zd,zp⟩
 | write i t l d=>
  simp only[List.forall_mem_cons]at hr
  exact⟨kn 1 (by omega),⟨i9 hr.1,i9 hr.2.1,i9 hr.2.2.1,trivial,iD,z0⟩,z0,z0,zd,zp⟩
 | wait n=>
  simp only[List.forall_mem_cons]at hr
  exact⟨kn 2 (by omega),zr,i9 hr.1,z0,zd,zp⟩
 | pZ n=>
  simp only[List.forall_mem_cons]at hr
  exact⟨kn 4 (by omega),zr,i9 hr.1,z0,zd,zp⟩
 | flip b r c p n=>
  simp only[List.forall_mem_cons]at hr
  exact⟨kn 3 (by omega),zr,i9 hr.2.2.2.2.1,i9 hr.2.2.2.1,⟨i9 hr.1,i9 hr.2.1,i9 hr.2.2.1⟩,zp⟩
 | ret b r=>
  simp only[List.forall_mem_cons]at hr
  exact⟨kn 6 (by omega),zr,z0,z0,⟨i9 hr.1,i9 hr.2.1,z0⟩,zp⟩
 | qa a b c e f g h i j k l=>
  simp only[List.forall_mem_cons]at hr
  obtain⟨ra,rb,rc,re,rf,rg,rh,ri,rj,rk,rl,_⟩:=hr
  refine⟨kn 5 (by omega),zr,z0,z0,zd,⟨i9 ra,i9 rb,i9 rc,i9 re,i9 rf,⟨?_,?_⟩,⟨i9 rk,i9 rl⟩⟩⟩
  ·show 4<=maxLen
   decide
  ·simp only[List.forall_mem_cons]
   exact⟨i9 rg,i9 rh,i9 ri,i9 rj,fun _ h=>by cases h⟩
theorem aaS{a:aL}{w:ByteArray}{ns:List Int}(h:KA a w ns):a.aB.weights.length<=4:=by
 cases h with
 | read i t l=>exact Nat.zero_le _
 | write i t l d=>exact Nat.zero_le _
 | wait n=>exact Nat.zero_le _
 | pZ n=>exact Nat.zero_le _
 | flip b r c p n=>exact Nat.zero_le _
 | ret b r=>exact Nat.zero_le _
 | qa a b c e f g h i j k l=>exact Nat.le_refl 4
theorem aaT{s t:ByteArray}(h:kE s=kE t):gO s=gO t:=by
 unfold gO
 rw[Aw,Aw,h]
theorem aaU(w:ByteArray)(bs:List ByteArray):mT w bs=(kF,false)\/∃ a,mT w bs=(a,true):=by
 unfold mT
 cases jm w 1 bs with
 | none=>exact .inl rfl
 | some vs=>
  simp only[]
  cases ((dH w (cM vs vs.length)).2 != (vs.length:Int))with
  | true=>exact .inl rfl
  | false=>exact .inr ⟨_,rfl⟩
theorem aaV(s:ByteArray):∃ r,pT s=some r/\gO s=some r/\r.1.aB.weights.length<=4:=by
 have z4:(kF,false).1.aB.weights.length<=4:=Nat.zero_le _
 have no:∀ ws,(∃ ok,kE s=(ws,ok)/\(ok=false\/ws=[]))->pT s=some (kF,false)/\gO s=some (kF,false):=by
  rintro ws ⟨ok,e,h⟩
  unfold pT gO
  rw[Im,Aw,bg,bg,e]
  rcases h with rfl | rfl
  ·exact⟨rfl,rfl⟩
  ·cases ok
   ·exact⟨rfl,rfl⟩
   ·exact⟨rfl,rfl⟩
 obtain⟨ws,ok⟩:List ByteArray×Bool:=kE s
 cases gy:kE s with
 | mk ws ok=>
  cases ok with
  | false=>
   obtain⟨h1,h2⟩:=no ws ⟨false,gy,.inl rfl⟩
   exact⟨_,h1,h2,z4⟩
  | true=>
   cases ws with
   | nil=>
    obtain⟨h1,h2⟩:=no [] ⟨true,gy,.inr rfl⟩
    exact⟨_,h1,h2,z4⟩
   | cons w bs=>
    obtain⟨hw,nK,U,hj⟩:=PJ gy
    obtain⟨r,hi,hg⟩:=aaQ gy
    have hs:∃ r',pT s=some r'/\(r'=(kF,false)\/r'=mT w bs/\bs.length<=11)/\(bs.length<=11->r'=mT w bs):=by
     by_cases b7:bs.length<=11
     ·exact⟨_,aax gy b7,.inr ⟨rfl,b7⟩,fun _=>rfl⟩
     ·refine⟨(kF,false),?_,.inl rfl,fun h=>absurd h b7⟩
      unfold pT
      rw[Im,bg,gy]
      dsimp only
      have hl:(w :: bs).length=bs.length+1:=rfl
      rw[Bool.not_true,cond_false,show (((w :: bs).length:Int)==0)=false from beq_eq_false_iff_ne.2 (by omega),cond_false,decide_eq_true (by omega)]
      rfl
    obtain⟨r',hs,bq,aaW⟩:=hs
    rcases hg with rfl | ⟨a,t,rfl,hI,hf,ht⟩
    ·rcases aaU w bs with h0 | ⟨a,h1⟩
     ·refine⟨(kF,false),?_,hi,z4⟩
      rcases bq with rfl | ⟨rfl,_⟩
      ·exact hs
      ·rw[hs,h0]
     ·rcases bq with rfl | ⟨rfl,b7⟩
      ·exact⟨(kF,false),hs,hi,z4⟩
      ·exfalso
       obtain⟨ns,hk,hr,hd,PM⟩:=aaI h1
       have hf:=aay hk hr hd
       have hp:=Z0 a (aaR hk hr hd) hf
       have hsz:(tx a w ns).size=(tx a w ns).data.toList.length:=rfl
       have aaX:kE (tx a w ns)=(w :: bs,true):=by
        have e:=H7 (s:=tx a w ns) (by rw[hsz,PM];exact hj) PM hw nK (by omega)
        rw[Aw]at e
        exact Option.some.inj e
       rw[aaT (gy.trans aaX.symm),hp]at hi
       have:=congrArg Prod.snd (Option.some.inj hi)
       cases this
    ·obtain⟨w',ns,hk,hr,hd,rfl⟩:=aaz a hI hf
     obtain⟨h1,b7⟩:=aaH hk hr hd hw nK ht
     exact⟨(a,true),by rw[hs,aaW b7,h1],hi,aaS hk⟩
theorem aaY(s:ByteArray):HN s=some true:=by
 unfold HN
 by_cases hs:s.size<=1048576
 ·rw[decide_eq_false (by omega),cond_false]
  obtain⟨⟨a,ok⟩,h1,h2,h4⟩:=aaV s
  have hz:Oq a:=by
   show a.aB.weights.length<=1048576
   have:a.aB.weights.length<=4:=h4
   omega
  have hl:a.aB.weights.length<=1048576:=hz
  have he:=Zp a hz
  have hm:=Z4 a.aB.weights hl 1 (by omega) (by omega)
  have hh:=Z5 a.aB.weights hl 1 (by omega) (by omega)
  have U:=C2 lq 1 a.aB.weights 1 (fun x _=>Ig x)
  have aaZ:∀ (P:aL),P.aB.weights=(cq lq a.aB.weights 1).1->An P 1=some (cq lq a.aB.weights 1).2:=fun P hP=>by
   unfold An HM
   rw[hP,hh,bg,decide_eq_false (by omega),cond_false,bg,decide_eq_false (by omega),cond_false]
  rw[h1,bg,h2,bg]
  simp only[he,bg,Bool.not_true,cond_false,beq_self_eq_true,hm]
  rw[aaZ _ rfl,bg,decide_eq_false (by omega),cond_false,bne_self_eq_false,cond_false,bg,decide_eq_false (by omega),cond_false,bne_self_eq_false,cond_false]
 ·rw[decide_eq_true (by omega),cond_true]
theorem aa0(v0:Value)(w:World)(r0:PY w v0)(hQ:Qw w):Calls Tryd.prog 3 #[v0] w fun e w'=>e = .returned (.bool true)/\Below w.heap.size w w':=by
 obtain⟨s,rfl,hs⟩:=r0
 exact WR Y3 (WS (ai:=[(false,.str)]) (x:=(s,())) (by kernel_rfl) (aaY s)) (WT (.str _ s)) (RR hQ)
theorem abj {H : Type} {enc : TypeId × Value → H} {W : World} {base : Nat} {v : Value} {d : DataW H} {p : List MemPlace} (hv : Value.okWide Tryd.prog W .any base 9 v) (h : DataW.Trod enc Tryd.prog W 0 (fun _ => true) true 9 v d p) : PY W v := by
  obtain ⟨s, rfl, rfl, rfl, ws⟩ := Go.ChangeMaps.open_string Tryd.underlying9 hv h
  unfold maxLen at ws
  exact ⟨s, rfl, by omega⟩
end Go.Proofs.YtjldnlbiefpekaaDoor
