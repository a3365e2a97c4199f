/-
  Plain laws. Nothing here is a claim.
-/
import Derived.Test.YtdfkhfiglknaoaaGreatPYRetiring
namespace Go.Proofs.YtdfkhfiglknaoaaGreat
set_option linter.defProp false
open Go.RowKit
set_option linter.unusedVariables false
set_option linter.unusedSimpArgs false
set_option maxRecDepth 100000
def wv(l:aa Int):Nat->Int
 |0=>0
 |i+1=>bits .or .i64 (wv l i) (W6 (l.getD i 0*2 ^ (min (4*(i:Int)).toNat IntKind.i64.bits)))
def amz{l:aa Int}(h:l.length=8)(C:∀ s∈l,0 <= s/\s <= 15):uj l 8=true:=by
 simp[uj,aP,ck,xz,bA];simp_all
def aDk{l:aa Int}(h:l.length=8)(D:∀ s∈l,0<=s/\s<=15):Rq l=some (wv l 8,true):=by
 unfold Rq bw;rw[akH _ _ (by omega),amz h D,ak];have e:=cI (step:=Ln) 8 (λi=>((wv l i,l,(l.length:Int),(i:Int),()),())) (.inl ((wv l 8,()),())) aV (λi hi=>by
  have C:i<l.length:=by omega
  have E:W6 (4*(i:Int))=4*(i:Int):=aY;have I:¬ 4*(i:Int)<0:=by omega
  have O:l.getD i 0=l[i]:=by rw[cV,bT C];rfl
  have U:wv l (i+1)=bits .or .i64 (wv l i) (W6 (l.getD i 0*2 ^ (min (4*(i:Int)).toNat IntKind.i64.bits))):=rfl;unfold Ln az xG xI;rw[U,O];simp (disch:=omega) [C,E,I,bI]) (by unfold Ln az xG xI;simp[h]) (bM)
 rw[cv]at e;simp only[bG,av];have Y:wv l 0=0:=rfl;rw[Y]at e;rw[e];rfl
def aDl{l:aa Int}(h:l.length=8)(D:∀ s∈l,0<=s/\s<=15):Sk l=some (wv l 8,true):=by
 unfold Sk bw;rw[Tl _ _ (by omega),amz h D,ak];have e:=cI (step:=Mo) 8 (λi=>((l,wv l i,(i:Int),()),())) (.inl ((wv l 8,()),())) aV (λi hi=>by
  have C:i<l.length:=by omega
  have E:W6 (4*(i:Int))=4*(i:Int):=aY;have I:IntKind.u64.wrap (4*(i:Int))=4*(i:Int):=alJ (by omega) (by omega);have O:¬ 4*(i:Int)<0:=by omega
  have U:l.getD i 0=l[i]:=by rw[cV,bT C];rfl
  have Y:wv l (i+1)=bits .or .i64 (wv l i) (W6 (l.getD i 0*2 ^ (min (4*(i:Int)).toNat IntKind.i64.bits))):=rfl;unfold Mo az xG xI;rw[Y,U];simp (disch:=omega) [C,E,I,O,bI]) (by unfold Mo az xG xI;simp[h]) (bM)
 rw[cv]at e;simp only[bG,av];have e0:wv l 0=0:=rfl;rw[e0]at e;rw[e];rfl
def aDm{w:aa Nat}(D:eo w)(hl:w.length=11):Sl (bz w)=some (bz (w.drop 3)):=by
 have E:=(Ns D hl).ok;have hlen:(bz w).length=11:=by rw[iO,hl]
 have C:(bz w).drop 3=bz (w.drop 3):=by simp
 unfold Sl xA xZ;rw[Tl _ _ (by rw[iO];omega),E];generalize bz w=W at hlen C ⊢;rw[<- C];have I:W.take 11=W:=by rw[<- hlen,iR]
 simp[hlen,bE,I]
def amA{w:aa Nat}(D:eo w)(hl:w.length=11):(bz (w.drop 3)).length=8 /\ ∀ s∈bz (w.drop 3),0 <= s/\s <= 15:=by
 refine⟨by rw[iO];simp[hl],λs C=>?_⟩
 simp only[ List.mem_map]at C;obtain⟨x,E,rfl⟩:=C;have:=D x (List.mem_of_mem_drop E);omega
def zS(w:aa Nat):Int:=bif (gD w).2.1==2 then 0 else wv (bz ((gD w).1.drop 3)) 8
def aDn{w:aa Nat}(C:eo w)(hl:w.length=11):Rs (bz w)=some (zS w,(gD w).2.1,(gD w).2.2):=by
 have⟨D,E,_⟩:=Ey C hl;have⟨d1,d2⟩:=amA E D;unfold Rs zS;rw[alO C hl,ak];cases h:(gD w).2.1==2 with
 |true=>simp
 | false=>
  rw[ aB7 E D,ak,aDk d1 d2];rfl
def aDo{w:aa Nat}(C:eo w)(hl:w.length=11):Sn (bz w)=some (zS w,(gD w).2.1,(gD w).2.2):=by
 have⟨D,E,_⟩:=Ey C hl;have⟨d1,d2⟩:=amA E D;unfold Sn zS;rw[aBZ C hl,ak];cases h:(gD w).2.1==2 with
 |true=>simp
 | false=>
  rw[ aDm E D,ak,aDl d1 d2];rfl
def nw(c:bQ):aa Nat:=c.symbols.map Int.toNat
def NY{c:bQ}(h:Sy c.symbols):bz (nw c)=c.symbols/\eo (nw c)/\(nw c).length=11:=by
 have⟨C,D⟩:=Z2 _ h.2;exact⟨C,D,by simp[nw,h.1]⟩
def nL(c:bQ):Int:=bif c.jK then 2 else (gD (nw c)).2.1
def sg(c:bQ):bQ:=bif c.jK then c else bif (gD (nw c)).2.1==1 then ⟨bz (gD (nw c)).1,c.jK⟩else bif (gD (nw c)).2.1==2 then ⟨c.symbols,true⟩else c
def aDp{l:aa bQ}{j:Nat}(h:j<l.length):l.set j l[j]=l:=List.set_getElem_self h
def amB{c:bQ}(h:Sy c.symbols):Sy (sg c).symbols:=by
 have⟨O,C,D⟩:=NY h;have⟨E,I,_⟩:=Ey C D;unfold sg;cases c.jK with
 |true=>exact h
 | false=>
  cases (gD _).2.1==1 with
  |true=>exact Ns I E
  |false=>grind
def xO(x:Int)(k:Nat):Int:=bits .and .i64 (x.fdiv (2 ^ (min (4*(k:Int)).toNat IntKind.i64.bits))) 15
def jt(x:Int):Nat->aa Int
 |0=>[]
 |k+1=>jt x k++[xO x k]
def HX(x:Int):∀ k,(jt x k).length=k
 |0=>rfl
 |k+1=>by simp[jt,HX x k]
def aa0(x:Int):∀ k,∀ s∈jt x k,0<=s/\s<=15
 |0,s,h=>by cases h
 | k+1,s,h=>by
  rcases List.mem_append.1 h with h|h
  ·exact aa0 x k s h
  ·rw[jH.1 h];exact aBQ _
def aDq{x:Int}(h0:0<=x)(h1:x<=4294967295):So x=some (jt x 8):=by
 have C:aQ x 0 4294967295=true:=by rw[bA];omega
 unfold So bw;have e:=cI (step:=Mq) 8 (λk=>((x,(),(k:Int),()),(jt x k,()))) (.inl (((),()),(jt x 8,()))) aV (λk hk=>by
  have D:(k:Int)<8:=by omega
  have E:bE ((jt x k).length+1)=true:=cF (by rw[HX];omega);have I:W6 (4*(k:Int))=4*(k:Int):=aY;have O:IntKind.u64.wrap (4*(k:Int))=4*(k:Int):=alJ (by omega) (by omega);have U:¬ 4*(k:Int)<0:=by omega
  unfold Mq L5 az xG;simp (disch:=omega) [D,fm,C,I,O,U,E,bI,jt,xO]) (by
  unfold Mq az xG;simp) (bM)
 rw[cv]at e;have Y:jt x 0=[]:=rfl;rw[Y]at e;rw[e];rfl
def aDr{x:Int}(Y:0<=x)(h1:x<=4294967295):Q2 x=some (jt x 8):=by
 have C:aQ x 0 4294967295=true:=by rw[bA];omega
 unfold Q2 Dv bw;rw[dy,ak,ak,C,bG,av];have e:=cI (step:=KK) 8 (λk=>((x,(),(k:Int),()),(jt x k,()))) (.inl (((),()),(jt x 8,()))) aV (λk hk=>by
  have D:(k:Int)<8:=by omega
  have E:bE ((jt x k).length+1)=true:=cF (by rw[HX];omega);have I:W6 (4*(k:Int))=4*(k:Int):=aY;have O:¬ 4*(k:Int)<0:=by omega
  unfold KK az xG;simp (disch:=omega) [D,I,O,E,bI,jt,xO]) (by
  unfold KK az xG;simp) (bM)
 rw[cv]at e;have U:jt x 0=[]:=rfl;rw[U]at e;rw[e];rfl
def amC:(ke λx=>ke λy=>ke λz=>(λC D E=>Nat.beq (gm (gm 2 (C ^^^ D) ^^^ gm 5 (C ^^^ E)) 13) y&&(Nat.beq (gm (gm 3 (C ^^^ E) ^^^ gm 5 (C ^^^ D)) 13) z&&Nat.beq (C ^^^ (y ^^^ z)) x)) (gm x (pw 0) ^^^ (gm y (pw 0) ^^^ gm z (pw 0))) (gm x (pw 0) ^^^ (gm y (pw 1) ^^^ gm z (pw 2))) (gm x (pw 0) ^^^ (gm y (pw 2) ^^^ gm z (pw 4))))=true:=by kernel_rfl
def aDs{x y z:Nat}{d:aa Nat}(j:Nat):bS (x :: y :: z :: d) j 11=(gm x (pw (0*j)) ^^^ (gm y (pw (1*j)) ^^^ gm z (pw (2*j)))) ^^^ bS (0 :: 0 :: 0 :: d) j 11:=by
 simp[bS,List.getD_cons_zero,List.getD_cons_succ,Nat.xor_assoc,Nat.zero_xor,Ti (vA _)]
def HY{a b:Nat}(h:a ^^^ b=0):a=b:=by
 have C:(a ^^^ b) ^^^ b=0 ^^^ b:=by rw[h]
 grind
def amD{w v:aa Nat}(I:eo w)(O:eo v)(lw:w.length=11)(lv:v.length=11)(U:w.drop 3=v.drop 3)(zw:og w=true)(zv:og v=true):w=v:=by
 obtain⟨x,y,z,d,rfl⟩:∃ x y z d,w=x :: y :: z :: d:=by
  match w,lw with
  |x::y::z::d,_=>simp_all
 obtain⟨C,D,E,d',rfl⟩:∃ x y z d,v=x :: y :: z :: d:=by
  match v,lv with
  |x::y::z::d,_=>simp_all
 have U:d=d':=U;subst U;simp only[og,aP]at zw zv;have⟨w0,w1,Y⟩:=zw;have⟨v0,v1,v2⟩:=zv;rw[aDs]at w0 w1 Y v0 v1 v2;have w0:gm x (pw 0) ^^^ (gm y (pw 0) ^^^ gm z (pw 0))=bS (0::0::0::d) 0 11:=HY (cL w0);have w1:gm x (pw 0) ^^^ (gm y (pw 1) ^^^ gm z (pw 2))=bS (0::0::0::d) 1 11:=HY (cL w1);have Y:gm x (pw 0) ^^^ (gm y (pw 2) ^^^ gm z (pw 4))=bS (0::0::0::d) 2 11:=HY (cL Y);have v0:gm C (pw 0) ^^^ (gm D (pw 0) ^^^ gm E (pw 0))=bS (0::0::0::d) 0 11:=HY (cL v0);have v1:gm C (pw 0) ^^^ (gm D (pw 1) ^^^ gm E (pw 2))=bS (0::0::0::d) 1 11:=HY (cL v1);have v2:gm C (pw 0) ^^^ (gm D (pw 2) ^^^ gm E (pw 4))=bS (0::0::0::d) 2 11:=HY (cL v2);have m:∀{l:aa Nat} {n:Nat},eo l -> n∈l -> n<16:=λh hn=>h _ hn
 have k1:=ig (ig (ig amC (m I (n:=x) (by simp))) (m I (n:=y) (by simp))) (m I (n:=z) (by simp));have k2:=ig (ig (ig amC (m O (n:=C) (by simp))) (m O (n:=D) (by simp))) (m O (n:=E) (by simp));simp_all
def amE(w r:aa Nat):∀ k,k<=3->(rW w r k).drop 3=w.drop 3
 |0,_=>rfl
 | k+1,h=>by
  show (List.set _ _ _).drop 3=_;rw[List.drop_set_of_lt (by omega),amE w r k (by omega)]
def T1{a b:aa Nat}(h:bz a=bz b):a=b:=(List.map_inj_right (λx y h=>by
 omega)).1 h
def aDt{d:aa Nat}(D:eo d)(hl:d.length=8):∃ w,BB (bz d)=some (bz w)/\w.length=11/\eo w/\w.drop 3=d/\og w=true:=by
 have E:eo (0 :: 0 :: 0 :: d):=by
  intro x hx;simp only[gZ]at hx;rcases hx with rfl|rfl|rfl|hx
  ·decide
  ·decide
  ·decide
  ·exact D x hx
 have C:(0::0::0::d).length=11:=by simp[hl]
 obtain⟨w,e,I,O,U,Y,h5⟩:=aAx D hl;refine⟨w,e,I,O,?_,by simp[og,U,Y,h5]⟩;have e1:BB (bz d)=some (bz (rW (0 :: 0 :: 0 :: d) (out (0 :: 0 :: 0 :: d) 8) 3)):=by
  unfold BB xA bw xZ;have c0:((d.length:Int)==(8:Int))=true:=by rw[hl];rfl
  have c1:bE ((List.replicate (3:Int).toNat (0:Int)).length+(bz d).length)=true:=by
   rw[iO,hl];rfl
  have c2:bE (([]:aa Int).length+(bz (0 :: 0 :: 0 :: d)).length)=true:=by
   rw[iO,C];rfl
  have c3:W6 (((bz (0 :: 0 :: 0 :: d)).length:Int)-(1:Int))=10:=by
   rw[iO,C];rfl
  have eW:List.replicate (3:Int).toNat (0:Int)++bz d=bz (0::0::0::d):=rfl;rw[akz D (by omega),ak,c0,show (!true)=false from rfl,av,bg (by decide),c1,aq,eW,aky,ak,dH];dsimp only;rw[kJ,c2,aq,c3,akA E C,ak,dH];dsimp only;rw[akG C (by rw[Eh,C]),ak,dH]
 rw[e1]at e;injection e with e;rw[<-T1 e,amE _ _ 3 (dc _)];rfl
def B5(x:Int):aa Int:=(Bd x).getD []
def EL{x:Int}(E:0 <= x)(I:x <= 4294967295):Bd x=some (B5 x)/\Sy (B5 x) /\ ∃ w,B5 x=bz w/\w.length=11/\eo w/\bz (w.drop 3)=jt x 8/\og w=true:=by
 have O:aQ x 0 4294967295=true:=by rw[bA];omega
 have⟨t1,t2⟩:=Z2 _ (aa0 x 8);have tl:((jt x 8).map Int.toNat).length=8:=by rw[fN,HX]
 have⟨w,C,l1,d1,U,Y,q2,q3⟩:=aAn t2 tl;have z1:og w=true:=by simp[og,Y,q2,q3]
 rw[t1]at C;have D:Bd x=some (bz w):=by
  unfold Bd Dv;rw[dy,ak,ak,O,bG,av,aDr E I,ak,C,ak]
 have ee:B5 x=bz w:=by unfold B5;rw[D];rfl
 rw[ee];exact⟨D,Ns d1 l1,w,rfl,l1,d1,by rw[U,t1],z1⟩
def amF{x:Int}(C:0 <= x)(D:x <= 4294967295):Hg x=some (B5 x):=by
 have⟨t1,t2⟩:=Z2 _ (aa0 x 8);have tl:((jt x 8).map Int.toNat).length=8:=by rw[fN,HX]
 have⟨_,_,w,I,l1,d1,O,U⟩:=EL C D;have⟨v,E,l2,d2,Y,z2⟩:=aDt t2 tl;have ewv:=amD d1 d2 l1 l2 (by rw[Y];exact T1 (by rw[O,t1])) U z2;subst ewv;rw[t1]at E;unfold Hg;rw[aDq C D,ak,E,ak,I]
def aDu{a b:Nat}(E:a<9223372036854775808)(hb:b<9223372036854775808):bits .or .i64 (a:Int) (b:Int)=((a ||| b:Nat):Int):=by
 have e:bits .or .i64 (a:Int) (b:Int)=W6 ((BitVec.ofInt 64 (a:Int) |||BitVec.ofInt 64 (b:Int)).toNat:Int):=rfl;have h:a |||b<2 ^ 63:=Nat.or_lt_two_pow (by omega) (by omega);have C:BitVec.ofInt 64 (a:Int)=BitVec.ofNat 64 a:=BitVec.ofInt_natCast 64 a;have D:BitVec.ofInt 64 (b:Int)=BitVec.ofNat 64 b:=BitVec.ofInt_natCast 64 b;rw[e,C,D,BitVec.toNat_or,BitVec.toNat_ofNat,BitVec.toNat_ofNat,Nat.mod_eq_of_lt (by omega),Nat.mod_eq_of_lt (by omega),aY]
def amG(a:Nat)(I:a<9223372036854775808):bits .and .i64 (a:Int) 15=((a % 16:Nat):Int):=by
 have e:bits .and .i64 (a:Int) 15=W6 ((BitVec.ofInt 64 (a:Int) &&& BitVec.ofInt 64 15).toNat:Int):=rfl;have C:BitVec.ofInt 64 (a:Int)=BitVec.ofNat 64 a:=BitVec.ofInt_natCast 64 a;have D:(BitVec.ofInt 64 15).toNat=15:=rfl;have E:a &&& 15=a % 16:=Nat.and_two_pow_sub_one_eq_mod a 4;rw[e,C,BitVec.toNat_and,BitVec.toNat_ofNat,Nat.mod_eq_of_lt (by omega),D,E,aY]
def nv(d:aa Nat):Nat->Nat
 |0=>0
 |k+1=>nv d k+d.getD k 0*16 ^ k
def NZ{d:aa Nat}(C:eo d):∀ k,nv d k<16 ^ k
 |0=>Nat.one_pos
 | k+1=>by
  have D:=NZ C k;have E:=C.get k;have I:d.getD k 0*16 ^ k <= 15*16 ^ k:=jd _ (by omega);show nv d k+d.getD k 0*16 ^ k<16 ^ (k+1)
  grind
def aa1(k:Nat)(C:k<8):(min (4*(k:Int)).toNat IntKind.i64.bits)=4*k:=by
 have:IntKind.i64.bits=64:=rfl;rw[this];omega
def aa2{d:aa Nat}(C:eo d)(hl:d.length=8):∀ k,k<=8->wv (bz d) k=(nv d k:Int)
 |0,_=>rfl
 | k+1,h=>by
  have E:=NZ C k;have U:=C.get k;have Y:(16:Nat) ^ k<=16 ^ 7:=Nat.pow_le_pow_right (by decide) (by omega);have D:(2:Nat) ^ (4*k)=16 ^ k:=by rw[Nat.pow_mul]
  have h3:d.getD k 0*16 ^ k<=15*16 ^ k:=jd _ (by omega);have I:(bz d).getD k 0=((d.getD k 0:Nat):Int):=by
   rw[cV,bT (by rw[iO];omega)];exact vB (by rw[iO];omega)
  have O:((d.getD k 0:Nat):Int)*2 ^ (4*k)=((d.getD k 0*16 ^ k:Nat):Int):=by
   rw[<-D]
   push_cast
   rfl
  show bits .or .i64 (wv (bz d) k) (W6 ((bz d).getD k 0*2 ^ (min (4*(k:Int)).toNat IntKind.i64.bits)))=((nv d k+d.getD k 0*16 ^ k:Nat):Int)
  rw[aa2 C hl k (by omega),aa1 k (by omega),I,O,aY,aDu (by omega) (by omega)];congr 1;have:=Nat.two_pow_add_eq_or_of_lt (i:=4*k) (b:=nv d k) (by rw[D];exact E) (d.getD k 0);rw[D,Nat.mul_comm]at this;rw[Nat.or_comm,<-this];omega
def amH{d:aa Nat}(C:eo d):∀ n k,k<n -> nv d n / 16 ^ k % 16=d.getD k 0
 |0,k,h=>by omega
 | n+1,k,h=>by
  have D:=NZ C n;have I:=C.get n;show (nv d n+d.getD n 0*16 ^ n) / 16 ^ k % 16=_;by_cases e:k=n
  ·subst e;rw[Nat.add_mul_div_right _ _ (Nat.pow_pos (by decide)),Nat.div_eq_of_lt D,fB];omega
  ·have O:n=(n-k-1)+1+k:=by omega
   have E:d.getD n 0*16 ^ n=(d.getD n 0*16 ^ (n-k-1)*16)*16 ^ k:=by
    grind
   rw[E,Nat.add_mul_div_right _ _ (Nat.pow_pos (by decide)),Nat.add_mul_mod_self_right,amH C n k (by omega)]
def amI{d:aa Nat}(C:eo d)(hl:d.length=8):jt (wv (bz d) 8) 8=bz d:=by
 have O:nv d 8<16 ^ 8:=NZ C 8;rw[aa2 C hl 8 (dc _)];have key:∀ k,k <= 8 -> jt (nv d 8:Int) k=bz (d.take k):=by
  intro k
  induction k with
  |zero=>intro _;rfl
  | succ k D=>
   intro U;have Y:(2:Nat) ^ (4*k)=16 ^ k:=by rw[Nat.pow_mul]
   have E:(nv d 8:Int).fdiv (2 ^ (4*k))=((nv d 8 / 16 ^ k:Nat):Int):=by
    grind
   have I:xO (nv d 8:Int) k=((d.getD k 0:Nat):Int):=by
    unfold xO;rw[aa1 k (by omega),E,amG _ (Nat.lt_of_le_of_lt (Nat.div_le_self _ _) (by omega)),amH C 8 k (by omega)]
   show jt (nv d 8:Int) k++[xO (nv d 8:Int) k]=_;rw[D (by omega),I,List.take_add_one,bT (by omega),cV,bT (by omega)];exact(List.map_append (f:=λn:Nat=>(n:Int)) (l₁:=d.take k) (l₂:=[d[k]])).symm
 rw[key 8 (dc _),<- hl,iR]
def amJ{d:aa Nat}(C:eo d)(hl:d.length=8):0 <= wv (bz d) 8/\wv (bz d) 8 <= 4294967295:=by
 have D:=NZ C 8;rw[aa2 C hl 8 (dc _)];omega
def aDv{w:aa Nat}(C:eo w)(hl:w.length=11)(h:(gD w).2.1=1):Hg (zS w)=some (bz (gD w).1):=by
 have⟨D,E,_⟩:=Ey C hl;have hz:=aB5 C hl (by omega);have I:eo ((gD w).1.drop 3):=λx hx=>E x (List.mem_of_mem_drop hx)
 have O:((gD w).1.drop 3).length=8:=by rw[List.length_drop,D]
 have he:zS w=wv (bz ((gD w).1.drop 3)) 8:=by
  unfold zS;simp_all
 have⟨U,Y⟩:=amJ I O;have e2:=amF U Y;have⟨_,_,v,ev,vl,v16,vd,vz⟩:=EL U Y;rw[amI I O]at vd;have:=amD v16 E vl D (T1 vd) vz hz;simp_all
def B6(d:bQ):Int:=bif d.jK then 0 else zS (nw d)
def EM(c:ax)(j:Nat)(d:bQ):ax:=cP c ⟨c.array.cells.set j d,c.array.bu,c.array.bq⟩
def aa3{c:ax}{j:Nat}(h:j<c.array.cells.length):EM c j c.array.cells[j]=c:=by
 unfold EM cP;rw[aDp h]
def amK{c:ax}{j:Nat}(C:j<c.array.cells.length)(U:Sy c.array.cells[j].symbols):zx c (j:Int)=some ((B6 c.array.cells[j],nL c.array.cells[j]),(EM c j (sg c.array.cells[j]),())):=by
 have⟨Y,D,E⟩:=NY U;have I:=alO D E;have O:=aDn D E;rw[Y]at I O;have ec:=aa3 C;unfold zx nL sg B6 xL xM;rw[aC ⟨by omega,by omega⟩,aC];simp only[bD];cases hp:c.array.cells[j].jK with
 |true =>simp_all
 | false=>
  rw[av,av,av,av,aC C,aC C,I,ak,aC C,aC C,O,ak];dsimp only;rcases(Ey D E).2.2 with q|q|q
  ·grind
  ·rw[q,iS,aC C,hp];rfl
  ·rw[q,iw (by omega),av,iS,aC C];rfl
def amL{c:ax}{j:Nat}(C:j<c.array.cells.length)(O:Sy c.array.cells[j].symbols):D7 c (j:Int)=some ((B6 c.array.cells[j],nL c.array.cells[j]),(EM c j (sg c.array.cells[j]),())):=by
 have⟨U,D,E⟩:=NY O;have I:=aDo D E;rw[U]at I;have ec:=aa3 C;unfold D7 nL sg B6 xL xM;rw[aC ⟨by omega,by omega⟩,aC];simp only[bD];cases Y:c.array.cells[j].jK with
 |true =>simp_all
 | false=>
  rw[av,av,av,av,aC C,I,ak];dsimp only;rcases(Ey D E).2.2 with q|q|q
  ·grind
  ·rw[q,iS,aDv D E q,ak,aC ⟨by omega,C⟩,aC C,iw (by omega),av,Y];rfl
  ·rw[q,iw (by omega),iS,av,aC ⟨by omega,C⟩,aC C];rfl
def HZ(d:jy)(n:Int)(w:Bool):Bool:=bif w then d.on ||decide (n<1)else !d.on
def aDw{d:jy}(n:Int)(w:Bool)(h:oS d=true):RH d n w=some (HZ d n w):=by
 unfold RH HZ;rw[Tv,h]
 grind
def aDx{d:jy}(n:Int)(w:Bool)(h:oS d=true):SD d n w=some (HZ d n w):=by
 unfold SD HZ;rw[aaa,h]
 grind
def amM{f:Nat->Bool}{n k:Nat}(h:k<n)(C:k<((List.range n).map f).length):((List.range n).map f)[k]=f k:=by simp
def H6(q:aa aN)(i:Nat):Bool:=match q[i]? with
 |some r=>r.write
 |none=>false
def amN{q:aa aN}{i:Nat}(h:i<q.length):H6 q i=q[i].write:=by
 unfold H6;rw[bT h]
def gv(c:ax):aa aM:=c.queue.map λr=>dL c r.line
def B7(c:ax):(gv c).length=c.queue.length:=by unfold gv;rw[fN]
def amO{c:ax}{i:Nat}(h:i<c.queue.length)(C:i<(gv c).length):(gv c)[i]=dL c c.queue[i].line:=by simp only[gv,List.getElem_map]
def T2{c:ax}(h:Pq c){r:aN}(C:r∈c.queue):xg c r.line=some (dL c r.line,true)/\dO c.config.au (dL c r.line)=true:=
 amk h.p h.sp h.se h.mo (h.q r C).1.1 (h.q r C).1.2
def aa4{c:ax}(h:Pq c){r:aN}(C:r∈c.queue):zE c r.line=some (dL c r.line):=
 aCU h.p h.sp h.se h.mo (h.q r C).1.1 (h.q r C).1.2
def aDy{c:ax}(h:Pq c):RG c=some (gv c):=by
 have D:=h.ql;have e:=cI (step:=Lu) c.queue.length (λi=>(((),(),c.queue,c.queue.length,i,()),(c,(c.queue.take i).map _,()))) (.inl (((),()),(gv c,()))) aV (λk C=>by
  have hl:((c.queue.take k).map (λr=>dL c r.line)).length=k:=by simp;omega
  unfold Lu az xG xI;dsimp only;rw[aW,aq,aC ⟨by omega,by omega⟩];simp only[bD];rw[(T2 h (cQ C)).1,ak,bI,hl,mV,cF,aq,nD C,List.map_append];rfl) (by
  unfold Lu az xG xI;dsimp only;rw[aZ,av,iR];rfl) (bM)
 unfold RG bw;simp_all
def amP{c:ax}(h:Pq c):MD c=some (gv c):=by
 have D:=h.ql;have e:=cI (step:=MC) c.queue.length (λi=>((c,(),i,()),((c.queue.take i).map _,()))) (.inl (((),()),(gv c,()))) aV (λk C=>by
  have hl:((c.queue.take k).map (λr=>dL c r.line)).length=k:=by simp;omega
  unfold MC az xG xI;dsimp only;rw[aW,aq,aC ⟨by omega,by omega⟩];simp only[bD];rw[aa4 h (cQ C),ak,bI,hl,mV,cF,aq,nD C,List.map_append];rfl) (by
  unfold MC az xG xI;dsimp only;rw[aZ,av,iR];rfl) (bM)
 unfold MD bw;simp_all
def zA:aM:=⟨0,0,0⟩
def cR(c:ax)(i:Nat):aM:=(gv c).getD i zA
def T3{c:ax}{i:Nat}(h:i<(gv c).length):(gv c)[i]=cR c i:=by
 unfold cR;rw[cV,bT h];rfl
def N1{c:ax}(h:Pq c){i:Nat}(hi:i<c.queue.length):dO c.config.au (cR c i)=true/\0 <= (cR c i).ay/\(cR c i).ay.toNat<c.aO.aA.length/\(cR c i).ay.toNat<c.aS.aJ.length/\(cR c i).ay<aU c.config.au/\0 <= (cR c i).row:=by
 have e:=amO hi (by rw[B7];exact hi);rw[T3]at e;have C:=(T2 h (cQ hi)).2;rw[<- e]at C;have⟨_,D,E,I,O,U,Y⟩:=rV C;have:=h.p.bl;have:=h.dl;simp_all
def B8{c:ax}(h:Pq c):c.aO.aA.length<=1048576:=by
 have:=h.p.bl;have:=eM c.config.au;omega
def T4(e:cB):cB:=⟨e.line,e.code,(if (999:Int)<(W6 (e.times+(1:Int)))then (999:Int)else (W6 (e.times+(1:Int))))⟩
def zEE:cB:=⟨0,0,0⟩
def xP(l:aa cB)(line code:Int):aa cB:=match l.findIdx? (mO ⟨line,code,1⟩)with
 |some i=>l.set i (T4 (l.getD i zEE))
 |none=>bif ((l.length:Int)==(6:Int))then l.drop 1++[⟨line,code,1⟩]else l++[⟨line,code,1⟩]
def aDz{l:aa cB}(h:mm l=true){line code:Int}(D:0<=line/\line<=1023)(E:code=1\/code=2):Rt l line code=some (xP l line code,true):=by
 have hl:l.length<=6:=by
  simp only[mm,aP,fU]at h;omega
 have I:aQ line 0 1023=true:=bA.2 D;unfold Rt Lp xP bU xA xZ;rw[cF (by simp;omega),aq,ak,ak2 _ (by omega),ak,h,bG,av,dy,ak,I,bG,av,kJ];have e:=ta (step:=Lq) l (mO ⟨line,code,1⟩) (λk=>((line,code,(),(),(l.length:Int),(k:Int),()),(l,()))) (λi=>.inl (((),true,()),(l.set i (T4 (l.getD i zEE)),()))) (.inr (.inl ((line,code,(),()),(l,())))) aV (λk O=>by
  unfold Lq mO az bx xG xL;dsimp only;rw[aW,aq,aC ⟨by omega,by omega⟩,aC];simp only[bD];rw[aC ⟨by omega,by omega⟩,aC,bI,gu _ O];cases l[k].line==line<;>cases l[k].code==code<;>rfl) (by
  unfold Lq az bx xG xL;dsimp only;rw[aZ,av]) (bM)
 rw[cv]at e;have U:iter Y3 aV ((line,code,(),(),(l.length:Int),(0:Int),()),(l,()))=_:=e;rcases E with rfl|rfl
 ·rw[bne_self_eq_false,av,U];cases l.findIdx? (mO ⟨line,1,1⟩)with
  |some i=>rfl
  | none=>
   rw[ak,Sum.elim_inr,dH];dsimp only;cases C:(l.length:Int)==(6:Int)with
   |false=>rw[av,av,cF (by simp;omega)];rfl
   | true=>
    have C:=eq_of_beq C;rw[aq,aq,bg ⟨by omega,by omega,by omega⟩,cF (by simp;omega),aq,ak,cF (by simp;omega),aq];simp
 ·rw[gI (by omega),aq,bne_self_eq_false,av,e];cases l.findIdx? (mO ⟨line,2,1⟩)with
  |some i=>rfl
  | none=>
   rw[ak,Sum.elim_inr,dH];dsimp only;cases C:(l.length:Int)==(6:Int)with
   |false=>rw[av,av,cF (by simp;omega)];rfl
   | true=>
    have C:=eq_of_beq C;rw[aq,aq,bg ⟨by omega,by omega,by omega⟩,cF (by simp;omega),aq,ak,cF (by simp;omega),aq];simp
def aDA{l:aa cB}(h:mm l=true){line code:Int}(D:0 <= line/\line <= 1023)(h2:code=1 \/ code=2):Sr l line code=some (xP l line code,true):=by
 have hl:l.length <= 6:=by
  simp only[mm,aP,fU]at h;omega
 have E:aQ line 0 1023=true:=bA.2 D;have I:aQ 1 1 999=true:=rfl;have O:Hh ⟨line,code,1⟩=some true:=by
  unfold Hh;rw[fm,ak,E,fm,I]
  grind
 unfold Sr xP xA xC xZ;rw[cF (by simp;omega),aq,aAV,ak,h,bG,av,O,ak,bG,av];have C:=ak1 l ⟨line,code,1⟩ (by omega);dsimp only at C;rw[C,ak,kJ];unfold gR;cases hi:l.findIdx? (mO ⟨line,code,1⟩)with
 | some i=>
  have⟨U,hp,hq⟩:=nO.1 hi;dsimp only;rw[aW,aq,aC ⟨by omega,by omega⟩,aC,aC ⟨by omega,by omega⟩,aC];rw[gu _ U];rfl
 | none=>
  dsimp only;rw[aZ,av];by_cases Y:l.length=6
  ·rw[aW,show ((l.length:Int)==6)=true by rw[Y];rfl,bg ⟨by omega,by omega,by omega⟩,cF (by simp;omega),cF (by simp;omega)];simp
  ·rw[aZ,av,iw (by omega),av,cF (by simp;omega),aq]
def aa5(c:ax)(l:aa cB):ax:=⟨c.config,c.box,c.now,c.aO,c.ready,c.array,c.spare,c.aS,c.bH,c.guard,c.pending,c.queue,c.shares,c.drain,c.aR,c.cY,l,c.trace,c.bP⟩
def H7(c:ax)(n code:Int):ax:=bif code != 0 then aa5 c (xP c.errors n code)else c
def aDB{c:ax}(h:mm c.errors=true){n code:Int}(C:0<=n/\n<=1023)(h2:code=0\/code=1\/code=2):zo c n code=some ((),(H7 c n code,())):=by
 unfold zo H7;rcases h2 with rfl|h2
 ·rfl
 ·rw[aDz h C h2,gI (by omega)];rfl
def aDC{c:ax}(h:mm c.errors=true){n code:Int}(C:0<=n/\n<=1023)(h2:code=0\/code=1\/code=2):DY c n code=some ((),(H7 c n code,())):=by
 unfold DY H7;rcases h2 with rfl|h2
 ·rfl
 ·rw[aDA h C h2,gI (by omega)];rfl
def amQ(q:aa aN):Prop:=∀i (h:i<q.length),(q.take i).any (λx=>x.id==q[i].id)=false
def aDD{q:aa aN}{i:Nat}(h:i<q.length)(hl:q.length<=12):R0 q (i:Int) (W6 ((i:Int)+1))=some (q.take i++q.drop (i+1),([],())):=by
 have C:(splice q i ((q.take ((q.length:Int).toNat)).drop (i+1))).length=q.length:=by
  rw[uG _ _ _ (by simp;omega)]
 have E:((q.take ((q.length:Int).toNat)).drop (i+1))=q.drop (i+1):=by rw[bD,iR]
 unfold R0;rw[bI,bg ⟨by omega,by omega,by omega,by omega⟩,iw (by omega),av,bg ⟨by omega,by omega,by omega⟩,bg ⟨by omega,by omega,by omega⟩];simp only[bD]at C ⊢;rw[bg ⟨by omega,by omega,by omega,by omega⟩,bg ⟨by omega,by omega,by omega⟩,bg ⟨by omega,by omega⟩];have D:i+(q.length-(i+1))-0=i+(q.length-(i+1)):=by omega
 rw[D,aaW _ _ _ (by omega)];unfold splice;rw[iR,List.take_append_of_le_length (by simp;omega),List.take_of_length_le (by simp;omega)]
def aDE{q:aa aN}(C:amQ q){i:Nat}(h:i<q.length)(hl:q.length <= 12):SU q q[i].id=some (q.take i++q.drop (i+1),true):=by
 have D:q.findIdx? (λr=>r.id==q[i].id)=some i:=by
  rw[nO]
  refine⟨h,by simp,λj E=>?_⟩
  have:=mz.1 (C i h) q[j] (jI.2 ⟨j,by rw[jf];omega,by rw[List.getElem_take]⟩);simp_all
 unfold SU xA xZ;rw[aae _ _ (by omega),ak];unfold gR;rw[D];dsimp only;rw[aZ,av,bg ⟨by omega,by omega,by omega⟩,cF (by simp;omega),aq,bI,bg ⟨by omega,by omega,by omega⟩,cF (by simp;omega),aq];simp_all
def oX:aN:=⟨0,0,0,false,0,0⟩
def B9(s:aa cD)(t:Int):aa cD:=match qQ s ((List.replicate 4 false).set t.toNat true)with
 |some (l,_)=>l
 |none=>[]
def q7(c:ax)(i:Nat)(a:cJ)(e:aa cB)(x:dA):ax:=
 ⟨c.config,c.box,c.now,c.aO,c.ready,a,c.spare,c.aS,c.bH,c.guard,c.pending,c.queue.take i++c.queue.drop (i+1),B9 c.shares (c.queue.getD i oX).dM,c.drain,c.aR,c.cY,e,c.trace,c.bP++[x]⟩
def gK(c:ax)(i:Nat):ax:=
 let r:=c.queue.getD i oX
 let n:=eJ c.config.au (dL c r.line)
 bif r.write then q7 c i ⟨c.array.cells.set n ⟨B5 r.data,false⟩,c.array.bu,c.array.bq⟩ c.errors ⟨r.id,c.now,0,0⟩
 else q7 c i ⟨c.array.cells.set n (sg (c.array.cells.getD n vQ)),c.array.bu,c.array.bq⟩ (bif nL (c.array.cells.getD n vQ) != 0 then xP c.errors (n:Int) (nL (c.array.cells.getD n vQ))else c.errors) ⟨r.id,c.now,B6 (c.array.cells.getD n vQ),nL (c.array.cells.getD n vQ)⟩
def aa6{d:bQ}(h:Sy d.symbols):nL d=0 \/ nL d=1 \/ nL d=2:=by
 have⟨E,C,D⟩:=NY h;unfold nL;cases d.jK with
 |true=>simp_all
 |false=>exact(Ey C D).2.2
structure oY (c:ax) (i:Nat) (B:Int):Prop where
 ad:∀r∈c.queue,xg c r.line=some (dL c r.line,true)/\dO c.config.au (dL c r.line)=true
 tn:∀r∈c.queue,0<=r.dM/\r.dM<=3
 ql:c.queue.length<=12
 sh:jq c.shares=true
 shl:c.shares.length=4
 u:amQ c.queue
 i:i<c.queue.length
 d:∀r∈c.queue,0<=r.data/\r.data<=4294967295
 a:fA c.config.au B c.array
 e:mm c.errors=true
 r:c.bP.length<=1000
def oY.facts{c:ax}{i:Nat}{B:Int}(h:oY c i B){r:aN}(C:r∈c.queue):xg c r.line=some (dL c r.line,true)/\qU c.config.au (dL c r.line)=(eJ c.config.au (dL c r.line):Int)/\eJ c.config.au (dL c r.line)<c.array.cells.length/\(eJ c.config.au (dL c r.line):Int) <= 1023/\qQ c.shares ((List.replicate 4 false).set r.dM.toNat true)=some (B9 c.shares r.dM,(qQ c.shares ((List.replicate 4 false).set r.dM.toNat true)).get!.2)/\0 <= r.dM/\r.dM.toNat<4:=by
 obtain⟨D,E⟩:=h.ad _ C;have I:=h.tn _ C;obtain⟨O,U⟩:=BW E;have Y:=h.a.cells;have hl:=mN c.config.au;obtain⟨y,t,e,_⟩:=aaP ((List.replicate 4 false).set _ true) (by have:=h.shl;omega) h.sh (by simp[h.shl]);refine⟨D,O,by omega,by omega,?_,I.1,by omega⟩;unfold B9;rw[e];rfl
def amR{c:ax}{i:Nat}{B:Int}(h:oY c i B):R1 c (i:Int)=some ((),(gK c i,())):=by
 have hi:=h.i;have⟨f1,f3,f4,f5,f6,f7,f8⟩:=h.facts (cQ hi);have C:=h.d _ (cQ hi);have D:=h.a.syms _ (cQ f4);have E:c.queue.getD i oX=c.queue[i]:=gu _ hi;have O:=h.r;unfold R1 xL;rw[aC ⟨by omega,by omega⟩,aC];simp only[bD];rw[f1,ak,aDD hi h.ql,ak,bg (by decide)];have I:(4:Int).toNat=4:=rfl;rw[I,aC ⟨f7,by simpa using f8⟩,aC (by simpa using f8)];dsimp only;rw[f6,ak];dsimp only;unfold gK;rw[E];dsimp only;cases hw:c.queue[i].write with
 | true=>
  rw[ Nl,ak,(EL C.1 C.2).1,ak,aC ⟨by omega,by omega⟩,aC,cF (by simp;omega)];unfold q7;simp_all
 | false=>
  rw[av,av,Nl,ak,f3,gu _ f4]
  refine(bC (λo=>Option.bind o _) (amK (c:=⟨c.config,c.box,c.now,c.aO,c.ready,c.array,c.spare,c.aS,c.bH,c.guard,c.pending,c.queue.take i++c.queue.drop (i+1),B9 c.shares c.queue[i].dM,c.drain,c.aR,c.cY,c.errors,c.trace,c.bP⟩) f4 D)).trans ?_
  rw[ak];unfold EM cP;dsimp only;rw[cF (by simp;omega),aq,ak]
  refine(bC (λo=>Option.bind o _) (aDB (by exact h.e) ⟨by omega,f5⟩ (aa6 D))).trans ?_
  rw[ak];unfold H7 q7 aa5;rw[E];dsimp only;cases nL c.array.cells[eJ c.config.au (dL c c.queue[i].line)] != 0<;>rfl
def amS{c:ax}{i:Nat}{B:Int}(h:oY c i B)(I:∀ r∈c.queue,zE c r.line=some (dL c r.line)):SV c (i:Int)=some ((),(gK c i,())):=by
 have hi:=h.i;have⟨f1,f3,f4,f5,f6,f7,f8⟩:=h.facts (cQ hi);have f2:=I _ (cQ hi);have C:=h.d _ (cQ hi);have D:=h.a.syms _ (cQ f4);have E:c.queue.getD i oX=c.queue[i]:=gu _ hi;have U:=h.r;unfold SV xL;rw[aC ⟨by omega,by omega⟩,aC];simp only[bD];rw[f2,ak,ZV,ak,f3,aDE h.u hi h.ql,ak,bg (by decide)];have O:(4:Int).toNat=4:=rfl;rw[O,aC ⟨f7,by simpa using f8⟩,aC (by simpa using f8)];dsimp only;rw[aaO _ _ (by have:=h.shl;omega),f6,ak];dsimp only;unfold gK;rw[E];dsimp only;cases hw:c.queue[i].write with
 | true=>
  rw[ amF C.1 C.2,ak,aC ⟨by omega,by omega⟩,aC,cF (by simp;omega)];unfold q7;simp_all
 | false=>
  rw[av,av,gu _ f4]
  refine(bC (λo=>Option.bind o _) (amL (c:=⟨c.config,c.box,c.now,c.aO,c.ready,c.array,c.spare,c.aS,c.bH,c.guard,c.pending,c.queue.take i++c.queue.drop (i+1),B9 c.shares c.queue[i].dM,c.drain,c.aR,c.cY,c.errors,c.trace,c.bP⟩) f4 D)).trans ?_
  rw[ak];dsimp only
  refine(bC (λo=>Option.bind o _) (aDC (by exact h.e) ⟨by omega,f5⟩ (aa6 D))).trans ?_
  rw[ak];unfold H7 q7 aa5 EM cP;rw[E];dsimp only;cases nL c.array.cells[eJ c.config.au (dL c c.queue[i].line)] != 0 with
  | true=>
   rw[aq];rw[cF (by simp;omega)];rfl
  | false=>
   rw[av];rw[cF (by simp;omega)];rfl
def cw(c:ax)(x:aF):ax:=⟨c.config,c.box,c.now,ff c.aO x,kH c.config.au c.ready ⟨c.now,x⟩,c.array,c.spare,c.aS,c.bH,c.guard,c.pending,c.queue,c.shares,c.drain,c.aR,c.cY,c.errors,c.trace++[⟨c.now,x⟩],c.bP⟩
def amT(c:ax)(p:fK):ax:=⟨c.config,c.box,c.now,c.aO,c.ready,c.array,c.spare,c.aS,c.bH,c.guard,c.pending,c.queue,c.shares,c.drain,p,c.cY,c.errors,c.trace,c.bP⟩
def uy(c:ax)(r:c8):ax:=⟨c.config,c.box,c.now,c.aO,c.ready,c.array,c.spare,r,c.bH,c.guard,c.pending,c.queue,c.shares,c.drain,c.aR,c.cY,c.errors,c.trace,c.bP⟩
def amU(c:ax)(r:bX):ax:=⟨c.config,c.box,c.now,r,c.ready,c.array,c.spare,c.aS,c.bH,c.guard,c.pending,c.queue,c.shares,c.drain,c.aR,c.cY,c.errors,c.trace,c.bP⟩
def Ca(c:ax)(k:Int):ax:=amT c (vS c.aR k c.now)
def N2(c:ax)(b:Int):ax:=uy (NX c b (c.pending.filter (λa=>!(a.ay==b)))) (qc c.aS b)
def cS(c:ax)(x:aF)(i:Int):ax:=
 bif x.kind==1 then uw (cw c x) x else
 bif x.kind==5 then N2 (cw c x) x.ay else
 bif x.kind==2 ||x.kind==3 then gK (cw c x) i.toNat else
 bif x.kind==4 then cw c x else
 bif x.kind==9 then gX (Ca (cw c x) 9) c.bH.length []else Ca (cw c x) x.kind
structure Bs (c:ax):Prop where
 w:vT 100000 c
 u:xK c.pending
 pk:∀a∈c.pending,0<=a.ay/\a.ay<aU c.config.au
 zt:∀t∈c.bH,lQ t
 rf:fX c.aS=true
 bl:(c.aO.aA.length:Int)=aU c.config.au
 l1:c.ready.last.length<1073741824
 l2:c.ready.aT.length<1073741824
 tl:c.trace.length<10000
def Bs.cw{c:ax}(h:Bs c)(x:aF):vT 100000 (cw c x):=⟨h.w.hB,h.w.g,h.w.a,h.w.k,h.w.p,h.w.t,h.w.d,h.w.r⟩
def oY.cw{c:ax}{n:Nat}{B:Int}(h:oY c n B)(x:aF):oY (cw c x) n B:=⟨h.ad,h.tn,h.ql,h.sh,h.shl,h.u,h.i,h.d,h.a,h.e,h.r⟩
def aDF{c:ax}(h:vT 100000 c):iter zy aV (((),(c.bH.length:Int),(0:Int),()),((⟨c.config,c.box,c.now,c.aO,c.ready,c.array,c.spare,c.aS,c.bH,c.guard,([]:aa aM),c.queue,c.shares,c.drain,c.aR,c.cY,c.errors,c.trace,c.bP⟩:ax),()))=some (.inl ((),(gX c c.bH.length [],()))):=aDh h
def aDG{c:ax}{x:aF}(C:1 <= x.kind/\x.kind <= 9)(hb:x.kind <= 5 -> 0 <= x.ay/\x.ay.toNat<c.aO.aA.length):SX c x=some ((),(amU c (ff c.aO x),())):=by
 unfold SX ff amU xL;rcases kinds C with h|h|h|h|h|h|h|h|h<;>(try (have hb:=hb _))<;>simp[h,hb]
def H8{g:aG}{x:aF}(h:cZ g x=true)(C:x.kind=1):0 <= x.row/\x.row<g.rows:=by
 simp[cZ,aP]at h;have D:=h.2.2.2.1;rw[vG,C,show ((1:Int)==1)=true from rfl,aq,bA]at D;omega
def aDH{c:ax}(h:Bs c){x:aF}(E:kU c.config.au c.aO x=true){i:Int}(I:x.kind=2 \/ x.kind=3 -> oY c i.toNat 100000/\0 <= i):LW c x i=some ((),(cS c x i,())):=by
 have⟨hg,hlen,O,hb⟩:=vH E;have U:cZ c.config.au x=true:=by
  simp only[kU,aP]at E
  grind
 have b1:=eM c.config.au;have w:=h.cw x;have ht:=h.w.t;have hd:=h.w.d;have hr:=h.w.r;have H9:=h.tl;have er:zu c.config.au c.aO x=some (ff c.aO x,true):=by
  rw[aan _ _ _ (by omega)];unfold HL;simp_all
 unfold LW cS bw;rw[cF (by simp;omega),aq,alp _ _ _ h.l1 h.l2,ak,er,ak];rcases kinds O with q|q|q|q|q|q|q|q|q<;>rw[q]<;>simp only[Int.reduceBEq,Int.reduceBNe,aq,av,Bool.or_true,Bool.or_false,Bool.true_or,Bool.false_or,Bool.or_self]
 ·have⟨C,Y⟩:=hb (by omega);have⟨r0,r1⟩:=H8 U q
  refine(bC (λo=>Option.bind o _) (aDd (c:=cw c x) x w.g w.a w.p h.zt C (by show x.ay<aU c.config.au;omega) r0 r1 (by show x.ay.toNat<c.bH.length;omega) (by show x.ay.toNat<c.guard.length;omega))).trans ?_
  rfl
 ·have⟨s,D⟩:=I (.inl q);have e:=amR (s.cw x);rw[Int.toNat_of_nonneg D]at e
  refine(bC (λo=>Option.bind o _) e).trans ?_
  rfl
 ·have⟨s,D⟩:=I (.inr q);have e:=amR (s.cw x);rw[Int.toNat_of_nonneg D]at e
  refine(bC (λo=>Option.bind o _) e).trans ?_
  rfl
 ·rfl
 ·have⟨C,Y⟩:=hb (by omega);have⟨y,e4⟩:=aC5 h.rf (b:=x.ay) C (by omega)
  refine(bC (λo=>Option.bind o _) (amt w.hB (cw c x) w.g w.a C (by show x.ay<aU c.config.au;omega))).trans ?_
  rw[ak];unfold cP;dsimp only;rw[aC9 _ _ (by show c.pending.length<1000000;have:=h.w.p;omega),ak];dsimp only
  refine(bC (λo=>Option.bind o _) (amu _ (by exact w.k) C (by show x.ay.toNat<c.bH.length;omega) (by show x.ay.toNat<c.guard.length;omega))).trans ?_
  rw[ak];unfold r8;dsimp only
  refine(bC (λo=>Option.bind o _) e4).trans ?_
  rfl
 ·have⟨y,e⟩:=TW c.aR (k:=6) (by omega) c.now;rw[e,ak];rfl
 ·have⟨y,e⟩:=TW c.aR (k:=7) (by omega) c.now;rw[e,ak];rfl
 ·have⟨y,e⟩:=TW c.aR (k:=8) (by omega) c.now;rw[e,ak];rfl
 ·have⟨y,e⟩:=TW c.aR (k:=9) (by omega) c.now;rw[e,ak]
  refine(bC (λo=>Option.bind o _) (aDF (c:=Ca (cw c x) 9) ⟨w.hB,w.g,w.a,w.k,w.p,w.t,w.d,w.r⟩)).trans ?_
  rfl
def aDI{c:ax}(h:Bs c){x:aF}(E:kU c.config.au c.aO x=true){i:Int}(I:x.kind=2 \/ x.kind=3 -> oY c i.toNat 100000/\0 <= i)(O:∀ r∈c.queue,zE c r.line=some (dL c r.line)):BI c x i=some ((),(cS c x i,())):=by
 have⟨hg,hlen,U,hb⟩:=vH E;have Y:cZ c.config.au x=true:=by
  simp[kU,aP]at E;simp_all
 have b1:=eM c.config.au;have w:=h.cw x;have ht:=h.w.t;have hd:=h.w.d;have hr:=h.w.r;have H9:=h.tl;unfold BI cS bw;rw[cF (by simp;omega),aq,aBm _ _ _ h.l1 h.l2,ak]
 refine(bC (λo=>Option.bind o _) (aDG U (λh5=>by have:=hb h5;exact⟨this.1,this.2⟩))).trans ?_
 rw[ak];rcases kinds U with q|q|q|q|q|q|q|q|q<;>rw[q]<;>simp only[Int.reduceBEq,Int.reduceBNe,aq,av,Bool.or_true,Bool.or_false,Bool.true_or,Bool.false_or,Bool.or_self]
 ·have⟨C,nT⟩:=hb (by omega);have⟨r0,r1⟩:=H8 Y q
  refine(bC (λo=>Option.bind o _) (aDe (c:=cw c x) x w.g w.a w.p h.u h.zt C (by show x.ay<aU c.config.au;omega) r0 r1 (by show x.ay.toNat<c.bH.length;omega) (by show x.ay.toNat<c.guard.length;omega))).trans ?_
  rfl
 ·have⟨s,D⟩:=I (.inl q);have e:=amS (s.cw x) O;rw[Int.toNat_of_nonneg D]at e
  refine(bC (λo=>Option.bind o _) e).trans ?_
  rfl
 ·have⟨s,D⟩:=I (.inr q);have e:=amS (s.cw x) O;rw[Int.toNat_of_nonneg D]at e
  refine(bC (λo=>Option.bind o _) e).trans ?_
  rfl
 ·rfl
 ·have⟨C,nT⟩:=hb (by omega);have⟨y,e4⟩:=aC4 h.rf (b:=x.ay) C (by omega)
  refine(bC (λo=>Option.bind o _) (amv w.hB (cw c x) w.g w.a w.k w.p C (by show x.ay<aU c.config.au;omega) (by show x.ay.toNat<c.bH.length;omega) (by show x.ay.toNat<c.guard.length;omega))).trans ?_
  rw[ak]
  refine(bC (λo=>Option.bind o _) e4).trans ?_
  rfl
 ·have⟨y,e⟩:=TX c.aR (k:=6) (by omega) c.now
  refine(bC (λo=>Option.bind o _) e).trans ?_
  rfl
 ·have⟨y,e⟩:=TX c.aR (k:=7) (by omega) c.now
  refine(bC (λo=>Option.bind o _) e).trans ?_
  rfl
 ·have⟨y,e⟩:=TX c.aR (k:=8) (by omega) c.now
  refine(bC (λo=>Option.bind o _) e).trans ?_
  rfl
 ·have⟨y,e⟩:=TX c.aR (k:=9) (by omega) c.now
  refine(bC (λo=>Option.bind o _) e).trans ?_
  rw[ak]
  refine(bC (λo=>Option.bind o _) (aDj (c:=Ca (cw c x) 9) ⟨w.hB,w.g,w.a,w.k,w.p,w.t,w.d,w.r⟩ (by show (ff c.aO x).aA.length=c.bH.length;rw[aap];omega) h.pk)).trans ?_
  rfl
def aDJ{l m:aa Int}(h:l.length=m.length)(D:(l.zip m).all zI=true):(∀ x∈l,0 <= x/\x <= 100000) /\ ∀ x∈m,0 <= x/\x <= 100000:=by
 rw[ck]at D;have key:∀ i _ (E:i<m.length),(0 <= l[i]/\l[i] <= 100000)/\(0 <= m[i]/\m[i] <= 100000):=λi O E=>by
  have I:i<(l.zip m).length:=by rw[List.length_zip];omega
  have:=D _ (cQ I);rw[List.getElem_zip]at this;simp[zI,aP,bA]at this;exact this
 constructor
 ·intro x C;obtain⟨i,hi,rfl⟩:=jI.1 C
  grind
 ·intro x C;obtain⟨i,hi,rfl⟩:=jI.1 C;simp_all
def fA.vU{g:aG}{a:cJ}(h:oP g a=true):fA g 100000 a:=by
 simp only[oP,aP,fU]at h;have⟨h1,C,D,E,I,O⟩:=h;have⟨U,Y⟩:=aDJ (by omega) O
 refine⟨C,λc hc=>?_,D,E,U,Y⟩
 exact Sy.of (ck.1 I c hc)
def Bs.of{c:ax}(D:dJ c)(h:dK c=true)(I:c.trace.length<10000):Bs c:=by
 have E:=Pq.of D h;have z1:c.box.cr.weights.length <= 1048576:=D.1.1;have h0:=h;simp only[dK,aP]at h;have⟨O,h2,h3,h4,U,Y,h7,h8,C,BR,uf,rT,qW,vL,xF,nt,xq,EE,BJ,xu,xj,Ec⟩:=h;have⟨f1,f2⟩:=NU (by omega) O;simp only[od,aP]at f1;simp only[um,aP,eZ,ij,qh,ck,ga]at C;have⟨C,g1,g2,g3,g4,g5,g6⟩:=C;have Ab:=E.pl;have⟨hg,rl,ra⟩:=Eu U;have b1:=eM c.config.au
 refine⟨⟨by decide,hg,fA.vU Y,f1.2.2.2.2.2.1,by omega,g2,g3,g1⟩,λi hi=>?_,λa ha=>?_,D.2.2.2.2.2.2.1.2,C,E.p.bl,by omega,by omega,I⟩
 ·have hb:=g6 i hi;unfold BQ at hb
  grind
 ·have⟨_,k1,k2,_⟩:=rV (E.pe a ha);simp_all
def oY.of{c:ax}(O:dJ c)(h:dK c=true){n:Nat}(U:n<c.queue.length)(C:c.bP.length <= 1000):oY c n 100000:=by
 have D:=Pq.of O h;simp[dK,aP]at h;have⟨h1,h2,h3,h4,h5,Y,h7,h8,h9,E,uf,rT,qW,vL,xF,nt,xq,EE,BJ,xu,xj,Ec⟩:=h;simp[gW,aP,ck,ga]at E;have⟨I,q2⟩:=E
 refine⟨λr C=>T2 D C,λr C=>(D.q r C).2.1,D.ql,D.sh,D.shl,λi hi=>?_,U,λr C=>?_,fA.vU Y,xu,C⟩
 ·cases i with
  |zero=>simp
  | succ i=>
   have hb:=I _ hi;rw[Nz hi]at hb;simp_all
 ·obtain⟨i,hi,rfl⟩:=jI.1 C;have hb:=I i hi;unfold qV at hb;rw[bT hi]at hb;simp[nH,Tw,aP,bA]at hb;simp_all
def EN{g:aG}{B:Int}{a:cJ}(h:fA g B a):TJ a:=by
 have D:=h.cells;have E:=h.bu;have I:=h.bq;have O:=mN g;have U:=pX g;exact⟨⟨by omega,λc C=>by unfold aaD;rw[(h.syms c C).1];omega⟩,by omega,by omega⟩
def aa7{l:aa cq}(h:l.length <= 1048576 /\ ∀y∈l,lQ y){t:cq}(C:lQ t)(i:Nat):(l.set i t).length <= 1048576 /\ ∀y∈l.set i t,lQ y:=by grind
def amV{k:Int}(h:aQ k 1 16=true):lQ (qZ k):=by
 have:=bA.1 h;unfold qZ lQ
 grind
def aDK{t:cq}(h:lQ t)(row dY:Int):lQ (r7 t row dY).1:=by
 have hl:=aaT (t:=t) row;unfold lQ at h ⊢;unfold r7
 grind
def aDL{c:ax}(E:dJ c)(I:c.ready.aT.length <= 4)(ht:c.trace.length <= 10000)(x:aF):dJ (cw c x):=by
 have⟨O,C,⟨U,z4⟩,Y,z6,z7,z8,z9,jT,oU,oV,mg,oc,rQ⟩:=E;have D:=aay c.config.au c.ready ⟨c.now,x⟩;refine⟨O,by unfold alQ at C ⊢;show (ff _ x).aA.length <= _;rw[aap];exact C,⟨by show (kH _ _ _).last.length <= _;rw[D.1];exact U,Nat.le_trans (D.2 I) (by decide)⟩,Y,z6,z7,z8,z9,jT,oU,oV,mg,by simp[cw];omega,rQ⟩
def T5{c:ax}(D:dJ c){a:cJ}(E:TJ a){r:c8}(I:HP r){t:aa cq}(O:t.length <= 1048576 /\ ∀ y∈t,lQ y){C:aa Int}(U:C.length <= 1048576){pd:aa aM}(Y:pd.length <= 1048576)(pw:fK):dJ ⟨c.config,c.box,c.now,c.aO,c.ready,a,c.spare,r,t,C,pd,c.queue,c.shares,c.drain,pw,c.cY,c.errors,c.trace,c.bP⟩:=by
 have⟨z1,z2,z3,z5,z6,z7,z8,z9,jT,oU,oV,mg,oc,rQ⟩:=D;exact⟨z1,z2,z3,E,z6,I,O,U,Y,oU,oV,mg,oc,rQ⟩
def aDM{c:ax}(C:dJ c)(h:vT 100000 c)(x:aF)(D:0 <= x.ay)(E:x.ay<aU c.config.au)(I:0 <= x.row)(O:x.row<c.config.au.rows):dJ (uw c x):=by
 have zt:=C.2.2.2.2.2.2.1;have hb:x.ay.toNat<c.bH.length:=by have:=h.t;omega
 have U:=h.p;refine T5 C (EN (aaK h.g _ h.hB h.a D E I O)) C.2.2.2.2.2.1 (aa7 zt ?_ _) C.2.2.2.2.2.2.2.1 ?_ _
 ·unfold q6;rw[gu];exact aDK (zt.2 _ (cQ hb)) _ _
 ·have Y:(ot c x).length <= c.pending.length:=List.length_filter_le _ _;have hn:=aaY c.config.au.rows x.row;have ha:=TY x.ay (mP c.config.au.rows x.row) (ot c x)
  grind
def amW(r:c8)(b:Int):(qc r b).aJ.length=r.aJ.length:=by
 unfold qc;cases decide (r.aJ.getD b.toNat 0 = -2)<;>simp
def aDN{c:ax}(C:dJ c)(h:vT 100000 c){b:Int}(D:0 <= b)(E:b<aU c.config.au):dJ (N2 c b):=by
 have⟨_,_,_,_,I,O,U,Y⟩:=fJ h.g;have zt:=C.2.2.2.2.2.2.1;have hp:=h.p;have hf:=aaZ (λa:aM=>!(a.ay==b)) c.pending;exact T5 C (EN (HW h.g _ h.hB h.a D E _ (by omega))) (by unfold HP;rw[amW];exact C.2.2.2.2.2.1) (aa7 zt (amV h.k) _) (by show (c.guard.set _ _).length <= _;rw[ki];exact C.2.2.2.2.2.2.2.1) (by show (c.pending.filter _).length <= _;omega) _
def amX{l:aa cq}(h:l.length<=1048576/\∀ y∈l,lQ y){t:cq}(C:lQ t):∀ k:Nat,((List.range k).foldl (λd b=>d.set b t) l).length<=1048576/\∀ y∈(List.range k).foldl (λd b=>d.set b t) l,lQ y
 |0=>h
 |k+1=>by rw[qd];exact aa7 (amX h C k) C k
def aDO{c:ax}(C:dJ c)(h:vT 100000 c)(k:Nat)(D:(k:Int)<=aU c.config.au):dJ (gX c k []):=
 T5 C (EN (TZ h.g c.config.dg h.hB h.a k D)) (by unfold HP;rw[xN];exact C.2.2.2.2.2.1) (amX C.2.2.2.2.2.2.1 (amV h.k) k) (by rw[xN];exact C.2.2.2.2.2.2.2.1) (by simp) c.aR
def aDP{l:aa cB}(n code:Int):(xP l n code).length <= l.length+1:=by
 unfold xP
 grind
def amY{c:ax}(I:dJ c){i:Nat}(h:oY c i 100000):dJ (gK c i):=by
 have⟨O,U,Y,z5,z6,z7,z8,z9,jT,oU,oV,mg,oc,rQ⟩:=I;have hi:=h.i;have Ia:=h.ql;have hr:=h.r;have⟨f1,f3,f4,f5,f6,f7,f8⟩:=h.facts (cQ hi);have C:c.queue.getD i oX=c.queue[i]:=gu _ hi;have D:=h.d _ (cQ hi);have XV:(B9 c.shares c.queue[i].dM).length <= 1048576:=by
  have⟨y,t,e,hl⟩:=aaP ((List.replicate 4 false).set c.queue[i].dM.toNat true) (by have:=h.shl;omega) h.sh (by simp[h.shl])
  grind
 have jk:c.errors.length <= 6:=by
  have E:=h.e;simp only[mm,aP,fU]at E;omega
 have key:∀ (a:cJ) (e:aa cB) (x:dA),TJ a -> e.length <= 100 -> dJ (q7 c i a e x):=λa e x ha E=>
  ⟨O,U,Y,ha,z6,z7,z8,z9,jT,by simp[q7];omega,by unfold q7;rw[C];exact XV,by show e.length <= _;omega,oc,by simp[q7];omega⟩
 unfold gK;rw[C];dsimp only;cases c.queue[i].write with
 |true=>exact key _ _ _ (EN (h.a.NK _ (c:=⟨_,false⟩) (EL D.1 D.2).2.1)) (by omega)
 | false=>
  rw[av,gu _ f4];refine key _ _ _ (EN (h.a.NK _ (amB (h.a.syms _ (cQ f4))))) ?_;have:=aDP (l:=c.errors) (eJ c.config.au (dL c c.queue[i].line):Int) (nL c.array.cells[eJ c.config.au (dL c c.queue[i].line)]);cases nL c.array.cells[eJ c.config.au (dL c c.queue[i].line)] != 0 with
  |true=>grind
  |false=>grind
def aDQ{c:ax}(O:dJ c)(h:Bs c)(U:c.ready.aT.length <= 4){x:aF}(E:kU c.config.au c.aO x=true){i:Int}(I:x.kind=2 \/ x.kind=3 -> oY c i.toNat 100000/\0 <= i):dJ (cS c x i):=by
 have⟨hg,hlen,Y,hb⟩:=vH E;have hc:cZ c.config.au x=true:=by
  simp[kU,aP]at E;simp_all
 have w:=h.cw x;have ht:=h.w.t;have H9:=h.tl;have z:=aDL O U (by omega) x;have C:∀k,dJ (Ca (cw c x) k):=λk=>T5 z z.2.2.2.1 z.2.2.2.2.2.1 z.2.2.2.2.2.2.1 z.2.2.2.2.2.2.2.1 z.2.2.2.2.2.2.2.2.1 _
 unfold cS;rcases kinds Y with q|q|q|q|q|q|q|q|q<;>rw[q]<;>simp
 ·have⟨D,nT⟩:=hb (by omega);have⟨r0,r1⟩:=H8 hc q;exact aDM z w x D (by show _<aU c.config.au;omega) r0 r1
 ·exact amY z ((I (.inl q)).1.cw x)
 ·exact amY z ((I (.inr q)).1.cw x)
 ·exact z
 ·have⟨D,nT⟩:=hb (by omega);exact aDN z w D (by show x.ay<aU c.config.au;omega)
 ·exact C 6
 ·exact C 7
 ·exact C 8
 ·exact aDO (C 9) ⟨w.hB,w.g,w.a,w.k,w.p,w.t,w.d,w.r⟩ _ (by show (c.bH.length:Int) <= aU c.config.au;omega)
def vV(c:ax)(b:Int):Bool:=decide (c.aS.aJ.getD b.toNat 0 >= 4)
def fZ(c:ax)(i:Nat):aF:=oq c.aO (cR c i) (H6 c.queue i)
def T6{l:aa Int}{b:Int}(C:0 <= b)(h:b.toNat<l.length):∀ i:Nat,(((i:Int)+b)∈fC i l) ↔ l.getD b.toNat 0 >= 4:=by
 obtain⟨n,rfl⟩:=dV C;rw[bD]at *
 clear C
 induction l generalizing n with
 |nil=>simp at h
 | cons d l E=>
  intro i;have I:∀ x∈fC (i+1) l,(i:Int)+1 <= x:=λx D=>by
   have⟨j,O,_,_⟩:=amd D;omega
  have e:fC i (d::l)=bif decide (d >= 4)then (i:Int)::fC (i+1) l else fC (i+1) l:=rfl
  grind
def aDR{c:ax}{b:Int}(hl:c.aS.aJ.length <= 8)(C:0 <= b)(h:b.toNat<c.aS.aJ.length):xe (fC 0 c.aS.aJ) b=some (vV c b):=by
 have E:=aaM 0 c.aS.aJ;have D:=T6 C h 0;rw[cv,Int.zero_add]at D;unfold xe;rw[TA _ _ (by omega),ak];congr 1;unfold vV gR
 grind
def amZ{c:ax}{b:Int}(hl:c.aS.aJ.length <= 8)(C:0 <= b)(h:b.toNat<c.aS.aJ.length):zD c b=some (vV c b):=by
 unfold zD vV xI;simp_all
def aa8{c:ax}(h:Pq c){i:Nat}(hi:i<c.queue.length):cZ c.config.au (fZ c i)=true:=aCX _ (N1 h hi).1
def N3(y x:aF):Bool:=(y.kind==x.kind)&&((y.ay==x.ay)&&((y.row==x.row)&&((y.bV==x.bV)&&true)))
def Ib(c:ax)(x:aF)(i:Int):Bool:=aQ i 0 ((c.queue.length:Int)-1)&&(decide ((c.bP.length:Int)<400)&&N3 (oq c.aO (dL c (c.queue.getD i.toNat oX).line) (c.queue.getD i.toNat oX).write) x)
def kX(c:ax)(x:aF)(i:Int):Bool:=cZ c.config.au x&&(eY c x&&(!decide ((c.trace.length:Int) >= 2000)&&bif x.kind==2 ||x.kind==3 then Ib c x i else i == -1 ||aQ i 0 ((c.queue.length:Int)-1)))
def aa9{c:ax}(h:Pq c){i:Int}(hi:aQ i 0 ((c.queue.length:Int)-1)=true):∃ C:i.toNat<c.queue.length,0 <= i/\c.queue.getD i.toNat oX=c.queue[i.toNat]/\xg c c.queue[i.toNat].line=some (dL c c.queue[i.toNat].line,true)/\xh c.aO (dL c c.queue[i.toNat].line) c.queue[i.toNat].write=some (oq c.aO (dL c c.queue[i.toNat].line) c.queue[i.toNat].write):=by
 have hb:=bA.1 hi;have C:i.toNat<c.queue.length:=by omega
 have⟨D,E⟩:=T2 h (cQ C);have⟨_,I,O,_⟩:=rV E;have U:=h.p.bl;have Y:=eM c.config.au;exact⟨C,hb.1,gu _ C,D,aml _ I (by omega) (by omega)⟩
def aDS{c:ax}(h:Pq c)(x:aF)(i:Int):BG c x i=some (kX c x i):=by
 have Ia:=h.ql;unfold BG kX;rw[ald,ak];cases U:cZ c.config.au x with
 |false=>rfl
 |true=>
 rw[bG,av,TT h.p U,ak];cases eY c x with
 |false=>rfl
 |true=>
 rw[bG,av];cases decide ((c.trace.length:Int) >= 2000)with
 |true=>rfl
 |false=>
 rw[av,cC,cC,jx,cC,fm,aY (n:=(c.queue.length:Int)-1),ak];unfold Ib;have O:Ho=xh:=rfl;cases hi:aQ i 0 ((c.queue.length:Int)-1)with
 | true=>
  have⟨D,E,Y,f1,f3⟩:=aa9 h hi;have f2:=aa4 h (cQ D);rw[gI (show ¬ i = -1 by omega),aq,bG,av,aW (show i >= 0 from E),cC,Bool.or_true,Y];by_cases C:x.kind=2
  ·rw[show (x.kind != 2)=false by rw[C];rfl,show (x.kind==2)=true by rw[C];rfl,av,aq,Bool.true_or,aq];cases decide ((c.bP.length:Int)<400)with
   |false=>rfl
   | true=>
    rw[ aC ⟨E,D⟩,aC ⟨E,D⟩];rw[f2,ak,O,f3];rfl
  ·rw[gI C,iw C,aq,Bool.false_or];by_cases I:x.kind=3
   ·rw[show (x.kind != 3)=false by rw[I];rfl,show (x.kind==3)=true by rw[I];rfl,av,aq,aq];cases decide ((c.bP.length:Int)<400)with
    |false=>rfl
    | true=>
     rw[ aC ⟨E,D⟩,aC ⟨E,D⟩];rw[f2,ak,O,f3];rfl
   ·grind
 | false=>
  rw[Bool.false_and,jx,aq,Bool.or_false];by_cases e:i = -1
  ·subst e;rw[bne_self_eq_false,av,iS,show decide ((-1:Int) >= 0)=false from rfl,av];by_cases C:x.kind=2
   ·simp_all
   ·rw[gI C,iw C,aq,Bool.false_or];by_cases I:x.kind=3
    ·simp_all
    ·grind
  ·grind
def aDT{c:ax}(U:dJ c)(h:Pq c)(x:aF)(i:Int):ue c x i=bif kX c x i then (LW c x i).bind (λy=>some (y.2.1,true))else some (c,false):=by
 have Ia:=h.ql;unfold ue kX xI;rw[Ez c U,ak,BX c U,ak,h.p.ok,bG,av];cases Y:cZ c.config.au x with
 | false=>
  have e:jZ c x=some false:=by
   unfold jZ;rw[aam,Y,Bool.false_and,Bool.and_false];rfl
  rw[e];rfl
 |true=>
 rw[EG h.p Y,ak];cases eY c x with
 |false=>rfl
 |true=>
 rw[bG,av];cases decide ((c.trace.length:Int) >= 2000)with
 |true=>rfl
 |false=>
 rw[av,cC,cC,jx,cC,dy,aY (n:=(c.queue.length:Int)-1),ak];unfold Ib;cases hi:aQ i 0 ((c.queue.length:Int)-1)with
 | true=>
  have⟨C,D,hq,f1,f3⟩:=aa9 h hi;rw[gI (show ¬ i = -1 by omega),bG,av,aq,av,cC,Bool.or_true,hq];by_cases E:x.kind=2
  ·rw[show (x.kind==2)=true by rw[E];rfl,aq,Bool.true_or,aq];by_cases I:(c.bP.length:Int)<400
   ·rw[aW I,aZ (show ¬ (c.bP.length:Int) >= 400 by omega),av,aC ⟨D,C⟩];dsimp only;rw[f1,ak,aC ⟨D,C⟩,f3,ak];unfold N3
    grind
   ·grind
  ·rw[iw E,av,Bool.false_or];by_cases O:x.kind=3
   ·rw[show (x.kind==3)=true by rw[O];rfl,aq,aq];by_cases I:(c.bP.length:Int)<400
    ·rw[aW I,aZ (show ¬ (c.bP.length:Int) >= 400 by omega),av,aC ⟨D,C⟩];dsimp only;rw[f1,ak,aC ⟨D,C⟩,f3,ak];unfold N3
     grind
    ·grind
   ·grind
 | false=>
  rw[Bool.false_and,jx,aq,Bool.or_false];by_cases E:x.kind=2
  ·simp_all
  ·rw[iw E,av,Bool.false_or];by_cases O:x.kind=3
   ·simp_all
   ·rw[iw O,av,av];by_cases e:i = -1
    ·simp_all
    ·grind
def Cb{c:ax}(D:dJ c)(h:Pq c){x:aF}{i:Int}(E:kX c x i=true):Bs c/\kU c.config.au c.aO x=true/\(x.kind=2 \/ x.kind=3 -> oY c i.toNat 100000/\0 <= i)/\c.ready.aT.length <= 4:=by
 simp only[kX,aP,ij,qh]at E;have⟨O,I,m3,C⟩:=E;simp[eY,aP]at I
 refine⟨Bs.of D h.p.ok (by omega),?_,λU=>?_,(Eu h.p.rdy).2.2⟩
 ·unfold kU;rw[h.p.rk,O,I.1];rfl
 ·have e:(x.kind==2 || x.kind==3)=true:=by rcases U with q | q <;>rw[q] <;>rfl
  rw[e,aq]at C;simp[Ib,aP,fU]at C;have⟨Y,h0,_⟩:=aa9 h C.1;exact⟨oY.of D h.p.ok Y (by omega),h0⟩
structure Ck (c:ax):Prop where
 f1:rY c.config c.box.cr=true
 f2:rY c.config c.box.next=true
 nw:aQ c.now 0 1000000=true
 rk:mj c.config.au c.aO=true
 rd:kf c.config.au c.ready=true
 ar:oP c.config.au c.array=true
 sp:lP c.config.au c.spare=true
 se:c.spare.bL=c.config.bL
 rf:fX c.aS=true
 pa:um c=true
 qu:gW (dU (cX c.config.au c.spare)) c.queue=true
 sh:jq c.shares=true
 sl:(c.shares.length:Int)=4
 dr:oS c.drain=true
 pw:kG c.aR=true
 ps:c.aR.state=c.aO.aR
 si:c.aR.since<=c.now
 s1:aQ c.cY.every 1 100000=true
 s2:aQ c.cY.wait 1 c.cY.every=true
 s3:aQ c.cY.next 0 (W6 (dU c.config.au-1))=true
 er:mm c.errors=true
 tr:c.trace.length<=2000
 rp:c.bP.length<=400
def Ck.of{c:ax}(h:dK c=true):Ck c:=by
 simp[dK,aP,eZ,fU,ij,qh]at h;have⟨C,D,E,I,O,U,Y,h8,⟨h9,h9'⟩,BR,uf,rT,qW,vL,xF,nt,xq,EE,BJ,xu,xj,Ec⟩:=h;exact⟨C,D,E,I,O,U,Y,h8,h9,h9',BR,uf,rT,qW,vL,xF,by omega,xq,EE,BJ,xu,by omega,by omega⟩
def Ck.ok{c:ax}(h:Ck c):dK c=true:=by
 have⟨C,D,E,I,O,U,Y,h8,h9,h9',BR,uf,rT,qW,vL,xF,nt,xq,EE,BJ,xu,xj,Ec⟩:=h;simp[dK,aP,eZ,fU,ij,qh]
 grind
def am0:∀ (l:aa Nat) (a:Nat),l.Pairwise (λx y=>x≠y) -> l.length <= (l.filter (λx=>decide (x≠a))).length+1
 |[],a,_=>by simp
 | x :: l,a,h=>by
  have⟨C,D⟩:=List.pairwise_cons.1 h;by_cases e:x=a
  ·subst e;have:(x :: l).filter (λy=>decide (y≠x))=l:=by
    rw[List.filter_cons_of_neg (by simp)];exact List.filter_eq_self.2 λy E=>by simpa using (C y E).symm
   grind
  ·rw[List.filter_cons_of_pos (by simpa using e)];have:=am0 l a D;simp only[mU];omega
def pig:∀ (n:Nat) (l:aa Nat),(∀ x∈l,x<n)->l.Pairwise (λx y=>x≠y)->l.length<=n
 | 0,l,h,_=>by
  cases l with
  |nil=>simp
  |cons x l=>exact absurd (h x (.head _)) (by omega)
 | n+1,l,h,C=>by
  have E:=am0 l n C;have I:=pig n (l.filter (λx=>decide (x≠n))) (λx D=>by
   have:=List.mem_filter.1 D;have O:=h x this.1;have U:x≠n:=by simpa using this.2
   omega) (C.filter _)
  omega
def xK.pw{l:aa aM}(h:xK l):l.Pairwise (λx y=>x≠y):=by
 rw[List.pairwise_iff_getElem];intro i j hi D I e;have C:=h j D;rw[mz]at C;have E:l[i]∈l.take j:=by
  rw[List.mem_take_iff_getElem]
  grind
 exact C _ E (NW.2 e.symm)
def xK.mk{l:aa aM}(h:l.Pairwise (λx y=>x≠y)):xK l:=by
 rw[List.pairwise_iff_getElem]at h;intro j C;rw[mz];intro x D e;obtain⟨i,hi,rfl⟩:=List.mem_take_iff_getElem.1 D;exact h i j _ C (by omega) (NW.1 e).symm
structure ja (c:ax):Prop where
 dl:(c.aS.aJ.length:Int)=aU c.config.au
 tl:(c.bH.length:Int)=aU c.config.au
 gl:(c.guard.length:Int)=aU c.config.au
 t:∀x∈c.bH,kT x=true
 g:∀x∈c.guard,3<=x/\x<=1000
 pd:∀a∈c.pending,dO c.config.au a=true/\a.bV=0
 u:c.pending.Pairwise (λx y=>x≠y)
def ja.of{c:ax}(h:um c=true):ja c:=by
 simp[um,aP,eZ,ck,ga]at h;have⟨E,I,O,g4,U,Y⟩:=h;have key:=λi C h2=>by
  have:=U i C;unfold partAt at this;rw[bT C,bT h2,aP,bA]at this;exact this
 have aDU:∀ i _,dO _ c.pending[i]=true/\c.pending[i].bV=0/\(c.pending.take i).any _=false:=λi C=>by
  have:=Y i C;unfold BQ at this;rw[bT C]at this
  simpa [aP]using this
 refine⟨E,I,O,λx D=>?_,λx D=>?_,λa ha=>?_,xK.pw λi hi=>(aDU i hi).2.2⟩
 ·obtain⟨i,hi,rfl⟩:=jI.1 D
  grind
 ·obtain⟨i,hi,rfl⟩:=jI.1 D
  grind
 ·obtain⟨i,hi,rfl⟩:=jI.1 ha;simp[*]
def aDV{g:aG}{l:aa aM}(D:∀ a∈l,dO g a=true/\a.bV=0)(O:l.Pairwise (λx y=>x≠y)):l.length <= 128:=by
 have E:∀ a∈l,0 <= a.ay/\a.ay<8/\0 <= a.row/\a.row<16:=λa C=>by
  have⟨I,h2,h3,h4,h5,_⟩:=rV (D a C).1;have b1:=eM g;have b2:=fJ I;omega
 have I:=pig 128 (l.map λa=>(a.ay*16+a.row).toNat) (λx U=>by
  obtain⟨a,C,rfl⟩:=List.mem_map.1 U;have:=E a C;omega) (by
  rw[List.pairwise_map]
  refine O.imp_of_mem λ{a b} C hb Y e=>Y ?_
  have r1:=E a C;have r2:=E b hb;have c1:=(D a C).2;have c2:=(D b hb).2;cases a;cases b;simp only at *
  congr 1<;>omega)
 simp_all
def ja.ok{c:ax}(h:ja c):um c=true:=by
 have⟨E,I,O,g4,g5,C,D⟩:=h;have hl:=aDV C D;have U:=xK.mk D;simp[um,aP,eZ,ij,qh,ck,ga]
 refine⟨E,I,O,by omega,λi hi=>?_,λi hi=>?_⟩
 ·have Y:i<c.guard.length:=by omega
  unfold partAt;rw[bT hi,bT Y,aP,bA];simp_all
 ·unfold BQ;rw[bT hi];simp only[aP,eZ,ij];exact⟨(C _ (cQ hi)).1,(C _ (cQ hi)).2,U i hi⟩
def aDW{g:aG}{b n:Int}{l:aa aM}(I:dO g ⟨b,n,0⟩=true)(O:∀ a∈l,dO g a=true/\a.bV=0)(C:l.Pairwise (λx y=>x≠y)):(∀ a∈nK b l n,dO g a=true/\a.bV=0)/\(nK b l n).Pairwise (λx y=>x≠y):=by
 unfold nK;cases h:l.any _ with
 |true=>simp_all
 | false=>
  rw[av];rw[mz]at h
  refine⟨λa U=>?_,?_⟩
  ·grind
  ·rw[List.pairwise_append]
   refine⟨C,List.pairwise_singleton _ _,λx D y E e=>?_⟩
   rw[jH.1 E]at e;exact h x D (NW.2 e.symm)
def am1{g:aG}{b:Int}:∀ (ns:aa Int) {l:aa aM},(∀ n∈ns,dO g ⟨b,n,0⟩=true) -> (∀ a∈l,dO g a=true/\a.bV=0) -> l.Pairwise (λx y=>x≠y) -> (∀ a∈ns.foldl (nK b) l,dO g a=true/\a.bV=0)/\(ns.foldl (nK b) l).Pairwise (λx y=>x≠y)
 |[],l,_,C,D=>⟨C,D⟩
 | n :: ns,l,E,C,D=>by
  have⟨I,O⟩:=aDW (E n (.head _)) C D;exact am1 ns (λm U=>E m (.tail _ U)) I O
def Ic{T:Type}{p:T -> Prop}{l:aa T}{i:Nat}{x:T}(h:∀y∈l,p y)(C:p x):∀y∈l.set i x,p y:=by grind
def aDX{t:cq}(h:kT t=true)(row dY:Int):kT (r7 t row dY).1=true:=by
 unfold r7
 grind
def am2{k:Int}(h:aQ k 1 16=true):kT (qZ k)=true:=by
 have hb:=bA.1 h;simp only[kT,qZ,aP,eZ,ck,lV,bA]
 refine⟨by omega,trivial,by omega,λi hi=>?_⟩
 rw[NA (by simpa using hi) (by simpa using hi)];simp[aQ]
def am3{c:dP}{p:dz}(hl:p.weights.length<1073741823)(h:rY c p=true):3 <= p.eC/\p.eC <= 1000:=by
 have⟨_,f2⟩:=NU hl h;simp[vF,aP,bA]at f2;simp_all
def Ie{g:aG}{a:cJ}(C:ct g=true)(h:fA g 100000 a):oP g a=true:=by
 simp only[oP,aP,fU,ck]
 refine⟨C,h.cells,h.bu,h.bq,λc D=>Sy.ok (h.syms c D),λp E=>?_⟩
 have⟨x,y⟩:=p;have⟨I,O⟩:=List.of_mem_zip E;simp[zI,aP,bA];exact⟨h.Ej x I,h.iZ y O⟩
def aDY{g:aG}{c:aF}(h:cZ g c=true):oT g (fY g c).toNat=true:=by
 have⟨E,D,hb,_⟩:=rX h;have⟨I,O⟩:=Et h;unfold oT;unfold fY at *
 cases C:aQ _ 1 5 with
 | true=>
  have C:=bA.1 C
  grind
 | false=>
  have U:¬ c.kind <= 5:=λh=>by rw[bA.2 ⟨D.1,h⟩]at C;cases C
  grind
def am4{l:aa Int}(h:∀ i,i<l.length -> p7 l i=true){i:Nat}(hi:i<l.length):aQ l[i] 0 1000000=true:=by
 have:=h i hi;cases i with
 |zero=>rw[ND]at this;exact this
 |succ i=>rw[HH,aP]at this;exact this.1
def am5{l:aa Int}(h:∀ i,i<l.length -> p7 l i=true){i:Nat}(hi:i+1<l.length):l[i]<l[i+1]:=by
 have:=h _ hi;rw[HH hi,aP,ij,qh]at this;omega
def am6{l:aa Int}(C:∀ i (hi:i<l.length),aQ l[i] 0 1000000=true)(D:∀ i (hi:i+1<l.length),l[i]<l[i+1]):∀ i,i<l.length -> p7 l i=true:=λi hi=>by
 cases i with
 |zero=>rw[ND];exact C 0 hi
 | succ i=>
  have:=D i hi;rw[HH hi,aP,ij,qh];simp_all
def aDZ{l:aa Int}(h:∀ i,i<l.length -> p7 l i=true){x:Int}(I:aQ x 0 1000000=true)(hl:vM ⟨[],l⟩ x=false):∀ i,i<(l++[x]).length -> p7 (l++[x]) i=true:=by
 refine am6 (λi hi=>?_) λi hi=>?_
 ·by_cases C:i<l.length
  ·rw[List.getElem_append_left];exact am4 h C
  ·grind
 ·have D:i<l.length:=by simp at hi;omega
  by_cases C:i+1<l.length
  ·rw[List.getElem_append_left C,List.getElem_append_left];exact am5 h C
  ·have e:i+1=l.length:=by omega
   have E:(l++[x])[i+1]=x:=by simp[e]
   rw[E,List.getElem_append_left D];unfold vM at hl
   grind
def aD0{l:aa Int}(h:∀ i,i<l.length -> p7 l i=true)(k:Nat):∀ i,i<(l.drop k).length -> p7 (l.drop k) i=true:=by
 refine am6 (λi hi=>?_) λi hi=>?_
 ·rw[List.getElem_drop];exact am4 h _
 ·rw[List.getElem_drop,List.getElem_drop];rw[List.length_drop]at hi;exact am5 h _
def am7{g:aG}{r:c9}(e:bW)(h:kf g r=true):kf g (kH g r e)=true:=by
 unfold kH;cases C:kf g r&&(cZ g e.cmd&&(aQ e.at_ 0 1000000 && !(e.cmd.kind==1&&vM r e.at_)))with
 |false=>exact h
 | true=>
  rw[aq];simp only[aP,ij]at C;have⟨_,O,D,E⟩:=C;simp only[kf,aP,eZ,ij,qh,ck,ga]at h ⊢;have⟨U,Y,h3,h4,I⟩:=h
  refine⟨U,by rw[ki];exact Y,?_,λi hi=>?_,?_⟩
  ·cases e.cmd.kind==1 with
   |false=>exact h3
   | true=>
    rw[aq];unfold zN
    grind
  ·rw[ki]at hi;have hb:=h4 i hi;rw[NC hi]at hb;rw[NC (by rw[ki];exact hi)];by_cases e':(fY g e.cmd).toNat=i
   ·subst e';rw[List.getElem_set_self,aDY O];have:=bA.1 D;rw[bA.2 ⟨by omega,by omega⟩];rfl
   ·simp_all
  ·cases hk:e.cmd.kind==1 with
   |false=>exact I
   | true=>
    rw[hk]at E;exact aD0 (aDZ I D E) _
structure Qk (n:Int) (q:List aN):Prop where
 r:∀x∈q,nH n x=true
 b:q.Pairwise λx y=>dD x y=true
 i:q.Pairwise λx y=>x.id≠y.id
 l:q.length<=12
def aD1{x y z:aN}(C:dD x y=true)(D:dD y z=true):dD x z=true:=by
 simp only[dD,eN,aP,fU,eZ]at *
 omega
def Qk.of{n:Int}{q:aa aN}(h:gW n q=true):Qk n q:=by
 have I:=h;simp only[gW,aP,ck,ga,fU]at h;have⟨E,h2⟩:=h;have O:∀ x∈q,nH n x=true:=λx U=>by
  obtain⟨i,hi,rfl⟩:=jI.1 U;have:=E i hi;unfold qV at this;simp_all
 have hb:∀ j i (D:i<j) (C:j<q.length),dD q[i] q[j]=true:=by
  intro j
  induction j with
  |zero=>simp_all
  | succ j Y=>
   intro i D C;have:=E (j+1) C;rw[Nz C,aP,aP]at this;by_cases e:i=j
   ·simp_all
   ·exact aD1 (Y i (by omega) _) this.2.1
 refine⟨O,?_,?_,by omega⟩
 ·rw[List.pairwise_iff_getElem]
  grind
 ·rw[List.pairwise_iff_getElem];intro i j hi C D e;have:=aaG I D C;simp_all
def Qk.ok{n:Int}{q:aa aN}(h:Qk n q):gW n q=true:=by
 have⟨C,D,E,O⟩:=h;rw[List.pairwise_iff_getElem]at D E;simp[gW,aP,ck,ga,fU]
 refine⟨λi hi=>?_,by omega⟩
 cases i with
 |zero=>rw[aaf hi];exact C _ (cQ hi)
 | succ i=>
  rw[Nz hi,aP,aP,ij];refine⟨C _ (cQ hi),D i (i+1) (by omega) hi (by omega),?_⟩;rw[mz];intro x I e;obtain⟨k,U,rfl⟩:=List.mem_take_iff_getElem.1 I
  grind
def Qk.sub{n:Int}{q s:aa aN}(h:Qk n q)(C:s.Sublist q):Qk n s:=
 ⟨λx D=>h.r x (C.subset D),h.b.sublist C,h.i.sublist C,Nat.le_trans C.length_le h.l⟩
def aD2{T:Type}(l:aa T)(i:Nat):(l.take i++l.drop (i+1)).Sublist l:=by
 rw[<-List.eraseIdx_eq_take_drop_succ];exact List.eraseIdx_sublist l i
def aD3(e x:cB):Prop:=¬ (e.line=x.line/\e.code=x.code)
structure Ek (l:List cB):Prop where
 e:∀x∈l,zM x=true
 k:l.Pairwise aD3
 l:l.length<=6
def aba{e x:cB}:mO e x=true ↔ x.line=e.line/\x.code=e.code:=by
 simp only[mO,aP,eZ]
def Ek.of{l:aa cB}(h:mm l=true):Ek l:=by
 simp[mm,aP,ck,ga,fU]at h;have⟨D,O⟩:=h;have key:=λi hi=>by
  have:=D i hi
  rwa [Tz hi,aP,ij]at this
 refine⟨λx E=>?_,?_,by omega⟩
 ·obtain⟨i,hi,rfl⟩:=jI.1 E
  grind
 ·rw[List.pairwise_iff_getElem];intro i j hi I U e;have C:=(key j I).2;rw[mz]at C;exact C l[i] (List.mem_take_iff_getElem.2 ⟨i,by omega,rfl⟩) (aba.2 e)
def Ek.ok{l:aa cB}(h:Ek l):mm l=true:=by
 have⟨D,C,I⟩:=h;rw[List.pairwise_iff_getElem]at C;simp only[mm,aP,ck,ga,fU]
 refine⟨λi hi=>?_,by omega⟩
 rw[Tz hi,aP,ij];refine⟨D _ (cQ hi),?_⟩;rw[mz];intro x E e;obtain⟨k,O,rfl⟩:=List.mem_take_iff_getElem.1 E;exact C k i (by omega) hi (by omega) (aba.1 e)
def aD4{l:aa cB}(h:mm l=true){n code:Int}(h1:0 <= n/\n <= 1023)(h2:code=1 \/ code=2):mm (xP l n code)=true:=by
 have C:=Ek.of h;have hl:=C.l;have II:zM ⟨n,code,1⟩=true:=by
  simp[zM,aP,eN,eZ,bA];omega
 refine Ek.ok ?_;unfold xP;cases D:l.findIdx? (mO ⟨n,code,1⟩)with
 | some i=>
  have⟨hi,hp⟩:=EJ D;dsimp only;rw[gu _ hi];have Y:=C.e _ (cQ hi);have hu:zM (T4 l[i])=true:=by
   simp only[zM,aP,bA]at Y ⊢;unfold T4;dsimp only;rw[aY]
   grind
  refine⟨Ic C.e hu,?_,by rw[ki];exact hl⟩;have E:=C.k;rw[List.pairwise_iff_getElem]at E ⊢;intro a b I hb hab;rw[ki]at I hb;have:=E a b I hb hab;rw[List.getElem_set,List.getElem_set];by_cases O:i=a
  ·subst O
   rwa [bg rfl,bk]
  ·rw[bk O];by_cases e2:i=b
   ·subst e2
    rwa [bg rfl]
   ·simp[*]
 | none=>
  have hn:∀ x∈l,¬ (x.line=n/\x.code=code):=λx hx e=>by
   have:=List.findIdx?_eq_none_iff.1 D x hx;rw[aba.2 e]at this;cases this
  have app:∀ m:aa cB,m.Sublist l -> m.length <= 5 -> Ek (m++[⟨n,code,1⟩]):=λm U hml=>by
   refine⟨λx hx=>?_,?_,by rw[oy,mV];omega⟩
   ·rcases List.mem_append.1 hx with hx | hx
    ·exact C.e x (U.subset hx)
    ·rwa [jH.1 hx]
   ·rw[List.pairwise_append]
    refine⟨C.k.sublist U,List.pairwise_singleton _ _,λx hx y hy e=>?_⟩
    rw[jH.1 hy]at e
    grind
  dsimp only;by_cases e6:l.length=6
  ·grind
  ·rw[iw (show ¬ (l.length:Int)=6 by omega),av]
   grind
def am8{l:aa cD}(h:∀ s∈l,oR s=true){k:Nat}(C:k<l.length)(E:1<=l[k].fF):∀ s∈l.set k ⟨l[k].weight,W6 (l[k].fF-1)⟩,oR s=true:=by
 have D:=h _ (cQ C);simp only[oR,aP,bA]at D;rw[aY (n:=l[k].fF-1)];refine Ic h ?_;simp only[oR,aP,bA];omega
def aD5{l:aa cD}(w:aa Bool)(hl:l.length<1073741823)(D:jq l=true)(hw:l.length=w.length):∃ y t,qQ l w=some (y,t)/\y.length=l.length/\jq y=true:=by
 have mk:∀ y:aa cD,y.length=l.length -> (∀ s∈y,oR s=true) -> y.length=l.length/\jq y=true:=λy C h2=>by
  refine⟨C,?_⟩;simp[jq,aP,ck]at D ⊢;exact⟨h2,by rw[C];exact D.2⟩
 have E:∀ s∈l,oR s=true:=by
  simp only[jq,aP,ck]at D;exact D.1
 unfold qQ xA xC bw xL xZ;have hb:=ur (λi=>w.getD i false) (λi=>(l.getD i ⟨0,0⟩).fF) (min l.length w.length);have U:(gE l).length=l.length:=by simp[gE]
 have iT:=ur (λi=>w.getD i false) (λi=>((gE l).getD i ⟨0,0⟩).fF) (min (gE l).length w.length);have hm:=HS (λi=>w.getD i false) (λi=>(l.getD i ⟨0,0⟩).fF) (min l.length w.length);rw[kJ,EH l w (by omega),ak,HF _ (by omega),ak,D,bG,av,List.length_nil,fB,cF,aq];unfold qa;generalize hr:lT (λi=>w.getD i false) (λi=>(l.getD i ⟨0,0⟩).fF) (min l.length w.length)=b at *
 by_cases Y:b<0
 ·rw[aW Y];exact⟨_,_,rfl,mk _ rfl E⟩
 ·have C:b.toNat<l.length:=by omega
  rw[aZ Y,av,aC ⟨by omega,C⟩,aC C];dsimp only;have hsb:=E _ (cQ C);simp only[oR,aP,bA]at hsb;cases hz:l[b.toNat].fF==0 with
  | false=>
   have hz:¬ l[b.toNat].fF=0:=by simpa using hz
   rw[ aC ⟨by omega,C⟩,aC C,aC ⟨by omega,C⟩,aC C];exact⟨_,_,rfl,mk _ (by simp) (am8 E C (by omega))⟩
  | true=>
   have abb:∀ s∈gE l,oR s=true:=λs D=>by
    obtain⟨x,O,rfl⟩:=List.mem_map.1 D;have:=E x O;simp[oR,aP,bA,uv]at this ⊢;omega
   rw[aq,TU l w (by omega),ak];simp only[dH];rw[EH _ w (by omega),ak];have hp:0 <= qa (gE l) w:=NT _ (i:=b.toNat) (by rcases hm with h|h;exact absurd h (by omega);exact h) _ (by rw[U];omega);have hq:qa (gE l) w<((min (gE l).length w.length:Nat):Int):=iT.2;have I:(qa (gE l) w).toNat<(gE l).length:=by omega
   have h4:1 <= (gE l)[(qa (gE l) w).toNat].fF:=by
    have dQ:(qa (gE l) w).toNat<l.length:=by omega
    have O:=E _ (cQ dQ);simp only[oR,aP,bA]at O;simp only[gE,List.getElem_map,uv];simp only[gE]at O;omega
   rw[aC ⟨hp,I⟩,aC I,aC ⟨hp,I⟩,aC I];exact⟨_,_,rfl,mk _ (by simp[U]) (am8 abb I h4)⟩
def am9{r:c8}(h:fX r=true)(k:Nat){d:Int}(C:-2 <= d/\d <= 5):fX ⟨r.aJ.set k d,r.wait,r.dX⟩=true:=by
 simp only[fX,aP]at h ⊢;refine⟨aaw h.1 ?_,by rw[ki];exact h.2.1,h.2.2⟩;exact bA.2 C
def aD6{r:c8}(h:fX r=true){b:Int}(hb:b.toNat<r.aJ.length):fX (qc r b)=true:=by
 have C:=EK h _ (cQ hb);unfold qc;rw[gu _ hb];by_cases e:r.aJ[b.toNat] = -2
 ·simp_all
 ·rw[aZ e];exact am9 h _ (by omega)
def aD7{r:bX}{p:fK}{x:aF}{now:Int}(E:kG p=true)(C:p.state=r.aR)(I:p.since <= now)(O:now <= 1000000)(Y:6 <= x.kind/\x.kind <= 9)(D:jr r x=true):kG (vS p x.kind now)=true/\(vS p x.kind now).state=(ff r x).aR/\(vS p x.kind now).since <= now:=by
 have hb:0 <= p.since:=by
  simp[kG,aP,bA]at E;omega
 have hi:0 <= p.idle/\p.idle <= 1000000:=by
  simp[kG,aP,bA]at E;omega
 have U:=bA.2 ⟨I,O⟩;unfold vS;rw[E,U,Bool.and_self];have mk:∀ s:Int,0 <= s/\s <= 2 -> kG ⟨s,now,p.idle⟩=true:=λs C=>by
  simp[kG,aP,bA];omega
 have:x.kind=6 \/ x.kind=7 \/ x.kind=8 \/ x.kind=9:=by omega
 rcases this with h|h|h|h
 ·have e:r.aR=0:=by simpa [jr,h]using D
  simp[ff,h,C,e,mk]
 ·have e:r.aR=1:=by simpa [jr,h]using D
  simp[ff,h,C,e,mk]
 ·have e:r.aR=0:=by have:=D;simp[jr,h]at this;exact this.1
  simp[ff,h,C,e,mk]
 ·have e:r.aR=2:=by simpa [jr,h]using D
  simp[ff,h,C,e,mk]
def uz(p:Nat->Bool):Nat->Int
 |0=>-1
 |k+1=>bif decide (uz p k<0)&&p k then (k:Int)else uz p k
def ana(p:Nat->Bool)(k:Nat):uz p (k+1)=bif decide (uz p k<0)&&p k then (k:Int)else uz p k:=rfl
def N4(p:Nat -> Bool):∀ n,(uz p n = -1 /\ ∀ k,k<n -> p k=false) \/ ∃ j:Nat,j<n/\uz p n=(j:Int)/\p j=true /\ ∀ k,k<j -> p k=false
 |0=>.inl ⟨rfl,λk C=>absurd C (Nat.not_lt_zero k)⟩
 | n+1=>by
  rw[ana];rcases N4 p n with ⟨D,E⟩|⟨j,D,E,I,O⟩
  ·grind
  ·grind
def ou:aF:=⟨0,0,0,0⟩
def aD8(l:aa aM)(b:Int)(hl:l.length <= 1048576):D1 l b=some (l.any λa=>a.ay==b):=by
 have E:=EA (λa:aM=>a.ay==b) l;unfold D1 bU;rw[TM];have e:=cI (step:=Hl) (gq (λa:aM=>a.ay==b) l) (λi=>((l,b,(i:Int),()),())) (if gq (λa:aM=>a.ay==b) l<l.length then .inl ((true,()),())else .inr (.inl ((),()))) aV (λk h=>by
  have D:=vP h (by omega);unfold Hl az bx xG xI;dsimp only;rw[aW,aq,aC ⟨by omega,by omega⟩];simp only[bD];rw[D,av,bI]) (by
  by_cases C:gq (λa:aM=>a.ay==b) l<l.length
  ·have D:=B0 C;unfold Hl az bx xG xI;dsimp only;simp[*]
  ·unfold Hl az bx xG xI;dsimp only;rw[aZ,av,bk C]) (bM)
 rw[cv]at e
 refine(bC (λo=>Option.bind o _) e).trans ?_
 by_cases C:gq (λa:aM=>a.ay==b) l<l.length
 ·rw[bg C,aW C];rfl
 ·rw[bk C,aZ C];rfl
def anb{α:Type}(p:α -> Bool)(l:aa α):(gq p l=l.length/\l.find? p=none) \/ ∃ h:gq p l<l.length,l.find? p=some l[gq p l]:=by
 have E:=EA p l;rcases Nat.lt_or_ge _ _ with h|h
 ·refine .inr ⟨h,?_⟩;rw[List.find?_eq_some_iff_getElem]
  refine⟨B0 h,_,h,rfl,λj C=>?_⟩
  rw[vP C];rfl
 ·refine .inl ⟨by omega,?_⟩;rw[List.find?_eq_none];intro x D;obtain⟨j,C,rfl⟩:=jI.1 D;rw[vP (p:=p) (by omega) C];simp
def T7(c:ax)(l:aa aF):aF×Bool:=match l.find? (eY c)with
 |some x=>(x,true)
 |none=>(ou,false)
def anc{c:ax}(h:Pq c){l:aa aF}(hl:l.length <= 1000)(I:∀ x∈l,cZ c.config.au x=true):MA c l=some (T7 c l):=by
 have hi:=EA (eY c) l;have oZ:∀ (k:Nat) (C:k<l.length),D0 ((c,l,(),(k:Int),()),(((0:Int),(0:Int),(0:Int),(0:Int),()),()))=some (bif eY c l[k]then .inr (.inl (((),true,()),((l[k].kind,l[k].ay,l[k].row,l[k].bV,()),())))else .inl ((c,l,(),((k+1:Nat):Int),()),(((0:Int),(0:Int),(0:Int),(0:Int),()),()))):=by
  intro k C;unfold D0 az bx xG xI;dsimp only;rw[aW,aq,aC ⟨by omega,by omega⟩];simp only[bD];rw[TT h.p (I _ (cQ C)),ak];cases eY c l[k]with
  |false=>rw[av,bI];rfl
  |true=>simp_all
 unfold MA T7 bU;rcases anb (eY c) l with ⟨D,E⟩|⟨D,E⟩
 ·have e:=cI (step:=D0) l.length _ _ aV (λk C=>by
   rw[oZ k C,vP (p:=eY c) (i:=k) (by omega) C];rfl) (by
   unfold D0 az bx xG xI;dsimp only;rw[aZ,av]) (bM)
  rw[cv]at e
  refine(bC (λo=>Option.bind o _) e).trans ?_
  rw[E];rfl
 ·have e:=cI (step:=D0) (gq (eY c) l) (λk=>((c,l,(),(k:Int),()),(((0:Int),(0:Int),(0:Int),(0:Int),()),()))) (.inl (((),true,()),((l[gq (eY c) l].kind,l[gq (eY c) l].ay,l[gq (eY c) l].row,l[gq (eY c) l].bV,()),()))) aV (λk C=>by
   rw[oZ k (by omega),vP (p:=eY c) (i:=k) C (by omega)];rfl) (by
   rw[oZ _ D,B0 D];rfl) (bM)
  rw[cv]at e
  refine(bC (λo=>Option.bind o _) e).trans ?_
  rw[E];rfl
def uA(c:ax)(b:Int)(x:aF):aF:=bif (ez c.aO b).open_ then ⟨4,b,0,0⟩else x
def aD9{c:ax}{b:Int}(x:aF)(C:0 <= b)(h:b.toNat<c.aO.aA.length):Bn c b x=some (uA c b x):=by
 unfold Bn uA xI;rw[aC ⟨C,h⟩,B4 h]
 grind
def aEa{c:ax}(x:aF)(C:0 <= x.ay)(h:x.ay.toNat<c.aO.aA.length):Hj c x=some (uA c x.ay x):=by
 unfold Hj uA xI;rw[aC ⟨C,h⟩,B4 h]
 grind
def T8{c:ax}{b:Int}{x:aF}(h:Pq c)(C:0 <= b/\b<aU c.config.au)(D:cZ c.config.au x=true):cZ c.config.au (uA c b x)=true:=by
 unfold uA;cases (ez _ b).open_ with
 |false=>exact D
 |true=>exact zR h.p.R.r4 (.inl rfl) C
def EO(c:ax)(b:Int):aF:=uA c b ⟨5,b,0,0⟩
def aEb{c:ax}(h:Pq c){b:Int}(hb:b∈fC 0 c.aS.aJ):(0 <= b/\b<aU c.config.au)/\cZ c.config.au (EO c b)=true:=by
 obtain⟨j,rfl,C,_⟩:=amd hb;have:=h.dl;have hb:0 <= ((0+j):Int)/\((0+j):Int)<aU c.config.au:=by omega
 exact⟨hb,T8 h hb (zR h.p.R.r4 (.inr rfl) hb)⟩
def sk(u:Bool)(l:aa Int)(idle:Nat->Bool)(i:Nat):Bool:=bif u then decide (l.getD i 0 >= 4)else decide (l.getD i 0 > 0)&&idle i
def Cc(r:c8)(idle:Nat->Bool):Int:=lT (sk (decide (((fC 0 r.aJ).length:Int) > 0)) r.aJ idle) (λi=>r.aJ.getD i 0) r.aJ.length
def T9(r:c8)(idle:Nat->Bool):-1<=Cc r idle/\Cc r idle<r.aJ.length:=ur _ _ _
def aEc{r:c8}(D:fX r=true)(idle:Nat -> Bool):LD r ((List.range r.aJ.length).map idle)=some (Cc r idle):=by
 have hl:=r5 D;unfold LD bw;rw[Nx _ (by omega),ak,D,bG,av,aaN D,ak];generalize U:decide (((fC 0 r.aJ).length:Int) > 0)=u;have e:=cI (step:=LC) r.aJ.length (λi=>(((List.range r.aJ.length).map idle,(),u,lT (sk u r.aJ idle) (λi=>r.aJ.getD i 0) i,r.aJ,(r.aJ.length:Int),(i:Int),()),((r.aJ,r.wait,r.dX,()),()))) (.inl ((lT (sk u r.aJ idle) (λi=>r.aJ.getD i 0) r.aJ.length,()),())) aV (λk E=>by
  have hb:=ur (sk u r.aJ idle) (λi=>r.aJ.getD i 0) k;rw[HR];generalize lT (sk u r.aJ idle) (λi=>r.aJ.getD i 0) k=C at hb;have Y:r.aJ.getD k 0=r.aJ[k]:=by rw[cV,bT E];rfl
  unfold LC B1 sk az xG xI;dsimp only;rw[aW,aq,aC ⟨by omega,by omega⟩];simp only[bD,Y,fN,dW];rw[bI,aW (by omega:(k:Int)<(r.aJ.length:Int)),aq,aC ⟨by omega,by omega⟩];simp only[amM E];by_cases I:C<0
  ·rw[aW I,Bool.true_or];cases u<;>cases decide (r.aJ[k] > 0)<;>cases decide (r.aJ[k] >= 4)<;>cases idle k<;>rfl
  ·have O:C.toNat<r.aJ.length:=by omega
   have oF:r.aJ.getD C.toNat 0=r.aJ[C.toNat]:=by rw[cV,bT O];rfl
   have h4:0 <= C/\C.toNat<r.aJ.length:=⟨by omega,O⟩
   rw[aZ I,oF];simp only[aC h4,av];cases u<;>cases decide (r.aJ[k] > 0)<;>cases decide (r.aJ[k] >= 4)<;>cases idle k<;>cases decide (r.aJ[k] > r.aJ[C.toNat])<;>rfl) (by
  unfold LC az xG xI;dsimp only;rw[aZ,av]) (bM)
 rw[cv]at e
 refine(bC (λo=>Option.bind o _) e).trans ?_
 unfold Cc;rw[U];rfl
def aEd{r:c8}(D:fX r=true)(idle:Nat -> Bool):SJ r ((List.range r.aJ.length).map idle)=some (Cc r idle):=by
 have hl:=r5 D;unfold SJ bw;rw[aad _ (by omega),ak,D,bG,av,ame D,ak];generalize U:decide (((fC 0 r.aJ).length:Int) > 0)=u;have e:=cI (step:=MI) r.aJ.length (λi=>(((List.range r.aJ.length).map idle,(),u,lT (sk u r.aJ idle) (λi=>r.aJ.getD i 0) i,(i:Int),()),((r.aJ,r.wait,r.dX,()),()))) (.inl ((lT (sk u r.aJ idle) (λi=>r.aJ.getD i 0) r.aJ.length,()),())) aV (λk E=>by
  have hb:=ur (sk u r.aJ idle) (λi=>r.aJ.getD i 0) k;rw[HR];generalize lT (sk u r.aJ idle) (λi=>r.aJ.getD i 0) k=C at hb;have Y:r.aJ.getD k 0=r.aJ[k]:=by rw[cV,bT E];rfl
  have h5:0 <= (k:Int)/\k<r.aJ.length:=⟨by omega,E⟩
  unfold MI B1 sk az xG xI;dsimp only;rw[aW,aq,aC ⟨by omega,by omega⟩];simp only[bD,Y,fN,dW,aC h5];rw[bI,aW (by omega:(k:Int)<(r.aJ.length:Int)),aq];simp only[amM E];by_cases I:C<0
  ·rw[aW I,Bool.true_or];cases u<;>cases decide (r.aJ[k] > 0)<;>cases decide (r.aJ[k] >= 4)<;>cases idle k<;>rfl
  ·have O:C.toNat<r.aJ.length:=by omega
   have oF:r.aJ.getD C.toNat 0=r.aJ[C.toNat]:=by rw[cV,bT O];rfl
   have h4:0 <= C/\C.toNat<r.aJ.length:=⟨by omega,O⟩
   rw[aZ I,oF];simp only[aC h4,av];cases u<;>cases decide (r.aJ[k] > 0)<;>cases decide (r.aJ[k] >= 4)<;>cases idle k<;>cases decide (r.aJ[k] > r.aJ[C.toNat])<;>rfl) (by
  unfold MI az xG xI;dsimp only;rw[aZ,av]) (bM)
 rw[cv]at e
 refine(bC (λo=>Option.bind o _) e).trans ?_
 unfold Cc;rw[U];rfl
def mQ(w:aa aM)(r:bX)(b:Nat):Bool:=w.any λa=>a.ay==(b:Int)&&a.row==(ez r (b:Int)).row
def sn(w:aa aM)(r:bX)(b:Nat):Bool:=(ez r (b:Int)).open_ && !mQ w r b
def xQ(r:bX)(eG:Int)(w:aa aM):Int:=bif eG != 1 then -1 else uz (sn w r) r.aA.length
def abc(r:bX)(eG:Int)(w:aa aM):-1 <= xQ r eG w/\xQ r eG w<r.aA.length:=by
 unfold xQ;cases eG != 1 with
 |true=>grind
 | false=>
  rw[av];rcases N4 (sn w r) r.aA.length with ⟨C,_⟩|⟨j,C,D,_⟩<;>omega
def aEe{w:aa aM}{r:bX}{L:aa Int}{b:Nat}{i n:Int}(hb:b<r.aA.length)(hl:r.aA.length<=1048576)(D:w.length<=1000):iter GW aV ((w,(),(b:Int),false,(),n,i,w,(w.length:Int),(0:Int),()),((r.aA,r.aR,()),L,()))=some (.inl ((w,(),(b:Int),mQ w r b,(),n,i,()),((r.aA,r.aR,()),L,()))):=by
 have e:=cI (step:=GW) w.length (λk=>((w,(),(b:Int),((w.take k).any λa=>a.ay==(b:Int)&&a.row==(ez r (b:Int)).row),(),n,i,w,(w.length:Int),(k:Int),()),((r.aA,r.aR,()),L,()))) (.inl ((w,(),(b:Int),mQ w r b,(),n,i,()),((r.aA,r.aR,()),L,()))) aV (λk C=>by
  rw[nD C,List.any_append,List.any_cons,List.any_nil,Bool.or_false,B4 (by rw[bD];exact hb)];unfold GW az xG xI;dsimp only;rw[aW,aq,aC ⟨by omega,by omega⟩,bI];simp only[bD];cases (w.take k).any λa=>a.ay==(b:Int)&&a.row==r.aA[b].row with
  |true=>rfl
  | false=>
   rw[av,Bool.false_or];cases w[k].ay==(b:Int)with
   |false=>rfl
   |true=>rw[aq,aC ⟨by omega,hb⟩,cC]) (by
  unfold GW az xG xI;dsimp only;rw[aZ,av,iR];rfl) (bM)
 rw[cv]at e;exact e
def aEf{w:aa aM}{r:bX}{b:Nat}(hb:b<r.aA.length)(hl:r.aA.length <= 1048576)(D:w.length <= 1000)(o:Bool):iter Hs aV ((w,(),(b:Int),o,(0:Int),()),((r.aA,r.aR,()),()))=some (.inl ((w,(),(b:Int),o || mQ w r b,()),((r.aA,r.aR,()),()))):=by
 have e:=cI (step:=Hs) w.length (λk=>((w,(),(b:Int),o || ((w.take k).any λa=>a.ay==(b:Int)&&a.row==(ez r (b:Int)).row),(k:Int),()),((r.aA,r.aR,()),()))) (.inl ((w,(),(b:Int),o || mQ w r b,()),((r.aA,r.aR,()),()))) aV (λk C=>by
  rw[nD C,List.any_append,List.any_cons,List.any_nil,Bool.or_false,B4 (by rw[bD];exact hb)];unfold Hs az xG xI;dsimp only;rw[aW,aq,aC ⟨by omega,by omega⟩,bI];simp only[bD];cases w[k].ay==(b:Int)with
  |false=>rw[av,Bool.false_and,Bool.or_false]
  | true=>
   rw[aq,aC ⟨by omega,C⟩,aC ⟨by omega,hb⟩,cC];cases w[k].row==r.aA[b].row with
   |false=>simp[*]
   |true=>rw[aq,Bool.or_true,Bool.or_true]) (by
  unfold Hs az xG xI;dsimp only;rw[aZ,av,iR];rfl) (bM)
 rw[cv,List.take_zero,List.any_nil,Bool.or_false]at e;exact e
def ane(w:aa aM)(r:bX):∀ k,k <= r.aA.length -> (opens 0 (r.aA.take k)).find? (λb=>!mQ w r b.toNat)=bif decide (uz (sn w r) k<0)then none else some (uz (sn w r) k)
 |0,_=>rfl
 | k+1,E=>by
  have C:=ane w r k (by omega);have hb:(ez r (k:Int)).open_=r.aA[k].open_:=by rw[B4 (by rw[bD];omega)];simp only[bD]
  have D:sn w r k=(r.aA[k].open_ && !mQ w r k):=by unfold sn;rw[hb]
  rw[nD (show k<r.aA.length by omega),ZX,jf,Nat.min_eq_left (by omega),fB,List.find?_append,C,ana,D];have I:opens k [r.aA[k]]=bif r.aA[k].open_ then [(k:Int)]else []:=rfl
  grind
def anf(i:Nat)(l:aa di)(x:Int)(h:x∈opens i l):∃ j:Nat,j<l.length/\x=((i+j:Nat):Int):=by
 induction l generalizing i with
 |nil=>cases h
 | cons d l C=>
  have e:opens i (d :: l)=bif d.open_ then (i:Int) :: opens (i+1) l else opens (i+1) l:=rfl;rw[e]at h;have tl:x∈opens (i+1) l -> ∃ j:Nat,j<(d :: l).length/\x=((i+j:Nat):Int):=λh=>by
   have⟨j,D,E⟩:=C _ h;exact⟨j+1,by simpa using D,by rw[E];omega⟩
  cases I:d.open_ with
  |false=>grind
  | true=>
   rw[I,aq]at h;rcases gZ.1 h with rfl|h
   ·exact⟨0,by simp,rfl⟩
   ·exact tl h
def aEg{r:bX}(eG:Int){w:aa aM}(hl:r.aA.length <= 1048576)(O:w.length <= 1000):LF r eG w=some (xQ r eG w):=by
 unfold LF xQ bU;cases eG != 1 with
 |true=>rfl
 | false=>
  rw[av,av,Th r (by omega),ak];have I:=ane w r r.aA.length (dc _);rw[iR]at I;have hol:=Tg 0 r.aA;have U:=anf 0 r.aA;generalize hL:opens 0 r.aA=L at *
  have hi:=EA (λb:Int=>!mQ w r b.toNat) L;have oZ:∀ (k:Nat) (C:k<L.length),DP ((w,(),(),(L.length:Int),(k:Int),()),((r.aA,r.aR,()),L,()))=some (bif !mQ w r L[k].toNat then .inr (.inl ((L[k],()),()))else .inl ((w,(),(),(L.length:Int),((k+1:Nat):Int),()),((r.aA,r.aR,()),L,()))):=by
   intro k C;have⟨j,E,D⟩:=U _ (cQ C);rw[fB]at D;unfold DP az bx xG bw xL;dsimp only;rw[aW,aq,aC ⟨by omega,by omega⟩,aC];simp only[bD,D];rw[aEe E hl O,ak];simp only[dH];rw[bI];cases mQ w r j<;>rfl
  rcases anb (λb:Int=>!mQ w r b.toNat) L with ⟨E,D⟩|⟨E,D⟩
  ·have e:=cI (step:=DP) L.length (λk=>((w,(),(),(L.length:Int),(k:Int),()),((r.aA,r.aR,()),L,()))) (.inr (.inl ((),()))) aV (λk C=>by
    have:=vP (p:=λb:Int=>!mQ w r b.toNat) (q:=L) (i:=k) (by omega) C;rw[oZ k C,this];rfl) (by
    unfold DP az bx xG bw xL;dsimp only;rw[aZ,av]) (bM)
   rw[cv]at e
   refine(bC (λo=>Option.bind o _) e).trans ?_
   rw[D]at I;by_cases Y:uz (sn w r) r.aA.length<0
   ·rcases N4 (sn w r) r.aA.length with ⟨k1,_⟩ | ⟨j,_,k2,_⟩
    ·rw[k1];rfl
    ·omega
   ·grind
  ·have e:=cI (step:=DP) (gq (λb:Int=>!mQ w r b.toNat) L) (λk=>((w,(),(),(L.length:Int),(k:Int),()),((r.aA,r.aR,()),L,()))) (.inl ((L[gq (λb:Int=>!mQ w r b.toNat) L],()),())) aV (λk C=>by
    have:=vP (p:=λb:Int=>!mQ w r b.toNat) (q:=L) (i:=k) C (by omega);rw[oZ k (by omega),this];rfl) (by
    have:=B0 (p:=λb:Int=>!mQ w r b.toNat) (q:=L) E;rw[oZ _ E,this];rfl) (bM)
   rw[cv]at e
   refine(bC (λo=>Option.bind o _) e).trans ?_
   rw[D]at I;by_cases Y:uz (sn w r) r.aA.length<0
   ·grind
   ·simp[*]
def aEh{r:bX}(eG:Int){w:aa aM}(hl:r.aA.length <= 1048576)(I:w.length <= 1000):SK r eG w=some (xQ r eG w):=by
 unfold SK xQ bU;cases eG != 1 with
 |true=>rfl
 | false=>
  have oZ:∀ k (C:k<r.aA.length),D5 ((w,(),k,()),((r.aA,r.aR,()),()))=some (bif sn w r k then .inr (.inl ((k,()),()))else .inl ((w,(),((k+1):Int),()),((r.aA,r.aR,()),()))):=by
   intro k C;have hb:(ez r (k:Int)).open_=r.aA[k].open_:=by rw[B4 (by rw[bD];omega)];simp only[bD]
   unfold D5 sn az bx xG xI bw;dsimp only;rw[aW,aq,aC ⟨by omega,by omega⟩,hb];simp only[bD];rw[aEf C hl I,ak];simp only[dH];rw[bI];cases r.aA[k].open_<;>cases mQ w r k<;>rfl
  rcases N4 (sn w r) _ with ⟨D,E⟩|⟨j,D,E,O,U⟩
  ·have e:=cI (step:=D5) r.aA.length (λk=>((w,(),(k:Int),()),((r.aA,r.aR,()),()))) (.inr (.inl ((),()))) aV (λk C=>by
    rw[oZ k C,E k C];rfl) (by
    unfold D5 az bx xG xI bw;dsimp only;rw[aZ,av]) (bM)
   rw[cv]at e
   refine(bC (λo=>Option.bind o _) e).trans ?_
   rw[D];rfl
  ·have e:=cI (step:=D5) j (λk=>((w,(),(k:Int),()),((r.aA,r.aR,()),()))) (.inl (((j:Int),()),())) aV (λk C=>by
    rw[oZ k (by omega),U k C];rfl) (by
    rw[oZ j D,O];rfl) (bM)
   rw[cv]at e
   refine(bC (λo=>Option.bind o _) e).trans ?_
   rw[E];rfl
def cA(c:ax):Int:=vR c.box.cr.de c.aR (r6 c)
def vW(c:ax)(i:Nat):Bool:=!((gv c).any λa=>a.ay==(i:Int))
def fD(c:ax):Int:=Cc c.aS (vW c)
def gY(c:ax):Int:=xQ c.aO c.box.cr.eG (gv c)
def ov(c:ax):aa aF:=bif decide (fD c >= 0) && !vV c (fD c)then [EO c (fD c)]else []
def mw(c:ax):aa aF:=bif decide (gY c >= 0)then [⟨4,gY c,0,0⟩]else []
def kY(c:ax):aa aF:=bif cA c==8&&decide (((opens 0 c.aO.aA).length:Int) > 0)then [⟨4,(opens 0 c.aO.aA).headD 0,0,0⟩]else bif cA c != 0 then [⟨cA c,0,0,0⟩]else []
def ow(c:ax)(l:aa aF):aF:=(l.find? (eY c)).getD ou
def fnd_nil(c:ax):ow c []=ou:=rfl
def fnd_cons(c:ax)(x:aF)(l:aa aF):ow c (x :: l)=bif eY c x then x else ow c l:=by
 unfold ow;rw[List.find?_cons];cases eY c x<;>rfl
def Ua(c:ax)(w:Int):ah aF:=
 let D:Int->Int->Int->Int->ah (aF):=λE I O U=>(let Y:Bool->ah (aF):=λDn=>bif Dn then some (⟨E,I,O,U⟩:aF)else some (⟨(0:Int),(0:Int),(0:Int),(0:Int)⟩:aF);bif (E != (0:Int))then (jZ c (⟨E,I,O,U⟩:aF)).bind λzk=>(Y zk)else (Y false));bif (w==(8:Int))then (Be c.aO).bind λC=>bif (decide ((C.length:Int) > (0:Int)))then if rT:0<=(0:Int)/\(0:Int).toNat<C.length then if qW:(0:Int).toNat<C.length then (let oO:=C[(0:Int).toNat]'qW;(D (4:Int) oO (0:Int) (0:Int)))else none else none else (D w 0 0 0)else (D w 0 0 0)
def EP(c:ax)(Cd:aa aM)(w:Int):ah aF:=
 (LF c.aO c.box.cr.eG Cd).bind λC=>bif (C != (-1:Int))then (jZ c (⟨(4:Int),C,(0:Int),(0:Int)⟩:aF)).bind λD=>bif D then some (⟨(4:Int),C,(0:Int),(0:Int)⟩:aF)else Ua c w else Ua c w
def ang(c:ax)(url:aa Int)(Cd:aa aM)(w:Int)(idle:aa Bool):ah aF:=
 (LD c.aS idle).bind λC=>(let D:Bool->ah (aF):=λI=>bif I then (Bn c C (⟨(5:Int),C,(0:Int),(0:Int)⟩:aF)).bind λE=>(jZ c E).bind λO=>bif O then some E else EP c Cd w else EP c Cd w;bif (C != (-1:Int))then (xe url C).bind λU=>(D (!U))else (D false))
def Ce(c:ax):cA c=0\/6<=cA c/\cA c<=9:=aCR _ _ _
def aEi(l:aa Int)(h:0<l.length):l.headD 0=l[0]:=by
 cases l with
 |nil=>cases h
 |cons x l=>rfl
def abd(c:ax)(h:Pq c)(C:0<(opens 0 c.aO.aA).length):(0 <= (opens 0 c.aO.aA)[0]/\(opens 0 c.aO.aA)[0]<aU c.config.au)/\(opens 0 c.aO.aA).headD 0=(opens 0 c.aO.aA)[0]:=by
 have⟨j,D,E⟩:=anf 0 _ _ (cQ C);have:=h.p.bl;exact⟨by omega,aEi _ C⟩
def aEj{c:ax}(h:Pq c):Ua c (cA c)=some (ow c (kY c)):=by
 have iM:=B8 h;have hw:=Ce c;have D:=h.p.R.r4;have O:cA c≠0 -> jZ c ⟨cA c,0,0,0⟩=some (eY c ⟨cA c,0,0,0⟩):=λhn=>EG h.p (NV D (by omega))
 have U:(bif (cA c != (0:Int))then (jZ c (⟨cA c,0,0,0⟩:aF)).bind λY=>(bif Y then some (⟨cA c,0,0,0⟩:aF)else some ou)else some ou)=some (ow c (bif cA c != 0 then [⟨cA c,0,0,0⟩]else [])):=by
  by_cases C:cA c=0
  ·rw[C];rfl
  ·rw[gI C,aq,aq,O C,fnd_cons,fnd_nil]
   grind
 unfold Ua kY;dsimp only;by_cases E:cA c=8
 ·have e8:(cA c==8)=true:=by rw[E];rfl
  rw[e8,aq,Th _ (by omega),ak,cC];by_cases I:0<(opens 0 c.aO.aA).length
  ·have⟨k1,k2⟩:=abd c h I;rw[aW,aq,aq,aC ⟨by omega,I⟩,aC,k2];show (bif ((4:Int) != 0)then (jZ c ⟨4,(opens 0 c.aO.aA)[0],0,0⟩).bind _ else _)=_;rw[EG h.p (zR D (.inl rfl) k1),fnd_cons,fnd_nil];cases eY c ⟨4,(opens 0 c.aO.aA)[0],0,0⟩<;>rfl
  ·rw[aZ,av];exact U
 ·rwa [iw E,av,Bool.false_and,av]
def aEk{c:ax}(h:Pq c):EP c (gv c) (cA c)=some (ow c (mw c++kY c)):=by
 have C:=B8 h;have E:=h.ql;have I:=h.p.bl;have hb:-1 <= gY c/\gY c<c.aO.aA.length:=abc _ _ _;unfold EP mw;rw[aEg _ C (by rw[B7];omega),ak];show (bif gY c != -1 then (jZ c ⟨4,gY c,0,0⟩).bind _ else _)=_;rw[aEj h];by_cases D:gY c >= 0
 ·rw[gI (by omega:¬ gY c = -1),aq,aW D,aq,EG h.p (zR h.p.R.r4 (.inl rfl) (by omega)),ak,List.singleton_append,fnd_cons];cases eY c ⟨4,gY c,0,0⟩<;>rfl
 ·grind
def aEl{c:ax}(h:Pq c):ang c (fC 0 c.aS.aJ) (gv c) (cA c) ((List.range c.aS.aJ.length).map (vW c))=some (ow c (ov c++(mw c++kY c))):=by
 have iM:=B8 h;have I:=r5 h.rf;have El:=h.p.bl;have hdn:=h.dl;have hb:-1 <= fD c/\fD c<c.aS.aJ.length:=T9 _ _;unfold ang ov;rw[aEc h.rf,ak];show (bif fD c != -1 then (xe (fC 0 c.aS.aJ) (fD c)).bind λO=>(bif !O then (Bn c (fD c) ⟨5,fD c,0,0⟩).bind λD=>(jZ c D).bind λC=>bif C then some D else EP c (gv c) (cA c)else EP c (gv c) (cA c))else EP c (gv c) (cA c))=_;rw[aEk h];by_cases U:fD c >= 0
 ·have E:0 <= fD c/\fD c<aU c.config.au:=by omega
  rw[gI (by omega:¬ fD c = -1),aq,aW U,cC,(aDR I.1 (by omega) (by omega)),ak];cases vV c (fD c)with
  |true=>rfl
  | false=>
   have Y:cZ c.config.au (EO c (fD c))=true:=T8 h E (zR h.p.R.r4 (.inr rfl) E);rw[jx,aq,aq,aD9 _ (by omega) (by omega),ak];show ((jZ c (EO c (fD c))).bind λC=>bif C then some (EO c (fD c))else _)=_;rw[EG h.p Y,ak,List.singleton_append,fnd_cons]
   grind
 ·grind
def aEm{c:ax}(h:Pq c):LH c (fC 0 c.aS.aJ) (gv c) ⟨cA c,0,0,0⟩=some (ow c (ov c++(mw c++kY c))):=by
 have D:=B8 h;have E:=h.ql;have I:=h.p.bl;have O:=h.dl;have U:=r5 h.rf;have C:c.aO.aA.length=c.aS.aJ.length:=by omega
 have e:=cI (step:=LG) c.aO.aA.length (λi=>((fC 0 c.aS.aJ,gv c,(),(),(),(),(c.aO.aA.length:Int),(i:Int),()),(c,(cA c,(0:Int),(0:Int),(0:Int),()),((0:Int),(0:Int),(0:Int),(0:Int),()),(List.range i).map (vW c),()))) _ aV (λk Y=>by
  unfold LG az xG;dsimp only;rw[aW,aq,aCY _ _ (by rw[B7];omega),ak,fN,dW,mV,cF,aq,bI,List.range_succ,List.map_append];rfl) (by
  unfold LG az xG;dsimp only;rw[aZ,av]) (bM)
 rw[cv]at e;unfold LH bw xL
 refine(bC (λo=>Option.bind o _) e).trans ?_
 rw[ak,C];exact aEl h
def anh{c:ax}(h:Pq c):(kY c).length <= 1 /\ ∀ x∈kY c,cZ c.config.au x=true:=by
 have hw:=Ce c;have D:=h.p.R.r4;have E:(bif cA c != 0 then [(⟨cA c,0,0,0⟩:aF)]else []).length <= 1 /\ ∀ x∈(bif cA c != 0 then [⟨cA c,0,0,0⟩]else []),cZ c.config.au x=true:=by
  by_cases I:cA c=0
  ·simp_all
  ·rw[gI I];exact⟨dc _,λx C=>by rw[jH.1 C];exact NV D (by omega)⟩
 unfold kY;cases cA c==8 with
 |false=>exact E
 | true=>
  by_cases O:0<(opens 0 c.aO.aA).length
  ·have⟨U,Y⟩:=abd c h O;rw[aW,Y];exact⟨dc _,λx C=>by rw[jH.1 C];exact zR D (.inl rfl) U⟩
  ·simp_all
def ani{c:ax}(h:Pq c):(mw c).length <= 1 /\ ∀ x∈mw c,cZ c.config.au x=true:=by
 have E:=h.p.bl;have hb:-1 <= gY c/\gY c<c.aO.aA.length:=abc _ _ _;unfold mw;by_cases C:gY c >= 0
 ·rw[aW C];exact⟨dc _,λx D=>by rw[jH.1 D];exact zR h.p.R.r4 (.inl rfl) (by omega)⟩
 ·grind
def aEn{c:ax}(h:Pq c):(ov c).length <= 1 /\ ∀ x∈ov c,cZ c.config.au x=true:=by
 have I:=h.dl;have hb:-1 <= fD c/\fD c<c.aS.aJ.length:=T9 _ _;unfold ov;by_cases D:fD c >= 0
 ·have C:0 <= fD c/\fD c<aU c.config.au:=by omega
  rw[aW D];cases vV c _ with
  |true=>simp_all
  |false=>exact⟨dc _,λx E=>by rw[jH.1 E];exact T8 h C (zR h.p.R.r4 (.inr rfl) C)⟩
 ·grind
def aEo{c:ax}(h:Pq c):MK c (cA c)=some (ov c++(mw c++kY c)):=by
 have iM:=B8 h;have hq:=h.ql;have El:=h.p.bl;have hdn:=h.dl;have NG:=r5 h.rf;have yx:c.aO.aA.length=c.aS.aJ.length:=by omega
 have nT:-1 <= fD c/\fD c<c.aS.aJ.length:=T9 _ _;have iT:-1 <= gY c/\gY c<c.aO.aA.length:=abc _ _ _;have hol:=Tg 0 c.aO.aA;have e:=cI (step:=MJ) c.aO.aA.length (λi=>((c,cA c,(),(),(),(i:Int),()),(([]:aa aF),gv c,(List.range i).map (vW c),()))) (.inl ((c,cA c,(),(),(),()),(([]:aa aF),gv c,(List.range c.aO.aA.length).map (vW c),()))) aV (λk hk=>by
  unfold MJ az xG;dsimp only;rw[aW,aq,aD8 _ _ (by rw[B7];omega),ak,fN,dW,mV,cF,aq,bI,List.range_succ,List.map_append];rfl) (by
  unfold MJ az xG;dsimp only;rw[aZ,av]) (bM)
 rw[cv]at e;have D:∀l:aa aF,l.length <= 5 -> bE (l.length+1)=true:=λl hl=>cF
 -- the end
 have tl:∀ l:aa aF,l.length <= 5 -> (bif (cA c==(8:Int))then (bif (decide (((opens 0 c.aO.aA).length:Int) > (0:Int)))then (if I:0 <= (0:Int)/\(0:Int).toNat<(opens 0 c.aO.aA).length then if C:(0:Int).toNat<(opens 0 c.aO.aA).length then (bif bE (l.length+([(⟨(4:Int),(opens 0 c.aO.aA)[(0:Int).toNat]'C,(0:Int),(0:Int)⟩:aF)]:aa aF).length)then some (l++([(⟨(4:Int),(opens 0 c.aO.aA)[(0:Int).toNat]'C,(0:Int),(0:Int)⟩:aF)]:aa aF))else none)else none else none)else (bif (cA c != (0:Int))then bif bE (l.length+([(⟨cA c,(0:Int),(0:Int),(0:Int)⟩:aF)]:aa aF).length)then some (l++([(⟨cA c,(0:Int),(0:Int),(0:Int)⟩:aF)]:aa aF))else none else some l))else (bif (cA c != (0:Int))then bif bE (l.length+([(⟨cA c,(0:Int),(0:Int),(0:Int)⟩:aF)]:aa aF).length)then some (l++([(⟨cA c,(0:Int),(0:Int),(0:Int)⟩:aF)]:aa aF))else none else some l))=some (l++kY c):=by
  intro l hl;have z:(bif (cA c != (0:Int))then bif bE (l.length+([(⟨cA c,(0:Int),(0:Int),(0:Int)⟩:aF)]:aa aF).length)then some (l++([(⟨cA c,(0:Int),(0:Int),(0:Int)⟩:aF)]:aa aF))else none else some l)=some (l++(bif cA c != 0 then [(⟨cA c,0,0,0⟩:aF)]else [])):=by
   rw[mV,D l hl];cases cA c != 0 with
   |true=>rfl
   |false=>rw[av,av,List.append_nil]
  unfold kY;cases cA c==8 with
  |false=>exact z
  | true=>
   rw[aq,cC];by_cases E:0<(opens 0 c.aO.aA).length
   ·have⟨k1,k2⟩:=abd c h E;rw[aW (by omega:((opens 0 c.aO.aA).length:Int) > 0),aq,aq,aC ⟨by omega,E⟩,aC (show Int.toNat 0<(opens 0 c.aO.aA).length from E),mV,D l hl,aq,k2];rfl
   ·rw[aZ (by omega:¬ ((opens 0 c.aO.aA).length:Int) > 0),av,av];exact z
 unfold MK bw xL;rw[amP h,ak]
 refine(bC (λo=>Option.bind o _) e).trans ?_
 rw[ak,yx];simp only[dH,aEd h.rf,ak,aEh _ iM (show (gv c).length <= 1000 by rw[B7];omega),alg _ (show c.aO.aA.length<1073741823 by omega)];have er:Cc c.aS (vW c)=fD c:=rfl;have ec:xQ c.aO c.box.cr.eG (gv c)=gY c:=rfl;rw[er,ec];have h1:∀ l:aa aF,l.length <= 4 -> (bif decide (gY c >= 0)then bif bE (l.length+([(⟨4,gY c,0,0⟩:aF)]:aa aF).length)then some ((l++([(⟨4,gY c,0,0⟩:aF)]:aa aF))++kY c)else none else some (l++kY c))=some (l++(mw c++kY c)):=by
  intro l hl;unfold mw;rw[mV,D l (by omega)];cases decide (gY c >= 0)with
  |true=>rw[aq,aq,List.append_assoc];rfl
  |false=>rfl
 have O:∀ l:aa aF,l.length <= 1 -> (bif decide (gY c >= 0)then bif bE (l.length+([(⟨4,gY c,0,0⟩:aF)]:aa aF).length)then (bif (cA c==(8:Int))then (bif (decide (((opens 0 c.aO.aA).length:Int) > (0:Int)))then (if I:0 <= (0:Int)/\(0:Int).toNat<(opens 0 c.aO.aA).length then if C:(0:Int).toNat<(opens 0 c.aO.aA).length then (bif bE ((l++([(⟨4,gY c,0,0⟩:aF)]:aa aF)).length+([(⟨(4:Int),(opens 0 c.aO.aA)[(0:Int).toNat]'C,(0:Int),(0:Int)⟩:aF)]:aa aF).length)then some ((l++([(⟨4,gY c,0,0⟩:aF)]:aa aF))++([(⟨(4:Int),(opens 0 c.aO.aA)[(0:Int).toNat]'C,(0:Int),(0:Int)⟩:aF)]:aa aF))else none)else none else none)else (bif (cA c != (0:Int))then bif bE ((l++([(⟨4,gY c,0,0⟩:aF)]:aa aF)).length+([(⟨cA c,(0:Int),(0:Int),(0:Int)⟩:aF)]:aa aF).length)then some ((l++([(⟨4,gY c,0,0⟩:aF)]:aa aF))++([(⟨cA c,(0:Int),(0:Int),(0:Int)⟩:aF)]:aa aF))else none else some (l++([(⟨4,gY c,0,0⟩:aF)]:aa aF))))else (bif (cA c != (0:Int))then bif bE ((l++([(⟨4,gY c,0,0⟩:aF)]:aa aF)).length+([(⟨cA c,(0:Int),(0:Int),(0:Int)⟩:aF)]:aa aF).length)then some ((l++([(⟨4,gY c,0,0⟩:aF)]:aa aF))++([(⟨cA c,(0:Int),(0:Int),(0:Int)⟩:aF)]:aa aF))else none else some (l++([(⟨4,gY c,0,0⟩:aF)]:aa aF))))else none else (bif (cA c==(8:Int))then (bif (decide (((opens 0 c.aO.aA).length:Int) > (0:Int)))then (if I:0 <= (0:Int)/\(0:Int).toNat<(opens 0 c.aO.aA).length then if C:(0:Int).toNat<(opens 0 c.aO.aA).length then (bif bE (l.length+([(⟨(4:Int),(opens 0 c.aO.aA)[(0:Int).toNat]'C,(0:Int),(0:Int)⟩:aF)]:aa aF).length)then some (l++([(⟨(4:Int),(opens 0 c.aO.aA)[(0:Int).toNat]'C,(0:Int),(0:Int)⟩:aF)]:aa aF))else none)else none else none)else (bif (cA c != (0:Int))then bif bE (l.length+([(⟨cA c,(0:Int),(0:Int),(0:Int)⟩:aF)]:aa aF).length)then some (l++([(⟨cA c,(0:Int),(0:Int),(0:Int)⟩:aF)]:aa aF))else none else some l))else (bif (cA c != (0:Int))then bif bE (l.length+([(⟨cA c,(0:Int),(0:Int),(0:Int)⟩:aF)]:aa aF).length)then some (l++([(⟨cA c,(0:Int),(0:Int),(0:Int)⟩:aF)]:aa aF))else none else some l)))=some (l++(mw c++kY c)):=by
  intro l hl;rw[tl _ (by rw[oy,mV];omega),tl _ (by omega)];exact h1 l (by omega)
 have U:=O [] (by simp);unfold ov;by_cases Y:fD c >= 0
 ·have hv:0 <= fD c/\fD c<aU c.config.au:=by omega
  rw[aW Y,aq,cC,(amZ NG.1 (by omega) (by omega)),ak];cases vV c (fD c)with
  |true=>exact U
  | false=>
   rw[jx,aq,aq,aEa _ (by show 0 <= fD c;omega) (by show (fD c).toNat<_;omega),ak,List.length_nil,mV,cF,aq];exact O [EO c (fD c)] (dc _)
 ·rw[aZ Y,av,Bool.false_and,av];exact U
def aEp(c:ax)(l:aa aF):T7 c l=(ow c l,(l.find? (eY c)).isSome):=by
 unfold T7 ow;cases l.find? (eY c)<;>rfl
def N5{r:bX}{x:aF}(C:x.kind <= 5):(ff r x).aR=r.aR:=by
 unfold ff
 grind
def ja.cw{c:ax}(p:ja c)(x:aF):ja (cw c x):=⟨p.dl,p.tl,p.gl,p.t,p.g,p.pd,p.u⟩
def Ck.cw{c:ax}(h:Ck c){x:aF}(C:kU c.config.au c.aO x=true)(D:x.kind<=5)(E:c.trace.length<2000):Ck (cw c x):=by
 simp only[kU,aP]at C;exact⟨h.f1,h.f2,h.nw,aax C.1 C.2.1 C.2.2,am7 _ h.rd,h.ar,h.sp,h.se,h.rf,((ja.of h.pa).cw x).ok,h.qu,h.sh,h.sl,h.dr,h.pw,h.ps.trans (N5 D).symm,h.si,h.s1,h.s2,h.s3,h.er,by simp[Proofs.YtdfkhfiglknaoaaGreat.cw];omega,h.rp⟩
def Ck.opn{c:ax}(h:Ck c){x:aF}(E:0 <= x.ay)(I:x.ay<aU c.config.au)(O:0 <= x.row)(U:x.row<c.config.au.rows):Ck (uw c x):=by
 have C:=(BV h.rk).1;have gb:=fJ C;have p:=ja.of h.pa;have H9:=p.tl;have hgl:=p.gl;have Y:x.ay.toNat<c.bH.length:=by omega
 have D:fA c.config.au 100000 (qY c.config.au c.config.dg c.array x.ay x.row):=aaK C c.config.dg (by decide) (fA.vU h.ar) E I O U;have q1:∀a∈ot c x,dO c.config.au a=true/\a.bV=0:=λa D=>p.pd a (List.mem_filter.1 D).1
 have q2:(ot c x).Pairwise (λx y=>x≠y):=p.u.filter _;have q:(∀ a∈(uw c x).pending,dO c.config.au a=true/\a.bV=0)/\(uw c x).pending.Pairwise (λx y=>x≠y):=by
  show (∀a∈(bif (q6 c x).2 then (mP c.config.au.rows x.row).foldl (nK x.ay) (ot c x)else ot c x),dO c.config.au a=true/\a.bV=0)/\(bif (q6 c x).2 then (mP c.config.au.rows x.row).foldl (nK x.ay) (ot c x)else ot c x).Pairwise (λx y=>x≠y);cases (q6 c x).2 with
  |false=>simp_all
  | true=>
   refine am1 _ (λn hn=>?_) q1 q2
   have:=alG O U n hn;exact xw C E I this.1 this.2 (jw 0) (by show 0<_;omega)
 have hp:ja (uw c x):=⟨p.dl,by show ((c.bH.set x.ay.toNat (q6 c x).1).length:Int)=_;rw[ki];exact p.tl,p.gl,Ic p.t (by unfold q6;rw[gu _ Y];exact aDX (p.t _ (cQ Y)) _ _),p.g,q.1,q.2⟩
 exact⟨h.f1,h.f2,h.nw,h.rk,h.rd,Ie C D,h.sp,h.se,h.rf,hp.ok,h.qu,h.sh,h.sl,h.dr,h.pw,h.ps,h.si,h.s1,h.s2,h.s3,h.er,h.tr,h.rp⟩
def Ck.ref{c:ax}(h:Ck c)(hl:c.box.cr.weights.length<1073741823)(E:aQ c.config.gO 1 16=true){b:Int}(I:0 <= b)(O:b<aU c.config.au):Ck (N2 c b):=by
 have C:=(BV h.rk).1;have Y:=fJ C;have p:=ja.of h.pa;have NG:=p.dl;have D:fA _ 100000 (gJ _ c.config.dg c.array b c.config.au.rows.toNat):=HW C _ (by decide) (fA.vU h.ar) I O _ (by omega);have U:ja (N2 c b):=⟨by show ((qc c.aS b).aJ.length:Int)=_;rw[amW];exact p.dl,by show ((c.bH.set b.toNat _).length:Int)=_;rw[ki];exact p.tl,by show ((c.guard.set b.toNat _).length:Int)=_;rw[ki];exact p.gl,Ic p.t (am2 E),Ic p.g (am3 hl h.f1),λa D=>p.pd a (List.mem_filter.1 D).1,p.u.filter _⟩
 exact⟨h.f1,h.f2,h.nw,h.rk,h.rd,Ie C D,h.sp,h.se,aD6 h.rf (by omega),U.ok,h.qu,h.sh,h.sl,h.dr,h.pw,h.ps,h.si,h.s1,h.s2,h.s3,h.er,h.tr,h.rp⟩
def abe{T:Type}{p:T->Prop}{l:aa T}{x:T}(h:∀ y∈l,p y)(C:p x):∀ k:Nat,∀ y∈(List.range k).foldl (λd b=>d.set b x) l,p y
 |0=>h
 | k+1=>by
  rw[qd];exact Ic (abe h C k) C
def anj{r:c8}(h:fX r=true):∀ k:Nat,fX ⟨(List.range k).foldl (λd b=>d.set b 0) r.aJ,r.wait,r.dX⟩=true
 |0=>h
 | k+1=>by
  rw[qd];exact am9 (anj h k) k (by omega)
def Ck.T0{c:ax}(h:Ck c)(hl:c.box.cr.weights.length<1073741823)(E:aQ c.config.gO 1 16=true)(n:Nat)(I:(n:Int) <= aU c.config.au):Ck (gX c n []):=by
 have D:=(BV h.rk).1;have p:=ja.of h.pa;have C:=TZ D c.config.dg (by decide) (fA.vU h.ar) n I;have O:ja (gX c n []):=⟨by show (((List.range n).foldl _ c.aS.aJ).length:Int)=_;rw[xN];exact p.dl,by show (((List.range n).foldl _ c.bH).length:Int)=_;rw[xN];exact p.tl,by show (((List.range n).foldl _ c.guard).length:Int)=_;rw[xN];exact p.gl,abe p.t (am2 E) n,abe p.g (am3 hl h.f1) n,λa C=>(by cases C),List.Pairwise.nil⟩
 exact⟨h.f1,h.f2,h.nw,h.rk,h.rd,Ie D C,h.sp,h.se,anj h.rf n,O.ok,h.qu,h.sh,h.sl,h.dr,h.pw,h.ps,h.si,h.s1,h.s2,h.s3,h.er,h.tr,h.rp⟩
def Ck.acc{c:ax}(h:Ck c){i:Nat}(C:oY c i 100000)(hr:c.bP.length<400):Ck (gK c i):=by
 have U:=(BV h.rk).1;have p:=ja.of h.pa;have hi:=C.i;have⟨f1,f3,f4,f5,f6,f7,f8⟩:=C.facts (cQ hi);have D:c.queue.getD i oX=c.queue[i]:=gu _ hi;have E:=C.d _ (cQ hi);have Y:=C.shl;have I:jq (B9 c.shares c.queue[i].dM)=true/\((B9 c.shares c.queue[i].dM).length:Int)=4:=by
  have⟨y,t,e,hl,ho⟩:=aD5 ((List.replicate 4 false).set c.queue[i].dM.toNat true) (by omega) h.sh (by simp[Y])
  grind
 have hqu:gW (dU (cX c.config.au c.spare)) (c.queue.take i++c.queue.drop (i+1))=true:=((Qk.of h.qu).sub (aD2 _ _)).ok;have key:∀ (a:cJ) (e:aa cB) (x:dA),fA c.config.au 100000 a -> mm e=true -> Ck (q7 c i a e x):=λa e x ha he=>
  ⟨h.f1,h.f2,h.nw,h.rk,h.rd,Ie U ha,h.sp,h.se,h.rf,(show ja (q7 c i a e x)from ⟨p.dl,p.tl,p.gl,p.t,p.g,p.pd,p.u⟩).ok,hqu,by unfold q7;rw[D];exact I.1,by unfold q7;rw[D];exact I.2,h.dr,h.pw,h.ps,h.si,h.s1,h.s2,h.s3,he,h.tr,by simp[q7];omega⟩
 unfold gK;rw[D];dsimp only;cases c.queue[i].write with
 |true=>exact key _ _ _ (C.a.NK _ (c:=⟨_,false⟩) (EL E.1 E.2).2.1) h.er
 | false=>
  have O:=C.a.syms _ (cQ f4);rw[av,gu _ f4];refine key _ _ _ (C.a.NK _ (amB O)) ?_;have hec:=aa6 O;by_cases e:nL c.array.cells[eJ c.config.au (dL c c.queue[i].line)]=0
  ·rw[e];exact h.er
  ·rw[gI e,aq];exact aD4 h.er ⟨by omega,f5⟩ (by omega)
def Ck.Ub{c:ax}(h:Ck c){x:aF}(C:kU c.config.au c.aO x=true)(D:6 <= x.kind/\x.kind <= 9)(Y:c.trace.length<2000):Ck (Ca (Proofs.YtdfkhfiglknaoaaGreat.cw c x) x.kind):=by
 simp[kU,aP]at C;have E:=bA.1 h.nw;have⟨I,O,U⟩:=aD7 h.pw h.ps h.si E.2 D C.2.2;have p:=ja.of h.pa;exact⟨h.f1,h.f2,h.nw,aax C.1 C.2.1 C.2.2,am7 _ h.rd,h.ar,h.sp,h.se,h.rf,(show ja _ from ⟨p.dl,p.tl,p.gl,p.t,p.g,p.pd,p.u⟩).ok,h.qu,h.sh,h.sl,h.dr,I,O,U,h.s1,h.s2,h.s3,h.er,by simp[Ca,amT,Proofs.YtdfkhfiglknaoaaGreat.cw];omega,h.rp⟩
def Ck.iss{c:ax}(I:dJ c)(h:Ck c){x:aF}{i:Int}(E:kX c x i=true):Ck (cS c x i):=by
 have hq:=Pq.of I h.ok;have O:c.box.cr.weights.length<1073741823:=by
  have:=I.1.1;unfold TH at this;omega
 have N6:aQ c.config.gO 1 16=true:=by
  have:=(NU O h.f1).1;simp[od,aP]at this;exact this.2.2.2.2.2.1
 have⟨hb,C,hs,hr⟩:=Cb I hq E;have D:c.trace.length<2000:=by
  simp only[kX,aP,ij,qh]at E;omega
 have hrp:x.kind=2 \/ x.kind=3 -> c.bP.length<400:=λU=>by
  simp only[kX,aP]at E;have e:(x.kind==2 ||x.kind==3)=true:=by rcases U with q|q<;>rw[q]<;>rfl
  rw[e,aq]at E;simp[Ib,aP,fU]at E;omega
 have⟨hg,hlen,U,vX⟩:=vH C;have hc:cZ c.config.au x=true:=by
  simp only[kU,aP]at C
  grind
 have H9:=(ja.of h.pa).tl;have iM:=hq.p.bl;unfold cS;rcases kinds U with q|q|q|q|q|q|q|q|q<;>rw[q]<;>simp only[Int.reduceBEq,Int.reduceBNe,aq,av,Bool.or_true,Bool.or_false,Bool.true_or,Bool.false_or,Bool.or_self]
 ·have⟨Y,nT⟩:=vX (by omega);have⟨r0,r1⟩:=H8 hc q;exact(h.cw C (by omega) D).opn Y (by show x.ay<aU c.config.au;omega) r0 r1
 ·exact(h.cw C (by omega) D).acc ((hs (.inl q)).1.cw x) (hrp (.inl q))
 ·exact(h.cw C (by omega) D).acc ((hs (.inr q)).1.cw x) (hrp (.inr q))
 ·exact h.cw C (by omega) D
 ·have⟨Y,nT⟩:=vX (by omega);exact(h.cw C (by omega) D).ref O N6 Y (by show x.ay<aU c.config.au;omega)
 ·have:=h.Ub C (by omega) D;rw[q]at this;exact this
 ·have:=h.Ub C (by omega) D;rw[q]at this;exact this
 ·have:=h.Ub C (by omega) D;rw[q]at this;exact this
 ·have:=h.Ub C (by omega) D;rw[q]at this;exact this.T0 O N6 _ (by show (c.bH.length:Int) <= aU c.config.au;omega)
def sq(d:Int):Int:=if (5:Int)<W6 (d+1)then 5 else W6 (d+1)
def N7(x:ax):ah ax:=(vt x).bind λC=>bif (C.1.kind != (0:Int))then (ue x C.1 C.2).bind λD=>some D.1 else some x
def Uc(x:ax)(n:Int):ah ax:=bif (decide (n >= (0:Int)))then (zx x n).bind λC=>(zo C.2.1 n C.1.2).bind λD=>N7 D.2.1 else N7 x
abbrev N8:=ah (af×(ax×af))
def nM(j:ax)(b:iK)(s:aa cD)(d:jy)(p:fK)(u:lZ):ax:=⟨j.config,b,j.now,j.aO,j.ready,j.array,j.spare,j.aS,j.bH,j.guard,j.pending,j.queue,s,d,p,u,j.errors,j.trace,j.bP⟩
def N9(x:ax):N8:=(BF x).bind λC=>(let D:Bool -> N8:=λE=>bif E then (BI x C.1 C.2).bind λI=>some ((),(I.2.1,()))else some ((),(x,()));bif (C.1.kind != (0:Int))then (BG x C.1 C.2).bind λO=>(D O)else (D false))
def Ud(x:ax)(n:Int):N8:=bif (decide (n >= (0:Int)))then (D7 x n).bind λC=>(DY C.2.1 n C.1.2).bind λD=>N9 D.2.1 else N9 x
def Ue(j:ax):N8:=(Md j.queue true).bind λU=>(Mb j.drain U).bind λD=>(DV (nM j j.box j.shares D j.aR j.cY)).bind λY=>(Me j.aR Y).bind λE=>(Mj j.box ((j.queue.length:Int)==(0:Int))).bind λC=>bif C.2 then (Dq C.1.cr.weights).bind λy9=>(tY j.config.au).bind λgH=>(DW j.cY gH).bind λI=>Ud (nM j C.1 y9.1 ⟨false,C.1.cr.low,C.1.cr.high⟩ E I.1) I.2 else (tY j.config.au).bind λpV=>(DW j.cY pV).bind λO=>Ud (nM j C.1 j.shares D E O.1) O.2
def vY(c:ax)(n:Int):ax:=⟨c.config,c.box,n,c.aO,c.ready,c.array,c.spare,c.aS,c.bH,c.guard,c.pending,c.queue,c.shares,c.drain,c.aR,c.cY,c.errors,c.trace,c.bP⟩
def xR(r:c8)(n:Int):c8:=if 0<r.wait-1 then ⟨r.aJ,r.wait-1,r.dX⟩else ⟨r.aJ.map sq,bif r.dX then n / 2 else n,r.dX⟩
def aEq{t:cg}(h:iy t=true):2<=BN t:=by
 have q:=Z7 t;unfold zc at q;rw[HE,ak,h,bG,av]at q;simp only[iy,aP,ck]at h;have k:∀ x∈p6 t,0<=x/\x<=1000:=λx C=>by
  have:=h.1 x C;simp only[zJ,bA]at this;omega
 simp only[p6,List.forall_mem_cons]at k;injection q with q;rw[<-q];simp (disch:=omega) only [aY];omega
def aEr{c:dP}{p:dz}(hl:p.weights.length<1073741823)(h:rY c p=true):2<=c.interval/\c.interval<=10000:=by
 have q:=(NU hl h).1;have t:=aEq (Z9 q).2.1;simp only[od,aP,bA]at q;omega
def aEs{r:c8}(h:fX r=true){n:Int}(E:2<=n/\n<=10000):fX (xR r n)=true/\(xR r n).aJ.length=r.aJ.length:=by
 have hl:=r5 h;have C:=EK h;simp only[fX,aP,bA]at h;unfold xR;split
 ·refine⟨?_,rfl⟩;simp only[fX,aP,bA];exact⟨h.1,by omega⟩
 ·refine⟨?_,fN _⟩;simp only[fX,aP,ck,BO,bA,fN,List.mem_map,forall_exists_index,and_imp,forall_apply_eq_imp_iff₂]
  refine⟨λd D=>?_,by omega,?_⟩
  ·have:=C d D;unfold sq;rw[aY (n:=d+1)];split<;>omega
  ·cases r.dX<;>simp<;>omega
def aEt{r:c8}(h:fX r=true){n:Int}(D:2<=n/\n<=10000):Lg r n=some (xR r n):=by
 have hl:=r5 h;have I:=EK h;have O:1<=r.wait/\r.wait<=10000:=by
  simp only[fX,aP,bA]at h;exact h.2.2
 have E:W6 (n.tdiv 2)=n / 2:=by rw[sr (by omega)];exact aY
 unfold Lg Bg xR bw xA xZ;rw[cF (by simp;omega),aq,kJ,ak,Nx _ (by omega),ak,h,bG,av,dy,ak,bA.2 D,bG,av];dsimp only;rw[aY (n:=r.wait-1)];by_cases C:r.wait-1 > 0
 ·rw[aW C,aq,bg C]
 ·rw[aZ C,av,bk C];have e:=cI (step:=Le) r.aJ.length (λi=>((n,(),(),(),(r.aJ.length:Int),(i:Int),()),((r.aJ,r.wait,r.dX,()),((),(0:Int),false,()),((),r.wait-1,r.dX,()),([]:aa Int),upto sq r.aJ i,()))) (.inl ((n,(),(),(),()),((r.aJ,r.wait,r.dX,()),((),(0:Int),false,()),((),r.wait-1,r.dX,()),([]:aa Int),r.aJ.map sq,()))) aV (λi hi=>by
   have hlen:=BM sq r.aJ i;unfold Le az xG xL;dsimp only;rw[aW,aq,aC ⟨by omega,by omega⟩,aC,aC ⟨by omega,by omega⟩,aC,bI];simp only[bD];rw[HB sq r.aJ i hi,<-HC sq r.aJ i hi];rfl) (by
   unfold Le az xG xL;dsimp only;rw[aZ,av,HA]) (bM)
  rw[cv,Tc]at e
  refine(bC (λo=>Option.bind o _) e).trans ?_
  rw[ak];simp only[dH];rw[E];cases r.dX<;>rfl
def aEu{c:ax}(h:fX c.aS=true){n:Int}(I:2<=n/\n<=10000):M0 c n=some ((),(uy c (xR c.aS n),())):=by
 have hl:=r5 h;have O:=EK h;have U:1<=c.aS.wait/\c.aS.wait<=10000:=by
  simp only[fX,aP,bA]at h;exact h.2.2
 have D:W6 (c.aS.wait-1)=c.aS.wait-1:=aY;have E:W6 (n.tdiv 2)=n / 2:=by rw[sr (by omega)];exact aY
 unfold M0 xR bw;by_cases C:c.aS.wait-1 > 0
 ·rw[D,aW C,aq,bg C];rfl
 ·rw[bk C];have e:=cI (step:=MZ) c.aS.aJ.length (λi=>(((),n,(i:Int),()),(uy c ⟨upto sq c.aS.aJ i,c.aS.wait-1,c.aS.dX⟩,()))) (.inl (((),n,()),(uy c ⟨c.aS.aJ.map sq,c.aS.wait-1,c.aS.dX⟩,()))) aV (λi hi=>by
   have hlen:=BM sq c.aS.aJ i;unfold MZ uy az xG xL;dsimp only;rw[aW,aq,aC ⟨by omega,by omega⟩,aC,aC ⟨by omega,by omega⟩,aC,bI];simp only[bD];rw[HB sq c.aS.aJ i hi,<-HC sq c.aS.aJ i hi];rfl) (by
   unfold MZ uy az xG xL;dsimp only;rw[HA,aZ (by rw[fN];omega),av]) (bM)
  rw[cv,Tc]at e;rw[D,aZ C,av]
  refine(bC (λo=>Option.bind o _) e).trans ?_
  rw[ak];simp only[dH,uy];rw[E];cases c.aS.dX<;>rfl
def Uf(a:cJ):cJ:=⟨a.cells,a.bu.map (lO 1),a.bq⟩
def aEv{g:aG}{a:cJ}(h:oP g a=true):oP g (Uf a)=true:=by
 have C:=fA.vU h
 refine Ie (aaE h).1 ⟨C.cells,C.syms,(bC (λn:Nat=>(n:Int)) (fN _)).trans C.bu,C.bq,λx D=>?_,C.iZ⟩
 obtain⟨y,E,rfl⟩:=List.mem_map.1 D;exact akN (C.Ej y E) (by decide)
def aEw{g:aG}{a:cJ}(h:oP g a=true):GG g a 1=some (Uf a):=aBP (aaE h).1 (fA.vU h) (by decide) (by decide) (by decide)
def aEx{c:ax}(h:oP c.config.au c.array=true):M3 c 1=some ((),(cP c (Uf c.array),())):=by
 have D:ct c.config.au=true:=(aaE h).1;have C:=fA.vU h;have hb:=pX c.config.au;have hl:=C.bu;have e:=cI (step:=M1) c.array.bu.length (λi=>(((),(1:Int),(i:Int),()),(cP c ⟨c.array.cells,upto (lO 1) c.array.bu i,c.array.bq⟩,()))) (.inl ((),(cP c ⟨c.array.cells,c.array.bu.map (lO 1),c.array.bq⟩,()))) aV (λi hi=>by
  have hlen:=BM (lO 1) c.array.bu i;have E:=C.Ej _ (cQ hi);unfold M1 cP az xG xL;dsimp only;rw[aW,aq,aC ⟨by omega,by omega⟩,aC,aC ⟨by omega,by omega⟩,aC,bI];simp only[bD];rw[HB (lO 1) c.array.bu i hi,aY (n:=c.array.bu[i]+1),<-HC (lO 1) c.array.bu i hi];rfl) (by
  unfold M1 cP az xG xL;dsimp only;rw[HA,aZ (by rw[fN];omega),av]) (bM)
 rw[cv,Tc]at e;unfold M3 bw;exact(bC (λo=>Option.bind o _) e).trans rfl
def aEy(q:aa aN)(w:Bool)(hl:q.length<1073741824):∃ n,GI q w=some n/\Md q w=some n:=by
 unfold GI Md bw;have e:=cI (step:=Li) q.length (λi=>((w,(((q.take i).countP λr=>r.write==w:Nat):Int),q,(q.length:Int),(i:Int),()),())) (.inl (((((q.take q.length).countP λr=>r.write==w:Nat):Int),()),())) aV (λk C=>by
  have D:=List.countP_le_length (p:=λr:aN=>r.write==w) (l:=q.take k);rw[jf]at D;unfold Li az xG xI;dsimp only;rw[aW,aq,aC ⟨by omega,by omega⟩,bI];simp only[bD];rw[nD C,List.countP_append,List.countP_singleton];cases q[k].write==w with
  |true=>rw[aq,bI];rfl
  |false=>rw[av,bI];rfl) (by
  unfold Li az xG xI;dsimp only;rw[aZ,av]) (bM)
 have E:=cI (step:=Mc) q.length (λi=>((q,w,(((q.take i).countP λr=>r.write==w:Nat):Int),(i:Int),()),())) (.inl (((((q.take q.length).countP λr=>r.write==w:Nat):Int),()),())) aV (λk C=>by
  have D:=List.countP_le_length (p:=λr:aN=>r.write==w) (l:=q.take k);rw[jf]at D;unfold Mc az xG xI;dsimp only;rw[aW,aq,aC ⟨by omega,by omega⟩,bI];simp only[bD];rw[nD C,List.countP_append,List.countP_singleton];cases q[k].write==w with
  |true=>rw[aq,bI];rfl
  |false=>rw[av,bI];rfl) (by
  unfold Mc az xG xI;dsimp only;rw[aZ,av]) (bM)
 rw[cv]at e E;exact⟨_,(bC (λo=>Option.bind o _) e).trans rfl,(bC (λo=>Option.bind o _) E).trans rfl⟩
def aEz{d:jy}(h:oS d=true)(n:Int):∃ y,GH d n=some y/\Mb d n=some y/\oS y=true:=by
 have hb:=h;simp only[oS,aP,fU]at hb;unfold GH Mb;rw[Tv,aaa,ak,ak,h,bG,av,av];by_cases C:n >= d.high
 ·rw[aW C,aZ (show ¬ n<=d.low by omega)];exact⟨_,rfl,rfl,h⟩
 ·rw[aZ C];cases decide (n<=d.low)<;>exact⟨_,rfl,rfl,h⟩
def aEA{s:lZ}{n:Int}(C:aQ s.every 1 100000=true)(E:aQ s.wait 1 s.every=true)(D:aQ s.next 0 (W6 (n-1))=true)(hn:1<=n/\n<=1000000):∃ y m,zn s n=some (y,m)/\DW s n=some (y,m)/\aQ y.every 1 100000=true/\aQ y.wait 1 y.every=true/\aQ y.next 0 (W6 (n-1))=true/\m<n:=by
 have U:=bA.1 C;have b2:=bA.1 E;have I:W6 (n-1)=n-1:=aY;have Y:=bA.1 D;rw[I]at Y;unfold zn DW;rw[dy,fm,ak,ak,C,bG,av,av,dy,fm,ak,ak,E,bG,av,av,aZ (show ¬ n<1 by omega),av,av,dy,ak,D,bG,av,aZ (show ¬ s.next<0 by omega),av,aZ (show ¬ s.next >= n by omega),av,aY (n:=s.wait-1)];by_cases O:s.wait-1 > 0
 ·rw[aW O,aq];exact⟨_,_,rfl,rfl,C,bA.2 ⟨by dsimp only;omega,by dsimp only;omega⟩,D,by omega⟩
 ·rw[aZ O,av,bk,aY (n:=s.next+1)];refine⟨_,_,rfl,rfl,C,bA.2 ⟨U.1,jw _⟩,?_,by omega⟩;rw[I,q8 (by omega)];have e1:=Int.emod_nonneg (s.next+1) (show n≠0 by omega);have e2:=Int.emod_lt_of_pos (s.next+1) (show 0<n by omega);exact bA.2 ⟨e1,by dsimp only;omega⟩
def abf{A T:Type}(f:Nat->A->T->ah A)(e:T):∀ (l:aa T) (k:Nat) (a:A),oe f k (l++[e]) a=(oe f k l a).bind λC=>f (k+l.length) C e
 | [],k,a=>by
  show (match f k a e with|some C=>some C|none=>none)=f k a e;cases f k a e<;>rfl
 | x :: l,k,a=>by
  show (match f k a x with|some C=>oe f (k+1) (l++[e]) C|none=>none)=(match f k a x with|some C=>oe f (k+1) l C|none=>none).bind λC=>f (k+(l.length+1)) C e
  cases f k a x with
  |none=>rfl
  | some C=>
   rw[show k+(l.length+1)=k+1+l.length by omega];exact abf f e l (k+1) C
def ank{A T:Type}{f f':Nat->A->T->ah A}:∀ (l:aa T) (k:Nat) (a:A),(∀ i (h:i<l.length) a,f (k+i) a l[i]=f' (k+i) a l[i])->oe f k l a=oe f' k l a
 |[],_,_,_=>rfl
 | x :: l,k,a,h=>by
  have D:f k a x=f' k a x:=h 0 (Nat.zero_lt_succ _) a;show (match f k a x with|some C=>oe f (k+1) l C|none=>none)=(match f' k a x with|some C=>oe f' (k+1) l C|none=>none)
  rw[D];cases f' k a x with
  |none=>rfl
  | some C=>
   exact ank l (k+1) C λi hi b=>by
    have:=h (i+1) (Nat.succ_lt_succ hi) b;rw[show k+(i+1)=k+1+i by omega]at this;exact this
def aEB{l:aa bW}{e x:bW}:∀ {k:Nat},k<=l.length->uo (l++[e]) k x=uo l k x
 |0,_=>rfl
 | k+1,h=>by
  simp only[uo];rw[List.getElem?_append_left (by omega)]
def anl(g:aG)(t:cg){l:aa bW}(e x:bW){k:Nat}(h:k<=l.length)(r:bX):fT g t (l++[e]) k r x=fT g t l k r x:=by
 unfold fT;rw[aEB h,List.take_append_of_le_length h]
def aEC(g:aG)(t:cg)(l:aa bW)(e:bW):runT g t (l++[e])=(runT g t l).bind λr=>fT g t l l.length r e:=by
 unfold runT;rw[abf,fB,ank (f':=fT g t l) l 0 (kV g) λi hi a=>anl g t e _ (by omega) a];congr 1;funext r;exact anl g t e e (dc _) r
structure xS (g:aG) (t:cg) (l:List bW) (r:bX) (q:c9):Prop where
 tkR:runT g t l=some r
 tkF:Ew g l=some r
 tkY:p9 g l=q
 tkV:∀e∈l,zO g e=true/\e.at_<=q.last.getD (fY g e.cmd).toNat (-1)
 tkA:q.aT=(dG l).drop ((dG l).length-4)
def xS.new(g:aG)(t:cg):xS g t [] (kV g) (tq g):=⟨rfl,rfl,rfl,λe h=>(by cases h),rfl⟩
def aED(g:aG)(t:cg){a b:aF}(c:aF)(C:a.kind=b.kind)(hb:a.kind<=5->a.ay=b.ay):jD g t a c=jD g t b c:=by
 have e:vJ a c=vJ b c:=by unfold vJ;rw[C]
 unfold jD Ep;rw[<-e,C];cases D:vJ a c with
 |false=>rfl
 | true=>
  simp only[vJ,aP,bA]at D;rw[hb D.1.2]
def aEE{g:aG}{c:aF}(h:cZ g c=true):(iz (fY g c).toNat).kind=c.kind/\((iz (fY g c).toNat).kind<=5->(iz (fY g c).toNat).ay=c.ay):=by
 obtain⟨_,D,hb,_⟩:=rX h;obtain⟨E,_⟩:=Et h;have e:((fY g c).toNat:Int)=fY g c:=Int.toNat_of_nonneg E;have I:fY g c % 9+1=c.kind:=by unfold fY;omega
 unfold iz;dsimp only;rw[e,I]
 refine⟨rfl,λC=>?_⟩
 have O:aQ c.kind 1 5=true:=bA.2 ⟨D.1,C⟩;rw[bg C];unfold fY;rw[O,aq];omega
def anm(g:aG)(t:cg)(l:aa Int)(c:aF):∀ (k:Nat),k<=l.length->∀ (i:Nat) (hi:i<l.length),i<k->0<=l[i]->l[i]+jD g t (iz i) c<=r3 g t l c k
 |0,_,_,_,h,_=>absurd h (Nat.not_lt_zero _)
 | k+1,E,i,hi,h,C=>by
  rw[NR,NS (by omega)];by_cases e:i=k
  ·subst e;rw[aZ,av];unfold rZ;split<;>omega
  ·have D:=anm g t l c k (by omega) i hi (by omega) C;cases decide (l[k]<0)with
   |true=>exact D
   | false=>
    rw[av];unfold rZ;split<;>omega
def aEF(g:aG)(t:cg)(r:c9)(c:aF):r3 g t r.last c r.last.length<=om g t r c:=by
 unfold om rZ;cases c.kind==1&&(r.aT.length:Int)==4 with
 |false=>exact jw _
 | true=>
  rw[aq];split<;>omega
def xS.gap{g:aG}{t:cg}{l:aa bW}{r:bX}{q:c9}(h:xS g t l r q)(E:kf g q=true){x:aF}{n:Int}(ha:om g t q x<=n):∀ e∈l,e.at_+jD g t e.cmd x<=n/\e.at_<n:=λe I=>by
 obtain⟨O,U⟩:=h.tkV e I;obtain⟨D,h0,_⟩:=aau O;obtain⟨p0,p1⟩:=Et D;have hl:=(Eu E).2.1;have C:(fY g e.cmd).toNat<q.last.length:=by omega
 rw[cV,bT C,Option.getD_some]at U;have Y:=anm g t q.last x q.last.length (dc _) _ C C (by omega);have h4:=aEF g t q x;obtain⟨k1,k2⟩:=aEE D;rw[aED g t x k1 k2]at Y;have h5:=aBj g t e.cmd x;omega
def ann(l:aa bW)(e:bW):dG (l++[e])=bif e.cmd.kind==1 then dG l++[e.at_]else dG l:=by
 unfold dG;rw[List.filter_append,List.map_append];cases h:e.cmd.kind==1<;>simp[List.filter_cons,h]
def aEG{l:aa bW}{y:Int}(h:y∈dG l):∃ e∈l,e.at_=y:=by
 obtain⟨e,C,rfl⟩:=List.mem_map.1 h;exact⟨e,(List.mem_filter.1 C).1,rfl⟩
def vZ{T:Type}{l:aa T}{i:Nat}{x:T}(d:T)(h:i<l.length):(l.set i x).getD i d=x:=by
 rw[cV,List.getElem?_set_self h];rfl
def getD_set_ne{T:Type}{l:aa T}{i j:Nat}{x:T}(d:T)(h:i≠j):(l.set i x).getD j d=l.getD j d:=by
 rw[cV,List.getElem?_set_ne h,<-cV]
def xS.add{g:aG}{t:cg}{l:aa bW}{r:bX}{q:c9}(h:xS g t l r q)(hr:mj g r=true)(I:kf g q=true){x:aF}{n:Int}(C:cZ g x=true)(U:jr r x=true)(ha:om g t q x<=n)(hn:0<=n/\n<=1000000):xS g t (l++[⟨n,x⟩]) (ff r x) (kH g q ⟨n,x⟩):=by
 have E:=h.gap I ha;have hl:=(Eu I).2.1;obtain⟨p0,p1⟩:=Et C;have hi:aQ n 0 1000000=true:=bA.2 hn;have D:=h.tkA;have h1:uo l l.length ⟨n,x⟩=true:=by
  cases e:l.length with
  |zero=>rfl
  | succ k=>
   simp only[uo];rw[bT (by omega)];exact aW (E _ (cQ (by omega))).2
 have h2:vN g t l ⟨n,x⟩=false:=by
  unfold vN
  refine mz.2 λe he=>?_
  have:=(E e he).1;rw[fU];dsimp only;omega
 have h3:(x.kind==1&&BU t (dG l) n)=false:=by
  cases Y:x.kind==1 with
  |false=>rfl
  | true=>
   rw[cC];unfold BU;by_cases O:4<=(dG l).length
   ·have e4:q.aT.length=4:=by rw[D,List.length_drop];omega
    have e0:q.aT.getD 0 0=(dG l).getD ((dG l).length-4) 0:=by
     rw[D,cV,List.getElem?_drop,Nat.add_zero,<-cV]
    have e5:q.aT.getD 0 0+t.jJ<=om g t q x:=by
     unfold om rZ;rw[Y,e4,show ((4:Nat):Int)==4 from rfl,Bool.and_self,aq];split<;>omega
    rw[<-e0,aZ (show ¬ n-q.aT.getD 0 0<t.jJ by omega),Bool.and_false]
   ·rw[aZ O,Bool.false_and]
 have O:(x.kind==1&&vM q n)=false:=by
  cases Y:x.kind==1 with
  |false=>rfl
  | true=>
   rw[cC];unfold vM;cases hL:q.aT.getLast? with
   |none=>rfl
   | some y=>
    have hy:y∈q.aT:=List.mem_of_getLast? hL;rw[D]at hy;obtain⟨e,he,rfl⟩:=aEG (List.mem_of_mem_drop hy);exact aZ (by have:=(E e he).2;omega)
 have h5:kH g q ⟨n,x⟩=⟨q.last.set (fY g x).toNat n,bif x.kind==1 then zN q.aT n else q.aT⟩:=by
  unfold kH;dsimp only;rw[I,C,hi,O];rfl
 refine⟨?_,?_,?_,?_,?_⟩
 ·rw[aEC,h.tkR,Option.bind_some];unfold fT;dsimp only;rw[C,hi,h1,U,iR,h2,h3];rfl
 ·have e:=h.tkF;unfold Ew at e ⊢;rw[abf,e,Option.bind_some];unfold fE kU;dsimp only;rw[hr,C,U];rfl
 ·have e:=h.tkY;unfold p9 at e ⊢;rw[List.foldl_append,e];rfl
 ·rw[h5];dsimp only;intro e he;rcases List.mem_append.1 he with he | he
  ·obtain⟨e1,e2⟩:=h.tkV e he;refine⟨e1,?_⟩;by_cases ep:(fY g x).toNat=(fY g e.cmd).toNat
   ·rw[<-ep,vZ _ (by omega)];have:=(E e he).2;omega
   ·rw[getD_set_ne _ ep];exact e2
  ·obtain rfl:=jH.1 he;dsimp only;rw[vZ _ (by omega)];refine⟨?_,jw _⟩;unfold zO;rw[C,hi];rfl
 ·rw[h5,ann];dsimp only;cases x.kind==1 with
  |false=>exact D
  | true=>
   rw[aq,aq];unfold zN;rw[D,oy,mV,List.length_drop];by_cases hs:(dG l).length<=3
   ·rw[show (dG l).length-4=0 by omega,List.drop_zero];rfl
   ·rw[<-List.drop_append_of_le_length (l₂:=[n]) (show (dG l).length-4<=(dG l).length by omega),List.drop_drop];congr 1;omega
def ano(l:aa Int):Ex l l=true:=by
 unfold Ex;rw[iS,cC,ck];intro p C;obtain⟨i,hi,rfl⟩:=jI.1 C;rw[List.getElem_zip];exact iS _
def aEH(l:aa di):(l.zip l).all ED=true:=by
 rw[ck];intro p C;obtain⟨i,hi,rfl⟩:=jI.1 C;rw[List.getElem_zip];unfold ED;rw[iS,iS];rfl
def Ig(c:ax):Prop:=xS c.config.au c.config.bY c.trace c.aO c.ready
def Ig.saf{c:ax}(h:Ig c):TQ c=true:=by
 unfold TQ;rw[h.tkR,h.tkF,h.tkY];dsimp only;rw[iS,aEH,ano,ano];rfl
def Ug(R:Nat)(M:Int)(m:aa Int)(b j:Nat):Prop:=m.getD (b*R+j) 0=(j:Int)\/((R:Int)<=m.getD (b*R+j) 0/\m.getD (b*R+j) 0<=M/\∀k,k<j->m.getD (b*R+k) 0≠m.getD (b*R+j) 0)
def Ih{m:aa Int}{R b k:Nat}(C:k<R)(hl:(b+1)*R <= m.length):(gj m R b)[k]?=some (m.getD (b*R+k) 0):=by
 rw[jV]at hl;rw[HI,List.getElem?_take_of_lt C,List.getElem?_drop,bT (by omega),gu]
def anp{R:Nat}{M:Int}{m:aa Int}{b j:Nat}(D:j<R)(hl:(b+1)*R <= m.length):xD (R:Int) M (gj m R b) j=true ↔ Ug R M m b j:=by
 unfold xD Ug;rw[Ih D hl];simp only[eN,aP,eZ,bA,ij,mz];have key:(∀ x∈(gj m R b).take j,¬ x=m.getD (b*R+j) 0) ↔ ∀ k,k<j -> m.getD (b*R+k) 0≠m.getD (b*R+j) 0:=by
  constructor
  ·intro h k C;refine h _ ?_;rw[List.mem_iff_getElem?];exact⟨k,by rw[List.getElem?_take_of_lt C,Ih (by omega) hl]⟩
  ·intro h x E;have⟨k,C⟩:=List.mem_iff_getElem?.1 E;have I:k<j:=by
    grind
   rw[List.getElem?_take_of_lt I,Ih (by omega) hl]at C
   grind
 rw[key,and_assoc]
structure Sp (g:aG) (s:dw) (bn R:Nat):Prop where
 sb:kF g s.bL=true
 hb:aU g=(bn:Int)
 hR:g.rows-s.bL=(R:Int)
 hl:s.map.length=bn*R
 f:∀b,b<bn->∀j,j<R->Ug R (g.rows-1) s.map b j
def Sp.of{g:aG}{s:dw}(h:lP g s=true):∃ C R,Sp g s C R:=by
 have⟨_,hg,_,_,E,h2,h3,h4⟩:=EI h;have El:=eM g;simp only[lP,aP,eZ,ck,ga]at h;have⟨hs,hl,O⟩:=h;have⟨R,hR⟩:=dV (show 0 <= g.rows-s.bL by omega);have⟨C,I⟩:=dV El.1;rw[hR,I,bD,bD]at hl;have hl:s.map.length=C*R:=by exact_mod_cast hl
 rw[hR,I,bD,bD]at O
 refine⟨C,R,hs,I,hR,hl,λb hb j D=>?_⟩
 have U:(b+1)*R <= s.map.length:=by rw[hl];exact jd R hb
 have Y:=HJ U;have e:=aak (R:Int) (g.rows-1) (gj s.map R b) (by rw[Y]);rw[Y]at e;have E:=ck.2 λj D=>O b hb j (ga.1 D)
 rw[e]at E;exact(anp D U).1 (ck.1 E j (ga.2 D))
def Sp.ok{g:aG}{s:dw}{I R:Nat}(h:Sp g s I R):lP g s=true:=by
 have⟨O,U,hR,hl,Y⟩:=h;simp only[lP,aP,eZ,ck,ga];rw[hR,U,bD,bD]
 refine⟨O,by exact_mod_cast hl,λb hb=>?_⟩
 have C:(b+1)*R <= s.map.length:=by rw[hl];exact jd R hb
 have D:=HJ C;have e:=aak (R:Int) (g.rows-1) _ (by rw[D]);rw[D]at e;have h1:=ck.2 λj E=>(anp (ga.1 E) C).2 (Y b hb j (ga.1 E))
 simp_all
def anq{R b c r j:Nat}(C:r<R)(E:j<R)(h:b*R+r=c*R+j):b=c/\r=j:=by
 have key:∀ {b c r j:Nat},r<R -> b*R+r=c*R+j -> ¬ b<c:=λ{b c r j} C h D=>by
  have:=jd R (show b+1 <= c from D)
  grind
 grind
def Uh{m:aa Int}{p:Nat}(C:p<m.length)(i:Int)(q:Nat):(m.set p i).getD q 0=if q=p then i else m.getD q 0:=by grind
def Sp.set{g:aG}{s:dw}{D R:Nat}(h:Sp g s D R){b r:Nat}(hb:b<D)(O:r<R){i:Int}(h1:(R:Int) <= i)(h2:i <= g.rows-1)(hn:∀ k,k<R -> s.map.getD (b*R+k) 0≠i):Sp g ⟨s.bL,s.map.set (b*R+r) i⟩ D R:=by
 have C:b*R+r<s.map.length:=by
  have:=BP hb (show r+1 <= R from O);rw[h.hl];omega
 refine⟨h.sb,h.hb,h.hR,by rw[ki];exact h.hl,λc hc j U=>?_⟩
 have E:=h.f c hc j U;unfold Ug at E ⊢;dsimp only;by_cases e:c=b
 ·subst e;by_cases ej:j=r
  ·subst ej;refine .inr ?_;rw[Uh C,bg rfl]
   refine⟨h1,h2,λk I=>?_⟩
   rw[Uh C,bk]
   grind
  ·grind
 ·have Y:∀ k,k<R -> ¬ c*R+k=b*R+r:=λk I he=>e (anq I O he).1
  rw[Uh C,bk (Y j U)];rcases E with E|⟨o1,o2,o3⟩
  ·grind
  ·refine .inr ⟨o1,o2,λk I=>?_⟩
   rw[Uh C,bk (Y k (by omega))];simp_all
def Sp.xT{g:aG}{s:dw}{C R:Nat}(h:Sp g s C R):ct g=true/\ct (cX g s)=true/\cX g s=⟨g.bK,g.aA,(R:Int),g.aK⟩/\aU (cX g s)=(C:Int)/\C <= 8/\R <= 16/\2 <= R/\1 <= g.aK/\g.rows <= 16/\0 <= s.bL:=by
 have⟨e,D,E,I,O,U,Y,h4⟩:=EI h.ok;have El:=eM g;have gb:=fJ D;have:=h.hb;have hR:=h.hR
 grind
def Sp.bound{g:aG}{s:dw}{C R:Nat}(h:Sp g s C R){b r:Nat}(hb:b<C)(D:r<R):0<=s.map.getD (b*R+r) 0/\s.map.getD (b*R+r) 0<g.rows:=by
 have hR:=h.hR;have E:=h.xT.2.2.2.2.2.2.2.2.2;rcases h.f b hb r D with e|⟨I,O,_⟩
 ·omega
 ·omega
def abg(g:aG)(b r:Int):Bo g b r=some (dO g ⟨b,r,0⟩):=by
 unfold Bo;rw[Te,ak]
def Sp.ex{g:aG}{s:dw}{C R:Nat}(h:Sp g s C R)(b r:Int):dO (cX g s) ⟨b,r,0⟩=true ↔ (0 <= b/\b<(C:Int))/\0 <= r/\r<(R:Int):=by
 have⟨_,O,e,U,_,_,_,hc,_⟩:=h.xT;have er:(cX g s).rows=R:=by rw[e]
 have Y:(cX g s).aK=g.aK:=by rw[e]
 constructor
 ·intro ha;have⟨_,D,E,I,a4,_⟩:=rV ha;simp_all
 ·rintro⟨⟨D,E⟩,I,a4⟩;exact xw O D (by rw[U];exact E) I (by rw[er];exact a4) (jw 0) (by rw[Y];show (0:Int)<_;omega)
def Sp.lens{g:aG}{s:dw}{D R:Nat}(h:Sp g s D R){b:Nat}(hb:b<D):(b+1)*R <= s.map.length/\s.map.length <= 128/\(gj s.map R b).length=R/\Nat.ble (b*R) ((b+1)*R)=true/\Nat.ble ((b+1)*R) s.map.length=true:=by
 have hl:=h.hl;have E:=h.xT.2.2.2.2.1;have I:=h.xT.2.2.2.2.2.1;have C:(b+1)*R <= s.map.length:=by rw[hl];exact jd R hb
 have O:=Nat.mul_le_mul E I;exact⟨C,by omega,HJ C,mT (by rw[jV];omega),mT C⟩
def aEI{g:aG}{s:dw}{C R:Nat}(h:Sp g s C R){b:Nat}(hb:b<C)(x:Int):R8 g s (b:Int) x=some (gR (λe=>e==x) (gj s.map R b)):=by
 obtain⟨Y,abh,iM,n1,n2⟩:=h.lens hb;obtain⟨hg,oF,eg,eb,D,E,mF,hc,HK,_⟩:=h.xT;have I:((s.map.take ((b+1)*R)).drop (b*R))=gj s.map R b:=rfl;unfold R8 bU;obtain⟨w1,O,U⟩:=TB h.hR E D hb h.hl;rw[Eo,ak,abg,ak,(h.ex (b:Int) 0).2 ⟨⟨by omega,by omega⟩,by omega,by omega⟩,bG,av,w1,O,bg U];simp only[bD,I];have e:=ta (step:=L1) (gj s.map R b) (λe=>e==x) (λi=>((x,gj s.map R b,((gj s.map R b).length:Int),(i:Int),()),())) (λi=>.inl (((i:Int),()),())) (.inr (.inl ((),()))) aV (λk hk=>by
  unfold L1 az bx xG xI;dsimp only;rw[aW,aq,aC ⟨by omega,by omega⟩];simp only[bD];rw[bI];cases (gj s.map R b)[k]==x<;>rfl) (by
  unfold L1 az bx xG xI;dsimp only;rw[aZ,av]) (bM)
 rw[cv]at e;rw[e];unfold gR;cases (gj s.map R b).findIdx? (λe=>e==x)<;>rfl
def ER:cq:=⟨List.replicate 16 (-1),List.replicate 16 0,0⟩
def aEJ:Gm 16=some (ER,true):=by kernel_rfl
def anr:Bd 0=some (List.replicate 11 0):=by kernel_rfl
def ES:bQ:=⟨List.replicate 11 0,false⟩
def ET(g:aG):cJ:=⟨List.replicate (dU g).toNat ES,List.replicate (gn g).toNat 0,List.replicate (gn g).toNat 0⟩
def aEK{g:aG}(D:ct g=true):Q3 g=some (ET g):=by
 have E:=mN g;have O:=pX g;have er:aU g*g.rows=gn g:=by simp[gn,D]
 obtain⟨n,C⟩:=dV E.1;unfold Q3 bw;rw[rU,ak,D,bG,av,lM,ak,er,aY (n:=gn g),bg ⟨by omega,by omega,by omega⟩,bg ⟨by omega,by omega,by omega⟩];generalize I:List.replicate (gn g).toNat (0:Int)=A;have e:=cI (step:=KM) n (λi=>(((),(),(),(i:Int),()),((g.bK,g.aA,g.rows,g.aK,()),((),(),(),()),((),(),(),()),([]:aa bQ),([]:aa Int),([]:aa Int),List.replicate i ES,A,A,())))
  (.inl (((),(),()),(((),(),(),()),((),(),(),()),([]:aa bQ),([]:aa Int),([]:aa Int),List.replicate n ES,A,A,()))) aV (λk h=>by
  unfold KM az xG;dsimp only;rw[kE,Ee,ak,C,aW,aq,anr,ak,cF (by simp;omega),aq,bI,List.replicate_succ' (n:=k)];rfl) (by
  unfold KM az xG;dsimp only;rw[kE,Ee,ak,C,aZ,av]) (bM)
 rw[cv,List.replicate_zero]at e;rw[e,ak];unfold ET;rw[C,I,bD];rfl
def gS(c:dP)(p:dz):ax:=⟨c,⟨p,p,false⟩,0,kV c.au,tq c.au,ET c.au,(uk c.au c.bL).1,⟨List.replicate (aU c.au).toNat 0,c.interval,false⟩,List.replicate (aU c.au).toNat ER,List.replicate (aU c.au).toNat p.eC,[],[],p.weights.map kS,⟨false,p.low,p.high⟩,⟨0,0,0⟩,⟨0,10,10⟩,[],[],[]⟩
def zU{p:dz}(h:tu p):vF p=true/\jq (p.weights.map kS)=true/\p.weights.length=4:=by
 have⟨⟨⟨D,E⟩,⟨I,O⟩,⟨U,Y⟩,⟨h7,h8⟩,⟨i,w,hi,HU,HV,hw⟩,⟨h9,BR⟩,uf,rT⟩,qW,vL⟩:=h;have hl:p.weights.length=4:=by rw[hw,ki];rfl
 have C:jq (p.weights.map kS)=true:=by
  rw[hw];rcases(by omega:i=0 \/ i=1 \/ i=2 \/ i=3)with rfl|rfl|rfl|rfl<;>rcases(by omega:w=1 \/ w=2 \/ w=3 \/ w=4)with rfl|rfl|rfl|rfl<;>rfl
 refine⟨?_,C,hl⟩;unfold vF oS zK;rw[C,hl];simp only[aQ,aP,fU]
 grind
def aEL{n:Int}(C:8<=n)(D:n<=17):Ba n=some (2*n+2):=by
 unfold Ba;rw[dy,ak,bA.2 ⟨by omega,by omega⟩,bG,av,aY (n:=2*n),aY]
def Ii{g:aG}(h:TK g):ct g=true:=by
 have⟨⟨C,D⟩,⟨E,I⟩,⟨O,U⟩,Y,h8⟩:=h;simp[ct,aQ,aP,fU];omega
def aEM:∀ r∈[(1:Int),2,3,4],∀ w∈[(4:Int),5,6,7,8],iy (xJ r w)=true/\decide (BN (xJ r w) <= 200)=true:=by
 intro r C w D;simp at C D;rcases C with rfl|rfl|rfl|rfl<;>rcases D with rfl|rfl|rfl|rfl|rfl<;>exact⟨by kernel_rfl,by kernel_rfl⟩
def aEN{c:dP}(h:lR c):od c=true:=by
 have⟨C,⟨r,w,U,Y,HU,HV,E⟩,⟨JH,wO⟩,⟨Vn,hs2⟩,⟨hi1,hi2⟩,I,hl⟩:=h;have O:=Ii C;have⟨t1,D⟩:=aEM r (by simp;omega) w (by simp;omega);have D:=of_decide_eq_true D;have⟨⟨h1,h2⟩,⟨h3,h4⟩,⟨h5,h6⟩,h7,h8⟩:=C;unfold od kF;rw[O,E,t1,hl,I];rw[aY];simp only[aQ,aP,fU,true_and];omega
def abi{c:dP}{p:dz}(C:lR c)(D:tu p):rP c p=some true:=by
 have I:=aEN C;have⟨O,_,h3⟩:=zU D;have⟨hg,⟨r,w,hr1,iL,HU,HV,E⟩,⟨JH,wO⟩,⟨Vn,hs2⟩,⟨hi1,hi2⟩,U,hl⟩:=C;have⟨_,Y,p2⟩:=D;have e1:c.bY.iC=7:=by rw[E];rfl
 have e2:c.bY.rp=3:=by rw[E];rfl
 unfold rP;rw[Tu,ak,I,aq,Nw _ (by omega),ak,O,aq,aEL Y p2,ak,hl,U,e1,e2,aY (n:=2*p.eC+2+2)];dsimp only;rw[aW,aq,aY (n:=7+3),bk,aY (n:=5*c.interval),sr (by omega),aY (n:=16+1),aY (n:=(16+1)*p.eC),aY (n:=5*c.interval / (7+3)),aY,aW]
def aEO{p:dz}(h:p.weights.length=4):xb p=some p:=by
 unfold xb xA xZ;rw[cF (by simp[h]),aq,kJ]
def aEP{p:dz}(C:tu p):Q5 p=some (⟨p,p,false⟩,true):=by
 obtain⟨D,_,E⟩:=zU C;unfold Q5;rw[Nw _ (by omega),ak,D,bG,av,aEO E,ak,ak]
def grow(x:ax)(l:Int)(i:Nat):ax:=⟨x.config,x.box,x.now,x.aO,x.ready,x.array,x.spare,x.aS,x.bH++List.replicate i ER,x.guard++List.replicate i l,x.pending,x.queue,x.shares,x.drain,x.aR,x.cY,x.errors,x.trace,x.bP⟩
def aEQ(Z C:ax)(c:dP)(p:dz)(n:Nat)(D:aU c.au=(n:Int))(Y:n<=8)(E:c.gO=16)(I:C.bH=[])(O:C.guard=[]):
  iter Gn aV (((),(),(),(),(),(0:Int),()),(Z,C,c,(p.eG,p.cap,p.eC,p.low,p.high,p.weights,p.de.down,p.de.sleep,()),(c.au.bK,c.au.aA,c.au.rows,c.au.aK,()),()))=some (.inl (((),(),()),(Z,grow C p.eC n,()))):=by
 have e:=cI (step:=Gn) n (λi=>(((),(),(),(),(),(i:Int),()),(Z,grow C p.eC i,c,(p.eG,p.cap,p.eC,p.low,p.high,p.weights,p.de.down,p.de.sleep,()),(c.au.bK,c.au.aA,c.au.rows,c.au.aK,()),()))) (.inl (((),(),()),(Z,grow C p.eC n,()))) aV (λk h=>by
  unfold Gn grow az xG;dsimp only;rw[kE,lM,ak,D,aW,aq,E,aEJ,ak,I,O,cF (by simp;omega),aq,cF (by simp;omega),aq,bI,List.replicate_succ' (n:=k),List.replicate_succ' (n:=k),List.append_assoc,List.append_assoc]) (by
  unfold Gn az xG;dsimp only;rw[kE,lM,ak,D,aZ,av]) (bM)
 have U:grow C p.eC 0=C:=by
  unfold grow;simp only[List.replicate_zero,List.append_nil]
 rw[cv,U]at e;exact e
def aER{c:dP}{p:dz}(C:lR c)(D:tu p):Q7 c p=some (gS c p,true):=by
 have E:=Ii C.1;have hb:=eM c.au;have PI:=Ed E;obtain⟨h2,O,h3⟩:=zU D;obtain⟨n,I⟩:=dV hb.1;have U:c.gO=16:=C.2.2.2.2.2.1;have Ui:200<=c.interval/\c.interval<=259:=C.2.2.2.2.1;have Y:Q6 (aU c.au) c.interval=some (⟨List.replicate (aU c.au).toNat 0,c.interval,false⟩,true):=by
  unfold Q6;rw[dy,ak,bA.2 ⟨by omega,by omega⟩,bG,av,dy,ak,bA.2 ⟨by omega,by omega⟩,bG,av,bg ⟨by omega,by omega,by omega⟩]
 have hsc:YO 10=some (⟨0,10,10⟩,true):=rfl;have hsn:xB p.weights=(p.weights.map kS,true):=by unfold xB;rw[O,aq]
 unfold Q7 bw;rw[abi C D,ak,bG,av,aao,ak,alz E,ak,aEK E,ak,aEP D,ak,Z6,ak,lM,ak,Y,ak,akR _ (by omega),ak,hsc,ak,hsn];dsimp only;rw[aEQ _ _ c p n I (by omega) U rfl rfl,ak];unfold gS grow;rw[I];rfl
def abj(g:aG)(sp:Int):aG:=⟨g.bK,g.aA,g.rows-sp,g.aK⟩
def Uj(g:aG)(sp:Int):Bool:=mj g (kV g)&&(kf g (tq g)&&(oP g (ET g)&&(lP g (uk g sp).1&&((uk g sp).1.bL==sp&&(ct (abj g sp)&&(decide (0<dU (abj g sp))&&(W6 (W6 ((dU g).tdiv g.rows)*W6 (g.rows-sp))==dU (abj g sp)&&(decide (1<=dU g)&&decide ((uk g sp).1.map.length<=1048576)))))))))
def aES:(([1,2]:aa Int).all λG=>([1,2]:aa Int).all λB=>([4,5,6]:aa Int).all λR=>([1,2]:aa Int).all λC=>([0,1,2]:aa Int).all λsp=>Uj ⟨G,B,R,C⟩ sp)=true:=by kernel_rfl
def ans{g:aG}{sp:Int}(h:TK g)(C:0 <= sp)(D:sp <= 2):Uj g sp=true:=by
 have⟨⟨E,I⟩,⟨O,U⟩,⟨Y,c2⟩,d1,d2⟩:=h;have e:=aES;simp only[ck]at e;exact e _ (by simp;omega) _ (by simp;omega) _ (by simp;omega) _ (by simp;omega) sp (by simp;omega)
def aET:kT ER=true:=by kernel_rfl
def ant{c:dP}{p:dz}(C:lR c)(I:tu p):dJ (gS c p):=by
 have hb:=eM c.au;have hl:=mN c.au;have O:=pX c.au;have⟨_,_,U⟩:=zU I;have E:=ans C.1 C.2.2.2.1.1 C.2.2.2.1.2;simp only[Uj,aP,fU]at E
 refine⟨⟨?_,?_⟩,?_,⟨?_,?_⟩,⟨⟨?_,λy D=>?_⟩,?_,?_⟩,E.2.2.2.2.2.2.2.2.2,?_,⟨?_,λy D=>?_⟩,?_,?_,?_,?_,?_,?_,?_⟩
 ·show p.weights.length <= _;omega
 ·show p.weights.length <= _;omega
 ·show (List.replicate _ _).length <= _;rw[lV];omega
 ·show (List.replicate _ _).length <= _;rw[lV];omega
 ·exact jG _
 ·show (List.replicate _ _).length <= _;rw[lV];omega
 ·obtain rfl:=List.eq_of_mem_replicate D;exact dj rfl
 ·show (List.replicate _ _).length <= _;rw[lV];omega
 ·show (List.replicate _ _).length <= _;rw[lV];omega
 ·show (List.replicate _ _).length <= _;rw[lV];omega
 ·show (List.replicate _ _).length <= _;rw[lV];omega
 ·obtain rfl:=List.eq_of_mem_replicate D;exact⟨dj rfl,dj rfl⟩
 ·show (List.replicate _ _).length <= _;rw[lV];omega
 ·exact jG _
 ·exact jG _
 ·show (p.weights.map kS).length <= _;rw[fN];omega
 ·exact jG _
 ·exact jG _
 ·exact jG _
def anu{c:dP}{p:dz}(C:lR c)(D:tu p):dK (gS c p)=true:=by
 have hb:=eM c.au;have PI:=Ed (Ii C.1);have hl:=mN c.au;obtain⟨_,O,U⟩:=zU D;have E:=ans C.1 C.2.2.2.1.1 C.2.2.2.1.2;simp only[Uj,aP,fU]at E;obtain⟨Y,g2,g3,g4,g5,g6,g7,g8,g9,g10⟩:=E;have I:rY c p=true:=by unfold rY;rw[abi C D];rfl
 have Ui:200<=c.interval/\c.interval<=259:=C.2.2.2.2.1;obtain⟨⟨_,_,⟨l1,l2⟩,⟨l3,l4⟩,_⟩,p1,p2⟩:=D;have e1:fX (gS c p).aS=true:=by
  unfold fX;simp only[gS,lV,aQ,aP,fU,List.all_replicate];refine⟨?_,by omega,aW,aW⟩;split<;>rfl
 have e2:um (gS c p)=true:=by
  unfold um;simp only[gS,lV,aP,eZ,List.length_nil,List.range_zero,List.all_nil];refine⟨by omega,by omega,by omega,rfl,?_,trivial⟩;rw[ck];intro i hi;have hi:i<(aU c.au).toNat:=ga.1 hi;unfold partAt;simp only[List.getElem?_replicate,hi,if_true,aET,cC];exact bA.2 ⟨by omega,by omega⟩
 have e3:oS (gS c p).drain=true:=by
  unfold oS;simp only[gS,aP];exact⟨aW l1,aW l3,aW⟩
 have e4:aQ 0 0 (W6 (dU c.au-1))=true:=by
  rw[aY];exact bA.2 ⟨by omega,by omega⟩
 have e5:((p.weights.map kS).length:Int)==4:=by rw[fN,U];rfl
 unfold dK;simp only[aP];exact⟨I,I,rfl,Y,g2,g3,g4,g5,⟨e1,e2⟩,rfl,O,e5,e3,rfl,rfl,rfl,rfl,rfl,e4,rfl,rfl,rfl⟩
def anv{c:ax}(C:dK c=true)(r:aN):dK (nJ c r).1=true/\((nJ c r).2=false -> (nJ c r).1=c):=by
 have h:=Ck.of C;have p:=ja.of h.pa;unfold nJ;cases hb:((!dK c) ||((!(mq c r).2) ||(c.bP.any λx=>x.id==r.id)))with
 |true=>simp_all
 | false=>
  refine⟨?_,λh=>by cases h⟩
  rw[av];simp only[o5,Bool.not_eq_false']at hb;have D:gW (dU (cX c.config.au c.spare)) (mq c r).1=true:=by
   have E:=hb.2.1;unfold mq zP at E ⊢
   grind
  exact Ck.ok ⟨h.f1,h.f2,h.nw,h.rk,h.rd,h.ar,h.sp,h.se,h.rf,(show ja { c with queue:=(mq c r).1 } from ⟨p.dl,p.tl,p.gl,p.t,p.g,p.pd,p.u⟩).ok,D,h.sh,h.sl,h.dr,h.pw,h.ps,h.si,h.s1,h.s2,h.s3,h.er,h.tr,h.rp⟩
def aEU{b:aa Int}{c:bO}(E:lN b c):Dr b (QC c) λ_=>True:=by
 unfold QC;rw[E.eq]
 refine(fS E 4).bind λx U Y D=>?_
 rw[D.eta];cases hb:(x==0)with
 | true=>
  refine(Tn D _ (by decide)).bind λy I _ C=>?_
  rw[C.eta];exact Dr.pure C trivial
 | false=>
  cases nT:(x==1)with
  | true=>
   refine(fS D 200).bind λy I _ C=>?_
   rw[C.eta];exact Dr.pure C trivial
  | false=>
   refine(fS D 65536).bind λy I _ C=>?_
   rw[C.eta]
   refine(fS C 65536).bind λy c3 _ O=>?_
   rw[O.eta];exact Dr.pure O trivial
def aEV{b:aa Int}{c:bO}(D:lN b c)(n:Int):Dr b (QD c n) λ_=>True:=by
 unfold QD;rw[D.eq]
 refine(fS D 60).bind λx1 k1 h1 E=>?_
 dsimp only;rw[E.eta]
 refine(fS E 3).bind λx2 k2 h2 I=>?_
 dsimp only;rw[I.eta]
 refine(fS I n).bind λx3 k3 h3 O=>?_
 dsimp only;rw[O.eta]
 refine(fS O 50).bind λx4 k4 h4 U=>?_
 dsimp only;rw[U.eta]
 refine(To U 2).bind λx5 k5 h5 C=>?_
 dsimp only;rw[C.eta];cases x5 with
 | true=>
  refine(aEU C).bind λx6 k6 h6 Y=>?_
  rw[Y.eta];exact Dr.pure Y trivial
 |false=>exact Dr.pure C trivial
def abk{g:aG}{s:dw}{D R:Nat}(h:Sp g s D R)(b r:Int):M4 g s b r=some (bif dO (cX g s) ⟨b,r,0⟩then b*(R:Int)+r else -1):=by
 obtain⟨hg,oF,eg,eb,h8,nt,mF,hc,HK,OY⟩:=h.xT;have hR:W6 (g.rows-s.bL)=(R:Int):=by rw[h.hR];exact aY
 unfold M4;rw[ak8,ak,h.ok,bG,av,pW,ak,h.hb,hR,aY (n:=(D:Int)-1),aY (n:=(R:Int)-1),fm,ak];by_cases E:0<=b/\b<(D:Int)
 ·rw[bA.2 ⟨E.1,by omega⟩,bG,av,fm,ak];by_cases O:0<=r/\r<(R:Int)
  ·have I:=(h.ex b r).2 ⟨E,O⟩;obtain⟨b,rfl⟩:=dV E.1;have Y:=(h.lens (b:=b) (by omega)).1;have abh:=(h.lens (b:=b) (by omega)).2.1;rw[jV]at Y;have hw:W6 ((b:Int)*(R:Int))=((b*R:Nat):Int):=by rw[<-Int.natCast_mul];exact aY
   rw[bA.2 ⟨O.1,by omega⟩,bG,av,I,aq,hw,aY,Int.natCast_mul]
  ·have I:dO (cX g s) ⟨b,r,0⟩=false:=by
    cases C:dO (cX g s) ⟨b,r,0⟩with
    |false=>rfl
    |true=>exact absurd ((h.ex b r).1 C).2 O
   have U:aQ r 0 ((R:Int)-1)=false:=by
    cases C:aQ r 0 ((R:Int)-1)with
    |false=>rfl
    |true=>have:=bA.1 C;exact absurd ⟨this.1,by omega⟩ O
   rw[U,I];rfl
 ·have I:dO (cX g s) ⟨b,r,0⟩=false:=by
   cases C:dO (cX g s) ⟨b,r,0⟩with
   |false=>rfl
   |true=>exact absurd ((h.ex b r).1 C).1 E
  have U:aQ b 0 ((D:Int)-1)=false:=by
   cases C:aQ b 0 ((D:Int)-1)with
   |false=>rfl
   |true=>have:=bA.1 C;exact absurd ⟨this.1,by omega⟩ E
  rw[U,I];rfl
def Uk{g:aG}{s:dw}{C R:Nat}(h:Sp g s C R){b r:Nat}(hb:b<C)(I:r<R):zG g s (b:Int) (r:Int)=some (s.map.getD (b*R+r) 0):=by
 have D:=(h.lens hb).1;rw[jV]at D;have E:=(h.ex (b:Int) r).2 ⟨⟨by omega,by omega⟩,by omega,by omega⟩;have e:b*R+r=((b*R+r:Nat):Int):=by rw[Int.natCast_add,Int.natCast_mul]
 unfold zG xI;rw[abk h,ak,E,aq,e,aZ,av,aC ⟨by omega,by rw[bD];omega⟩]
 grind
def anw{g:aG}{s:dw}{C R:Nat}(h:Sp g s C R){b r:Int}(D:dO (cX g s) ⟨b,r,0⟩=false):zG g s b r=some (-1):=by
 unfold zG xI;rw[abk h,ak,D];rfl
def aEW{g:aG}(D:ct g=true):QT g=some (ET g):=by
 have E:=mN g;have I:=pX g;have er:aU g*g.rows=gn g:=by simp[gn,D]
 have⟨n,C⟩:=dV E.1;unfold QT bw;have e:=cI (step:=Kq) n (λi=>(((),(),(),(i:Int),()),((g.bK,g.aA,g.rows,g.aK,()),((),(),(),()),((),(),(),()),([]:aa bQ),([]:aa Int),([]:aa Int),List.replicate i ES,([]:aa Int),([]:aa Int),()))) _ aV (λk h=>by
  unfold Kq az xG;dsimp only;rw[kE,Ef,ak,C,aW,aq,cF (by simp;omega),aq,bI,List.replicate_succ' (n:=k)];rfl) (by
  unfold Kq az xG;dsimp only;rw[kE,Ef,ak,C,aZ,av]) (bM)
 rw[cv,List.replicate_zero]at e
 refine(bC (λo=>Option.bind o _) e).trans ?_
 rw[ak];simp only[dH];rw[kE,pW,ak,er,aY (n:=gn g),aZ,av,HD,ak,D,bG,av,bg ⟨by omega,by omega,by omega⟩,bg ⟨by omega,by omega,by omega⟩];unfold ET;rw[C,bD]
def aEX{p:dz}(C:tu p):QV p=some (⟨p,p,false⟩,true):=by
 have⟨D,_,E⟩:=zU C;unfold QV A8 xA xZ;rw[akW _ (by omega),ak,D,bG,av,cF (by simp[E]),aq,kJ,ak,ak]
def aEY:Gb 16=some (ER,true):=by kernel_rfl
def aEZ(Z C:ax)(c:dP)(p:dz)(n:Nat)(U:n <= 8)(D:c.gO=16)(E:C.bH=[])(I:C.guard=[]):
  iter Gc aV (((),(),(),(),(n:Int),(0:Int),()),(Z,C,c,(p.eG,p.cap,p.eC,p.low,p.high,p.weights,p.de.down,p.de.sleep,()),()))=some (.inl (((),(),(),()),(Z,grow C p.eC n,(p.eG,p.cap,p.eC,p.low,p.high,p.weights,p.de.down,p.de.sleep,()),()))):=by
 have e:=cI (step:=Gc) n (λi=>(((),(),(),(),n,i,()),(Z,grow C _ i,c,(p.eG,p.cap,p.eC,p.low,p.high,p.weights,p.de.down,p.de.sleep,()),()))) _ aV (λk h=>by
  unfold Gc grow az xG;dsimp only;rw[aW,aq,D,aEY,ak,E,I,cF (by simp;omega),aq,cF (by simp;omega),aq,bI,List.replicate_succ' (n:=k),List.replicate_succ' (n:=k),List.append_assoc,List.append_assoc]) (by
  unfold Gc grow az xG;dsimp only;rw[aZ,av]) (bM)
 have O:grow C p.eC 0=C:=by
  unfold grow;simp only[List.replicate_zero,List.append_nil]
 rw[cv,O]at e;exact e
def aE0{c:dP}{p:dz}(D:lR c)(C:tu p):Ds c p=some true:=by
 have⟨_,_,E⟩:=zU C;have e:=abi D C;rw[NM _ _ (by omega)]at e
 rwa [aCa _ _ (by omega)]
def anx{c:dP}{p:dz}(C:lR c)(D:tu p):Kr c p=some (gS c p,true):=by
 have E:=Ii C.1;have hb:=eM c.au;have PI:=Ed E;have⟨h2,O,h3⟩:=zU D;have⟨n,I⟩:=dV hb.1;have U:c.gO=16:=C.2.2.2.2.2.1;have Ui:200 <= c.interval/\c.interval <= 259:=C.2.2.2.2.1;have Y:QW (n:Int) c.interval=some (⟨List.replicate n 0,c.interval,false⟩,true):=by
  unfold QW;rw[fm,ak,bA.2 ⟨by omega,by omega⟩,bG,av,fm,ak,bA.2 ⟨by omega,by omega⟩,bG,av,bg ⟨by omega,by omega,by omega⟩,bD]
 have hsc:YF 10=some (⟨0,10,10⟩,true):=rfl;have hsn:xB p.weights=(p.weights.map kS,true):=by unfold xB;rw[O,aq]
 unfold Kr bw;rw[aE0 C D,ak,bG,av,aBg,ak,aBG E,ak,aEW E,ak,pW,ak,aEX D,ak,Z5,ak,I,Y,ak];dsimp only;rw[aEZ _ _ c p n (by omega) U rfl rfl,ak];simp only[dH];rw[akS _ (by omega),ak,hsc,ak,hsn];unfold gS grow;rw[I,bD];rfl
def Rv(c:ax)(N:Int):Prop:=(∀r∈c.queue,r.id<=N/\r.at_<=c.now)/\∀r∈c.bP,r.id<=N
def aE1{c:ax}(C:dK c=true)(r:aN):(EB c r).2=(nJ c r).1:=by
 unfold EB nJ
 grind
def Ul(c:ax)(x:aF):Prop:=cZ c.config.au x=true/\x.kind≠2/\x.kind≠3
def anz{c:ax}{x:aF}(h:Ul c x)(D:eY c x=true)(E:¬ (c.trace.length:Int) >= 2000):kX c x (-1)=true/\x.kind≠0:=by
 obtain⟨C,I,O⟩:=h;have U:=(rX C).2.1;refine⟨?_,by omega⟩;unfold kX;rw[C,D,aZ E,iw I,iw O];rfl
def aE2{c:ax}(h:Pq c){b:Int}(hb:0<=b/\b<aU c.config.au){x:aF}(C:Ul c x):Ul c (uA c b x):=by
 refine⟨T8 h hb C.1,?_⟩;unfold uA;cases (ez c.aO b).open_ with
 |true=>exact⟨(by decide:(4:Int)≠2),(by decide:(4:Int)≠3)⟩
 |false=>exact C.2
def aE3{c:ax}(h:Pq c):∀ x∈ov c++(mw c++kY c),Ul c x:=λx hx=>by
 have Y:=Ce c;have I:=h.p.R.r4;rcases List.mem_append.1 hx with hx|hx
 ·have hdn:=h.dl;have hb:-1<=fD c/\fD c<c.aS.aJ.length:=T9 _ _;unfold ov at hx;by_cases C:fD c >= 0
  ·have D:0<=fD c/\fD c<aU c.config.au:=by omega
   rw[aW C,cC]at hx;cases hu:vV c (fD c)with
   |true=>rw[hu]at hx;cases hx
   | false=>
    rw[hu]at hx;rw[jH.1 hx];exact aE2 h D ⟨zR I (.inr rfl) D,by dsimp only;omega,by dsimp only;omega⟩
  ·rw[aZ C]at hx;cases hx
 ·have O:=(ani h).2;have U:=(anh h).2;rcases List.mem_append.1 hx with hx | hx
  ·refine⟨O x hx,?_⟩;unfold mw at hx;cases C:decide (gY c >= 0)with
   |false=>rw[C]at hx;cases hx
   |true=>rw[C]at hx;rw[jH.1 hx];exact⟨by dsimp only;omega,by dsimp only;omega⟩
  ·refine⟨U x hx,?_⟩;unfold kY at hx;cases C:cA c==8&&decide (((opens 0 c.aO.aA).length:Int) > 0)with
   |true=>rw[C]at hx;rw[jH.1 hx];exact⟨by dsimp only;omega,by dsimp only;omega⟩
   | false=>
    rw[C,av]at hx;cases E:cA c != 0 with
    |false=>rw[E]at hx;cases hx
    |true=>rw[E]at hx;rw[jH.1 hx];exact⟨by dsimp only;omega,by dsimp only;omega⟩
def aE4{c:ax}{x:aF}{i:Int}(D:1<=x.kind/\x.kind<=9)(C:x.kind=2\/x.kind=3->i.toNat<c.queue.length):(cS c x i).trace=c.trace++[⟨c.now,x⟩]/\((((cS c x i).queue.length:Nat):Int)==(c.queue.length:Int)-1)=(x.kind==2 || x.kind==3):=by
 have acc:∀ i:Nat,i<c.queue.length->(gK (cw c x) i).trace=c.trace++[⟨c.now,x⟩]/\((((gK (cw c x) i).queue.length:Nat):Int)==(c.queue.length:Int)-1)=true:=λi hi=>by
  have e:(gK (cw c x) i).trace=c.trace++[⟨c.now,x⟩]/\(gK (cw c x) i).queue=c.queue.take i++c.queue.drop (i+1):=by
   have E:(cw c x).queue.getD i oX=c.queue[i]:=gu _ hi;unfold gK;rw[E];dsimp only;cases c.queue[i].write<;>exact⟨rfl,rfl⟩
  refine⟨e.1,?_⟩;rw[e.2,oy,jf,List.length_drop,eZ];omega
 have no:(((c.queue.length:Nat):Int)==(c.queue.length:Int)-1)=false:=iw (by omega);unfold cS;rcases kinds D with q|q|q|q|q|q|q|q|q<;>rw[q]<;>simp only[Int.reduceBEq,Int.reduceBNe,aq,av,Bool.or_true,Bool.or_false,Bool.true_or,Bool.false_or,Bool.or_self]
 ·exact⟨rfl,no⟩
 ·exact acc _ (C (.inl q))
 ·exact acc _ (C (.inr q))
 ·exact⟨rfl,no⟩
 ·exact⟨rfl,no⟩
 ·exact⟨rfl,no⟩
 ·exact⟨rfl,no⟩
 ·exact⟨rfl,no⟩
 ·exact⟨rfl,no⟩
def Um(w:Bool)(i:Int):Int:=bif w then 0 else if 1000000<i+1 then 1000000 else i+1
def aE5{c:ax}(h:Pq c){b:Int}(hb:b∈fC 0 c.aS.aJ):0<=b/\b<aU c.config.au/\c.aS.aJ.getD b.toNat 0 >= 4:=by
 have C:=(aEb h hb).1;have D:=h.dl;refine⟨C.1,C.2,?_⟩;rw[show b=((0:Nat):Int)+b by omega]at hb;exact(T6 C.1 (by omega) 0).1 hb
def aE6(c:ax)(b:Int)(x:aF):uA c b x=⟨4,b,0,0⟩\/uA c b x=x/\(ez c.aO b).open_=false:=by
 unfold uA;cases (ez c.aO b).open_ with
 |true=>exact .inl rfl
 |false=>exact .inr ⟨rfl,rfl⟩
def aE7(r:bX)(a:aM)(w:Bool):(oq r a w).ay=a.ay/\((oq r a w).kind=1/\(oq r a w).row=a.row\/(oq r a w).kind=4\/(oq r a w).kind=3\/(oq r a w).kind=2):=by
 unfold oq;cases (ez r a.ay).open_ with
 |false=>exact⟨rfl,.inl ⟨rfl,rfl⟩⟩
 | true=>
  rw[bG,av];cases (ez r a.ay).row != a.row with
  |true=>exact⟨rfl,.inr (.inl rfl)⟩
  | false=>
   cases w with
   |true=>exact⟨rfl,.inr (.inr (.inl rfl))⟩
   |false=>exact⟨rfl,.inr (.inr (.inr rfl))⟩
def Oa(l:aa Int)(i k:Nat):(l.set i 0).getD k 0=if i=k then 0 else l.getD k 0:=by
 rw[cV,List.getElem?_set];split
 ·split<;>rfl
 ·rw[<-cV]
def anA(l:aa Int){i:Nat}(x:Int)(k:Nat)(h:i<l.length):(l.set i x).getD k 0=if i=k then x else l.getD k 0:=by
 rw[cV,List.getElem?_set,bg h];split
 ·rfl
 ·rw[<-cV]
def anB(f:Int->Int)(l:aa Int){k:Nat}(h:k<l.length):(l.map f).getD k 0=f (l.getD k 0):=by
 rw[cV,fh,bT h,cV,bT h];rfl
def aE8(l:aa Int)(k:Nat):(l.map (lO 1)).getD k 0<=l.getD k 0+1:=by
 by_cases h:k<l.length
 ·rw[anB _ _ h];unfold lO;split<;>omega
 ·rw[cV,cV,qg (by rw[fN];omega),qg (by omega)];decide
def abl(c:ax){x:aF}(i:Int)(h:x.kind=1):cS c x i=uw (cw c x) x:=by
 unfold cS;rw[h];rfl
def abm(c:ax){x:aF}(i:Int)(h:x.kind=5):cS c x i=N2 (cw c x) x.ay:=by
 unfold cS;rw[h];rfl
def Ob(c:ax){x:aF}(i:Int)(h:x.kind=9):cS c x i=gX (Ca (cw c x) 9) c.bH.length []:=by
 unfold cS;rw[h];rfl
def anC{c:ax}{x:aF}{i:Int}(C:1<=x.kind/\x.kind<=9)(D:x.kind≠1)(E:x.kind≠5)(I:x.kind≠9):(cS c x i).array.bu=c.array.bu/\(cS c x i).array.bq=c.array.bq/\(cS c x i).aS=c.aS/\(cS c x i).bH=c.bH/\(cS c x i).guard=c.guard/\(cS c x i).pending=c.pending:=by
 have acc:∀ i:Nat,(gK (cw c x) i).array.bu=c.array.bu/\(gK (cw c x) i).array.bq=c.array.bq/\(gK (cw c x) i).aS=c.aS/\(gK (cw c x) i).bH=c.bH/\(gK (cw c x) i).guard=c.guard/\(gK (cw c x) i).pending=c.pending:=λi=>by
  unfold gK;dsimp only;cases ((cw c x).queue.getD i oX).write<;>exact⟨rfl,rfl,rfl,rfl,rfl,rfl⟩
 unfold cS;rcases kinds C with q|q|q|q|q|q|q|q|q<;>rw[q]<;>simp only[Int.reduceBEq,Int.reduceBNe,aq,av,Bool.or_true,Bool.or_false,Bool.true_or,Bool.false_or,Bool.or_self]
 ·exact absurd q D
 ·exact acc _
 ·exact acc _
 ·exact⟨rfl,rfl,rfl,rfl,rfl,rfl⟩
 ·exact absurd q E
 ·exact⟨rfl,rfl,rfl,rfl,rfl,rfl⟩
 ·exact⟨rfl,rfl,rfl,rfl,rfl,rfl⟩
 ·exact⟨rfl,rfl,rfl,rfl,rfl,rfl⟩
 ·exact absurd q I
def Un(g:aG)(l:jh)(a:cJ)(b:Int):∀ n k:Nat,(gJ g l a b n).bu.getD k 0=a.bu.getD k 0\/(gJ g l a b n).bu.getD k 0=0
 |0,k=>.inl rfl
 | n+1,k=>by
  unfold gJ;rw[qd];show ((gJ g l a b n).bu.set _ 0).getD k 0=_\/((gJ g l a b n).bu.set _ 0).getD k 0=0;rw[Oa];split
  ·exact .inr rfl
  ·exact Un g l a b n k
def qe(g:aG)(l:jh)(a:cJ)(k:Nat):cJ:=(List.range k).foldl (λa (b:Nat)=>gJ g l a (b:Int) g.rows.toNat) a
def anD(g:aG)(l:jh)(a:cJ):∀ n k:Nat,(qe g l a n).bu.getD k 0=a.bu.getD k 0\/(qe g l a n).bu.getD k 0=0
 |0,k=>.inl rfl
 | n+1,k=>by
  unfold qe;rw[qd];rcases Un g l (qe g l a n) (n:Int) g.rows.toNat k with e|e
  ·rcases anD g l a n k with e2 | e2
   ·exact .inl (e.trans e2)
   ·exact .inr (e.trans e2)
  ·exact .inr e
def anE(l:aa Int):∀ n k:Nat,((List.range n).foldl (λd b=>d.set b 0) l).getD k 0=if k<n then 0 else l.getD k 0
 |0,k=>rfl
 | n+1,k=>by
  rw[qd,Oa,anE l n k];by_cases e:n=k
  ·subst e;rw[bg rfl,bg]
  ·rw[bk e];by_cases C:k<n
   ·rw[bg C,bg]
   ·rw[bk C,bk]
def anF(r:c8){b:Int}(hb:b.toNat<r.aJ.length)(k:Nat)(h:r.aJ.getD b.toNat 0 >= 1):(qc r b).aJ.getD k 0=(if b.toNat=k then r.aJ.getD k 0-1 else r.aJ.getD k 0)/\(qc r b).wait=r.wait/\(qc r b).dX=r.dX:=by
 unfold qc;rw[aZ (show ¬ r.aJ.getD b.toNat 0 = -2 by omega),av];refine⟨?_,rfl,rfl⟩;dsimp only;rw[anA _ _ _ hb];split
 next e=>rw[e]
 ·rfl
def La(q:c9)(b k:Nat):Int:=q.last.getD (9*b+k-1) (-1)
def anG(g:aG)(t:cg)(l:aa Int)(c:aF){n:Int}(C:0<=n)(h:∀ (i:Nat) (hi:i<l.length),0<=l[i]->l[i]+jD g t (iz i) c<=n):∀ k,k<=l.length->r3 g t l c k<=n
 |0,_=>C
 | k+1,I=>by
  have E:=anG g t l c C h k (by omega);rw[NR,NS (by omega)];by_cases D:l[k]<0
  ·rw[aW D];exact E
  ·rw[aZ D,av];have:=h k (by omega) (by omega);unfold rZ;split<;>omega
def anH{c:ax}(h:Pq c){x:aF}(U:x.kind=1->c.ready.aT.length≠4)(Y:jr c.aO x=true)(hg:∀ (b k:Nat),1<=k->k<=9->((k<=5/\(b:Int)<aU c.config.au)\/(5<k/\(b:Int)=aU c.config.au))->0<=La c.ready b k->La c.ready b k+jD c.config.au c.config.bY ⟨(k:Int),if k<=5 then (b:Int)else 0,0,0⟩ x<=c.now):eY c x=true:=by
 have hn:=h.nw;have hl:=(Eu h.p.rdy).2.1;have ha:om c.config.au c.config.bY c.ready x<=c.now:=by
  unfold om;have e4:(x.kind==1&&(c.ready.aT.length:Int)==4)=false:=by
   by_cases E:x.kind=1
   ·rw[iw (show ¬ (c.ready.aT.length:Int)=4 from λe=>U E (by omega)),Bool.and_false]
   ·rw[iw E,Bool.false_and]
  rw[e4,av]
  refine anG _ _ _ _ hn.1 (λi hi h0=>?_) _ (dc _)
  have C:=((h.p.R.last i hi).2).resolve_left (by omega);unfold oT at C;have C:=eZ.1 C;obtain⟨b,k,rfl,k1,k9⟩:∃b k:Nat,i=9*b+k-1/\1<=k/\k<=9:=⟨i / 9,i % 9+1,by omega,by omega,by omega⟩
  have I:((9*b+k-1:Nat):Int) % 9+1=(k:Int):=by omega
  have O:((9*b+k-1:Nat):Int) / 9=(b:Int):=by omega
  rw[I,O]at C;have eL:La c.ready b k=c.ready.last[9*b+k-1]:=gu _ hi;have e3:iz (9*b+k-1)=⟨(k:Int),if k<=5 then (b:Int)else 0,0,0⟩:=by
   unfold iz;rw[I,O];by_cases D:k<=5
   ·rw[bg,bg D]
   ·rw[bk,bk D]
  rw[e3,<-eL];refine hg b k k1 k9 ?_ (by rw[eL];exact h0);by_cases D:k<=5
  ·refine .inl ⟨D,?_⟩;rw[aW (show (k:Int)<=5 by omega)]at C;exact of_decide_eq_true C
  ·refine .inr ⟨by omega,?_⟩;rw[aZ (show ¬ (k:Int)<=5 by omega)]at C;have:=of_decide_eq_false C;omega
 unfold eY;rw[Y,aW ha,aW (show om c.config.au c.config.bY c.ready x<=1000000 by omega)];rfl
def Uo{q:c9}{n:Int}(h:∀i:Nat,q.last.getD i (-1)<=n)(b k:Nat):La q b k<=n:=h _
def aE9(g:aG)(q:c9)(e:bW)(C:cZ g e.cmd=true)(b k:Nat)(I:1<=k/\k<=9):La (kH g q e) b k=La q b k\/(La (kH g q e) b k=e.at_/\(k:Int)=e.cmd.kind/\(b:Int)=if k<=5 then e.cmd.ay else aU g):=by
 obtain⟨_,D,E,_⟩:=rX C;obtain⟨O,_⟩:=Et C;unfold kH La;cases kf g q&&(cZ g e.cmd&&(aQ e.at_ 0 1000000 && !(e.cmd.kind==1&&vM q e.at_)))with
 |false=>exact .inl rfl
 | true=>
  rw[aq];dsimp only;rw[cV,List.getElem?_set,cV];by_cases hi:(fY g e.cmd).toNat=9*b+k-1
  ·rw[bg hi];by_cases hl:(fY g e.cmd).toNat<q.last.length
   ·rw[bg hl];refine .inr ⟨rfl,?_⟩;have hi:fY g e.cmd=9*(b:Int)+(k:Int)-1:=by omega
    unfold fY at hi;cases hu:aQ e.cmd.kind 1 5 with
    | true=>
     rw[hu,aq]at hi;have:=bA.1 hu;have:=E this.2;refine⟨by omega,?_⟩;rw[bg];omega
    | false=>
     rw[hu,av]at hi;have U:¬ e.cmd.kind<=5:=λh=>by rw[bA.2 ⟨D.1,h⟩]at hu;cases hu
     refine⟨by omega,?_⟩;rw[bk];omega
   ·rw[bk hl];refine .inl ?_;rw[<-hi,qg (by omega)]
  ·rw[bk hi];exact .inl rfl
def anI(g:aG)(q:c9)(e:bW){n:Int}(h:∀ i:Nat,q.last.getD i (-1)<=n)(C:e.at_<=n)(i:Nat):(kH g q e).last.getD i (-1)<=n:=by
 unfold kH;cases kf g q&&(cZ g e.cmd&&(aQ e.at_ 0 1000000 && !(e.cmd.kind==1&&vM q e.at_)))with
 |false=>exact h i
 | true=>
  rw[aq];dsimp only;rw[cV,List.getElem?_set];have:=h i;rw[cV]at this;split
  ·split
   ·exact C
   next D E=>rw[<-D,qg (by omega)]at this;exact this
  ·exact this
def Ij{c:ax}{x:aF}{i:Int}(C:1<=x.kind/\x.kind<=9):(cS c x i).aO=ff c.aO x/\(cS c x i).ready=kH c.config.au c.ready ⟨c.now,x⟩/\(cS c x i).now=c.now/\(cS c x i).config=c.config:=by
 have acc:∀ i:Nat,(gK (cw c x) i).aO=ff c.aO x/\(gK (cw c x) i).ready=kH c.config.au c.ready ⟨c.now,x⟩/\(gK (cw c x) i).now=c.now/\(gK (cw c x) i).config=c.config:=λi=>by
  unfold gK;dsimp only;cases ((cw c x).queue.getD i oX).write<;>exact⟨rfl,rfl,rfl,rfl⟩
 unfold cS;rcases kinds C with q|q|q|q|q|q|q|q|q<;>rw[q]<;>simp only[Int.reduceBEq,Int.reduceBNe,aq,av,Bool.or_true,Bool.or_false,Bool.true_or,Bool.false_or,Bool.or_self]
 ·exact⟨rfl,rfl,rfl,rfl⟩
 ·exact acc _
 ·exact acc _
 ·exact⟨rfl,rfl,rfl,rfl⟩
 ·exact⟨rfl,rfl,rfl,rfl⟩
 ·exact⟨rfl,rfl,rfl,rfl⟩
 ·exact⟨rfl,rfl,rfl,rfl⟩
 ·exact⟨rfl,rfl,rfl,rfl⟩
 ·exact⟨rfl,rfl,rfl,rfl⟩
def aFa{c:ax}{x:aF}{i:Int}(O:1<=x.kind/\x.kind<=9)(hb:x.kind=5->x.ay.toNat<c.aS.aJ.length)(E:x.kind=5->c.aS.aJ.getD x.ay.toNat 0 >= 1):(cS c x i).aS.wait=c.aS.wait/\(cS c x i).aS.dX=c.aS.dX/\(x.kind≠5->x.kind≠9->(cS c x i).aS.aJ=c.aS.aJ)/\(x.kind=5->∀ b,(cS c x i).aS.aJ.getD b 0=if x.ay.toNat=b then c.aS.aJ.getD b 0-1 else c.aS.aJ.getD b 0)/\(x.kind=9->∀ b,b<c.bH.length->(cS c x i).aS.aJ.getD b 0=0)/\∀ b,(cS c x i).aS.aJ.getD b 0<=max 0 (c.aS.aJ.getD b 0):=by
 by_cases C:x.kind=5
 ·have e:∀ b,(qc c.aS x.ay).aJ.getD b 0=if x.ay.toNat=b then c.aS.aJ.getD b 0-1 else c.aS.aJ.getD b 0:=λb=>(anF c.aS (hb C) b (E C)).1
  obtain⟨_,w1,U⟩:=anF c.aS (hb C) 0 (E C);rw[abm c i C]
  refine⟨w1,U,λh=>absurd C h,λ_=>e,λh=>by omega,λb=>?_⟩
  show (qc c.aS x.ay).aJ.getD b 0<=_;rw[e b];split<;>omega
 ·by_cases D:x.kind=9
  ·have e:∀ b,(cS c x i).aS.aJ.getD b 0=if b<c.bH.length then 0 else c.aS.aJ.getD b 0:=λb=>by
    rw[Ob c i D];exact anE c.aS.aJ c.bH.length b
   refine⟨by rw[Ob c i D];rfl,by rw[Ob c i D];rfl,λ_ h=>absurd D h,λh=>absurd h C,λ_ b hb=>by rw[e b,bg hb],λb=>?_⟩
   rw[e b];split<;>omega
  ·have e:(cS c x i).aS=c.aS:=by
    by_cases I:x.kind=1
    ·rw[abl c i I];rfl
    ·exact(anC O I C D).2.2.1
   rw[e];exact⟨rfl,rfl,λ_ _=>rfl,λh=>absurd h C,λh=>absurd h D,λb=>by omega⟩
def aFb{r:bX}{x:aF}{b:Nat}(h:b≠x.ay.toNat):ez (ff r x) (b:Int)=ez r (b:Int):=by
 have key:∀ v:di,ez ⟨r.aA.set x.ay.toNat v,r.aR⟩ (b:Int)=ez r (b:Int):=λv=>by
  unfold ez;rw[bD,cV,List.getElem?_set_ne (λe=>h e.symm),<-cV]
 unfold ff;cases x.kind==1 with
 |true=>exact key _
 | false=>
  cases x.kind==4 with
  |true=>exact key _
  |false=>cases x.kind==6<;>cases x.kind==8<;>cases (x.kind==7 ||x.kind==9)<;>rfl
def anJ{r:bX}{x:aF}{b:Nat}(C:x.kind=4)(h:b=x.ay.toNat):(ez (ff r x) (b:Int)).open_=false:=by
 unfold ff ez;rw[C];show ((r.aA.set x.ay.toNat (⟨false,0⟩:di)).getD (b:Int).toNat ⟨false,0⟩).open_=false;rw[bD,h,cV,List.getElem?_set,bg rfl];split<;>rfl
def Oc(t:cg):Prop:=∃r w:Int,1<=r/\r<=4/\4<=w/\w<=8/\t=xJ r w
def abn{c:ax}(h:r6 c=true):cA c=bif c.aR.state==1 then 7 else bif c.aR.state==2 then 9 else 0:=by
 unfold cA vR;rw[h];rfl
structure qf (R:Nat) (t:cq) (f:Nat->Nat):Prop where
 tr:t.rows.length=16
 tc:t.counts.length=16
 ts:t.dm=0
 te:∀i,i<16->(t.rows.getD i (-1) = -1/\t.counts.getD i 0=0)\/∃r,r<R/\t.rows.getD i (-1)=(r:Int)/\t.counts.getD i 0=(f r:Int)/\1<=f r
 tf:∀r,r<R->1<=f r->∃i,i<16/\t.rows.getD i (-1)=(r:Int)
 td:∀i j,i<16->j<16->t.rows.getD i (-1)=t.rows.getD j (-1)->t.rows.getD i (-1) ≠ -1->i=j
def qf.new(R:Nat):qf R (qZ 16) λ_=>0:=by
 have C:∀i,i<16->(qZ 16).rows.getD i (-1) = -1/\(qZ 16).counts.getD i 0=0:=by decide
 exact⟨by decide,by decide,rfl,λi hi=>.inl (C i hi),λr _ h=>absurd h (by decide),λi j hi _ _ h=>absurd (C i hi).1 h⟩
def qf.anK{R:Nat}{t:cq}{f:Nat->Nat}(h:qf R t f)(hR:R<=16)(U:∀ r,r<R->f r<=100000):kT t=true:=by
 have Y:=h.tr;have h2:=h.tc;unfold kT;rw[Y,h2,h.ts];simp only[aP];refine⟨by decide,by decide,by decide,?_⟩;rw[ck];intro i hi;have hi:=ga.1 hi;have D:t.rows.getD i (-1)=t.rows[i]:=gu _ (by omega);have g2:t.counts.getD i 0=t.counts[i]:=gu _ (by omega);rw[NA (by omega) (by omega),h.ts];have O:=h.te i hi;rw[D,g2]at O;rcases O with ⟨C,E⟩|⟨r,hr,C,E,e3⟩
 ·rw[C,E];rfl
 ·have:=U r hr;rw[C,E,bA.2 ⟨by omega,by omega⟩,bA.2 ⟨by omega,by omega⟩,gI (show ¬ (r:Int) = -1 by omega),iw (show ¬ (r:Int) = -1 by omega)];have hn:((t.rows.take i).any λx=>(r:Int)==x)=false:=by
   rw[mz];intro x hx I;obtain⟨j,hj,rfl⟩:=List.mem_take_iff_getElem.1 hx;have I:=eZ.1 I;have g3:t.rows.getD j (-1)=t.rows[j]:=gu _ (by omega);have:=h.td i j hi (by omega) (by rw[D,g3,C];exact I) (by rw[D,C];omega);omega
  rw[hn];rfl
def qf.room{R:Nat}{t:cq}{f:Nat->Nat}(h:qf R t f)(hR:R<16):∃ i,i<16/\t.counts.getD i 0=0:=by
 refine Classical.byContradiction λU=>?_
 have I:∀ i,i<16->∃ r,r<R/\t.rows.getD i (-1)=(r:Int):=λi hi=>by
  rcases h.te i hi with ⟨_,D⟩|⟨r,E,C,_⟩
  ·exact absurd ⟨i,hi,D⟩ U
  ·exact⟨r,E,C⟩
 have:=pig R ((List.range 16).map λi=>(t.rows.getD i (-1)).toNat) (λx Y=>by
  obtain⟨i,hi,rfl⟩:=List.mem_map.1 Y;obtain⟨r,E,e⟩:=I i (ga.1 hi);rw[e,bD];exact E) (by
  rw[List.pairwise_iff_getElem];intro i j hi O hij e;rw[fN,dW]at hi O;rw[List.getElem_map,List.getElem_map,lW,lW]at e;obtain⟨r,E,C⟩:=I i hi;obtain⟨r2,iL,D⟩:=I j O;rw[C,D,bD,bD]at e;have:=h.td i j hi O (by rw[C,D,e]) (by rw[C];omega);omega)
 rw[fN,dW]at this;omega
def qf.trk{R:Nat}{t:cq}{f:Nat->Nat}(h:qf R t f)(hR:R<16){row:Nat}(hr:row<R):qf R (iQ t (row:Int)) (λr=>if r=row then f r+1 else f r)/\∃ i,oW t (row:Int)=some i/\(iQ t (row:Int)).counts.getD i 0=((f row+1:Nat):Int):=by
 have h1:=h.tr;have h2:=h.tc;unfold iQ oW;cases hf:t.rows.findIdx? (λe=>e==(row:Int))with
 | some i=>
  obtain⟨hi,hp⟩:=EJ hf;have U:i<16:=by omega
  have er:t.rows.getD i (-1)=(row:Int):=(gu _ hi).trans (eZ.1 hp);have ec:t.counts.getD i 0=(f row:Int):=by
   rcases h.te i U with ⟨C,_⟩|⟨r,_,C,I,_⟩
   ·omega
   ·rw[I];congr 1;congr 1;omega
  have Y:(t.counts.set i (t.counts.getD i 0+1)).getD i 0=((f row+1:Nat):Int):=by
   rw[vZ _ (by omega),ec];rfl
  dsimp only
  refine⟨⟨h1,by rw[ki];exact h2,h.ts,λj D=>?_,λr iL O=>?_,h.td⟩,i,rfl,Y⟩
  ·dsimp only;by_cases e:i=j
   ·subst e;exact .inr ⟨row,hr,er,by rw[bg rfl];exact Y,by rw[bg rfl];omega⟩
   ·rw[getD_set_ne _ e];rcases h.te j D with C | ⟨r,k1,k2,k3,k4⟩
    ·exact .inl C
    ·have cx:r≠row:=λE=>e (h.td i j U D (by rw[er,k2,E]) (by rw[er];omega))
     exact .inr ⟨r,k1,k2,by rw[bk cx];exact k3,by rw[bk cx];exact k4⟩
  ·by_cases e:r=row
   ·subst e;exact⟨i,U,er⟩
   ·rw[bk e]at O;exact h.tf r iL O
 | none=>
  have hn:∀ i,i<16->t.rows.getD i (-1)≠(row:Int):=λi hi e=>by
   have g1:t.rows.getD i (-1)=t.rows[i]:=gu _ (by omega);have:=List.findIdx?_eq_none_iff.1 hf t.rows[i] (cQ _);rw[<-g1,e,iS]at this;cases this
  have f0:f row=0:=by
   cases hz:f row with
   |zero=>rfl
   | succ k=>
    obtain⟨i,hi,e⟩:=h.tf row hr (by omega);exact absurd e (hn i hi)
  cases O:t.counts.findIdx? (λe=>e==t.dm)with
  | none=>
   obtain⟨i,hi,e⟩:=h.room hR;have g2:t.counts.getD i 0=t.counts[i]:=gu _ (by omega);have:=List.findIdx?_eq_none_iff.1 O t.counts[i] (cQ _);rw[<-g2,e,h.ts,iS]at this;cases this
  | some i=>
   obtain⟨hi,hp⟩:=EJ O;have U:i<16:=by omega
   have ec:t.counts.getD i 0=0:=(gu _ hi).trans (by rw[eZ.1 hp];exact h.ts);have er:t.rows.getD i (-1) = -1:=by
    rcases h.te i U with ⟨C,_⟩|⟨r,_,_,I,e3⟩
    ·exact C
    ·omega
   have Y:(t.counts.set i (t.dm+1)).getD i 0=((f row+1:Nat):Int):=by
    rw[vZ _ (by omega),h.ts,f0];rfl
   have iX:(t.rows.set i (row:Int)).getD i (-1)=(row:Int):=vZ _ (by omega);dsimp only
   refine⟨⟨by rw[ki];exact h1,by rw[ki];exact h2,h.ts,λj D=>?_,λr iL O=>?_,λj k D hk=>?_⟩,i,rfl,Y⟩
   ·dsimp only;by_cases e:i=j
    ·subst e;exact .inr ⟨row,hr,iX,by rw[bg rfl];exact Y,by rw[bg rfl];omega⟩
    ·rw[getD_set_ne _ e,getD_set_ne _ e];rcases h.te j D with C | ⟨r,k1,k2,k3,k4⟩
     ·exact .inl C
     ·have cx:r≠row:=λE=>hn j D (by rw[k2,E])
      exact .inr ⟨r,k1,k2,by rw[bk cx];exact k3,by rw[bk cx];exact k4⟩
   ·by_cases e:r=row
    ·subst e;exact⟨i,U,iX⟩
    ·rw[bk e]at O;obtain⟨j,D,ej⟩:=h.tf r iL O;exact⟨j,D,(getD_set_ne _ (λE=>by subst E;omega)).trans ej⟩
   ·dsimp only;by_cases C:i=j
    ·subst C;by_cases I:i=k
     ·exact λ_ _=>I
     ·rw[iX,getD_set_ne _ I];exact λE=>absurd E.symm (hn k hk)
    ·by_cases I:i=k
     ·subst I;rw[iX,getD_set_ne _ C];exact λE=>absurd E (hn j D)
     ·rw[getD_set_ne _ C,getD_set_ne _ I];exact h.td j k D hk
def qf.step{R:Nat}{t:cq}{f:Nat->Nat}(h:qf R t f)(hR:R<16){row:Nat}(C:row<R){L:Nat}(h2:2<=L)(hL:L<=1000)(D:∀ r,r<R->f r<100000):r7 t (row:Int) (L:Int)=(iQ t (row:Int),decide ((f row+1) % L=0))/\qf R (iQ t (row:Int)) (λr=>if r=row then f r+1 else f r):=by
 obtain⟨E,i,I,O⟩:=h.trk hR C;refine⟨?_,E⟩;have U:=h.anK (by omega) λr C=>by have:=D r C;omega
 have Y:=E.anK (by omega) λr C=>by
  have:=D r C;split<;>omega
 unfold r7;rw[U,Y,bA.2 ⟨by omega,by omega⟩,bA.2 ⟨by omega,by omega⟩,I];show (iQ t (row:Int),((iQ t (row:Int)).counts.getD i 0).tmod (L:Int)==0)=_;rw[O,q8 (by omega),<-Int.natCast_emod];congr 1;rw[Bool.eq_iff_iff,eZ,fU];omega
def anL(k m:Nat)(h:aa Int):(oQ k h).getD m 0<=if k=m then h.getD m 0+1 else h.getD m 0:=by
 unfold oQ;by_cases e:k=m
 ·subst e;rw[bg rfl];by_cases C:k<h.length
  ·rw[anA _ _ _ C,bg rfl];unfold lO;split<;>omega
  ·rw[cV,cV,qg (by rw[ki];omega),qg (by omega)];decide
 ·rw[bk e,getD_set_ne _ e];exact jw _
def Up{b B r s R:Nat}(h:b≠B)(C:r<R)(D:s<R):b*R+r≠B*R+s:=λe=>by
 rcases Nat.lt_or_gt_of_ne h with h|h
 ·have:=jd R h;rw[jV]at this;omega
 ·have:=jd R h;rw[jV]at this;omega
def abo{R B row b r:Nat}(EU:row<R)(Y:r<R)(h:aa Int):(pZ (R:Int) (row:Int) (B*R+row) h).getD (b*R+r) 0<=if b=B/\r=row then 0 else if b=B/\(r+1=row\/r=row+1)then h.getD (b*R+r) 0+1 else h.getD (b*R+r) 0:=by
 have e0:=Oa h (B*R+row) (b*R+r);have I:(vE (row:Int) (B*R+row) h).getD (b*R+r) 0<=if b=B/\r=row then 0 else if b=B/\r+1=row then h.getD (b*R+r) 0+1 else h.getD (b*R+r) 0:=by
  unfold vE;by_cases c:0<row
  ·rw[aW (show 0<(row:Int) by omega),aq];have D:=anL (B*R+row-1) (b*R+r) (h.set (B*R+row) 0);by_cases hb:b=B
   ·subst hb;by_cases E:r=row
    ·subst E;rw[bg ⟨rfl,rfl⟩];rw[bk,e0,bg rfl]at D;exact D
    ·rw[bk (λC=>E C.2)];rw[e0,bk (show ¬ b*R+row=b*R+r by omega)]at D;by_cases O:r+1=row
     ·rw[bg ⟨rfl,O⟩];rw[bg]at D;exact D
     ·rw[bk (λC=>O C.2)];rw[bk]at D;exact D
   ·have U:=Up hb Y EU;have n2:=Up (s:=row-1) hb Y (by omega);rw[bk (λC=>hb C.1),bk (λC=>hb C.1)];rw[bk,e0,bk (λC=>U C.symm)]at D;exact D
  ·rw[aZ (show ¬ 0<(row:Int) by omega),av,e0];by_cases hb:b=B
   ·subst hb;by_cases E:r=row
    ·subst E;rw[bg rfl,bg ⟨rfl,rfl⟩];exact jw _
    ·rw[bk,bk (λC=>E C.2),bk];exact jw _
   ·have U:=Up hb Y EU;rw[bk (λC=>U C.symm),bk (λC=>hb C.1),bk (λC=>hb C.1)];exact jw _
 unfold pZ;by_cases c:row+1<R
 ·rw[aW (show (row:Int)<(R:Int)-1 by omega),aq];have D:=anL (B*R+row+1) (b*R+r) (vE (row:Int) (B*R+row) h);by_cases hb:b=B
  ·subst hb;by_cases E:r=row
   ·subst E;rw[bg ⟨rfl,rfl⟩]at I ⊢;rw[bk]at D;omega
   ·rw[bk (λC=>E C.2)]at I ⊢;by_cases O:r+1=row
    ·rw[bg ⟨rfl,O⟩]at I;rw[bg ⟨rfl,.inl O⟩];rw[bk]at D;omega
    ·rw[bk (λC=>O C.2)]at I;by_cases k3:r=row+1
     ·rw[bg ⟨rfl,.inr k3⟩];rw[bg]at D;omega
     ·rw[bk];rw[bk]at D;omega
  ·have U:=Up (s:=row+1) hb Y c;rw[bk (λC=>hb C.1),bk (λC=>hb C.1)]at I ⊢;rw[bk (λC=>U (by omega))]at D;omega
 ·rw[aZ (show ¬ (row:Int)<(R:Int)-1 by omega),av];refine Int.le_trans I ?_;split
  ·exact jw _
  ·split
   next C=>rw[bg ⟨C.1,.inl C.2⟩];exact jw _
   ·split<;>omega
def Uq{g:aG}{R:Nat}(I:g.rows=(R:Int))(l:jh)(a:cJ)(B:Nat):∀ n,n<=R->∀ b r,r<R->(b≠B->(gJ g l a (B:Int) n).bq.getD (b*R+r) 0<=a.bq.getD (b*R+r) 0)/\(b=B->r<n->(gJ g l a (B:Int) n).bq.getD (b*R+r) 0<=if r+1=n then 0 else 1)
 |0,_,b,r,_=>⟨λ_=>jw _,λ_ h=>absurd h (Nat.not_lt_zero _)⟩
 | n+1,hn,b,r,U=>by
  obtain⟨i1,E⟩:=Uq I l a B n (by omega) b r U;unfold gJ;rw[qd];show (b≠B->(pZ g.rows (n:Int) ((B:Int)*g.rows+(n:Int)).toNat (gJ g l a (B:Int) n).bq).getD (b*R+r) 0<=a.bq.getD (b*R+r) 0)/\(b=B->r<n+1->(pZ g.rows (n:Int) ((B:Int)*g.rows+(n:Int)).toNat (gJ g l a (B:Int) n).bq).getD (b*R+r) 0<=if r+1=n+1 then 0 else 1);have ei:((B:Int)*g.rows+(n:Int)).toNat=B*R+n:=by
   rw[I,<-Int.natCast_mul];omega
  rw[ei,I];have C:=abo (R:=R) (B:=B) (row:=n) (b:=b) (r:=r) (by omega) U (gJ g l a (B:Int) n).bq
  refine⟨λhb=>?_,λhb hrn=>?_⟩
  ·rw[bk (λD=>hb D.1),bk (λD=>hb D.1)]at C;exact Int.le_trans C (i1 hb)
  ·by_cases Y:r=n
   ·rw[bg ⟨hb,Y⟩]at C;rw[bg];exact C
   ·have E:=E hb (by omega);rw[bk (λD=>Y D.2)]at C;rw[bk];by_cases O:r+1=n
    ·rw[bg O]at E;rw[bg ⟨hb,.inl O⟩]at C;omega
    ·rw[bk O]at E;rw[bk]at C;omega
def anM(g:aG)(l:jh)(a:cJ)(n:Nat):qe g l a (n+1)=gJ g l (qe g l a n) (n:Int) g.rows.toNat:=qd _ _ _
def anN{g:aG}{R:Nat}(D:g.rows=(R:Int))(l:jh)(a:cJ):∀ n b r,b<n->r<R->(qe g l a n).bq.getD (b*R+r) 0<=1
 | n+1,b,r,hb,C=>by
  rw[anM,show g.rows.toNat=R by omega];obtain⟨E,I⟩:=Uq D l (qe g l a n) n R (dc _) b r C;by_cases e:b=n
  ·have:=I e C;refine Int.le_trans this ?_;split<;>omega
  ·exact Int.le_trans (E e) (anN D l a n b r (by omega) C)
def anO{T:Type}(x d:T)(l:aa T):∀ n k:Nat,k<n->k<l.length->((List.range n).foldl (λd b=>d.set b x) l).getD k d=x
 | n+1,k,h,hl=>by
  have hlen:=xN x l n;rw[qd];by_cases e:n=k
  ·subst e;exact vZ _ (by omega)
  ·rw[getD_set_ne _ e];exact anO x d l n k (by omega) hl
def aFc{c:dP}(h:lR c):Oc c.bY:=by
 obtain⟨r,w,C,D,E,I,O⟩:=h.2.1;exact⟨r,w,C,D,E,I,O⟩
def anP{r w:Int}(I:1<=r/\r<=4)(O:4<=w/\w<=8)(a b:Int):0<=vI (xJ r w) a b/\vI (xJ r w) a b<=16:=by
 have C:W6 (r+3)=r+3:=aY;have D:W6 (w+3)=w+3:=aY;have E:W6 (7+3)=10:=by decide
 unfold vI xJ;dsimp only;rw[C,D,E];cases a==1<;>cases a==2<;>cases a==3<;>cases a==4<;>cases a==5<;>cases b==4<;>cases (b==2 ||b==3)<;>cases (b==1 ||b==5)<;>simp only[aq,av]<;>omega
def aFd{r w:Int}(C:1<=r/\r<=4)(D:4<=w/\w<=8)(a b:Int)(n:Bool):xE (xJ r w) a b n<=16:=by
 have E:=anP C D a 1;unfold xE;show (bif _ then (4:Int)else bif _ then (16:Int)else bif _ then (3:Int)else bif _ then (bif n then (3:Int)else 2)else bif _ then (bif n then (3:Int)else 2)else bif _ then (bif n then (5:Int)else 4)else bif _ then (4:Int)else bif _ then (3:Int)else bif _ then r else bif _ then w else bif _ then vI (xJ r w) a 1 else (0:Int))<=16;refine(qX (a:=0) ⟨by omega,by omega⟩ (qX ⟨by omega,by omega⟩ (qX ⟨by omega,by omega⟩ (qX (qX ⟨by omega,by omega⟩ ⟨by omega,by omega⟩) (qX (qX ⟨by omega,by omega⟩ ⟨by omega,by omega⟩) (qX (qX ⟨by omega,by omega⟩ ⟨by omega,by omega⟩) (qX ⟨by omega,by omega⟩ (qX ⟨by omega,by omega⟩ (qX ⟨by omega,by omega⟩ (qX ⟨by omega,by omega⟩ (qX ⟨by omega,by omega⟩ ⟨by omega,by omega⟩))))))))))).2
def anQ{g:aG}{t:cg}(I:Oc t)(a b:aF):jD g t a b<=16:=by
 obtain⟨r,w,C,D,w1,E,rfl⟩:=I;have O:=aFd ⟨C,D⟩ ⟨w1,E⟩ a.kind b.kind (Ep g a b);have U:=(anP ⟨C,D⟩ ⟨w1,E⟩ a.kind b.kind).2;unfold jD;cases vJ a b&&a.ay==b.ay with
 |true=>rw[aq];omega
 |false=>rw[av];omega
def aFe{c:ax}(h:Pq c)(C:Oc c.config.bY){x:aF}(D:x.kind=1->c.ready.aT.length≠4)(E:jr c.aO x=true){n:Int}(hl:∀ i:Nat,c.ready.last.getD i (-1)<=n)(I:n+16<=c.now):eY c x=true:=
 anH h D E λb k _ _ _ _=>by
  have:=anQ (g:=c.config.au) C ⟨(k:Int),if k<=5 then (b:Int)else 0,0,0⟩ x;have:=Uo hl b k;omega
def aFf{r:bX}(h:(r.aA.all λb=>!b.open_)=true)(b:Int):(ez r b).open_=false:=by
 unfold ez;by_cases hb:b.toNat<r.aA.length
 ·rw[gu _ hb];have:=ck.1 h _ (cQ hb)
  simpa using this
 ·rw[cV,qg (by omega)];rfl
def Ur(p:fK)(k n:Int):(vS p k n).idle=p.idle:=by
 unfold vS;cases kG p&&aQ n p.since 1000000 with
 |false=>rfl
 | true=>
  rw[aq];cases (k==6)&&(p.state==0)<;>cases (k==8)&&(p.state==0)<;>cases (k==7)&&(p.state==1)<;>cases (k==9)&&(p.state==2)<;>rfl
def aFg{l:aa cD}(w:aa Bool)(hl:l.length<1073741823)(O:jq l=true)(hw:l.length=w.length){i:Nat}(hi:i<w.length)(U:w.getD i false=true):∃ y t,qQ l w=some (y,t)/\0<=t/\w.getD t.toNat false=true:=by
 unfold qQ xA xC bw xL xZ;have hb:=ur (λi=>w.getD i false) (λi=>(l.getD i ⟨0,0⟩).fF) (min l.length w.length);have Y:(gE l).length=l.length:=by simp[gE]
 have iT:=ur (λi=>w.getD i false) (λi=>((gE l).getD i ⟨0,0⟩).fF) (min (gE l).length w.length);have hm:=HS (λi=>w.getD i false) (λi=>(l.getD i ⟨0,0⟩).fF) (min l.length w.length);have wO:=HS (λi=>w.getD i false) (λi=>((gE l).getD i ⟨0,0⟩).fF) (min (gE l).length w.length);have h0:=NT (may:=λi=>w.getD i false) (λi=>(l.getD i ⟨0,0⟩).fF) (i:=i) U (min l.length w.length) (by omega);rw[kJ,EH l w (by omega),ak,HF _ (by omega),ak,O,bG,av,List.length_nil,fB,cF,aq];unfold qa;generalize hr:lT (λi=>w.getD i false) (λi=>(l.getD i ⟨0,0⟩).fF) (min l.length w.length)=b at *
 have I:=hm.resolve_left (by omega);have C:b.toNat<l.length:=by omega
 rw[aZ,av,aC ⟨by omega,C⟩,aC C];dsimp only;cases l[b.toNat].fF==0 with
 | false=>
  rw[av,aC ⟨by omega,C⟩,aC C,aC ⟨by omega,C⟩,aC C];exact⟨_,_,rfl,h0,I⟩
 | true=>
  rw[aq,TU l w (by omega),ak];simp only[dH];rw[EH _ w (by omega),ak];have E:0<=qa (gE l) w:=NT _ (i:=b.toNat) I _ (by rw[Y];omega);have hq:qa (gE l) w<((min (gE l).length w.length:Nat):Int):=iT.2;have D:(qa (gE l) w).toNat<(gE l).length:=by omega
  rw[aC ⟨E,D⟩,aC D,aC ⟨E,D⟩,aC D];exact⟨_,_,rfl,E,wO.resolve_left (λe=>by have e:qa (gE l) w = -1:=e;omega)⟩
def zV(n R:Nat)(t:cq):Prop:=∃f:Nat->Nat,qf R t f/\∀r,r<R->f r<=n
def zV.up{n R:Nat}{t:cq}(h:zV n R t):zV (n+1) R t:=by
 obtain⟨f,C,D⟩:=h;exact⟨f,C,λr E=>Nat.le_succ_of_le (D r E)⟩
def anR{c:ax}{i:Int}(h:kX c ou i=true):False:=by
 simp only[kX,aP]at h;exact absurd (rX h.1).2.1.1 (by decide)
def anS(a k:Nat)(O:a<4294967296)(C:k<8):xO (a:Int) k=((a / 16 ^ k % 16:Nat):Int):=by
 have D:(2:Nat) ^ (4*k)=16 ^ k:=by rw[Nat.pow_mul]
 have E:(a:Int).fdiv (2 ^ (4*k))=((a / 16 ^ k:Nat):Int):=by
  have I:(2:Int) ^ (4*k)=((2 ^ (4*k):Nat):Int):=by push_cast;rfl
  rw[I,Int.fdiv_eq_ediv_of_nonneg _ (Int.natCast_nonneg _),D];rfl
 unfold xO;rw[aa1 k C,E,amG _ (Nat.lt_of_le_of_lt (Nat.div_le_self _ _) (by omega))]
def abp(x:Int):∀ n k,k<n->(jt x n).getD k 0=xO x k
 | n+1,k,h=>by
  show (jt x n++[xO x n]).getD k 0=_;have hl:=HX x n;by_cases e:k=n
  ·subst e;rw[cV,List.getElem?_append_right (by omega),hl,Nat.sub_self];rfl
  ·rw[cV,List.getElem?_append_left (by omega),<-cV];exact abp x n k (by omega)
def aFh{a b:Nat}(D:a<4294967296)(hb:b<4294967296)(h:jt (a:Int) 8=jt (b:Int) 8):a=b:=by
 have key:∀ k,k<8->a / 16 ^ k % 16=b / 16 ^ k % 16:=λk C=>by
  have e:(jt (a:Int) 8).getD k 0=(jt (b:Int) 8).getD k 0:=by rw[h]
  rw[abp _ 8 k C,abp _ 8 k C,anS a k D C,anS b k hb C]at e;exact Int.ofNat_inj.1 e
 have E:=key 0 (by omega);have I:=key 1 (by omega);have O:=key 2 (by omega);have U:=key 3 (by omega);have Y:=key 4 (by omega);have k5:=key 5 (by omega);have k6:=key 6 (by omega);have k7:=key 7 (by omega);simp only[Nat.reducePow,Nat.div_one]at E I O U Y k5 k6 k7;omega
def uB(x:Int):bQ:=⟨B5 x,false⟩
def aFi{x:Int}(D:0<=x)(E:x<=4294967295):Sy (uB x).symbols/\nL (uB x)=0/\sg (uB x)=uB x/\B6 (uB x)=x:=by
 obtain⟨_,I,w,Y,e2,e3,e4,e5⟩:=EL D E;have en:nw (uB x)=w:=by
  obtain⟨n1,_,_⟩:=NY (c:=uB x) I;exact T1 (n1.trans Y)
 have C:gD (nw (uB x))=(w,0,-1):=by rw[en];exact aB6 e5
 refine⟨I,?_,?_,?_⟩
 ·unfold nL;rw[C];rfl
 ·unfold sg;rw[C];rfl
 ·unfold B6 zS;rw[C];show wv (bz (w.drop 3)) 8=x;obtain⟨O,hl⟩:eo (w.drop 3)/\(w.drop 3).length=8:=⟨λy hy=>e3 y (List.mem_of_mem_drop hy),by rw[List.length_drop];omega⟩
  obtain⟨b0,b1⟩:=amJ O hl;have hb:=amI O hl;obtain⟨a,ha⟩:=dV D;obtain⟨b,U⟩:=dV b0;rw[U,e4]at hb;rw[U]at b1 ⊢;rw[ha]at hb E ⊢;rw[aFh (by omega) (by omega) hb]
def Mm(m:Nat->Int)(l:aa bQ):Prop:=∀(i:Nat) (h:i<l.length),l[i]=uB (m i)/\0<=m i/\m i<=4294967295
def Mm.sg{m:Nat->Int}{l:aa bQ}(h:Mm m l){n:Nat}(C:n<l.length):Proofs.YtdfkhfiglknaoaaGreat.sg l[n]=l[n]/\nL l[n]=0/\B6 l[n]=m n:=by
 obtain⟨e,D,E⟩:=h n C;obtain⟨_,I,O,U⟩:=aFi D E;rw[e];exact⟨O,I,U⟩
def Ik(m:Nat->Int)(n:Nat)(x:Int)(i:Nat):Int:=if i=n then x else m i
def Mm.put{m:Nat->Int}{l:aa bQ}(h:Mm m l){n:Nat}{x:Int}(C:0<=x/\x<=4294967295):Mm (Ik m n x) (l.set n (uB x)):=λi hi=>by
 rw[ki]at hi;rw[List.getElem_set];by_cases e:n=i
 ·subst e;rw[bg rfl,show Ik m n x n=x from bg rfl];exact⟨rfl,C⟩
 ·rw[bk e,show Ik m n x i=m i from bk λD=>e D.symm];exact h i hi
def Kpt(g:aG)(l:jh)(R:Nat)(a:cJ):Prop:=∀b r:Nat,(b:Int)<aU g->r<R->a.bu.getD (b*R+r) 0<=l.bu/\a.bq.getD (b*R+r) 0+1<=l.bq
def anT{g:aG}{l:jh}{R:Nat}(C:g.rows=(R:Int)){a:cJ}{b r:Nat}(E:a.bu.getD (b*R+r) 0<=l.bu)(I:a.bq.getD (b*R+r) 0<=l.bq):(qY g l a (b:Int) (r:Int)).cells=a.cells:=by
 have D:((b:Int)*g.rows+(r:Int)).toNat=b*R+r:=by rw[C,<-Int.natCast_mul];omega
 unfold qY;dsimp only;rw[D];have:vD l a (b*R+r)=false:=by
  unfold vD;rw[aZ,aZ];rfl
 rw[this];rfl
def abq{g:aG}{l:jh}{R:Nat}(C:g.rows=(R:Int)){a:cJ}{B:Nat}(h:∀ r,r<R->a.bu.getD (B*R+r) 0<=l.bu/\a.bq.getD (B*R+r) 0+1<=l.bq)(O:0<=l.bu):∀ n,n<=R->(gJ g l a (B:Int) n).cells=a.cells/\∀ r,n<=r->r<R->(gJ g l a (B:Int) n).bu.getD (B*R+r) 0<=l.bu/\(gJ g l a (B:Int) n).bq.getD (B*R+r) 0<=a.bq.getD (B*R+r) 0+if r=n then 1 else 0
 |0,_=>⟨rfl,λr _ D=>⟨(h r D).1,by show a.bq.getD (B*R+r) 0<=_;split<;>omega⟩⟩
 | n+1,hn=>by
  obtain⟨i1,U⟩:=abq C h O n (by omega);have e:gJ g l a (B:Int) (n+1)=qY g l (gJ g l a (B:Int) n) (B:Int) (n:Int):=qd _ _ _;have Y:=U n (dc _) (by omega);rw[bg rfl]at Y;have hk:=h n (by omega)
  refine⟨by rw[e,anT C Y.1 (by omega)];exact i1,λr h1 D=>?_⟩
  have iL:=U r (by omega) D;rw[bk]at iL;have ei:((B:Int)*g.rows+(n:Int)).toNat=B*R+n:=by rw[C,<-Int.natCast_mul];omega
  rw[e];refine⟨?_,?_⟩
  ·show ((gJ g l a (B:Int) n).bu.set ((B:Int)*g.rows+(n:Int)).toNat 0).getD (B*R+r) 0<=l.bu;rw[Oa];split
   ·exact O
   ·exact iL.1
  ·show (pZ g.rows (n:Int) ((B:Int)*g.rows+(n:Int)).toNat (gJ g l a (B:Int) n).bq).getD (B*R+r) 0<=_;rw[ei,C];have E:=abo (R:=R) (B:=B) (row:=n) (b:=B) (r:=r) (by omega) D (gJ g l a (B:Int) n).bq;rw[bk]at E;by_cases I:r=n+1
   ·rw[bg ⟨rfl,.inr I⟩]at E;rw[bg I];omega
   ·rw[bk]at E;rw[bk I];omega
def anU{g:aG}{l:jh}{R:Nat}(D:g.rows=(R:Int)){a:cJ}(h:Kpt g l R a)(E:0<=l.bu):∀ n:Nat,(n:Int)<=aU g->(qe g l a n).cells=a.cells/\∀ b r:Nat,n<=b->(b:Int)<aU g->r<R->(qe g l a n).bu.getD (b*R+r) 0<=l.bu/\(qe g l a n).bq.getD (b*R+r) 0+1<=l.bq
 |0,_=>⟨rfl,λb r _ hb C=>h b r hb C⟩
 | n+1,hn=>by
  obtain⟨O,I⟩:=anU D h E n (by omega);have er:g.rows.toNat=R:=by omega
  rw[anM,er];have U:=abq D (a:=qe g l a n) (B:=n) (λr C=>I n r (dc _) (by omega) C) E R (dc _)
  refine⟨U.1.trans O,λb r h1 hb C=>?_⟩
  have Y:=I b r (by omega) hb C;have hh:=(Uq D l (qe g l a n) n R (dc _) b r C).1 (by omega);refine⟨?_,by omega⟩;rcases Un g l (qe g l a n) (n:Int) R (b*R+r)with e|e
  ·rw[e];exact Y.1
  ·rw[e];exact E
def Us(m m':Nat->Int)(j y:ax):Prop:=∃ (i:Nat) (h:i<j.queue.length),y.queue=j.queue.take i++j.queue.drop (i+1)/\
 bif j.queue[i].write then m'=Ik m (eJ j.config.au (dL j j.queue[i].line)) j.queue[i].data/\y.bP=j.bP++[⟨j.queue[i].id,j.now,0,0⟩]
 else m'=m/\y.bP=j.bP++[⟨j.queue[i].id,j.now,m (eJ j.config.au (dL j j.queue[i].line)),0⟩]
def Mm.acc{m:Nat->Int}{j:ax}{x:aF}{i:Nat}(h:Mm m j.array.cells)(C:oY j i 100000):∃ m',Mm m' (gK (cw j x) i).array.cells/\(gK (cw j x) i).errors=j.errors/\Us m m' j (gK (cw j x) i):=by
 have hi:=C.i;obtain⟨f1,f3,D,_⟩:=C.facts (cQ hi);have E:(cw j x).queue.getD i oX=j.queue[i]:=gu _ hi;have I:=C.d _ (cQ hi);unfold gK;rw[E];dsimp only;cases hw:j.queue[i].write with
 | true=>
  refine⟨Ik m (eJ j.config.au (dL j j.queue[i].line)) j.queue[i].data,h.put I,rfl,i,hi,rfl,?_⟩;rw[hw];exact⟨rfl,rfl⟩
 | false=>
  obtain⟨O,U,Y⟩:=h.sg D;have hg:(cw j x).array.cells.getD (eJ (cw j x).config.au (dL (cw j x) j.queue[i].line)) vQ=j.array.cells[eJ j.config.au (dL j j.queue[i].line)]:=gu _ D;rw[av,hg,O,U,Y];refine⟨m,?_,rfl,i,hi,rfl,?_⟩
  ·show Mm m (j.array.cells.set (eJ j.config.au (dL j j.queue[i].line)) j.array.cells[eJ j.config.au (dL j j.queue[i].line)]);rw[List.set_getElem_self];exact h
  ·rw[hw];exact⟨rfl,rfl⟩
def abr{c:ax}{x:aF}{i:Int}(C:1<=x.kind/\x.kind<=9):(cS c x i).box=c.box/\(cS c x i).aR.idle=c.aR.idle/\(cS c x i).spare=c.spare:=by
 have acc:∀ i:Nat,(gK (cw c x) i).box=c.box/\(gK (cw c x) i).aR.idle=c.aR.idle/\(gK (cw c x) i).spare=c.spare:=λi=>by
  unfold gK;dsimp only;cases ((cw c x).queue.getD i oX).write<;>exact⟨rfl,rfl,rfl⟩
 unfold cS;rcases kinds C with q|q|q|q|q|q|q|q|q<;>rw[q]<;>simp only[Int.reduceBEq,Int.reduceBNe,aq,av,Bool.or_true,Bool.or_false,Bool.true_or,Bool.false_or,Bool.or_self]
 ·exact⟨rfl,rfl,rfl⟩
 ·exact acc _
 ·exact acc _
 ·exact⟨rfl,rfl,rfl⟩
 ·exact⟨rfl,rfl,rfl⟩
 ·exact⟨rfl,Ur _ _ _,rfl⟩
 ·exact⟨rfl,Ur _ _ _,rfl⟩
 ·exact⟨rfl,Ur _ _ _,rfl⟩
 ·exact⟨rfl,Ur _ _ _,rfl⟩
def aFj{c:ax}{q:aN}(h:c.queue=[q]):cR c 0=dL c q.line:=by
 unfold cR gv;rw[h];rfl
def anV{q:aN}{l:aa aN}(hl:l=[q]){i:Nat}(hi:i<l.length):i=0/\l[i]=q/\l.take i++l.drop (i+1)=[]:=by
 subst hl;have:i=0:=by have:i<1:=hi;omega
 subst this;exact⟨rfl,rfl,rfl⟩
def aFk{c y:ax}(C:y.config=c.config)(D:y.spare=c.spare)(l:Int):dL y l=dL c l:=by
 unfold dL;rw[C,D]
def aFl{p:aN->Bool}{q:aa aN}{r:aN}(h:∀ x∈q,p x=false):jE p q r=q++[r]:=by
 have e:gp p q=q.length:=by
  unfold gp;rw[List.findIdx?_eq_none_iff.2 h];rfl
 unfold jE;rw[e,iR,List.drop_length,List.append_nil]
def aFm{n:Int}{q:aa aN}{r:aN}(h:gW n q=true)(hl:q.length<12)(E:nH n r=true)(C:∀ x∈q,dD x r=true/\x.id≠r.id):gW n (q++[r])=true:=by
 unfold gW at h ⊢;rw[aP,ck]at h ⊢
 refine⟨λi hi=>?_,aW (by simp;omega)⟩
 have hi:i<q.length+1:=by simpa using hi
 by_cases c:i<q.length
 ·have D:=h.1 i (ga.2 c);unfold qV at D ⊢;rw[List.getElem?_append_left c,List.getElem?_append_left (by omega),List.take_append_of_le_length (by omega)];exact D
 ·obtain rfl:i=q.length:=by omega
  unfold qV;rw[List.getElem?_append_right (dc _),Nat.sub_self,List.take_left];have I:(q.any λx=>x.id==r.id)=false:=mz.2 λx O=>by simpa using (C x O).2
  simp only[List.getElem?_cons_zero,E,I,jx,Bool.and_true,cC];cases U:q.length with
  |zero=>rfl
  | succ k=>
   rw[Nat.add_sub_cancel,List.getElem?_append_left (by omega),bT (by omega)];rw[eN];exact .inr (C _ (cQ (by omega))).1
def aFn{c:ax}{N:Int}(C:Rv c N){r:aN}(E:N<r.id):∀ x∈c.queue,dD x (nI c r)=true/\x.id≠(nI c r).id/\dD (nI c r) x=false:=λx D=>by
 obtain⟨I,O⟩:=C.1 x D;refine⟨?_,by show x.id≠r.id;omega,?_⟩
 ·unfold dD nI;by_cases e:x.at_=c.now
  ·simp only[eN,aP,fU,eZ];exact .inr ⟨e,by omega⟩
  ·simp only[eN,aP,fU,eZ];exact .inl (by omega)
 ·unfold dD nI;simp only[o5,Bool.and_eq_false_iff,qh,beq_eq_false_iff_ne];exact⟨by omega,.inr (by omega)⟩
def uC(c:ax)(r:aN):ax:={ c with queue:=c.queue++[nI c r] }
def anW{c:ax}{N:Int}(D:dK c=true)(E:Rv c N){r:aN}(O:N<r.id)(hl:c.queue.length<12)(U:nH (dU (cX c.config.au c.spare)) (nI c r)=true):nJ c r=(uC c r,true):=by
 have hb:=aFn E O;have I:=(Ck.of D).qu;have Y:jE (λx=>dD (nI c r) x) c.queue (nI c r)=c.queue++[nI c r]:=aFl λx C=>(hb x C).2.2
 have h2:(c.bP.any λx=>x.id==r.id)=false:=mz.2 λx C=>by
  have:=E.2 x C;simp only[eZ];omega
 unfold nJ mq zP;rw[Y,I,aFm I hl U λx C=>⟨(hb x C).1,(hb x C).2.1⟩,D,h2];rfl
def aFo:uB 0=ES:=by
 obtain⟨e,_⟩:=EL (x:=0) (by decide) (by decide);rw[anr]at e;injection e with e;unfold uB ES;rw[e]
def Mm.new(g:aG):Mm (λ_=>0) (ET g).cells:=λi h=>by
 refine⟨?_,by dsimp only;omega,by dsimp only;omega⟩;rw[aFo];have C:i<(List.replicate (dU g).toNat ES).length:=h;exact List.getElem_replicate C
def v7:aN:=⟨0,0,0,false,0,0⟩
def o4:dz:=⟨0,0,0,0,0,[],⟨0,0⟩⟩
def WtN(a:fV):Prop:=a.fo.weights.length<=1048576/\(a.kind=2->a.n<=40)
def aFp{b:aa Int}{c:bO}(O:lN b c){x:dP}(hx:lR x)(i:Int):Dr b (QE c x i) WtN:=by
 have U:=Ii hx.1;have gb:=fJ U;unfold QE;rw[Ef,ak,bk,O.eq];dsimp only
 refine(fS O 12).bind λD k2 h2 C=>?_
 dsimp only;rw[C.eta];have Y:∀ l:aa Int,0<l.length->(∀ x∈l,x<=40)->Dr b ((A6 k2 l).bind λE=>some ((⟨(2:Int),⟨(0:Int),(0:Int),(0:Int),false,(0:Int),(0:Int)⟩,E.1,(0:Int),⟨(0:Int),(0:Int),(0:Int)⟩,⟨(0:Int),(0:Int),(0:Int),(0:Int),(0:Int),[],⟨(0:Int),(0:Int)⟩⟩⟩:fV),((⟨b,E.2.1.i,E.2.1.h⟩:bO),()))) WtN:=λl hl h40=>by
  refine(Tn C l hl).bind λy k hy hk=>?_
  dsimp only;rw[hk.eta];exact Dr.pure hk ⟨by show (0:Nat)<=1048576;omega,λ_=>h40 _ hy⟩
 cases h0:D==(0:Int)with
 | true=>
  rw[aq,aq];exact Y _ (by simp) (by decide)
 |false=>
 rw[av];cases h1:D==(1:Int)with
 | true=>
  rw[aq];exact Y _ (by simp) (by decide)
 |false=>
 rw[av];cases D==(2:Int)with
 | true=>
  rw[aq]
  refine(aAz C U).bind λy5 k5 h5 sX=>?_
  dsimp only;rw[sX.eta]
  refine(fS sX 11).bind λy6 k6 h6 BY=>?_
  dsimp only;rw[BY.eta]
  refine(fS BY 16).bind λy7 k7 h7 BZ=>?_
  dsimp only;rw[BZ.eta];exact Dr.pure BZ ⟨by show (0:Nat)<=1048576;omega,λh=>absurd (show (3:Int)=2 from h) (by decide)⟩
 |false=>
 rw[av];cases D==(3:Int)with
 | true=>
  rw[aq]
  refine(Tn C _ (by simp)).bind λy8 k8 h8 NN=>?_
  dsimp only;rw[NN.eta]
  refine(fS NN 2).bind λy9 k9 h9 xH=>?_
  rw[pW,ak];dsimp only;rw[xH.eta]
  refine(fS xH _).bind λfR GO uf anX=>?_
  dsimp only;rw[anX.eta]
  refine(fS anX _).bind λgC Y6 rT anY=>?_
  dsimp only;rw[anY.eta]
  refine(alS anY).bind λgU zp qW anZ=>?_
  dsimp only;rw[anZ.eta];have hl:=(zU qW).2.2;exact Dr.pure anZ ⟨by show gU.weights.length<=1048576;omega,λ_=>by show y9<=40;have:=h9.2.2 (by decide);omega⟩
 |false=>
 rw[av]
 refine(aEV C _).bind λiH Y5 vL an0=>?_
 dsimp only;rw[an0.eta]
 refine(To an0 2).bind λiI GN xF I=>?_
 dsimp only;rw[I.eta];cases iI with
 | true=>
  rw[aq]
  refine(fS I 3).bind λny GM nt an1=>?_
  dsimp only;rw[an1.eta];exact Dr.pure an1 ⟨by show (0:Nat)<=1048576;omega,λh=>absurd (show (1:Int)=2 from h) (by decide)⟩
 |false=>exact Dr.pure I ⟨by show (0:Nat)<=1048576;omega,λh=>absurd (show (1:Int)=2 from h) (by decide)⟩
def aFq{b:aa Int}{c:bO}(C:lN b c):Dr b (QH c) λ_=>True:=by
 unfold QH xA xZ;rw[C.eq]
 refine(alT C).bind λx k1 O D=>?_
 dsimp only;rw[D.eta]
 refine(fS D 40).bind λy k2 h2 E=>?_
 dsimp only;rw[E.eta]
 refine(aFp E O _).bind λa k3 U I=>?_
 dsimp only;rw[I.eta];have hw:a.fo.weights.length<=1048576:=U.1;have Y:bE (([]:aa Int).length+([]:aa Int).length)=true:=by decide
 have JW:bE (([]:aa Int).length+a.fo.weights.length)=true:=cF (by rw[List.length_nil];omega);have hz5:bE (([a.fo.eG,a.fo.cap,a.fo.eC,a.fo.low,a.fo.high]:aa Int).length+a.fo.weights.length)=true:=cF (by simp only[mU,List.length_nil];omega);have hz7:bE (([a.fo.eG,a.fo.cap,a.fo.eC,a.fo.low,a.fo.high]++a.fo.weights:aa Int).length+([a.fo.de.down,a.fo.de.sleep]:aa Int).length)=true:=cF (by simp only[oy,mU,List.length_nil];omega);have hz8:bE (([]++a.fo.weights:aa Int).length)=true:=cF (by rw[kJ];omega);cases a.kind==1<;>cases a.kind==2<;>cases a.kind==3<;>cases a.kind==4<;>cases a.kind==5<;>cases a.kind==6<;>cases a.kind != 5<;>cases a.request.write<;>simp only[aq,av,bG,jx,Y,JW,hz5,hz7]<;>exact Dr.pure I trivial
def aFr(l:aa Int)(h:l.length<=1073741823):∃ c p aT,QJ l=some (c,p,aT)/\lR c/\tu p:=by
 unfold QJ bw;obtain⟨h0,e0⟩:=aks l h;obtain⟨x,k,C,Y,hx⟩:=alT (akt l h0 h);obtain⟨p,O,e2,mJ,hp⟩:=alS Y;generalize (⟨⟨(0:Int),(0:Int),(0:Int),(0:Int)⟩,⟨(0:Int),(0:Int),(0:Int),(0:Int),(0:Int),(0:Int),(0:Int),(0:Int),(0:Int),(0:Int),(0:Int),(0:Int),(0:Int),(0:Int),(0:Int),(0:Int),(0:Int)⟩,⟨(0:Int),false⟩,(0:Int),(0:Int),(0:Int),⟨(0:Int),(0:Int)⟩⟩:dP)=D;obtain⟨z,e,aT,rfl⟩:=akp (step:=Kg) 10 (λk s=>∃ (E:bO) (aT:aa fV),lN l E/\aT.length=k/\s=(((),(),(),(),(),(),(k:Int),()),(D,((0:Int),(0:Int),(0:Int),(0:Int),(0:Int),(),(0:Int),(0:Int),()),(l,E.i,E.h,()),x,(p.eG,p.cap,p.eC,p.low,p.high,(),p.de.down,p.de.sleep,()),aT,([]:aa Int),p.weights,())))
  (λz=>∃aT:aa fV,z = .inl (((),(),(),(),(),()),(D,((0:Int),(0:Int),(0:Int),(0:Int),(0:Int),(),(0:Int),(0:Int),()),x,(p.eG,p.cap,p.eC,p.low,p.high,(),p.de.down,p.de.sleep,()),aT,([]:aa Int),p.weights,()))) aV (x:=(((),(),(),(),(),(),(0:Int),()),(D,((0:Int),(0:Int),(0:Int),(0:Int),(0:Int),(),(0:Int),(0:Int),()),(l,O.i,O.h,()),x,(p.eG,p.cap,p.eC,p.low,p.high,(),p.de.down,p.de.sleep,()),([]:aa fV),([]:aa Int),p.weights,()))) ⟨O,[],mJ,rfl,rfl⟩ (by
  rintro k hkk s ⟨E,aT,I,hl,rfl⟩;unfold Kg az xG;dsimp only;rw[I.eta];obtain⟨y1,k1,C,U,h1⟩:=fS I 10;rw[C,ak];dsimp only;by_cases dQ:(k:Int)<y1
  ·obtain⟨y2,k3,e3,n6,_⟩:=aFq U;rw[aW dQ,aq,U.eta,e3,ak];dsimp only;rw[cF (by rw[mV];omega),aq,bI];exact .inl ⟨_,rfl,k3,aT++[y2],n6,by rw[oy,mV,hl],rfl⟩
  ·rw[aZ dQ,av];exact .inr ⟨_,rfl,aT,rfl⟩) (by
  rintro s ⟨E,aT,I,hl,rfl⟩;unfold Kg az xG;dsimp only;rw[I.eta];obtain⟨y1,k1,C,U,h1⟩:=fS I 10;have h31:=h1.2.2 (by omega);rw[C,ak];dsimp only;rw[aZ,av];exact⟨_,rfl,aT,rfl⟩) (bM)
 refine⟨x,p,aT,?_,hx,hp⟩;rw[e0,ak,C,ak];dsimp only;rw[Y.eta,e2,ak];dsimp only;exact(bC (λo=>Option.bind o _) e).trans rfl
def aFs{c:ax}(D:dJ c)(E:dK c=true):2<=dU (cX c.config.au c.spare):=by
 have I:=Pq.of D E;obtain⟨O,hg,C,eb,s1,s2,s3,s4⟩:=EI I.sp;have gb:=fJ C;have hb:=Ed C;have U:2<=(cX c.config.au c.spare).rows:=by rw[O];exact s3
 have Y:=Int.mul_le_mul (show 1<=aU (cX c.config.au c.spare) by omega) U (by decide) (by omega);have h2:=Int.mul_le_mul Y (show 1<=(cX c.config.au c.spare).aK by omega) (by decide) (by omega);unfold dU;rw[C,aq];omega
def oZ(c:ax):ax:=(Bv c).getD c
def nN(c:ax):Nat->ax
 |0=>c
 |n+1=>oZ (nN c n)
def Ut(j:ax):ah ax:=(GI j.queue true).bind λU=>(GH j.drain U).bind λI=>(Bj (nM j j.box j.shares I j.aR j.cY)).bind λY=>(GJ j.aR Y).bind λO=>(Lk j.box ((j.queue.length:Int)==(0:Int))).bind λC=>bif C.2 then (A9 C.1.cr.weights).bind λgH=>(tZ j.config.au).bind λE=>(zn j.cY E).bind λD=>Uc (nM j C.1 gH.1 ⟨false,C.1.cr.low,C.1.cr.high⟩ O D.1) D.2 else (tZ j.config.au).bind λE=>(zn j.cY E).bind λD=>Uc (nM j C.1 j.shares I O D.1) D.2
def an2{g:aG}{s:dw}{D R:Nat}(h:Sp g s D R)(b r:Int):∃ y,DJ g s b r=some y/\zG g s b r=some y/\(dO (cX g s) ⟨b,r,0⟩=true->0<=y/\y<g.rows):=by
 unfold DJ xI;rw[Eo,ak,abg,ak];cases E:dO (cX g s) ⟨b,r,0⟩with
 |false=>exact⟨-1,rfl,anw h E,λh=>by cases h⟩
 | true=>
  obtain⟨⟨O,a2⟩,U,a4⟩:=(h.ex b r).1 E;obtain⟨b,rfl⟩:=dV O;obtain⟨r,rfl⟩:=dV U;have hb:b<D:=by omega
  have C:r<R:=by omega
  obtain⟨Y,abh,iM,n1,n2⟩:=h.lens hb;obtain⟨hg,oF,eg,eb,h8,nt,mF,hc,HK,_⟩:=h.xT;have I:((s.map.take ((b+1)*R)).drop (b*R))=gj s.map R b:=rfl;have hgy:(gj s.map R b)[r]'(by omega)=s.map.getD (b*R+r) 0:=by
   have:=bT (l:=gj s.map R b) (i:=r) (by omega);rw[Ih C Y]at this;injection this with this;exact this.symm
  obtain⟨w1,w2,w3⟩:=TB h.hR nt h8 hb h.hl;rw[bG,av,w1,w2,bg w3];simp only[bD];rw[aC ⟨by omega,by rw[I,iM];exact C⟩];simp only[bD,I,hgy];exact⟨_,rfl,Uk h hb C,λ_=>h.bound hb C⟩
def xU(m:aa Int)(R b:Nat)(x:Int):Bool:=!(gj m R b).any λe=>e==x
def Uu{g:aG}{s:dw}{D R:Nat}(h:Sp g s D R){b:Nat}(hb:b<D)(x:Int):xU s.map R b x=true ↔ ∀ k,k<R->s.map.getD (b*R+k) 0≠x:=by
 obtain⟨E,_,O,_⟩:=h.lens hb;unfold xU;rw[ij,mz];constructor
 ·intro h k C e;exact h _ (List.mem_iff_getElem?.2 ⟨k,Ih C E⟩) (by rw[e];exact iS _)
 ·intro h y I;obtain⟨k,C⟩:=List.mem_iff_getElem?.1 I;have U:=(eO.1 C).1;rw[Ih (by omega) E]at C;injection C with C;rw[<-C]
  simpa using h k (by omega)
def aFt{g:aG}{s:dw}{O R:Nat}(h:Sp g s O R){b:Nat}(hb:b<O){x:Int}(E:0<=x):∃ y,SY g s (b:Int) x=some y/\decide (y<0)=xU s.map R b x:=by
 have nt:=h.xT.2.2.2.2.2.1;unfold SY bU;obtain⟨z,e,hz⟩:=akp (step:=M6) 16 (λk t=>t=(((b:Int),x,(),(),(k:Int),()),((g.bK,g.aA,g.rows,g.aK,()),(s.bL,s.map,()),()))/\∀ j,j<k->j<R->s.map.getD (b*R+j) 0≠x)
  (λz=>(∃r:Nat,(r<R/\s.map.getD (b*R+r) 0=x)/\z = .inl (((r:Int),()),()))\/(z = .inr (.inl ((),()))/\∀j,j<R->s.map.getD (b*R+j) 0≠x)) aV (x:=(((b:Int),x,(),(),(0:Int),()),((g.bK,g.aA,g.rows,g.aK,()),(s.bL,s.map,()),()))) ⟨rfl,λj D=>by omega⟩ (by
  rintro k hk t ⟨rfl,C⟩;unfold M6 az bx xG;dsimp only;rw[kE,show (⟨s.bL,s.map⟩:dw)=s from rfl,aW (show (k:Int)<16 by omega),aq,aW (show x >= 0 from E),aq];by_cases U:k<R
  ·rw[Uk h hb U,ak];by_cases e:s.map.getD (b*R+k) 0=x
   ·rw[e,iS,aq];exact .inr ⟨_,rfl,.inl ⟨k,⟨U,e⟩,rfl⟩⟩
   ·rw[iw e,av,bI]
    refine .inl ⟨_,rfl,rfl,λj D I=>?_⟩
    by_cases X8:j=k
    ·subst X8;exact e
    ·exact C j (by omega) I
  ·have ha:dO (cX g s) ⟨(b:Int),(k:Int),0⟩=false:=by
    cases E:dO (cX g s) ⟨(b:Int),(k:Int),0⟩with
    |false=>rfl
    |true=>have:=((h.ex (b:Int) (k:Int)).1 E).2;omega
   rw[anw h ha,ak,iw (show ¬ (-1:Int)=x by omega),av,bI];exact .inl ⟨_,rfl,rfl,λj D I=>C j (by omega) I⟩) (by
  rintro t ⟨rfl,C⟩;unfold M6 az bx xG;dsimp only;rw[aZ,av];exact⟨_,rfl,.inr ⟨rfl,λj D=>C j (by omega) D⟩⟩) (bM)
 rw[e,ak];rcases hz with ⟨r,Y,rfl⟩|⟨rfl,C⟩
 ·refine⟨(r:Int),rfl,?_⟩;rw[aZ];cases hf:xU s.map R b x with
  |false=>rfl
  |true=>exact absurd Y.2 ((Uu h hb x).1 hf r Y.1)
 ·refine⟨-1,rfl,?_⟩;rw[(Uu h hb x).2 C];rfl
def ju(g:aG)(b f q:Int)(a:cJ):Nat->cJ
 |0=>a
 |k+1=>⟨(ju g b f q a k).cells.set (eJ g ⟨b,q,(k:Int)⟩) ((ju g b f q a k).cells.getD (eJ g ⟨b,f,(k:Int)⟩) ⟨[],false⟩),(ju g b f q a k).bu,(ju g b f q a k).bq⟩
def aFu{c:ax}(C:dK c=true)(r:aN):(EB c r).1=(nJ c r).2:=by
 unfold EB nJ;rw[C,bG,Bool.false_or];cases (c.bP.any λx=>x.id==r.id)with
 |true=>rw[Bool.or_true];rfl
 |false=>cases (mq c r).2<;>rfl
def uD{α β:Type}{step:α->ah (α⊕β)}{s:α}{z:β}(h:step s=some (.inr z)):iter step aV s=some z:=cI 0 (λ_=>s) z aV (λk C=>absurd C (Nat.not_lt_zero _)) h (bM (by decide))
def uE{α β:Type}{step:α->ah (α⊕β)}{s s':α}{z:β}(C:step s=some (.inl s'))(h:step s'=some (.inr z)):iter step aV s=some z:=
 cI 1 (λk=>if k=0 then s else s') z aV (λk D=>by
  obtain rfl:k=0:=by omega
  exact C) h (bM (by decide))
structure Lo (c:ax):Prop where
 q:Pq c
 p:c.pending=[]
 u:fC 0 c.aS.aJ=[]
 l:c.queue=[]\/∃r,c.queue=[r]/\r.dM=0
def jb(c:ax):Bool:=decide (0<c.queue.length)&&eY c (fZ c 0)
def lU(c:ax):aF×Int:=
 bif c.aR.state != 0 then (bif cA c != 0 then (bif eY c ⟨cA c,0,0,0⟩then (⟨cA c,0,0,0⟩,-1)else (ou,-1))else (ou,-1))else
 bif jb c then (fZ c 0,0)else (ow c (ov c++(mw c++kY c)),-1)
def aFv{c:ax}(h:Lo c)(E:LB c [] (gv c)=some (bif jb c then (fZ c 0,0)else (ou,-1))):RM c=some (lU c):=by
 have I:=h.q.p.R.r4;have O:=Ce c;have hi:=aEm h.q;have C:=aaN h.q.rf;rw[h.u]at hi C;unfold RM bU;rw[C,ak,amf h.q.rf,ak,aCP _ _ _ h.q.de h.q.pw,ak];show (bif c.aR.state != 0 then (bif cA c != 0 then (jZ c ⟨cA c,0,0,0⟩).bind _ else _)else _)=_;unfold lU;cases c.aR.state != 0 with
 | true=>
  rw[aq,aq];by_cases D:cA c=0
  ·rw[D];rfl
  ·rw[gI D,aq,aq,EG h.q.p (NV I (by omega)),ak];cases eY c ⟨cA c,0,0,0⟩<;>rfl
 | false=>
  rw[av,av]
  refine(bC (λo=>Option.bind o _) (uD (z:=.inr (.inl (((),(),(),(),()),(c,((0:Int),(0:Int),(0:Int),(0:Int),()),([]:aa Int),(cA c,(0:Int),(0:Int),(0:Int),()),())))) rfl)).trans ?_
  rw[ak];simp only[Sum.elim_inr,dH];rw[h.p]
  refine(bC (λo=>Option.bind o _) (uD (z:=.inr (.inl (((),(),(),(),()),(c,((0:Int),(0:Int),(0:Int),(0:Int),()),([]:aa Int),(cA c,(0:Int),(0:Int),(0:Int),()),())))) rfl)).trans ?_
  rw[ak];simp only[Sum.elim_inr,dH];rw[aDy h.q,ak,E,ak];cases jb c with
  |true=>rfl
  | false=>
   show ((LH c [] (gv c) ⟨cA c,0,0,0⟩).bind _)=_;rw[hi];rfl
def aFw{c:ax}(h:Lo c):SA c=some []:=by
 have hl:=r5 h.q.rf;have D:∀ (k:Nat) (C:k<c.aS.aJ.length),¬ c.aS.aJ[k] >= 4:=λk C E=>by
  have:=(T6 (l:=c.aS.aJ) (b:=(k:Int)) (by omega) (by omega) 0).2 (by rw[bD,gu _ C];exact E);rw[h.u]at this;cases this
 have e:=cI (step:=MB) c.aS.aJ.length (λk=>((c,(),(k:Int),()),(([]:aa aF),()))) (.inl ((c,(),()),(([]:aa aF),()))) aV (λk C=>by
  unfold MB zD az xG xI;dsimp only;rw[aW (show (k:Int)<(c.aS.aJ.length:Int) by omega),aq,aC ⟨by omega,by omega⟩];simp only[bD];rw[ak,aZ (D k C),av,bI]) (by
  unfold MB az xG;dsimp only;rw[aZ (show ¬ (c.aS.aJ.length:Int)<(c.aS.aJ.length:Int) by omega),av]) (bM)
 rw[cv]at e;unfold SA bw
 refine(bC (λo=>Option.bind o _) e).trans ?_
 rw[ak];simp only[dH]
 refine(bC (λo=>Option.bind o _) (uD (z:=.inl (((),()),(([]:aa aF),()))) ?_)).trans rfl
 unfold ZE az xG xI;dsimp only;rw[h.p];rfl
def aFx{c:ax}(h:Lo c)(ht:c.trace.length<2000)(D:MH c=some (bif jb c then (fZ c 0,0)else (ou,-1))):BF c=some (lU c):=by
 have E:=h.q.p.R.r4;have hw:=Ce c;have I:=aEn h.q;have O:=ani h.q;have U:=anh h.q;unfold BF;rw[aZ (show ¬ (c.trace.length:Int) >= 2000 by omega),av,amg h.q.rf,ak,aCQ _ _ _ h.q.de h.q.pw,ak];have Y:vR c.box.cr.de c.aR (r6 c)=cA c:=rfl;rw[Y];unfold lU;cases c.aR.state != 0 with
 | true=>
  rw[aq,aq];by_cases C:cA c=0
  ·rw[C];rfl
  ·rw[iw C,gI C,av,aq,TT h.q.p (NV E (by omega)),ak];cases eY c ⟨cA c,0,0,0⟩<;>rfl
 | false=>
  rw[av,av,aFw h,ak,anc h.q (by decide) (λx hx=>by cases hx),ak];show (bif false then _ else _)=_;rw[av,D,ak];cases jb c with
  |true=>rfl
  | false=>
   show ((MK c (cA c)).bind _)=_;rw[aEo h.q,ak,anc h.q (by rw[oy,oy];omega) (λx hx=>by
    rcases List.mem_append.1 hx with hx|hx
    ·exact I.2 x hx
    ·rcases List.mem_append.1 hx with hx | hx
     ·exact O.2 x hx
     ·exact U.2 x hx),ak,aEp]
   rfl
def aFy(q:aN):Ze [q] 0=some false:=by kernel_rfl
def an3(q:aN):SC [q] 0=some false:=by kernel_rfl
section
variable {c:ax} {q:aN} {a:aM} (url:aa Int) (Cd:aa aM) (Z:Int×Int×Int×Int×af) (P:Int×Int×Int×Int×Int×(aa Int)×Int×Int×af)
def aFz(C:c.queue=[q]):iter Lx aV ((url,Cd,(),(),(),(),(0:Int),(0:Int),[q],(([q]:aa aN).length:Int),(0:Int),()),(c,Z,P,List.replicate ([q]:aa aN).length false,()))=some (.inl ((url,Cd,(),(),(),(),(bif q.write then 0 else 1),(bif q.write then 1 else 0),()),(c,Z,P,[true],()))):=by
 refine uE (s':=((url,Cd,(),(),(),(),(bif q.write then 0 else 1),(bif q.write then 1 else 0),[q],(1:Int),(1:Int),()),(c,Z,P,[true],()))) ?_ rfl;unfold Lx az xG xI xL;dsimp only;rw[C,aFy];obtain⟨_,_,_,w,_,_⟩:=q;cases w<;>kernel_rfl
def aFA(D:c.queue=[q])(C:oS c.drain=true)(hi:Bp c.aO a=some (kW c.aO a)):iter Ly aV ((url,[a],(),(),(),(),(bif q.write then 0 else 1),(bif q.write then 1 else 0),(),(),(),[q],(([q]:aa aN).length:Int),(0:Int),()),(c,Z,P,[true],List.replicate ([q]:aa aN).length false,List.replicate ([q]:aa aN).length false,([]:aa (Int×Bool)),()))=some (.inl ((url,[a],(),(),(),(),(),(),()),(c,Z,P,[true],[kW c.aO a],(bif kW c.aO a then pO [] a.ay true else []),()))):=by
 refine uE (s':=((url,[a],(),(),(),(),(bif q.write then 0 else 1),(bif q.write then 1 else 0),(),(),(),[q],(1:Int),(1:Int),()),(c,Z,P,[true],[true],[kW c.aO a],(bif kW c.aO a then pO [] a.ay true else []),()))) ?_ rfl;unfold Ly az xG xI xL;generalize kW c.aO a=h at hi ⊢;obtain⟨_,_,_,w,_,_⟩:=q;simp only[Int.toNat_zero,ri,hi,aDw _ _ C,ak];unfold HZ;generalize c.drain.on=b;cases w<;>cases b<;>cases h<;>kernel_rfl
def aFB(h1:c.queue=[q])(O:c.pending=[]){C:aF}{r:Bool}(U:xh c.aO a q.write=some C)(Y:jZ c C=some r)(D:q.dM=0)(E:C.kind=4->kW c.aO a=false):iter LA aV (([],[a],(),(),(),(),(),(),(),(),(),[q],(([q]:aa aN).length:Int),(0:Int),()),(c,Z,P,[true],[kW c.aO a],(bif kW c.aO a then pO [] a.ay true else []),([]:aa aF),List.replicate ([q]:aa aN).length false,List.replicate 4 false,()))=some (.inl (((),(),(),(),(),(),(),()),(c,Z,P,[kW c.aO a],[C],[r],[r,false,false,false],()))):=by
 refine uE (s':=(([],[a],(),(),(),(),(),(),(),(),(),[q],(1:Int),(1:Int),()),(c,Z,P,[true],[kW c.aO a],(bif kW c.aO a then pO [] a.ay true else []),[C],[r],[r,false,false,false],()))) ?_ rfl;unfold LA az xG xI xL;have e:∀b:Int,xe [] b=some false:=λb=>by kernel_rfl
 have e2:∀b:Int,DI [] b=some false:=λb=>by kernel_rfl
 generalize kW c.aO a=h at E ⊢;obtain⟨_,ten,_,w,_,_⟩:=q;have D:ten=0:=D;subst D;simp only[Int.toNat_zero,ri,U,Y,O,ak,e,e2];generalize C.kind=k at E ⊢;by_cases I:k=4
 ·subst I;obtain rfl:=E rfl;cases r<;>(show _=_)<;>kernel_rfl
 ·rw[iw I];generalize (k==(1:Int))=k1;cases k1<;>cases r<;>(show _=_)<;>kernel_rfl
def aFC(t:Int)(iZ:aa Bool)(C:aa aF)(r:Bool):iter RL aV (((),(),(),(),(),(),t,[q],(([q]:aa aN).length:Int),(0:Int),()),(c,Z,P,iZ,C,[r],()))=some (.inl (((),(),(),(),(),(),()),(c,Z,P,iZ,C,[r&&q.dM==t],()))):=by
 refine uE (s':=(((),(),(),(),(),(),t,[q],(1:Int),(1:Int),()),(c,Z,P,iZ,C,[r&&q.dM==t],()))) ?_ rfl;cases r<;>kernel_rfl
def aFD(C iZ:Bool){cap now:Int}(E:0<=cap/\cap<=1000000)(I:0<=now/\now<=1000000):GU [q] [C] [iZ] cap now=some (bif C then 0 else -1):=by
 unfold GU bU;rw[dy,ak,bA.2 E,dy,ak,bA.2 I,bG,av,av];cases C with
 |false=>kernel_rfl
 | true=>
  obtain⟨i,te,O,wr,U,t⟩:=q;by_cases D:t<=W6 (now-cap)
  ·rw[uD (z:=.inl (((0:Int),()),())) (by
    unfold RJ az bx xG xI;dsimp only[Int.toNat_zero,List.getElem_cons_zero];rw[aW D];kernel_rfl)]
   rfl
  ·rw[uE (s':=(([true],[iZ],cap,now,0,bif iZ then 0 else -1,[⟨i,te,O,wr,U,t⟩],1,1,()),())) (z:=.inr (.inl (((0:Int),(bif iZ then 0 else -1:Int),()),()))) (by
    unfold RJ az bx xG xI;dsimp only[Int.toNat_zero,List.getElem_cons_zero];rw[aZ D];cases iZ<;>kernel_rfl) (by kernel_rfl)]
   cases iZ<;>rfl
def aFE:iter Lx aV (([],[],(),(),(),(),(0:Int),(0:Int),[],(([]:aa aN).length:Int),(0:Int),()),(c,Z,P,List.replicate (([]:aa aN).length:Int).toNat false,()))=some (.inl (([],[],(),(),(),(),0,0,()),(c,Z,P,[],()))):=uD (by kernel_rfl)
def aFF:iter Ly aV (([],[],(),(),(),(),(0:Int),(0:Int),(),(),(),[],(([]:aa aN).length:Int),(0:Int),()),(c,Z,P,[],List.replicate (([]:aa aN).length:Int).toNat false,List.replicate (([]:aa aN).length:Int).toNat false,([]:aa (Int×Bool)),()))=some (.inl (([],[],(),(),(),(),(),(),()),(c,Z,P,[],[],[],()))):=uD (by kernel_rfl)
def aFG:iter LA aV (([],[],(),(),(),(),(),(),(),(),(),[],(([]:aa aN).length:Int),(0:Int),()),(c,Z,P,[],[],[],([]:aa aF),List.replicate (([]:aa aN).length:Int).toNat false,List.replicate (4:Int).toNat false,()))=some (.inl (((),(),(),(),(),(),(),()),(c,Z,P,[],[],[],[false,false,false,false],()))):=uD (by kernel_rfl)
def aFH(t:Int):iter RL aV (((),(),(),(),(),(),t,[],(([]:aa aN).length:Int),(0:Int),()),(c,Z,P,[],[],[],()))=some (.inl (((),(),(),(),(),(),()),(c,Z,P,[],[],[],()))):=uD (by kernel_rfl)
def aFI{cap now:Int}(C:0<=cap/\cap<=1000000)(D:0<=now/\now<=1000000):GU [] [] [] cap now=some (-1):=by
 unfold GU bU;rw[dy,ak,bA.2 C,dy,ak,bA.2 D];kernel_rfl
end
def Lo.one{c:ax}(h:Lo c){q:aN}(D:c.queue=[q]):gv c=[cR c 0]/\xh c.aO (cR c 0) q.write=some (fZ c 0)/\Bp c.aO (cR c 0)=some (kW c.aO (cR c 0))/\cZ c.config.au (fZ c 0)=true/\((fZ c 0).kind=4->kW c.aO (cR c 0)=false)/\jb c=eY c (fZ c 0):=by
 have hl:0<c.queue.length:=by rw[D];exact Nat.zero_lt_succ _
 obtain⟨_,E,I,_,_,U⟩:=N1 h.q hl;have iM:=B8 h.q;have Y:q.write=H6 c.queue 0:=by rw[amN hl];simp[D]
 refine⟨?_,?_,aCW U E I (by omega),aa8 h.q hl,λC=>?_,?_⟩
 ·unfold cR gv;rw[D];rfl
 ·rw[Y];exact aml _ E I (by omega)
 ·unfold fZ oq at C;unfold kW;cases ho:(ez c.aO (cR c 0).ay).open_ with
  |false=>rfl
  | true=>
   rw[ho,bG,av]at C;cases hr:(ez c.aO (cR c 0).ay).row==(cR c 0).row with
   |false=>rfl
   | true=>
    rw[show ((ez c.aO (cR c 0).ay).row != (cR c 0).row)=false by unfold bne;rw[hr];rfl,av]at C;cases O:H6 c.queue 0 with
    |true=>rw[O]at C;exact absurd (show (3:Int)=4 from C) (by decide)
    |false=>rw[O]at C;exact absurd (show (2:Int)=4 from C) (by decide)
 ·unfold jb;rw[aW hl,cC]
def Uv(q:aN):0<=(([q]:aa aN).length:Int)/\(([q]:aa aN).length:Int)<=(([q]:aa aN).length:Int)/\(([q]:aa aN).length:Int)<1073741824:=by
 show (0:Int)<=1/\(1:Int)<=1/\(1:Int)<1073741824;decide
def Uw{l:aa cD}(hl:l.length=4)(D:jq l=true)(r:Bool):∃ y t,qQ l [r,false,false,false]=some (y,t)/\(r=true->t=0):=by
 cases r with
 | false=>
  obtain⟨y,t,e,_⟩:=aaP (l:=l) [false,false,false,false] (by omega) D hl;exact⟨y,t,e,λh=>by cases h⟩
 | true=>
  obtain⟨y,t,e,E,C⟩:=aFg (l:=l) [true,false,false,false] (by omega) D hl (i:=0) (by decide) rfl
  refine⟨y,t,e,λ_=>?_⟩
  obtain⟨k,rfl⟩:=dV E;rw[bD]at C;rcases k with _|_|_|_|k
  ·rfl
  ·cases C
  ·cases C
  ·cases C
  ·rw[cV,qg (by simp)]at C;cases C
def aFJ{c:ax}(h:Lo c):LB c [] (gv c)=some (bif jb c then (fZ c 0,0)else (ou,-1)):=by
 have hc:=h.q.cap;have hn:=h.q.nw;unfold LB bw xL;rcases h.l with C|⟨q,C,I⟩
 ·have O:gv c=[]:=by unfold gv;rw[C];rfl
  have U:jb c=false:=by unfold jb;rw[C];rfl
  have D:(0:Int)<=(([]:aa aN).length:Int)/\(([]:aa aN).length:Int)<=(([]:aa aN).length:Int)/\(([]:aa aN).length:Int)<1073741824:=by decide
  obtain⟨y,t,E,_⟩:=Uw h.q.shl h.q.sh false;rw[C,O,U,bg D,aFE,ak];simp only[dH];rw[C,bg D,bg D,aFF,ak];simp only[dH];rw[C,bg D,bg (by decide),aFG,ak];simp only[dH];rw[E,ak];dsimp only;rw[C,aFH,ak];simp only[dH];rw[C,aFI (by omega) (by omega),ak];rfl
 ·obtain⟨Y,e2,e3,e4,e5,e6⟩:=h.one C;have eq:(([q]:aa aN).length:Int).toNat=([q]:aa aN).length:=rfl;obtain⟨y,t,E,e8⟩:=Uw h.q.shl h.q.sh (jb c);rw[C,bg (Uv q),Y,eq,aFz _ _ _ _ C,ak];simp only[dH];rw[C,bg (Uv q),bg (Uv q),eq,aFA _ _ _ C h.q.dr e3,ak];simp only[dH];rw[C,bg (Uv q),bg (by decide),eq,show (4:Int).toNat=4 from rfl,aFB _ _ C h.p e2 (EG h.q.p e4) I e5,ak];simp only[dH];rw[<-e6,E,ak];dsimp only;rw[C,aFC,ak];simp only[dH];have e9:(jb c&&q.dM==t)=jb c:=by
   cases hr:jb c with
   |false=>rfl
   |true=>rw[e8 hr,I];rfl
  rw[C,e9,aFD _ _ (by omega) (by omega),ak];cases jb c<;>rfl
def aFK{c:ax}(h:Lo c):SE c=some (c.queue.map λ_=>true):=by
 unfold SE bw;rcases h.l with C|⟨q,C,D⟩
 ·rw[uD (step:=D2) (z:=.inl ((c,(0:Int),(0:Int),()),())) (by unfold D2 az xG xI;simp only[C];kernel_rfl),ak];simp only[dH];rw[uD (step:=D3) (z:=.inl (((),()),([],()))) (by unfold D3 az xG xI;simp only[C];kernel_rfl),C];rfl
 ·obtain⟨i,te,E,w,I,t⟩:=q;rw[uE (step:=D2) (s':=((c,(bif w then 0 else 1:Int),(bif w then 1 else 0:Int),(1:Int),()),())) (z:=.inl ((c,(bif w then 0 else 1:Int),(bif w then 1 else 0:Int),()),())) (by unfold D2 az xG xI;simp only[C,an3];cases w <;>kernel_rfl) (by unfold D2 az xG xI;simp only[C];kernel_rfl),ak];simp only[dH];rw[uE (step:=D3) (s':=((c,(bif w then 0 else 1:Int),(bif w then 1 else 0:Int),(),(1:Int),()),([true],()))) (z:=.inl (((),()),([true],()))) (by
   unfold D3 az xG xI;simp only[C,an3,aDx _ _ h.q.dr,Int.toNat_zero,ri,ak];unfold HZ;generalize c.drain.on=b;cases w<;>cases b<;>kernel_rfl) (by unfold D3 az xG xI;simp only[C];kernel_rfl),C]
  rfl
def aFL{q:aN}(C iZ:Bool){cap now:Int}(O:0<=cap/\cap<=1000000)(U:0<=now/\now<=1000000):Hr [q] [C] [iZ] cap now=some (bif C then 0 else -1):=by
 unfold Hr bw;rw[fm,ak,bA.2 O,fm,ak,bA.2 U,bG,av,av];obtain⟨i,te,D,wr,E,t⟩:=q;by_cases I:t<=W6 (now-cap)
 ·rw[uE (step:=Hq) (s':=(([⟨i,te,D,wr,E,t⟩],[C],[iZ],cap,now,(bif C then 0 else -1:Int),(bif C then 3 else 0:Int),(1:Int),()),())) (z:=.inl (((bif C then 0 else -1:Int),()),())) (by
   unfold Hq az xG xI;dsimp only[Int.toNat_zero,List.getElem_cons_zero];simp only[aW I];cases C<;>cases iZ<;>kernel_rfl) (by cases C<;>kernel_rfl)]
  rfl
 ·rw[uE (step:=Hq) (s':=(([⟨i,te,D,wr,E,t⟩],[C],[iZ],cap,now,(bif C then 0 else -1:Int),(bif C then (bif iZ then 2 else 1)else 0:Int),(1:Int),()),())) (z:=.inl (((bif C then 0 else -1:Int),()),())) (by
   unfold Hq az xG xI;dsimp only[Int.toNat_zero,List.getElem_cons_zero];simp only[aZ I];cases C<;>cases iZ<;>kernel_rfl) (by cases C<;>kernel_rfl)]
  rfl
def aFM{cap now:Int}(C:0<=cap/\cap<=1000000)(D:0<=now/\now<=1000000):Hr [] [] [] cap now=some (-1):=by
 unfold Hr bw;rw[fm,ak,bA.2 C,fm,ak,bA.2 D];kernel_rfl
def aFN{c:ax}(h:Lo c){q:aN}(C:c.queue=[q]):SH c [cR c 0] [true] 0=some (jb c):=by
 obtain⟨e1,I,e3,Y,O,e6⟩:=h.one C;have hl:0<c.queue.length:=by rw[C];exact Nat.zero_lt_succ _
 obtain⟨_,D,a3,a4,_,a6⟩:=N1 h.q hl;have iM:=B8 h.q;have NG:=r5 h.q.rf;have U:D4 c.aO (cR c 0)=some (kW c.aO (cR c 0)):=amo a6 D a3 (by omega);have eu:zD c (cR c 0).ay=some false:=by
  rw[amZ (by omega) D a4];congr 1;unfold vV
  refine aZ λhd=>?_
  have:=(T6 (l:=c.aS.aJ) D (by omega) 0).2 hd;rw[h.u]at this;cases this
 have eh:∀b:Int,D1 [] b=some false:=λb=>by kernel_rfl
 rw[e6];unfold SH xI bU;rw[<-amm]at I;simp only[C,h.p,eu,eh,I,TT h.q.p Y,Int.toNat_zero,ri,ak];generalize eY c (fZ c 0)=r;generalize (fZ c 0).kind=k at O ⊢;by_cases E:k=4
 ·subst E;have hh:=O rfl;rw[hh]at U;rw[uE (step:=SG) (s':=((c,[cR c 0],[true],(),(1:Int),()),(((cR c 0).ay,(cR c 0).row,(cR c 0).bV,()),()))) (z:=.inr (.inl ((),()))) (by
   unfold SG az bx xG xI;simp only[U,Int.toNat_zero,ri,ak,iS];kernel_rfl) (by kernel_rfl)]
  generalize decide (W6 (c.now-q.at_) >= c.box.cr.cap)=y;cases r<;>cases y<;>(show _=_)<;>kernel_rfl
 ·rw[gI E,iw E];generalize (k==(1:Int))=k1;cases r<;>cases k1<;>(show _=_)<;>kernel_rfl
def aFO{c:ax}(h:Lo c):MH c=some (bif jb c then (fZ c 0,0)else (ou,-1)):=by
 have hc:=h.q.cap;have hn:=h.q.nw;unfold MH xI bw xL;rw[amP h.q,ak,aFK h,ak,bg (by decide)];rcases h.l with C|⟨q,C,D⟩
 ·have ea:gv c=[]:=by unfold gv;rw[C];rfl
  have es:jb c=false:=by unfold jb;rw[C];rfl
  obtain⟨y,t,E,_⟩:=Uw h.q.shl h.q.sh false;rw[C,ea,es,uD (step:=MF) (z:=.inl ((c,(),(),(),(),(),()),((0,0,0,0,()),[],[],[],[false,false,false,false],()))) (by kernel_rfl),ak];simp only[dH];rw[aaO _ _ (by have:=h.q.shl;omega),E,ak];dsimp only;rw[uD (step:=MG) (z:=.inl ((c,(),(),(),(),()),((0,0,0,0,()),[],[],[],()))) (by kernel_rfl),ak];simp only[dH];rw[C,aFM (by omega) (by omega),ak];rfl
 ·obtain⟨e1,U,e3,e4,e5,e6⟩:=h.one C;obtain⟨y,t,E,e8⟩:=Uw h.q.shl h.q.sh (jb c);have Y:=aFN h C;have hl:0<c.queue.length:=by rw[C];exact Nat.zero_lt_succ _
  obtain⟨_,a2,a3,_,_,a6⟩:=N1 h.q hl;have iM:=B8 h.q;have e9:D4 c.aO (cR c 0)=some (kW c.aO (cR c 0)):=amo a6 a2 a3 (by omega);have I:(jb c&&q.dM==t)=jb c:=by
   cases hr:jb c with
   |false=>rfl
   |true=>rw[e8 hr,D];rfl
  rw[C,e1];rw[<-amm]at U;generalize jb c=r at Y E I ⊢;generalize kW c.aO (cR c 0)=O at e9;obtain⟨i,te,li,w,da,at_⟩:=q;have D:te=0:=D;subst D;rw[uE (step:=MF) (s':=((c,(),(),(),(),(),(),(1:Int),()),((0,0,0,0,()),[cR c 0],[true],[r],[O],[r,false,false,false],()))) (z:=.inl ((c,(),(),(),(),(),()),((0,0,0,0,()),[cR c 0],[r],[O],[r,false,false,false],()))) (by
   unfold MF az xG xI xL;simp only[C,Y,e9,Int.toNat_zero,ri,ak,List.map_cons,List.map_nil];cases r<;>kernel_rfl) (by kernel_rfl),ak]
  simp only[dH];rw[aaO _ _ (by have:=h.q.shl;omega),E,ak];dsimp only;rw[uE (step:=MG) (s':=((c,(),(),(),(),t,(1:Int),()),((0,0,0,0,()),[cR c 0],[r&&(0:Int)==t],[O],()))) (z:=.inl ((c,(),(),(),(),()),((0,0,0,0,()),[cR c 0],[r&&(0:Int)==t],[O],()))) (by
   unfold MG az xG xI xL;simp only[C,Int.toNat_zero,ri];cases r<;>kernel_rfl) (by kernel_rfl),ak]
  simp only[dH];have I:(r&&(0:Int)==t)=r:=I;rw[C,I,aFL _ _ (by omega) (by omega),ak];cases r with
  |false=>rfl
  | true=>
   rw[aq,aq];simp only[C,Int.toNat_zero,ri,U,ak];show _=_;kernel_rfl
def aFP{c:ax}(h:Lo c)(D:¬ (c.trace.length:Int) >= 2000)(hr:c.bP.length<400):(lU c).1.kind=0\/kX c (lU c).1 (lU c).2=true/\(lU c).1.kind≠0:=by
 have hw:=Ce c;unfold lU;cases c.aR.state != 0 with
 | true=>
  rw[aq];by_cases E:cA c=0
  ·rw[E];exact .inl rfl
  ·rw[gI E,aq];cases hb:eY c ⟨cA c,0,0,0⟩with
   |false=>exact .inl rfl
   |true=>exact .inr (anz ⟨NV h.q.p.R.r4 (by omega),by show cA c≠2;omega,by show cA c≠3;omega⟩ hb D)
 | false=>
  rw[av];cases C:jb c with
  | true=>
   unfold jb at C;rw[aP,fU]at C;have hk:=(rX (aa8 h.q C.1)).2.1;have O:(0:Int).toNat<c.queue.length:=C.1;have U:oq c.aO (dL c (c.queue.getD (0:Int).toNat oX).line) (c.queue.getD (0:Int).toNat oX).write=fZ c 0:=by
    unfold fZ;rw[gu _ O];show oq c.aO (dL c c.queue[0].line) c.queue[0].write=_;rw[<-amO C.1 (by rw[B7];exact C.1),T3,amN C.1]
   have Y:N3 (fZ c 0) (fZ c 0)=true:=by
    unfold N3;simp only[iS,Bool.and_self]
   refine .inr ⟨?_,by show (fZ c 0).kind≠0;omega⟩;show kX c (fZ c 0) 0=true;unfold kX Ib;rw[aa8 h.q C.1,C.2,aZ D,U,Y,bA.2 ⟨by omega,by omega⟩,aW (show (c.bP.length:Int)<400 by omega),Bool.or_true];cases (fZ c 0).kind==2 ||(fZ c 0).kind==3<;>rfl
  | false=>
   rw[av];unfold ow;cases I:(ov c++(mw c++kY c)).find? (eY c)with
   |none=>exact .inl rfl
   |some x=>exact .inr (anz (aE3 h.q x (List.mem_of_find?_eq_some I)) (List.find?_some I) D)
def EV(j y:ax):Prop:=((lU j).1.kind=0/\y=j)\/(kX j (lU j).1 (lU j).2=true/\y=cS j (lU j).1 (lU j).2)
def aFQ{x:ax}(C:dJ x)(E:dK x=true)(hl:Pq x->Lo x)(ht:x.trace.length<2000)(D:x.bP.length<400):∃ y,N7 x=some y/\N9 x=some ((),(y,()))/\dJ y/\dK y=true/\EV x y:=by
 have h:=Pq.of C E;have hl:=hl h;have htn:¬ (x.trace.length:Int) >= 2000:=by omega
 unfold N7 N9 vt;rw[BX x C,ak,E,bG,av,aFv hl (aFJ hl),aZ htn,av,ak,aFx hl ht (aFO hl)];simp only[ak];rcases aFP hl htn D with I|⟨O,I⟩
 ·rw[I];exact⟨x,rfl,rfl,C,E,.inl ⟨I,rfl⟩⟩
 ·obtain⟨hb,U,Y,D⟩:=Cb C h O;rw[gI I,aq,aq,aDS h,ak,aDT C h,O,aq,aq,aDI hb U Y (λr D=>aa4 h D),aDH hb U Y];exact⟨_,rfl,rfl,aDQ C hb D U Y,(Ck.iss C (Ck.of E) O).ok,.inr ⟨O,rfl⟩⟩
def aFR{m:Nat->Int}{x:ax}(h:dK x=true)(O:Mm m x.array.cells){n:Int}(hn:n<dU x.config.au):Uc x n=N7 x/\Ud x n=N9 x:=by
 unfold Uc Ud;by_cases D:n >= 0
 ·have E:=fA.vU (Ck.of h).ar;have hl:=E.cells;have hb:=mN x.config.au;obtain⟨j,rfl⟩:=dV D;have C:j<x.array.cells.length:=by omega
  have I:=E.syms _ (cQ C);obtain⟨U,Y,_⟩:=O.sg C;have e:EM x j (sg x.array.cells[j])=x:=by rw[U];exact aa3 C
  rw[aW D,aq,aq,amL C I,ak,amK C I,ak];dsimp only;rw[e,Y];exact⟨rfl,rfl⟩
 ·rw[aZ D];exact⟨rfl,rfl⟩
def aFS{p:fK}(h:kG p=true)(w:Bool):∃ y,GJ p w=some y/\Me p w=some y/\kG y=true/\y.state=p.state/\y.since=p.since/\y.idle=Um w p.idle:=by
 unfold GJ Me Um;rw[Ty,aah,ak,h,bG,av];simp only[kG,aP,bA]at h;cases w with
 |true=>exact⟨_,rfl,rfl,by simp only[kG,aP,bA];omega,rfl,rfl,rfl⟩
 | false=>
  refine⟨_,rfl,rfl,?_,rfl,rfl,?_⟩<;>rw[aY (n:=p.idle+1)]
  ·simp only[kG,aP,bA];split<;>omega
  ·rfl
def iA(c:ax)(d:jy)(p:fK)(u:lZ):ax:=⟨c.config,c.box,c.now+1,c.aO,c.ready,bif c.aO.aR != 2 then Uf c.array else c.array,c.spare,bif c.aO.aR != 2 then xR c.aS c.config.interval else c.aS,c.bH,c.guard,c.pending,c.queue,c.shares,d,p,u,c.errors,c.trace,c.bP⟩
def Jj(c:ax)(o:ah ax)(q:N8):Prop:=∃d p u y,o=some y/\q=some ((),(y,()))/\dJ y/\dK y=true/\dJ (iA c d p u)/\dK (iA c d p u)=true/\p.state=c.aR.state/\p.idle=Um (r6 (iA c d p u)) c.aR.idle/\EV (iA c d p u) y
def an4{m:Nat->Int}{c j:ax}(hz:dJ j)(hk:dK j=true)(hw:j.box.waits=false)(hm:Mm m j.array.cells)(ht:j.trace.length<2000)(hr:j.bP.length<400)(U:∀ d p u,nM j j.box j.shares d p u=iA c d p u)(hp:j.aR=c.aR)(hl:∀ d p u,Pq (iA c d p u)->Lo (iA c d p u)):Jj c (Ut j) (Ue j):=by
 have h:=Ck.of hk;obtain⟨E,z2,z3,z5,z6,z7,z8,z9,jT,oU,oV,mg,oc,rQ⟩:=hz;have p:=ja.of h.pa;have hb:=mN j.config.au;have hLp:1<=dU j.config.au:=by
  have:=bA.1 h.s3;rw[aY (n:=dU j.config.au-1)]at this;omega
 have Y:∀ x,Lk j.box x=some (j.box,false)/\Mj j.box x=some (j.box,false):=λx=>by
  unfold Lk Mj;rw[aaJ j.box E,al2 j.box E,ak,ak];rw[hw];cases x<;>exact⟨rfl,rfl⟩
 obtain⟨n,d1,e1⟩:=aEy j.queue true (by omega);obtain⟨d,d2,e2,hd⟩:=aEz h.dr n;have e3:DV (nM j j.box j.shares d j.aR j.cY)=some (r6 (nM j j.box j.shares d j.aR j.cY)):=amg (c:=nM j j.box j.shares d j.aR j.cY) h.rf;have d3:Bj (nM j j.box j.shares d j.aR j.cY)=some (r6 (nM j j.box j.shares d j.aR j.cY)):=amf (c:=nM j j.box j.shares d j.aR j.cY) h.rf;obtain⟨pw,d4,e4,Ql,I,hp3,C⟩:=aFS h.pw (r6 (nM j j.box j.shares d j.aR j.cY));obtain⟨u,v,d6,e6,Vt,Vu,hu3,hv⟩:=aEA h.s1 h.s2 h.s3 ⟨hLp,by omega⟩;have O:dJ (nM j j.box j.shares d pw u):=⟨E,z2,z3,z5,z6,z7,z8,z9,jT,oU,oV,mg,oc,rQ⟩
 have D:dK (nM j j.box j.shares d pw u)=true:=Ck.ok ⟨h.f1,h.f2,h.nw,h.rk,h.rd,h.ar,h.sp,h.se,h.rf,(show ja (nM j j.box j.shares d pw u)from ⟨p.dl,p.tl,p.gl,p.t,p.g,p.pd,p.u⟩).ok,h.qu,h.sh,h.sl,hd,Ql,I.trans h.ps,by show pw.since<=j.now;rw[hp3];exact h.si,Vt,Vu,hu3,h.er,h.tr,h.rp⟩;obtain⟨y,g1,g2,g3,g4,g5⟩:=aFQ O D (by rw[U];exact hl d pw u) ht hr;obtain⟨g6,g7⟩:=aFR (x:=nM j j.box j.shares d pw u) (n:=v) D hm hv;rw[hp]at I C;have C:pw.idle=Um (r6 (nM j j.box j.shares d pw u)) c.aR.idle:=C;rw[U]at O D g5 C;refine⟨d,pw,u,y,?_,?_,g3,g4,O,D,I,C,g5⟩
 ·unfold Ut;rw[d1,ak,d2,ak,d3,ak,d4,ak,(Y _).1,ak];dsimp only;rw[av,Ee,ak,d6,ak];exact g6.trans g1
 ·unfold Ue;rw[e1,ak,e2,ak,e3,ak,e4,ak,(Y _).2,ak];dsimp only;rw[av,Ef,ak,e6,ak];exact g7.trans g2
def aFT{m:Nat->Int}{c:ax}(C:dJ c)(hk:dK c=true)(hw:c.box.waits=false)(hm:Mm m c.array.cells)(hn:c.now<1000000)(ht:c.trace.length<2000)(D:c.bP.length<400)(hl:∀ d p u,Pq (iA c d p u)->Lo (iA c d p u)):Jj c (Bv c) (D9 c):=by
 have h:=Ck.of hk;have p:=ja.of h.pa;have hnw:=bA.1 h.nw;have w1:c.box.cr.weights.length<=1048576:=C.1.1;have hi:=aEr (p:=c.box.cr) (by omega) h.f1;unfold Bv D9;rw[Ez c C,ak,BX c C,ak,hk,bG,av,aZ (show ¬ c.now >= 1000000 by omega),av,iw (show ¬ c.now=1000000 by omega),av];have e1:W6 (c.now+1)=c.now+1:=aY;show Jj c (bif (c.aO.aR != (2:Int))then (Lg c.aS c.config.interval).bind λE=>(GG c.config.au c.array (1:Int)).bind λI=>Ut (cP (uy (vY c (W6 (c.now+1))) E) I)else Ut (vY c (W6 (c.now+1)))) (bif (c.aO.aR != (2:Int))then (M0 (vY c (W6 (c.now+1))) c.config.interval).bind λE=>(M3 E.2.1 (1:Int)).bind λI=>Ue I.2.1 else Ue (vY c (W6 (c.now+1))));rw[e1];obtain⟨z1,z2,z3,z5,z6,z7,z8,z9,jT,oU,oV,mg,oc,rQ⟩:=C;have key:∀ (r:c8) (a:cJ),fX r=true->r.aJ.length=c.aS.aJ.length->oP c.config.au a=true->dJ (cP (uy (vY c (c.now+1)) r) a)/\dK (cP (uy (vY c (c.now+1)) r) a)=true:=λr a D O ha=>by
  refine⟨⟨z1,z2,z3,EN (fA.vU ha),z6,by have:=z7;unfold HP at this ⊢;show r.aJ.length<=_;omega,z8,z9,jT,oU,oV,mg,oc,rQ⟩,Ck.ok ⟨h.f1,h.f2,bA.2 ⟨by show 0<=c.now+1;omega,by show c.now+1<=_;omega⟩,h.rk,h.rd,ha,h.sp,h.se,D,(show ja (cP (uy (vY c (c.now+1)) r) a)from ⟨by show (r.aJ.length:Int)=_;rw[O];exact p.dl,p.tl,p.gl,p.t,p.g,p.pd,p.u⟩).ok,h.qu,h.sh,h.sl,h.dr,h.pw,h.ps,by show c.aR.since<=c.now+1;have:=h.si;omega,h.s1,h.s2,h.s3,h.er,h.tr,h.rp⟩⟩
 cases hp:c.aO.aR != (2:Int)with
 | true=>
  obtain⟨hr1,O⟩:=aEs h.rf hi;obtain⟨U,Y⟩:=key _ _ hr1 O (aEv h.ar);rw[aq,aq,aEt h.rf hi,ak,aEw h.ar,ak,aEu (c:=vY c (c.now+1)) h.rf hi,ak];dsimp only;rw[aEx (c:=uy (vY c (c.now+1)) (xR (vY c (c.now+1)).aS c.config.interval)) h.ar,ak];exact an4 U Y hw hm ht D (λd p u=>by unfold iA;rw[hp];rfl) rfl hl
 | false=>
  obtain⟨U,Y⟩:=key c.aS c.array h.rf rfl h.ar;exact an4 (j:=vY c (c.now+1)) U Y hw hm ht D (λd p u=>by unfold iA;rw[hp];rfl) rfl hl
structure Er (g:aG) (n A:Int) (bu bq:List Int):Prop where
 a:∀k:Nat,bu.getD k 0<=n
 h:∀b r:Nat,(b:Int)<aU g->r<g.rows.toNat->bq.getD (b*g.rows.toNat+r) 0<=1+A
structure Es (c:ax):Prop where
 eP:c.pending=[]
 eW:c.box.waits=false
 eD:c.aS.dX=false/\c.aS.wait<=c.config.interval/\∃t:Int,(∀b:Nat,c.aS.aJ.getD b 0<=t)/\(t+1)*200<=c.now+c.aS.wait
 eR:Er c.config.au c.now (dG c.trace).length c.array.bu c.array.bq
 eF:∀b:Nat,(b:Int)<aU c.config.au->zV (dG c.trace).length c.config.au.rows.toNat (c.bH.getD b zT)
 eT:Ig c
 eL:(c.trace.length:Int)<=c.now
def Es.edt{c:ax}(h:Es c)(C:lR c.config)(E:c.now<=540)(b:Nat):c.aS.aJ.getD b 0<=2:=by
 obtain⟨_,_,t,D,I⟩:=h.eD;have:=D b;have O:200<=c.config.interval/\c.config.interval<=259:=C.2.2.2.2.1;omega
def Es.epr{c:ax}(h:Es c)(O:dK c=true)(C:lR c.config)(d:jy)(p:fK)(u:lZ):Es (iA c d p u):=by
 have Ui:200<=c.config.interval/\c.config.interval<=259:=C.2.2.2.2.1;have Y:=(Ck.of O).rf;simp only[fX,aP,bA]at Y;obtain⟨h1,h2,⟨I,hw,t,D,h5⟩,U,h7,h8,E⟩:=h
 refine⟨h1,h2,?_,⟨λk=>?_,?_⟩,h7,h8,by show (c.trace.length:Int)<=c.now+1;omega⟩
 ·unfold iA;cases hp:c.aO.aR != 2 with
  |false=>exact⟨I,hw,t,D,by show _<=c.now+1+c.aS.wait;omega⟩
  | true=>
   dsimp only;rw[aq];unfold xR;by_cases C:0<c.aS.wait-1
   ·rw[bg C];exact⟨I,by dsimp only;omega,t,D,by dsimp only;omega⟩
   ·rw[bk C,I]
    refine⟨rfl,jw _,t+1,λb=>?_,by show _<=c.now+1+c.config.interval;omega⟩
    have h0:=D b;have E:=D c.aS.aJ.length;rw[cV,qg (dc _)]at E;have E:0<=t:=E;show (c.aS.aJ.map sq).getD b 0<=_;by_cases hb:b<c.aS.aJ.length
    ·have hd:=EK (Ck.of O).rf _ (cQ hb);rw[anB _ _ hb];rw[gu _ hb]at h0 ⊢;unfold sq;rw[aY (n:=c.aS.aJ[b]+1)];split<;>omega
    ·rw[cV,qg (by rw[fN];omega)];show (0:Int)<=t+1;omega
 ·have:=U.a k;have g:=aE8 c.array.bu k;unfold iA;cases c.aO.aR != 2 with
  |false=>show c.array.bu.getD k 0<=c.now+1;omega
  |true=>show (c.array.bu.map (lO 1)).getD k 0<=c.now+1;omega
 ·unfold iA;cases c.aO.aR != 2<;>exact U.h
def Es.ekp{c:ax}(h:Es c)(C:lR c.config)(E:c.now<=540)(I:(dG c.trace).length<=4){R:Nat}(hR:c.config.au.rows=(R:Int)):Kpt c.config.au c.config.dg R c.array:=λb r hb O=>by
 have U:200<=c.config.interval/\c.config.interval<=259:=C.2.2.2.2.1;have hl:c.config.dg=⟨6*c.config.interval,40⟩:=C.2.2.2.2.2.2;have e:c.config.au.rows.toNat=R:=by omega
 have Y:=h.eR.a (b*R+r);have D:=h.eR.h b r hb (by omega);rw[e]at D;rw[hl];dsimp only;omega
def Es.efn{j:ax}{x:aF}{i:Int}(h:Es j)(hz:dJ j)(E:dK j=true)(hc:lR j.config)(hm:kX j x i=true)(h5:x.kind=5->j.aS.aJ.getD x.ay.toNat 0 >= 1)(hA:x.kind=1->(dG j.trace).length<=1)(hE:(j.trace.length:Int)+1<=j.now):Es (cS j x i)/\(dG (cS j x i).trace).length=if x.kind=1 then (dG j.trace).length+1 else (dG j.trace).length:=by
 have hq:=Pq.of hz E;have p:=ja.of (Ck.of E).pa;obtain⟨_,ha,hs,h4⟩:=Cb hz hq hm;obtain⟨hg,hlen,I,vX⟩:=vH ha;simp only[kX,aP,eY,fU]at hm;obtain⟨m1,⟨m2,_,m3⟩,_⟩:=hm;obtain⟨e1,e2,e3,O⟩:=Ij (c:=j) (x:=x) (i:=i) I;obtain⟨w1,w2,_,_,_,w6⟩:=aFa (c:=j) (x:=x) (i:=i) I (λk=>by have:=vX (by omega);have:=p.dl;omega) h5;obtain⟨b1,_,_⟩:=abr (c:=j) (x:=x) (i:=i) I;obtain⟨q1,_⟩:=aE4 (c:=j) (x:=x) (i:=i) I λq=>(hs q).1.i
 obtain⟨g1,g2,⟨g3,gw,t,g4,g5⟩,U,Y,g8,g9⟩:=h;have gb:=fJ hg;have hrw:j.config.au.rows<=6:=hc.1.2.2.1.2;have N6:j.config.gO=16:=hc.2.2.2.2.2.1;have H9:=p.tl;obtain⟨R,hR⟩:=dV (show 0<=j.config.au.rows by omega);have eR:j.config.au.rows.toNat=R:=by omega
 have zQ:0<=j.now:=by omega
 have ht0:0<=t:=by
  have:=g4 j.aS.aJ.length;rw[cV,qg (dc _)]at this;exact this
 have Od:(dG (cS j x i).trace).length=if x.kind=1 then (dG j.trace).length+1 else (dG j.trace).length:=by
  rw[q1,ann];dsimp only;by_cases k:x.kind=1
  ·rw[k,bg rfl];exact oy
  ·rw[iw k,bk k];rfl
 refine⟨?_,Od⟩;have tok:Ig (cS j x i):=by
  unfold Ig;rw[O,e1,e2,q1];exact xS.add g8 (Ck.of E).rk (Ck.of E).rd m1 m2 m3 ⟨zQ,by have:=bA.1 (Ck.of E).nw;omega⟩
 have mk:(cS j x i).pending=[]->(∀ k:Nat,(cS j x i).array.bu.getD k 0<=j.now)->(∀ b r:Nat,(b:Int)<aU j.config.au->r<R->(cS j x i).array.bq.getD (b*R+r) 0<=1+((if x.kind=1 then (dG j.trace).length+1 else (dG j.trace).length:Nat):Int))->(∀ b:Nat,(b:Int)<aU j.config.au->zV (if x.kind=1 then (dG j.trace).length+1 else (dG j.trace).length) R ((cS j x i).bH.getD b zT))->Es (cS j x i):=λD k2 k3 k4=>by
  refine⟨D,by rw[b1];exact g2,⟨w2.trans g3,by rw[w1,O];exact gw,t,λb=>?_,by rw[e3,w1];exact g5⟩,⟨by rw[e3];exact k2,by rw[O,eR,Od];exact k3⟩,by rw[O,eR,Od];exact k4,tok,by rw[q1,e3,oy,mV];omega⟩
  have:=w6 b;have:=g4 b;omega
 have Ux:=U.h;rw[eR]at Ux Y;clear b1 w1 w2 w6 e1 e2 e3 O q1;by_cases D:x.kind=1
 ·obtain⟨CA,nT⟩:=vX (by omega);obtain⟨r0,r1⟩:=H8 m1 D;obtain⟨B,hB⟩:=dV CA;obtain⟨row,EU⟩:=dV r0;have hA:=hA D;simp only[D,if_true]at mk;have hgl:=p.gl;have yS:j.guard.getD B 0=j.guard[B]'(by omega):=gu _ (by omega);have oF:=p.g _ (cQ (show B<j.guard.length by omega));obtain⟨L,hL⟩:=dV (show 0<=j.guard[B]'(by omega) by omega);obtain⟨f,hf1,hf2⟩:=Y B (by omega);obtain⟨s1,s2⟩:=hf1.step (by omega) (row:=row) (by omega) (L:=L) (by omega) (by omega) (λr C=>by have:=hf2 r C;omega);have es:q6 (cw j x) x=(iQ (j.bH.getD B zT) (row:Int),decide ((f row+1) % L=0)):=by
   show r7 (j.bH.getD x.ay.toNat zT) x.row (j.guard.getD x.ay.toNat 0)=_;rw[hB,EU,bD,yS,hL];exact s1
  have abb:decide ((f row+1) % L=0)=false:=aZ λh0=>by
   have h1:=hf2 row (by omega);rw[Nat.mod_eq_of_lt (by omega)]at h0;omega
  rw[abb]at es;rw[abl j i D]at mk ⊢
  refine mk ?_ (λk=>?_) (λb r hb C=>?_) λb hb=>?_
  ·show (bif (q6 (cw j x) x).2 then (mP j.config.au.rows x.row).foldl (nK x.ay) (ot (cw j x) x)else ot (cw j x) x)=[]
   rw[es];show (j.pending.filter _)=[]
   rw[g1];rfl
  ·show (j.array.bu.set _ 0).getD k 0<=_;rw[Oa];have:=U.a k;split<;>omega
  ·show (pZ j.config.au.rows x.row (x.ay*j.config.au.rows+x.row).toNat j.array.bq).getD (b*R+r) 0<=_;have ei:((B:Int)*(R:Int)+(row:Int)).toNat=B*R+row:=by rw[<-Int.natCast_mul];omega
   rw[hR,hB,EU,ei];have h1:=abo (R:=R) (B:=B) (row:=row) (b:=b) (r:=r) (by omega) C j.array.bq;have h2:=Ux b r hb C;by_cases e:b=B/\r=row
   ·rw[bg e]at h1;omega
   ·rw[bk e]at h1;split at h1<;>omega
  ·show zV _ R ((j.bH.set x.ay.toNat (q6 (cw j x) x).1).getD b zT);rw[es,hB,bD];by_cases e:B=b
   ·subst e;rw[vZ _ (by omega)]
    refine⟨_,s2,λr C=>?_⟩
    have:=hf2 r C;split<;>omega
   ·rw[getD_set_ne _ e];exact(Y b hb).up
 ·simp only[D,if_false]at mk;by_cases k5:x.kind=5
  ·obtain⟨CA,nT⟩:=vX (by omega);obtain⟨B,hB⟩:=dV CA;rw[abm j i k5]at mk ⊢
   refine mk ?_ (λk=>?_) (λb r hb C=>?_) λb hb=>?_
   ·show (j.pending.filter _)=[]
    rw[g1];rfl
   ·rcases Un j.config.au j.config.dg j.array x.ay j.config.au.rows.toNat k with e | e
    ·exact Int.le_trans (Int.le_of_eq e) (U.a k)
    ·exact Int.le_trans (Int.le_of_eq e) zQ
   ·show (gJ j.config.au j.config.dg j.array x.ay j.config.au.rows.toNat).bq.getD (b*R+r) 0<=_;rw[hB,eR];obtain⟨t1,t2⟩:=Uq hR j.config.dg j.array B R (dc _) b r C;have:=Ux b r hb C;by_cases e:b=B
    ·have:=t2 e C;split at this<;>omega
    ·have:=t1 e;omega
   ·show zV _ R ((j.bH.set x.ay.toNat (qZ j.config.gO)).getD b zT);rw[hB,bD,N6];by_cases e:B=b
    ·subst e;rw[vZ _ (by omega)];exact⟨λ_=>0,qf.new _,λ_ _=>jG _⟩
    ·rw[getD_set_ne _ e];exact Y b hb
  ·by_cases k9:x.kind=9
   ·rw[Ob j i k9]at mk ⊢
    refine mk rfl (λk=>?_) (λb r hb C=>?_) λb hb=>?_
    ·rcases anD j.config.au j.config.dg j.array j.bH.length k with e | e
     ·exact Int.le_trans (Int.le_of_eq e) (U.a k)
     ·exact Int.le_trans (Int.le_of_eq e) zQ
    ·have:=anN hR j.config.dg j.array j.bH.length b r (by omega) C;show (qe j.config.au j.config.dg j.array j.bH.length).bq.getD (b*R+r) 0<=_;omega
    ·show zV _ R (((List.range j.bH.length).foldl (λd b=>d.set b (qZ j.config.gO)) j.bH).getD b zT);rw[anO _ _ _ _ _ (by omega) (by omega),N6];exact⟨λ_=>0,qf.new _,λ_ _=>jG _⟩
   ·obtain⟨v1,v2,_,v4,_,v6⟩:=anC (c:=j) (x:=x) (i:=i) I D k5 k9;exact mk (v6.trans g1) (by rw[v1];exact U.a) (by rw[v2];exact Ux) (by rw[v4];exact Y)
def aFU{g:aG}{r w:Int}{a x:aF}(C:a.kind=4\/a.kind=5)(D:1<=x.kind/\x.kind<=4)(hb:a.ay≠x.ay):jD g (xJ r w) a x<=1:=by
 unfold jD xE;rw[iw hb,Bool.and_false,av];have k:x.kind=1\/x.kind=2\/x.kind=3\/x.kind=4:=by omega
 rcases C with h|h<;>rcases k with k|k|k|k<;>rw[h,k]<;>exact jw 1
def aFV{c:ax}(C:Pq c)(D:∀ b:Nat,c.aS.aJ.getD b 0<=2):fC 0 c.aS.aJ=[]:=by
 cases h:fC 0 c.aS.aJ with
 |nil=>rfl
 | cons b l=>
  have:=(aE5 C (b:=b) (by rw[h];exact .head _)).2.2;have:=D b.toNat;omega
def an5{c:ax}(h:Pq c)(I:fC 0 c.aS.aJ=[]){x:aF}(C:x∈ov c):(x.kind=4\/x.kind=5/\c.aS.aJ.getD x.ay.toNat 0 >= 1)/\0<=x.ay/\vW c x.ay.toNat=true:=by
 unfold ov at C;cases E:decide (fD c >= 0)with
 |false=>rw[E]at C;cases C
 | true=>
  have E:=of_decide_eq_true E;have D:=(HS (sk (decide (((fC 0 c.aS.aJ).length:Int) > 0)) c.aS.aJ (vW c)) (λi=>c.aS.aJ.getD i 0) c.aS.aJ.length).resolve_left (λe=>by have e:fD c = -1:=e;omega);have D:sk (decide (((fC 0 c.aS.aJ).length:Int) > 0)) c.aS.aJ (vW c) (fD c).toNat=true:=D;unfold sk at D;rw[I]at D;have D:(decide (c.aS.aJ.getD (fD c).toNat 0 > 0)&&vW c (fD c).toNat)=true:=D;rw[aP]at D;have O:=of_decide_eq_true D.1;cases I:vV c (fD c)with
  |true=>rw[I,bG,Bool.and_false]at C;cases C
  | false=>
   rw[I,aW E]at C;have C:=jH.1 C;unfold EO at C;rcases aE6 c (fD c) ⟨5,fD c,0,0⟩with e|⟨e,_⟩<;>rw[C,e]
   ·exact⟨.inl rfl,E,D.2⟩
   ·exact⟨.inr ⟨rfl,by dsimp only;omega⟩,E,D.2⟩
def an6(c:ax)(l:aa aF):ow c l=ou\/ow c l∈l:=by
 unfold ow;cases C:l.find? (eY c)with
 |none=>exact .inl rfl
 |some x=>exact .inr (List.mem_of_find?_eq_some C)
def abt{c:ax}(h:Pq c)(E:fC 0 c.aS.aJ=[]){x:aF}(hx:x=ou\/x∈ov c++(mw c++kY c)):x.kind≠1/\(x.kind=5->c.aS.aJ.getD x.ay.toNat 0 >= 1):=by
 have I:=Ce c;rcases hx with rfl|hx
 ·exact⟨by decide,λh=>absurd (show (0:Int)=5 from h) (by decide)⟩
 rcases List.mem_append.1 hx with hx|hx
 ·rcases(an5 h E hx).1 with k | ⟨k,d⟩
  ·exact⟨by omega,λ_=>by omega⟩
  ·exact⟨by omega,λ_=>d⟩
 ·have key:∀ {x:aF},x.kind=4\/6<=x.kind->x.kind≠1/\(x.kind=5->c.aS.aJ.getD x.ay.toNat 0 >= 1):=λk=>⟨by omega,λ_=>by omega⟩
  refine key ?_;rcases List.mem_append.1 hx with hx|hx
  ·unfold mw at hx;cases C:decide (gY c >= 0)with
   |false=>rw[C]at hx;cases hx
   |true=>rw[C]at hx;rw[jH.1 hx];exact .inl rfl
  ·unfold kY at hx;cases C:cA c==8&&decide (((opens 0 c.aO.aA).length:Int) > 0)with
   |true=>rw[C]at hx;rw[jH.1 hx];exact .inl rfl
   | false=>
    rw[C,av]at hx;by_cases D:cA c=0
    ·rw[D]at hx;cases hx
    ·rw[gI D]at hx;rw[jH.1 hx];exact .inr (by dsimp only;omega)
structure Wr (q:aN) (rs:List dA) (T:Int) (c:ax):Prop where
 wq:c.queue=[q]
 wr:c.bP=rs
 wt:q.dM=0
 wl:∀b k:Nat,1<=k->k<=9->La c.ready b k<=T\/((k=4\/k=5)/\(b:Int)≠(cR c 0).ay)
 wn:c.now<=T+16
def Sg(c:ax)(s:Nat):Prop:=
 (s=3/\(c.aO.aR=1\/c.aO.aR=2))\/
 (c.aO.aR=0/\((s=2/\(ez c.aO (cR c 0).ay).open_=true/\(ez c.aO (cR c 0).ay).row≠(cR c 0).row)\/
  (s=1/\(ez c.aO (cR c 0).ay).open_=false)\/(s=0/\(ez c.aO (cR c 0).ay).open_=true/\(ez c.aO (cR c 0).ay).row=(cR c 0).row)))
def Sg.sex{c:ax}(h:c.aO.aR=0):∃ s,s<=2/\Sg c s:=by
 cases C:(ez c.aO (cR c 0).ay).open_ with
 |false=>exact⟨1,by decide,.inr ⟨h,.inr (.inl ⟨rfl,C⟩)⟩⟩
 | true=>
  by_cases D:(ez c.aO (cR c 0).ay).row=(cR c 0).row
  ·exact⟨0,by decide,.inr ⟨h,.inr (.inr ⟨rfl,C,D⟩)⟩⟩
  ·exact⟨2,by decide,.inr ⟨h,.inl ⟨rfl,C,D⟩⟩⟩
def aFW{T:Int}{c:ax}(wl:∀ b k:Nat,1<=k->k<=9->La c.ready b k<=T\/((k=4\/k=5)/\(b:Int)≠(cR c 0).ay))(E:Pq c)(C:Oc c.config.bY)(ha:c.ready.aT.length<=3)(hl:∀ b k:Nat,La c.ready b k<c.now){x:aF}(I:1<=x.kind/\x.kind<=4)(hb:x.ay=(cR c 0).ay)(O:jr c.aO x=true)(hT:T+16<=c.now):eY c x=true:=
 anH E (λ_=>by omega) O λb k U Y hu h0=>by
  rcases wl b k U Y with D|⟨h4,D⟩
  ·have:=anQ (g:=c.config.au) C ⟨(k:Int),if k<=5 then (b:Int)else 0,0,0⟩ x;omega
  ·obtain⟨r,w,_,_,_,_,e⟩:=C;have:=hl b k;rw[bg,e];have:=aFU (g:=c.config.au) (r:=r) (w:=w) (a:=⟨(k:Int),(b:Int),0,0⟩) (x:=x) (by dsimp only;omega) I (by rw[hb];exact D);omega
def aFX{c:ax}{x:aF}{i:Int}(C:1<=x.kind/\x.kind<=9)(D:x.kind≠2)(E:x.kind≠3):(cS c x i).queue=c.queue/\(cS c x i).bP=c.bP:=by
 unfold cS;rcases kinds C with q|q|q|q|q|q|q|q|q<;>rw[q]<;>simp only[Int.reduceBEq,Int.reduceBNe,aq,av,Bool.or_true,Bool.or_false,Bool.true_or,Bool.false_or,Bool.or_self]
 ·exact⟨rfl,rfl⟩
 ·exact absurd q D
 ·exact absurd q E
 all_goals exact⟨rfl,rfl⟩
def aFY{c:ax}{b:Nat}(h:gY c=(b:Int)):(ez c.aO (b:Int)).open_=true/\mQ (gv c) c.aO b=false:=by
 unfold gY xQ at h;cases D:c.box.cr.eG != 1 with
 |true=>rw[D,aq]at h;omega
 | false=>
  rw[D,av]at h;rcases N4 (sn (gv c) c.aO) c.aO.aA.length with ⟨e,_⟩|⟨j,_,e,C,_⟩
  ·omega
  ·obtain rfl:j=b:=by omega
   unfold sn at C;rw[aP,ij]at C;exact C
def Wt(a:Nat)(n:Int)(q:aN)(rs:aa dA)(c:ax):Prop:=∃(T:Int) (s:Nat),Wr q rs T c/\Sg c s/\(s=3->∀i:Nat,c.ready.last.getD i (-1)<=T)/\T+17*(s:Int)<=n/\(dG c.trace).length<=if s=0 then a+1 else a
def Wt.wnw{a:Nat}{n:Int}{q:aN}{rs:aa dA}{c:ax}(h:Wt a n q rs c):c.now<=n+16:=by
 obtain⟨T,s,C,_,_,D,_⟩:=h;have:=C.wn;omega
def Wt.wst{a:Nat}(ha:a<=1){n:Int}{q:aN}{rs:aa dA}{c y:ax}{d:jy}{p:fK}{u:lZ}(h:Wt a n q rs c)(hE:Es (iA c d p u))(C:∀ i:Nat,c.ready.last.getD i (-1)<=c.now)(hz:dJ (iA c d p u))(hk:dK (iA c d p u)=true)(hc:lR c.config)(hd:∀ b:Nat,(iA c d p u).aS.aJ.getD b 0<=2)(he:(c.trace.length:Int)<=c.now)(jj:Lo (iA c d p u))(I:EV (iA c d p u) y):Es y/\(Wt a n q rs y\/(y.queue=[]/\(dG y.trace).length<=a+1)):=by
 obtain⟨T,s,hw,hs,h3,hn,O⟩:=h;have hq:=Pq.of hz hk;obtain⟨j,hj⟩:∃j,j=iA c d p u:=⟨_,rfl⟩
 have j1:j.queue=[q]:=by rw[hj];exact hw.wq
 have j2:j.bP=rs:=by rw[hj];exact hw.wr
 have j3:j.ready=c.ready:=by rw[hj];rfl
 have j4:j.aO=c.aO:=by rw[hj];rfl
 have j5:j.now=c.now+1:=by rw[hj];rfl
 have j6:cR j 0=cR c 0:=by rw[hj];rfl
 have j7:j.trace=c.trace:=by rw[hj];rfl
 have j8:j.config=c.config:=by rw[hj];rfl
 have sj:∀s,Sg c s->Sg j s:=λs h=>by unfold Sg at h ⊢;rw[j4,j6];exact h
 rw[<-hj]at hE hz hk hq hd I jj;clear hj;have hs:=sj s hs;clear sj;have Ia:0<j.queue.length:=by rw[j1];exact Nat.zero_lt_succ _
 obtain⟨a1,a2,a3,a4,a5,a6⟩:=N1 hq Ia;have ht:Oc j.config.bY:=by rw[j8];exact aFc hc
 have hwn:=hw.wn;have Od:j.ready.aT.length<=3:=by
  have:=hE.eT.tkA;rw[this,List.length_drop,j7];split at O<;>omega
 have hl:∀b k:Nat,La j.ready b k<j.now:=λb k=>by have:=Uo C b k;rw[j3];omega
 have hlm:∀i:Nat,j.ready.last.getD i (-1)<=j.now:=λi=>by have:=C i;rw[j3];omega
 -- a command
 have go:∀ (x:aF) (i:Int),kX j x i=true->(x.kind=5->j.aS.aJ.getD x.ay.toNat 0 >= 1)->(x.kind=1->s=1)->Es (cS j x i)/\(dG (cS j x i).trace).length=(if x.kind=1 then (dG j.trace).length+1 else (dG j.trace).length)/\(1<=x.kind/\x.kind<=9)/\(cS j x i).aO=ff j.aO x/\(cS j x i).now=j.now/\(∀ l:Nat,(cS j x i).ready.last.getD l (-1)<=j.now)/\(x.kind≠2->x.kind≠3->(cS j x i).queue=[q]/\(cS j x i).bP=rs/\cR (cS j x i) 0=cR j 0)/\cZ j.config.au x=true:=λx i C h5 h1=>by
  obtain⟨_,hb,_,_⟩:=Cb hz hq C;have hx:=(vH hb).2.2.1;obtain⟨e1,e2,e3,e4⟩:=Ij (c:=j) (x:=x) (i:=i) hx;obtain⟨f1,f2⟩:=hE.efn hz hk (by rw[j8];exact hc) C h5 (λk=>by have:=h1 k;subst this;rw[bk (by decide)]at O;rw[j7];omega) (by rw[j7];omega)
  refine⟨f1,f2,hx,e1,e3,λl=>by rw[e2];exact anI _ _ _ hlm (jw _) l,λk2 k3=>?_,?_⟩
  ·obtain⟨U,g2⟩:=aFX (c:=j) (i:=i) hx k2 k3;have Y:=(abr (c:=j) (x:=x) (i:=i) hx).2.2;refine⟨U.trans j1,g2.trans j2,?_⟩;unfold cR gv dL;rw[U,e4,Y]
  ·simp only[kX,aP]at C;exact C.1
 have still:j.now<=T+16->y=j->Es y/\(Wt a n q rs y\/(y.queue=[]/\(dG y.trace).length<=a+1)):=λhT e=>by
  subst e;exact⟨hE,.inl ⟨T,s,⟨j1,j2,hw.wt,by rw[j3,j6];exact hw.wl,hT⟩,hs,by rw[j3];exact h3,hn,by rw[j7];exact O⟩⟩
 have fresh:∀(y:ax) (s':Nat),y.queue=[q]->y.bP=rs->y.now=j.now->(∀l:Nat,y.ready.last.getD l (-1)<=j.now)->Sg y s'->s'+1<=s->s'<=2->(dG y.trace).length<=(if s'=0 then a+1 else a)->Wt a n q rs y:=λy s' k1 k2 k3 k4 k5 k6 k7 k8=>⟨j.now,s',⟨k1,k2,hw.wt,λb k _ _=>.inl (Uo k4 b k),by omega⟩,k5,λe=>by omega,by omega,k8⟩
 have abu:r6 j=true:=by unfold r6;rw[j1];rfl
 rcases hs with ⟨rfl,hp⟩|⟨hp,hs⟩
 ·-- it wakes up
  obtain⟨w,hw7,Il,O0⟩:∃ w,(w=7\/w=9)/\cA j=w/\jr j.aO ⟨w,0,0,0⟩=true:=by
   rcases hp with hp|hp
   ·exact⟨7,.inl rfl,by rw[abn abu,hq.ps,hp];rfl,by show (j.aO.aR==1)=true;rw[hp];rfl⟩
   ·exact⟨9,.inr rfl,by rw[abn abu,hq.ps,hp];rfl,by show (j.aO.aR==2)=true;rw[hp];rfl⟩
  have zW:lU j=if eY j ⟨w,0,0,0⟩=true then (⟨w,0,0,0⟩,-1)else (ou,-1):=by
   unfold lU;rw[hq.ps,Il,gI (show ¬ j.aO.aR=0 by omega),aq,gI (show ¬ w=0 by omega),aq];cases eY j ⟨w,0,0,0⟩<;>rfl
  cases hr:eY j ⟨w,0,0,0⟩with
  | false=>
   rw[hr,bk (by decide)]at zW
   refine still (Int.not_lt.1 λhT=>?_) ?_
   ·have:=aFe hq ht (x:=⟨w,0,0,0⟩) (λh=>by dsimp only at h;omega) O0 (n:=T) (by rw[j3];exact h3 rfl) (by omega);rw[hr]at this;cases this
   ·rcases I with ⟨_,e⟩ | ⟨C,_⟩
    ·exact e
    ·rw[zW]at C;exact(anR C).elim
  | true=>
   rw[hr,bg rfl]at zW;unfold EV at I;rw[zW]at I;rcases I with ⟨k0,_⟩|⟨C,rfl⟩
   ·dsimp only at k0;omega
   ·obtain⟨f1,f2,f3,D,f5,f6,f7,_⟩:=go _ _ C (λh=>by dsimp only at h;omega) (λh=>by dsimp only at h;omega);obtain⟨U,g2,Y⟩:=f7 (by dsimp only;omega) (by dsimp only;omega);have qD:(cS j ⟨w,0,0,0⟩ (-1)).aO.aR=0:=by rw[D];rcases hw7 with rfl | rfl <;>rfl
    obtain⟨s',k1,k2⟩:=Sg.sex qD;refine⟨f1,.inl (fresh _ s' U g2 f5 f6 k2 (by omega) k1 ?_)⟩;rw[bk (by dsimp only;omega),j7]at f2;rw[bk (by decide)]at O;split<;>omega
 ·have jY:j.aR.state=0:=hq.ps.trans hp;have hnd:(fZ j 0).ay=(cR j 0).ay:=(aE7 _ _ _).1;have eB:(((cR j 0).ay.toNat:Nat):Int)=(cR j 0).ay:=by omega
  have Oe:(s=2/\fZ j 0=⟨4,(cR j 0).ay,0,0⟩)\/(s=1/\fZ j 0=⟨1,(cR j 0).ay,(cR j 0).row,0⟩)\/(s=0/\((fZ j 0).kind=2\/(fZ j 0).kind=3)):=by
   unfold fZ oq;rcases hs with ⟨rfl,E,o2⟩|⟨rfl,E⟩|⟨rfl,E,o2⟩
   ·rw[E,gI o2];exact .inl ⟨rfl,rfl⟩
   ·rw[E];exact .inr (.inl ⟨rfl,rfl⟩)
   ·rw[E,o2,bne_self_eq_false];refine .inr (.inr ⟨rfl,?_⟩);cases H6 j.queue 0
    ·exact .inl rfl
    ·exact .inr rfl
  have hkn:(s=2/\(fZ j 0).kind=4)\/(s=1/\(fZ j 0).kind=1)\/(s=0/\((fZ j 0).kind=2\/(fZ j 0).kind=3)):=by
   rcases Oe with ⟨h,e⟩|⟨h,e⟩|h
   ·exact .inl ⟨h,by rw[e]⟩
   ·exact .inr (.inl ⟨h,by rw[e]⟩)
   ·exact .inr (.inr h)
  have hsr:jb j=eY j (fZ j 0):=(jj.one j1).2.2.2.2.2;have zW:lU j=bif eY j (fZ j 0)then (fZ j 0,0)else (ow j (ov j++mw j),-1):=by
   have e3:kY j=[]:=by
    unfold kY;rw[abn abu,jY];rfl
   unfold lU;rw[jY,hsr,e3,List.append_nil];rfl
  cases hr:eY j (fZ j 0)with
  | true=>
   rw[hr,aq]at zW;unfold EV at I;rw[zW]at I;rcases I with ⟨k0,_⟩|⟨C,rfl⟩
   ·dsimp only at k0;omega
   ·dsimp only at C ⊢;obtain⟨f1,f2,f3,D,f5,f6,f7,_⟩:=go _ _ C (λh=>by omega) (λh=>by omega);refine⟨f1,?_⟩;rcases Oe with ⟨rfl,e⟩ | ⟨rfl,e⟩ | ⟨rfl,e⟩
    ·rw[e]at f2 D f5 f6 f7 ⊢;obtain⟨U,g2,Y⟩:=f7 (by dsimp only;omega) (by dsimp only;omega);refine .inl (fresh _ 1 U g2 f5 f6 (.inr ⟨?_,.inr (.inl ⟨rfl,?_⟩)⟩) (by decide) (by decide) ?_)
     ·rw[D,N5 (by dsimp only;omega)];exact hp
     ·rw[D,Y,<-eB];exact anJ rfl rfl
     ·rw[f2,bk (by dsimp only;omega),bk (by decide),j7];rw[bk (by decide)]at O;exact O
    ·rw[e]at f2 D f5 f6 f7 ⊢;obtain⟨U,g2,Y⟩:=f7 (by dsimp only;omega) (by dsimp only;omega);have ho:ez (ff j.aO ⟨1,(cR j 0).ay,(cR j 0).row,0⟩) (cR j 0).ay=⟨true,(cR j 0).row⟩:=by
      show (j.aO.aA.set (cR j 0).ay.toNat ⟨true,(cR j 0).row⟩).getD (cR j 0).ay.toNat ⟨false,0⟩=_;exact vZ _ a3
     refine .inl (fresh _ 0 U g2 f5 f6 (.inr ⟨?_,.inr (.inr ⟨rfl,?_,?_⟩)⟩) (by decide) (by decide) ?_)
     ·rw[D,N5 (by dsimp only;omega)];exact hp
     ·rw[D,Y,ho]
     ·rw[D,Y,ho]
     ·rw[f2,bg rfl,bg rfl,j7];rw[bk (by decide)]at O;omega
    ·refine .inr ⟨?_,?_⟩
     ·have e2:cS j (fZ j 0) 0=gK (cw j (fZ j 0)) 0:=by
       unfold cS;rcases e with k|k<;>rw[k]<;>rfl
      rw[e2];unfold gK;dsimp only;have e3:(cw j (fZ j 0)).queue.take 0++(cw j (fZ j 0)).queue.drop 1=[]:=by
       show j.queue.take 0++j.queue.drop 1=[]
       rw[j1];rfl
      cases ((cw j (fZ j 0)).queue.getD 0 oX).write<;>exact e3
     ·rw[f2,bk,j7];rw[bg rfl]at O;exact O
  | false=>
   rw[hr,av]at zW;have hT:j.now<=T+16:=Int.not_lt.1 λhT=>by
    have:=aFW (T:=T) (by rw[j3,j6];exact hw.wl) hq ht Od hl (x:=fZ j 0) (by omega) hnd (by
     rcases hs with ⟨rfl,E,o2⟩|⟨rfl,E⟩|⟨rfl,E,o2⟩
     ·rcases Oe with ⟨_,e⟩ | ⟨h,_⟩ | ⟨h,_⟩
      ·rw[e];show (j.aO.aR==0&&(ez j.aO (cR j 0).ay).open_)=true;rw[hp,E];rfl
      ·cases h
      ·cases h
     ·rcases Oe with ⟨h,_⟩ | ⟨_,e⟩ | ⟨h,_⟩
      ·cases h
      ·rw[e];show (j.aO.aR==0 && !(ez j.aO (cR j 0).ay).open_)=true;rw[hp,E];rfl
      ·cases h
     ·rcases Oe with ⟨h,_⟩ | ⟨h,_⟩ | ⟨_,e⟩
      ·cases h
      ·cases h
      ·unfold jr;rw[hnd,E,hp];rcases e with k|k<;>rw[k]<;>rfl) (by omega)
    rw[hr]at this;cases this
   have hx:=an6 j (ov j++mw j);have h5:=(abt hq jj.u (hx.imp id λh=>by rw[<-List.append_assoc];exact List.mem_append.2 (.inl h))).2;unfold EV at I;rw[zW]at I;dsimp only at I;generalize ow j (ov j++mw j)=x at hx h5 I;rcases I with ⟨_,e⟩|⟨C,rfl⟩
   ·exact still hT e
   ·have hs3:s<=2:=by rcases hs with ⟨h,_⟩ | ⟨h,_⟩ | ⟨h,_⟩ <;>omega
    have oth:(x.kind=4\/x.kind=5)->0<=x.ay->x.ay≠(cR j 0).ay->Es (cS j x (-1))/\(Wt a n q rs (cS j x (-1))\/((cS j x (-1)).queue=[]/\(dG (cS j x (-1)).trace).length<=a+1)):=λk4 k0 kb=>by
     obtain⟨f1,f2,f3,D,f5,f6,f7,f8⟩:=go _ _ C h5 (λh=>by omega);obtain⟨U,g2,Y⟩:=f7 (by omega) (by omega);have er:=(Ij (c:=j) (x:=x) (i:=-1) f3).2.1
     refine⟨f1,.inl ⟨T,s,⟨U,g2,hw.wt,λb k pS xH=>?_,by rw[f5];exact hT⟩,.inr ⟨?_,?_⟩,λe=>by omega,hn,by rw[f2,bk,j7];exact O⟩⟩
     ·rw[er,Y];rcases aE9 j.config.au j.ready ⟨j.now,x⟩ f8 b k ⟨pS,xH⟩with e | ⟨_,e1,e2⟩
      ·rw[e,j3,j6];exact hw.wl b k pS xH
      ·dsimp only at e1 e2;rw[bg]at e2;exact .inr ⟨by omega,by omega⟩
     ·rw[D,N5 (by omega)];exact hp
     ·have vX:ez (ff j.aO x) (cR j 0).ay=ez j.aO (cR j 0).ay:=by
       rw[<-eB];exact aFb (by omega)
      rw[D,Y,vX];exact hs
    rcases hx with rfl|hx
    ·exact(anR C).elim
    ·rcases List.mem_append.1 hx with hx | hx
     ·obtain⟨k1,k2,k3⟩:=an5 hq jj.u hx
      refine oth (by omega) k2 λe=>?_
      unfold vW at k3;rw[ij,mz]at k3;refine k3 (cR j 0) ?_ ?_
      ·have:=T3 (c:=j) (i:=0) (by rw[B7];exact Ia);rw[<-this];exact cQ _
      ·rw[eZ];omega
     ·unfold mw at hx;cases gA:decide (gY j >= 0)with
      |false=>rw[gA]at hx;cases hx
      | true=>
       rw[gA]at hx;have hx:=jH.1 hx;have gA:=of_decide_eq_true gA;obtain⟨b,hb⟩:=dV gA;rw[hb]at hx;by_cases e:(b:Int)=(cR j 0).ay
       ·obtain⟨c1,c2⟩:=aFY hb;rcases hs with ⟨rfl,E,o2⟩ | ⟨rfl,E⟩ | ⟨rfl,E,o2⟩
        ·subst hx;obtain⟨f1,f2,f3,D,f5,f6,f7,f8⟩:=go _ _ C h5 (λh=>by dsimp only at h;omega);obtain⟨U,g2,Y⟩:=f7 (by dsimp only;omega) (by dsimp only;omega);refine⟨f1,.inl (fresh _ 1 U g2 f5 f6 (.inr ⟨?_,.inr (.inl ⟨rfl,?_⟩)⟩) (by decide) (by decide) ?_)⟩
         ·rw[D,N5 (by dsimp only;omega)];exact hp
         ·rw[D,Y,<-eB];exact anJ rfl (by dsimp only;omega)
         ·rw[f2,bk (by dsimp only;omega),bk (by decide),j7];rw[bk (by decide)]at O;exact O
        ·rw[e,E]at c1;cases c1
        ·exfalso;have:mQ (gv j) j.aO b=true:=by
          unfold mQ;refine List.any_eq_true.2 ⟨cR j 0,?_,?_⟩
          ·have:=T3 (c:=j) (i:=0) (by rw[B7];exact Ia);rw[<-this];exact cQ _
          ·rw[aP,eZ,eZ,e,o2];exact⟨rfl,rfl⟩
         rw[this]at c2;cases c2
       ·subst hx;exact oth (.inl rfl) (Int.natCast_nonneg b) e
def Es.aFZ{j y:ax}(D:Es j)(O:dJ j)(U:dK j=true)(Y:lR j.config)(hl:Lo j)(hq0:j.queue=[])(he:(j.trace.length:Int)+1<=j.now)(hf:EV j y):Es y/\(dG y.trace).length=(dG j.trace).length:=by
 have E:=hl.q;rcases hf with ⟨_,rfl⟩|⟨hm,rfl⟩
 ·exact⟨D,rfl⟩
 ·have hw:=Ce j;have C:(lU j).1.kind≠1/\((lU j).1.kind=5->j.aS.aJ.getD (lU j).1.ay.toNat 0 >= 1):=by
   have I:(ou.kind≠1)/\(ou.kind=5->j.aS.aJ.getD ou.ay.toNat 0 >= 1):=abt E hl.u (.inl rfl);unfold lU;cases j.aR.state != 0 with
   | true=>
    rw[aq];cases cA j != 0 with
    |false=>exact I
    | true=>
     rw[aq];cases eY j ⟨cA j,0,0,0⟩with
     |false=>exact I
     |true=>exact⟨by show cA j≠1;omega,λh=>by have h:cA j=5:=h;omega⟩
   | false=>
    rw[av,show jb j=false by unfold jb;rw[hq0];rfl,av];exact abt E hl.u (an6 _ _)
  obtain⟨f1,f2⟩:=D.efn O U Y hm C.2 (λk=>absurd k C.1) he;exact⟨f1,f2.trans (bk C.1)⟩
def Mm.isx{m:Nat->Int}{j:ax}{x:aF}{i:Int}(h:Mm m j.array.cells)(hz:dJ j)(D:dK j=true){R:Nat}(hR:j.config.au.rows=(R:Int))(I:Kpt j.config.au j.config.dg R j.array)(h0:0<=j.config.dg.bu)(O:kX j x i=true):∃ m',Mm m' (cS j x i).array.cells/\(cS j x i).errors=j.errors/\((m'=m/\(cS j x i).queue=j.queue/\(cS j x i).bP=j.bP)\/Us m m' j (cS j x i)):=by
 have hq:=Pq.of hz D;obtain⟨_,ha,hs,_⟩:=Cb hz hq O;obtain⟨hg,hlen,hx,vX⟩:=vH ha;have hc:cZ j.config.au x=true:=by
  simp only[kX,aP]at O;exact O.1
 have H9:=(ja.of (Ck.of D).pa).tl;have C:∀z:ax,z.array.cells=j.array.cells->z.errors=j.errors->z.queue=j.queue->z.bP=j.bP->∃m',Mm m' z.array.cells/\z.errors=j.errors/\((m'=m/\z.queue=j.queue/\z.bP=j.bP)\/Us m m' j z):=λz e1 e2 e3 e4=>⟨m,by rw[e1];exact h,e2,.inl ⟨rfl,e3,e4⟩⟩
 by_cases E:x.kind=2\/x.kind=3
 ·obtain⟨s,s0⟩:=hs E;have e:cS j x i=gK (cw j x) i.toNat:=by
   unfold cS;rcases E with q|q<;>rw[q]<;>rfl
  rw[e];obtain⟨m',g1,g2,g3⟩:=h.acc (x:=x) s;exact⟨m',g1,g2,.inr g3⟩
 ·by_cases U:x.kind=1
  ·obtain⟨Y,nT⟩:=vX (by omega);obtain⟨r0,r1⟩:=H8 hc U;obtain⟨B,hB⟩:=dV Y;obtain⟨row,EU⟩:=dV r0;rw[abl j i U];refine C _ ?_ rfl rfl rfl;show (qY j.config.au j.config.dg j.array x.ay x.row).cells=_;rw[hB,EU];have D:=I B row (by omega) (by omega);exact anT hR D.1 (by omega)
  ·by_cases k5:x.kind=5
   ·obtain⟨Y,nT⟩:=vX (by omega);obtain⟨B,hB⟩:=dV Y;rw[abm j i k5];refine C _ ?_ rfl rfl rfl;show (gJ j.config.au j.config.dg j.array x.ay j.config.au.rows.toNat).cells=_;rw[hB,show j.config.au.rows.toNat=R by omega];exact(abq hR (λr hr=>I B r (by omega) hr) h0 R (dc _)).1
   ·by_cases k9:x.kind=9
    ·rw[Ob j i k9];refine C _ ?_ rfl rfl rfl;show (qe j.config.au j.config.dg j.array j.bH.length).cells=_;exact(anU hR I h0 j.bH.length (by omega)).1
    ·unfold cS;rcases kinds hx with q | q | q | q | q | q | q | q | q <;>rw[q] <;>simp only[Int.reduceBEq,Int.reduceBNe,aq,av,Bool.or_true,Bool.or_false,Bool.true_or,Bool.false_or,Bool.or_self]
     ·exact absurd q U
     ·exact absurd (.inl q) E
     ·exact absurd (.inr q) E
     ·exact C _ rfl rfl rfl rfl
     ·exact absurd q k5
     ·exact C _ rfl rfl rfl rfl
     ·exact C _ rfl rfl rfl rfl
     ·exact C _ rfl rfl rfl rfl
     ·exact absurd q k9
structure Jr (a:Nat) (n:Int) (q:aN) (rs:List dA) (x:Int) (cf:dP) (G:aG) (c:ax):Prop where
 js:Es c
 jm:∀i:Nat,c.ready.last.getD i (-1)<=c.now
 jc:c.config=cf
 je:c.errors=[]
 jg:cX c.config.au c.spare=G
 jp:∃m,Mm m c.array.cells/\((Wt a n q rs c/\(q.write=false->m (eJ c.config.au (dL c q.line))=x))\/(c.queue=[]/\(dG c.trace).length<=a+1/\m (eJ c.config.au (dL c q.line))=x/\∃t,c.bP=rs++[⟨q.id,t,bif q.write then 0 else x,0⟩]))
def Jr.jst{a:Nat}{n:Int}{q:aN}{rs:aa dA}{x:Int}{cf:dP}{G:aG}{c:ax}(h:Jr a n q rs x cf G c)(ha:a<=1)(hx:q.write=true->q.data=x)(iX:rs.length<=9)(I:lR cf)(hz:dJ c)(hk:dK c=true)(hn:c.now<535):∃ y,Bv c=some y/\D9 c=some ((),(y,()))/\dJ y/\dK y=true/\y.now=c.now+1/\Jr a n q rs x cf G y:=by
 obtain⟨js,jm,rfl,je,jg,m,hm,jp⟩:=h;have hl:=js.eL;have zQ:=bA.1 (Ck.of hk).nw;have hrl:c.bP.length<400:=by
  rcases jp with ⟨⟨T,s,U,_⟩,_⟩|⟨_,_,_,t,e⟩
  ·rw[U.wr];omega
  ·rw[e,oy,mV];omega
 have HO:∀ d p u,Pq (iA c d p u)->Lo (iA c d p u):=λd p u hq=>⟨hq,js.eP,aFV hq ((js.epr hk I d p u).edt I (by show c.now+1<=540;omega)),by
  rcases jp with ⟨⟨T,s,U,_⟩,_⟩|⟨q0,_⟩
  ·exact .inr ⟨q,U.wq,U.wt⟩
  ·exact .inl q0⟩
 obtain⟨d,p,u,y,e1,e2,y1,y2,O,Y,_,_,hf⟩:=aFT hz hk js.eW hm (by omega) (by omega) hrl HO;have Uy:=js.epr hk I d p u;have hd:=Uy.edt I (by show c.now+1<=540;omega);have hLj:=HO d p u (Pq.of O Y);have gb:=fJ (Ii I.1);have Ui:200<=c.config.interval/\c.config.interval<=259:=I.2.2.2.2.1;have aF0:c.config.dg=⟨6*c.config.interval,40⟩:=I.2.2.2.2.2.2;obtain⟨R,hR⟩:=dV (show 0<=c.config.au.rows by omega);have hA4:(dG c.trace).length<=4:=by
  rcases jp with ⟨⟨T,s,_,_,_,_,hA⟩,_⟩|⟨_,hA,_⟩
  ·split at hA<;>omega
  ·omega
 have wo:(iA c d p u).array.cells=c.array.cells:=by unfold iA;cases c.aO.aR != 2<;>rfl
 obtain⟨m',n1,n2,D⟩:∃ m',Mm m' y.array.cells/\y.errors=c.errors/\((m'=m/\y.queue=c.queue/\y.bP=c.bP)\/Us m m' (iA c d p u) y):=by
  rcases hf with ⟨_,rfl⟩|⟨EW,rfl⟩
  ·exact⟨m,by rw[wo];exact hm,rfl,.inl ⟨rfl,rfl,rfl⟩⟩
  ·exact Mm.isx (m:=m) (by rw[wo];exact hm) O Y (R:=R) hR (Uy.ekp I (by show c.now+1<=540;omega) hA4 hR) (by show 0<=c.config.dg.bu;rw[aF0];show 0<=6*c.config.interval;omega) EW
 obtain⟨s1,s2⟩:y.spare=c.spare/\y.config=c.config:=by
  rcases hf with ⟨_,rfl⟩|⟨EW,rfl⟩
  ·exact⟨rfl,rfl⟩
  ·obtain⟨_,hb,_,_⟩:=Cb O (Pq.of O Y) EW;have hx:=(vH hb).2.2.1;exact⟨(abr hx).2.2,(Ij hx).2.2.2⟩
 have abv:=aFk s2 s1 q.line;have hny:y.now=c.now+1:=by
  rcases hf with ⟨_,rfl⟩|⟨EW,rfl⟩
  ·rfl
  ·obtain⟨_,hb,_,_⟩:=Cb O (Pq.of O Y) EW;exact(Ij (vH hb).2.2.1).2.2.1
 have hly:∀ i:Nat,y.ready.last.getD i (-1)<=y.now:=λi=>by
  have h1:∀i:Nat,(iA c d p u).ready.last.getD i (-1)<=c.now+1:=λi=>Int.le_trans (jm i) (by omega)
  rw[hny];rcases hf with ⟨_,rfl⟩|⟨EW,rfl⟩
  ·exact h1 i
  ·obtain⟨_,hb,_,_⟩:=Cb O (Pq.of O Y) EW;rw[(Ij (vH hb).2.2.1).2.1];exact anI _ _ _ h1 (jw _) i
 refine⟨y,e1,e2,y1,y2,hny,?_⟩;have fin:Es y->((Wt a n q rs y/\(q.write=false->m' (eJ y.config.au (dL y q.line))=x))\/(y.queue=[]/\(dG y.trace).length<=a+1/\m' (eJ y.config.au (dL y q.line))=x/\∃t,y.bP=rs++[⟨q.id,t,bif q.write then 0 else x,0⟩]))->Jr a n q rs x c.config G y:=λg1 E=>⟨g1,hly,s2,n2.trans je,by rw[s2,s1];exact jg,m',n1,E⟩
 rcases jp with ⟨U,hv⟩|⟨q0,hA,hv,t,hr⟩
 ·obtain⟨g1,E⟩:=U.wst ha Uy jm O Y I hd hl hLj hf;obtain⟨T,s,J4,_⟩:=U;have hqj:(iA c d p u).queue=[q]:=J4.wq;have XA:(iA c d p u).bP=rs:=J4.wr;refine fin g1 ?_;rcases E with E | ⟨E,g3⟩
  ·rcases D with ⟨rfl,_⟩ | ⟨i,hi,D,_⟩
   ·exact .inl ⟨E,by rw[s2,abv];exact hv⟩
   ·obtain⟨_,_,hwy,_⟩:=E;rw[(anV hqj hi).2.2,hwy.wq]at D;cases D
  ·refine .inr ⟨E,g3,?_⟩;rcases D with ⟨_,D,_⟩ | ⟨i,hi,_,C⟩
   ·rw[E,J4.wq]at D;cases D
   ·obtain⟨o1,o2,o3⟩:=anV hqj hi;rw[o2,XA]at C;rw[s2,abv];cases Il:q.write with
    | true=>
     rw[Il]at C;obtain⟨rfl,C⟩:=C;exact⟨(bg rfl).trans (hx Il),_,C⟩
    | false=>
     rw[Il]at C;obtain⟨rfl,C⟩:=C;have hv:=hv Il;have IX:m' (eJ (iA c d p u).config.au (dL (iA c d p u) q.line))=x:=hv;rw[IX]at C;exact⟨hv,_,C⟩
 ·obtain⟨g1,E⟩:=Uy.aFZ O Y I hLj q0 (by show (c.trace.length:Int)+1<=c.now+1;omega) hf;rcases D with ⟨rfl,D,C⟩ | ⟨i,hi,_⟩
  ·exact fin g1 (.inr ⟨D.trans q0,by rw[E];exact hA,by rw[s2,abv];exact hv,t,C.trans hr⟩)
  ·have hi:i<c.queue.length:=hi;rw[q0]at hi;exact absurd hi (Nat.not_lt_zero _)
def aF1{g:aG}{s:dw}{D R:Nat}(h:Sp g s D R)(b r:Int):∃ y t,R9 g s b r=some (y,t)/\SZ g s b r=some (y,t)/\Sp g y D R/\y.bL=s.bL/\(t=true->dO (cX g s) ⟨b,r,0⟩=true/\∃ i:Int,(∀ k:Nat,k<R->s.map.getD (b.toNat*R+k) 0≠i)/\y.map=s.map.set (b.toNat*R+r.toNat) i):=by
 obtain⟨hg,oF,U,eb,Y,nt,mF,hc,HK,OY⟩:=h.xT;have hm:s.map.length<=128:=by
  rw[h.hl];exact Nat.mul_le_mul Y nt
 have hR:=h.hR;have hRw:W6 (g.rows-s.bL)=(R:Int):=by rw[h.hR];exact aY
 unfold R9 SZ M5 xA bU xZ;rw[cF (by simp;omega),aq,aq,kJ,Eo,ak,abg,ak,ak,abk h,ak];cases ha:dO (cX g s) ⟨b,r,0⟩with
 |false=>exact⟨s,false,rfl,rfl,h,rfl,λh=>by cases h⟩
 | true=>
  obtain⟨⟨a1,a2⟩,a3,a4⟩:=(h.ex b r).1 ha;obtain⟨b,rfl⟩:=dV a1;obtain⟨r,rfl⟩:=dV a3;have hb:b<D:=by omega
  have hr:r<R:=by omega
  obtain⟨hle,abh,iM,n1,n2⟩:=h.lens hb;have hp:b*R+r<s.map.length:=by
   rw[jV]at hle;omega
  have HU:W6 ((b:Int)*(R:Int))=((b*R:Nat):Int):=by rw[<-Int.natCast_mul];exact aY
  have HV:W6 (((b*R:Nat):Int)+(r:Int))=((b*R+r:Nat):Int):=by rw[<-Int.natCast_add];exact aY
  have e0:(b:Int)*(R:Int)+(r:Int)=((b*R+r:Nat):Int):=by rw[Int.natCast_add,Int.natCast_mul]
  rw[bG,av,U,aq,e0,aZ (show ¬ ((b*R+r:Nat):Int)<0 by omega),av,hRw];dsimp only;obtain⟨n,hn⟩:=dV (show 0<=g.rows-(R:Int) by omega);have I:=ta (step:=L2) (List.range n) (λk=>xU s.map R b ((R:Int)+(k:Int))) (λk=>(((b:Int),(r:Int),(),(),(),(),(),(R:Int)+(k:Int),()),((g.bK,g.aA,g.rows,g.aK,()),(s.bL,s.map,()),((0:Int),(),()),(s.bL,(),()),(g.bK,g.aA,(R:Int),g.aK,()),([]:aa Int),s.map,()))) (λk=>.inl (((),true,()),((s.bL,(),()),s.map.set (b*R+r) ((R:Int)+(k:Int)),()))) (.inr (.inl (((),(),()),(((0:Int),(),()),(s.bL,(),()),([]:aa Int),s.map,())))) aV (λk C=>by
   rw[dW]at C;rw[lW];unfold L2 az bx xG xL;dsimp only;rw[kE,aW (show (R:Int)+(k:Int)<g.rows by omega),aq,show (⟨s.bL,s.map⟩:dw)=s from rfl,aEI h hb,ak,(aaX (λe=>e==(R:Int)+(k:Int)) (gj s.map R b)).1];show (bif xU s.map R b ((R:Int)+(k:Int))then _ else _)=_;cases xU s.map R b ((R:Int)+(k:Int))with
   | true=>
    rw[aq,aq,HU,HV,aC ⟨by omega,by omega⟩,aC];simp only[bD]
   | false=>
    rw[av,av,aY (n:=(R:Int)+(k:Int)+1),show ((k+1:Nat):Int)=(k:Int)+1 from Int.natCast_succ k,<-Int.add_assoc]) (by
   rw[dW];unfold L2 az bx xG xL;dsimp only;rw[aZ (show ¬ (R:Int)+(n:Int)<g.rows by omega),av]) (bM (by rw[dW];omega))
  have O:=ta (step:=M7) (List.range n) (λk=>xU s.map R b ((R:Int)+(k:Int))) (λk=>(((b:Int),(),(),(),(),((b*R+r:Nat):Int),(R:Int)+(k:Int),()),((g.bK,g.aA,g.rows,g.aK,()),(s.bL,s.map,()),((0:Int),(),()),(s.bL,(),()),([]:aa Int),s.map,()))) (λk=>.inl (((),true,()),((s.bL,(),()),s.map.set (b*R+r) ((R:Int)+(k:Int)),()))) (.inr (.inl (((),(),()),(((0:Int),(),()),(s.bL,(),()),([]:aa Int),s.map,())))) aV (λk C=>by
   rw[dW]at C;rw[lW];obtain⟨y,ey,hy⟩:=aFt h hb (x:=(R:Int)+(k:Int)) (by omega);unfold M7 az bx xG xL;dsimp only;rw[kE,aW (show (R:Int)+(k:Int)<g.rows by omega),aq,show (⟨s.bL,s.map⟩:dw)=s from rfl,ey,ak,hy];cases xU s.map R b ((R:Int)+(k:Int))with
   | true=>
    rw[aq,aq,aC ⟨by omega,by omega⟩,aC];simp only[bD]
   | false=>
    rw[av,av,aY (n:=(R:Int)+(k:Int)+1),show ((k+1:Nat):Int)=(k:Int)+1 from Int.natCast_succ k,<-Int.add_assoc]) (by
   rw[dW];unfold M7 az bx xG xL;dsimp only;rw[aZ (show ¬ (R:Int)+(n:Int)<g.rows by omega),av]) (bM (by rw[dW];omega))
  rw[cv,Int.add_zero]at I O;rw[I,O];cases hf:(List.range n).findIdx? (λk:Nat=>xU s.map R b ((R:Int)+(k:Int)))with
  |none=>exact⟨_,false,rfl,rfl,h,rfl,λh=>by cases h⟩
  | some k=>
   obtain⟨C,E,_⟩:=nO.1 hf;rw[dW]at C;rw[lW]at E;exact⟨_,true,rfl,rfl,h.set hb hr (by omega) (by omega) ((Uu h hb _).1 E),rfl,λ_=>⟨rfl,_,(Uu h hb _).1 E,rfl⟩⟩
def an7(g:aG)(b f q:Int)(a:cJ):∀ k,(ju g b f q a k).bu=a.bu/\(ju g b f q a k).bq=a.bq
 |0=>⟨rfl,rfl⟩
 |k+1=>an7 g b f q a k
def an8{g:aG}{b f q:Int}{n:Nat}{a:cJ}{m:Nat->Int}(I:∀ k,k<=n->fA g 100000 (ju g b f q a k))(h:Mm m a.cells)(D:∀ k:Nat,k<n->dO g ⟨b,f,(k:Int)⟩=true)(C:∀ k:Nat,k<n->dO g ⟨b,q,(k:Int)⟩=true)(O:f≠q):∀ k,k<=n->∃ m',Mm m' (ju g b f q a k).cells/\(∀ A:aM,dO g A=true->(A.ay=b->A.row≠q)->m' (eJ g A)=m (eJ g A))/\∀ i:Nat,i<k->m' (eJ g ⟨b,q,(i:Int)⟩)=m (eJ g ⟨b,f,(i:Int)⟩)
 |0,_=>⟨m,h,λ_ _ _=>rfl,λi hi=>absurd hi (Nat.not_lt_zero _)⟩
 | k+1,hk=>by
  obtain⟨U,Y,g2,g3⟩:=an8 I h D C O k (by omega);have l2:=(I k (by omega)).lt (D k (by omega));obtain⟨c1,c2,c3⟩:=Y _ l2;have hc:=g2 _ (D k (by omega)) λ_=>O
  refine⟨Ik U (eJ g ⟨b,q,(k:Int)⟩) (U (eJ g ⟨b,f,(k:Int)⟩)),?_,λA hA E=>?_,λi hi=>?_⟩
  ·show Mm _ ((ju g b f q a k).cells.set (eJ g ⟨b,q,(k:Int)⟩) ((ju g b f q a k).cells.getD (eJ g ⟨b,f,(k:Int)⟩) ⟨[],false⟩));rw[gu _ l2,c1];exact Y.put ⟨c2,c3⟩
  ·refine(bk λe=>?_).trans (g2 A hA E)
   have:=alL hA (C k (by omega)) e;rw[this]at E;exact E rfl rfl
  ·by_cases e:i=k
   ·subst e;exact(bg rfl).trans hc
   ·refine(bk λe2=>?_).trans (g3 i (by omega))
    have:=bC aM.bV (alL (C i (by omega)) (C k (by omega)) e2);dsimp only at this;omega
def Mv(c y:ax):Prop:=∃a s,y=⟨c.config,c.box,c.now,c.aO,c.ready,a,s,c.aS,c.bH,c.guard,c.pending,c.queue,c.shares,c.drain,c.aR,c.cY,c.errors,c.trace,c.bP⟩/\a.bu=c.array.bu/\a.bq=c.array.bq/\cX c.config.au s=cX c.config.au c.spare/\∀m,Mm m c.array.cells->∃m',Mm m' a.cells/\∀l,0<=l->l<dU (cX c.config.au c.spare)->m' (eJ c.config.au (dL y l))=m (eJ c.config.au (dL c l))
def Mv.an9(c:ax):Mv c c:=⟨c.array,c.spare,rfl,rfl,rfl,rfl,λm h=>⟨m,h,λ_ _ _=>rfl⟩⟩
def aF2{c:ax}(hz:dJ c)(D:dK c=true)(t:aM):∃ v y,Sa c t.ay t.row=some (v,(y,()))/\S0 c t=some (v,(y,()))/\dJ y/\dK y=true/\(v=false->y=c)/\(v=true->(ez c.aO t.ay).open_=false)/\Mv c y:=by
 have h:=Ck.of D;obtain⟨bn,R,I⟩:=Sp.of h.sp;obtain⟨hg,oF,eg,eb,h8,nt,mF,hc,HK,OY⟩:=I.xT;obtain⟨f,d1,e1,hf⟩:=an2 I t.ay t.row;obtain⟨y,v,d2,e2,hy,At,ht⟩:=aF1 I t.ay t.row;unfold Sa S0 bw xL;rw[d1,ak,d2,ak,e1,ak,e2,ak];cases v with
 |false=>exact⟨false,c,rfl,rfl,hz,D,λ_=>rfl,(λh=>by cases h),Mv.an9 c⟩
 | true=>
  obtain⟨ha,i0,yG,hym⟩:=ht rfl;obtain⟨⟨a1,a2⟩,a3,a4⟩:=(I.ex t.ay t.row).1 ha;have iM:=(BV h.rk).2.1;have El:=I.hb;have hR:=I.hR;obtain⟨f1,f2⟩:=hf ha;have Uz:cX c.config.au y=cX c.config.au c.spare:=by
   unfold cX;rw[hy.ok,h.sp,At]
  obtain⟨q,d3,e3,O⟩:=an2 hy t.ay t.row;have O:=O (by rw[Uz];exact ha);have Of:0<=t.ay/\t.ay.toNat<c.aO.aA.length:=⟨a1,by omega⟩
  rw[bG,av,av,aC Of,aC Of.2,aC Of,aC Of.2];dsimp only;cases ho:c.aO.aA[t.ay.toNat].open_ with
  |true=>exact⟨false,c,rfl,rfl,hz,D,λ_=>rfl,(λh=>by cases h),Mv.an9 c⟩
  | false=>
   rw[av,av,d3,ak,e3,ak];obtain⟨n,hn⟩:=dV (show 0<=c.config.au.aK by omega);have gb:=fJ hg;have U:∀(row:Int) (k:Nat),0<=row->row<c.config.au.rows->k<n->dO c.config.au ⟨t.ay,row,(k:Int)⟩=true:=λrow k r1 E D=>xw hg a1 (by rw[El];exact a2) r1 E (by dsimp only;omega) (by dsimp only;omega)
   have mv:∀ k,k<=n->fA c.config.au 100000 (ju c.config.au t.ay f q c.array k):=λk=>by
    induction k with
    |zero=>exact λ_=>fA.vU h.ar
    | succ k ih=>
     intro hkn;have C:=ih (by omega);have l2:=C.lt (U f k f1 f2 (by omega));unfold ju;rw[gu _ l2];exact C.NK _ (C.syms _ (cQ l2))
   have e4:=cI (step:=G6) n (λk=>(((),t.ay,(),f,(),q,(k:Int),()),(cP c (ju c.config.au t.ay f q c.array k),(c.config.au.bK,c.config.au.aA,c.config.au.rows,c.config.au.aK,()),(y.bL,(),()),y.map,()))) (.inl (((),(),()),(cP c (ju c.config.au t.ay f q c.array n),(y.bL,(),()),y.map,()))) aV (λk D=>by
    have C:=mv k (by omega);have Og:=U q k O.1 O.2 D;have Oh:=U f k f1 f2 D;obtain⟨i1,_⟩:=BW Og;obtain⟨i2,_⟩:=BW Oh;have l1:=C.lt Og;have l2:=C.lt Oh;have Oi:=C.syms _ (cQ l2);show G6 _=some (.inl (((),t.ay,(),f,(),q,((k+1:Nat):Int),()),(cP c ⟨(ju c.config.au t.ay f q c.array k).cells.set (eJ c.config.au ⟨t.ay,q,(k:Int)⟩) ((ju c.config.au t.ay f q c.array k).cells.getD (eJ c.config.au ⟨t.ay,f,(k:Int)⟩) ⟨[],false⟩),(ju c.config.au t.ay f q c.array k).bu,(ju c.config.au t.ay f q c.array k).bq⟩,_,_,_,())));rw[gu _ l2];generalize ju c.config.au t.ay f q c.array k=a at C l1 l2 Oi ⊢;unfold G6 az xG xL xM;dsimp only;rw[kE,aW (show (k:Int)<c.config.au.aK by omega),aq,Nl,ak,Nl,ak,i1,i2];have Y:0<=(eJ c.config.au ⟨t.ay,f,(k:Int)⟩:Int)/\(eJ c.config.au ⟨t.ay,f,(k:Int)⟩:Int).toNat<(cP c a).array.cells.length:=⟨by omega,by simpa [cP]using l2⟩
    have c2:0<=(eJ c.config.au ⟨t.ay,q,(k:Int)⟩:Int)/\(eJ c.config.au ⟨t.ay,q,(k:Int)⟩)<(cP c a).array.cells.length:=⟨by omega,by simpa [cP]using l1⟩
    rw[aC Y,aC Y.2,aC Y.2];simp only[bD];rw[akJ _ (by simp only[cP];rw[Oi.1];omega),ak,aC c2,aC c2.2,bI];rfl) (by
    unfold G6 az xG xL xM;dsimp only;rw[aZ (show ¬ (n:Int)<c.config.au.aK by omega),av]) (bM)
   have e5:=cI (step:=Hy) n (λk=>(((),(),(),f,(),q,(k:Int),()),(cP c (ju c.config.au t.ay f q c.array k),(t.ay,t.row,t.bV,()),(c.config.au.bK,c.config.au.aA,c.config.au.rows,c.config.au.aK,()),(y.bL,(),()),y.map,()))) (.inl (((),(),()),(cP c (ju c.config.au t.ay f q c.array n),(y.bL,(),()),y.map,()))) aV (λk D=>by
    have C:=mv k (by omega);have Og:=U q k O.1 O.2 D;have Oh:=U f k f1 f2 D;obtain⟨i1,_⟩:=BW Og;obtain⟨i2,_⟩:=BW Oh;have l1:=C.lt Og;have l2:=C.lt Oh;have Oi:=C.syms _ (cQ l2);show Hy _=some (.inl (((),(),(),f,(),q,((k+1:Nat):Int),()),(cP c ⟨(ju c.config.au t.ay f q c.array k).cells.set (eJ c.config.au ⟨t.ay,q,(k:Int)⟩) ((ju c.config.au t.ay f q c.array k).cells.getD (eJ c.config.au ⟨t.ay,f,(k:Int)⟩) ⟨[],false⟩),(ju c.config.au t.ay f q c.array k).bu,(ju c.config.au t.ay f q c.array k).bq⟩,_,_,_,_,())));rw[gu _ l2];generalize ju c.config.au t.ay f q c.array k=a at C l1 l2 Oi ⊢;unfold Hy az xG xL xM;dsimp only;rw[kE,aW (show (k:Int)<c.config.au.aK by omega),aq,ZV,ak,ZV,ak,i1,i2];have Y:0<=(eJ c.config.au ⟨t.ay,f,(k:Int)⟩:Int)/\(eJ c.config.au ⟨t.ay,f,(k:Int)⟩:Int).toNat<(cP c a).array.cells.length:=⟨by omega,by simpa [cP]using l2⟩
    have c2:0<=(eJ c.config.au ⟨t.ay,q,(k:Int)⟩:Int)/\(eJ c.config.au ⟨t.ay,q,(k:Int)⟩)<(cP c a).array.cells.length:=⟨by omega,by simpa [cP]using l1⟩
    rw[aC Y,aC Y.2,aC Y.2];simp only[bD];rw[akK _ (by simp only[cP];rw[Oi.1];omega),ak,aC c2,aC c2.2,bI];rfl) (by
    unfold Hy az xG xL xM;dsimp only;rw[aZ (show ¬ (n:Int)<c.config.au.aK by omega),av]) (bM)
   rw[cv]at e4 e5;have C:=mv n (dc _);have hbR:0<=t.ay/\t.ay<(bn:Int)/\0<=t.row/\t.row<(R:Int):=⟨a1,a2,a3,a4⟩
   have egm:=(an7 c.config.au t.ay f q c.array n)
   have sK:=λ(m:Nat->Int) (hm:Mm m c.array.cells) (cx:f≠q)=>an8 (g:=c.config.au) (b:=t.ay) (f:=f) (q:=q) (n:=n) mv hm (λk D=>U f k f1 f2 D) (λk D=>U q k O.1 O.2 D) cx n (dc _)
   refine⟨true,⟨c.config,c.box,c.now,c.aO,c.ready,ju c.config.au t.ay f q c.array n,y,c.aS,c.bH,c.guard,c.pending,c.queue,c.shares,c.drain,c.aR,c.cY,c.errors,c.trace,c.bP⟩,(bC (λo=>Option.bind o _) e4).trans rfl,(bC (λo=>Option.bind o _) e5).trans rfl,?_⟩
   generalize ju c.config.au t.ay f q c.array n=a at C egm sK ⊢;have p:=ja.of h.pa;have tQ:=hz;obtain⟨z1,z2,z3,z5,z6,z7,z8,z9,jT,oU,oV,mg,oc,rQ⟩:=hz;have hml:y.map.length<=128:=by
    rw[hy.hl];exact Nat.mul_le_mul h8 nt
   refine⟨⟨z1,z2,z3,EN C,by show y.map.length<=1048576;omega,z7,z8,z9,jT,oU,oV,mg,oc,rQ⟩,Ck.ok ⟨h.f1,h.f2,h.nw,h.rk,h.rd,Ie hg C,hy.ok,At.trans h.se,h.rf,(show ja ⟨c.config,c.box,c.now,c.aO,c.ready,a,y,c.aS,c.bH,c.guard,c.pending,c.queue,c.shares,c.drain,c.aR,c.cY,c.errors,c.trace,c.bP⟩from ⟨p.dl,p.tl,p.gl,p.t,p.g,p.pd,p.u⟩).ok,?_,h.sh,h.sl,h.dr,h.pw,h.ps,h.si,h.s1,h.s2,h.s3,h.er,h.tr,h.rp⟩,(λh=>by cases h),(λ_=>by unfold ez;rw[gu _ Of.2];exact ho),a,y,rfl,egm.1,egm.2,Uz,λm hm=>?_⟩
   ·show gW (dU (cX c.config.au y)) c.queue=true;rw[Uz];exact h.qu
   ·obtain⟨b,hb⟩:=dV a1;obtain⟨r,hr⟩:=dV a3;have abw:b<bn:=by omega
    have UA:r<R:=by omega
    have qD:b*R+r<c.spare.map.length:=by
     obtain⟨hle,_⟩:=I.lens abw;rw[jV]at hle;omega
    rw[hb,hr,bD,bD]at hym;rw[hb,bD]at yG;have ef:f=c.spare.map.getD (b*R+r) 0:=by
     have:=Uk I abw UA;rw[hb,hr]at e1;rw[this]at e1;injection e1 with e1;exact e1.symm
    have eq:q=i0:=by
     have:=Uk hy abw UA;rw[hb,hr]at e3;rw[this]at e3;injection e3 with e3;rw[<-e3,hym];exact vZ _ qD
    have cx:f≠q:=by rw[ef,eq];exact yG r UA
    obtain⟨m',g1,g2,g3⟩:=sK m hm cx
    refine⟨m',g1,λl l0 l1=>?_⟩
    have Oj:=Pq.of tQ D;obtain⟨hA1,Fe⟩:=amk Oj.p Oj.sp Oj.se Oj.mo l0 l1;obtain⟨_,m3⟩:=aaS oF Oj.mo l0 l1;obtain⟨_,b1,b2,b3,b4,b5,b6⟩:=rV m3;rw[eb]at b2;have b4:(qb (cX c.config.au c.spare) c.config.mapping l).row<(R:Int):=by
     have:=b4;rw[eg]at this ⊢;exact this
    have b6:(qb (cX c.config.au c.spare) c.config.mapping l).bV<c.config.au.aK:=by
     have:=b6;rw[eg]at this ⊢;exact this
    obtain⟨B,hB⟩:=dV b1;obtain⟨E,iL⟩:=dV b3;obtain⟨k,mJ⟩:=dV b5;have ix:((B:Int)*(R:Int)+(E:Int)).toNat=B*R+E:=by rw[<-Int.natCast_mul];omega
    have ea:dL c l=⟨(B:Int),c.spare.map.getD (B*R+E) 0,(k:Int)⟩:=by
     unfold dL;dsimp only;rw[hB,iL,mJ,I.hR,ix]
    have ey:dL ⟨c.config,c.box,c.now,c.aO,c.ready,a,y,c.aS,c.bH,c.guard,c.pending,c.queue,c.shares,c.drain,c.aR,c.cY,c.errors,c.trace,c.bP⟩ l=⟨(B:Int),y.map.getD (B*R+E) 0,(k:Int)⟩:=by
     unfold dL;dsimp only;rw[Uz,hB,iL,mJ,hy.hR,ix]
    rw[ea]at Fe ⊢;rw[ey,hym];by_cases e:B=b/\E=r
    ·obtain⟨rfl,rfl⟩:=e;rw[vZ _ qD,<-ef,<-eq,<-hb];exact g3 k (by omega)
    ·have hix:b*R+r≠B*R+E:=λh=>e (by
      have:=anq UA (show E<R by omega) h;exact⟨this.1.symm,this.2.symm⟩)
     rw[getD_set_ne _ hix]
     refine g2 _ Fe λE8=>?_
     dsimp only at E8 ⊢;obtain rfl:B=b:=by omega
     rw[eq];exact yG E (by omega)
def aoa{c:ax}(C:dJ c)(D:dK c=true){a:fV}(h:a.kind=1):zz c a=some (nJ c a.request)/\zH c a=some ((nJ c a.request).2,((nJ c a.request).1,())):=by
 unfold zz zH xC bw xL xM;rw[Ez c C,ak,BX c C,ak,D,bG,av,h,iS,aq,aq,aCv c a.request C,ak,aCy c a.request C D,ak];dsimp only;rw[aE1 D,aFu D];exact⟨rfl,rfl⟩
def aob{c:ax}(C:dJ c)(D:dK c=true){a:fV}(h:a.kind=6):∃ v y,zz c a=some (y,v)/\zH c a=some (v,(y,()))/\dJ y/\dK y=true/\(v=false->y=c)/\(v=true->(ez c.aO a.addr.ay).open_=false)/\Mv c y:=by
 obtain⟨v,y,E,I,O⟩:=aF2 C D a.addr;refine⟨v,y,?_,?_,O⟩
 ·unfold zz;rw[Ez c C,ak,BX c C,ak,D,bG,av,h];simp only[Int.reduceBEq,av,aq];rw[E,ak]
 ·unfold zH xC bw xL xM;rw[h];simp only[Int.reduceBEq,av,aq];rw[I,ak]
def abx{J:ax->Prop}{c:ax}(I:dJ c)(hk:dK c=true)(hJ:J c){m:Nat}(hm:m<=500){a:fV}(h:a.kind=2)(O:a.n=(m:Int))(hs:∀ x,dJ x->dK x=true->J x->c.now<=x.now->x.now<c.now+(m:Int)->∃ y,Bv x=some y/\D9 x=some ((),(y,()))/\dJ y/\dK y=true/\y.now=x.now+1/\J y):∃ y,zz c a=some (y,true)/\zH c a=some (true,(y,()))/\dJ y/\dK y=true/\y.now=c.now+(m:Int)/\J y:=by
 have h5:aQ (m:Int) 0 5000=true:=bA.2 ⟨by omega,by omega⟩;have h6:aQ (m:Int) 0 500=true:=bA.2 ⟨by omega,by omega⟩;have run:∀ k,k<=m->dJ (nN c k)/\dK (nN c k)=true/\(nN c k).now=c.now+(k:Int)/\J (nN c k):=by
  intro k
  induction k with
  |zero=>exact λ_=>⟨I,hk,(Int.add_zero _).symm,hJ⟩
  | succ k ih=>
   intro pS;obtain⟨C,D,U,E⟩:=ih (by omega);obtain⟨y,e,_,v1,v2,v3,v4⟩:=hs _ C D E (by omega) (by omega);have Y:nN c (k+1)=y:=by show oZ (nN c k)=y;unfold oZ;rw[e];rfl
   rw[Y];exact⟨v1,v2,by omega,v4⟩
 have one:∀ k,k<m->Bv (nN c k)=some (nN c (k+1))/\D9 (nN c k)=some ((),(nN c (k+1),())):=λk pS=>by
  obtain⟨C,D,U,E⟩:=run k (by omega);obtain⟨y,e,e2,_⟩:=hs _ C D E (by omega) (by omega);have Y:nN c (k+1)=y:=by show oZ (nN c k)=y;unfold oZ;rw[e];rfl
  rw[Y];exact⟨e,e2⟩
 obtain⟨C,D,U,E⟩:=run m (dc _);refine⟨nN c m,?_,?_,C,D,U,E⟩
 ·have e0:R7 c (m:Int)=some (nN c m):=by
   unfold R7 bw;rw[Ez c I,ak];generalize (⟨⟨⟨(0:Int),(0:Int),(0:Int),(0:Int)⟩,⟨(0:Int),(0:Int),(0:Int),(0:Int),(0:Int),(0:Int),(0:Int),(0:Int),(0:Int),(0:Int),(0:Int),(0:Int),(0:Int),(0:Int),(0:Int),(0:Int),(0:Int)⟩,⟨(0:Int),false⟩,(0:Int),(0:Int),(0:Int),⟨(0:Int),(0:Int)⟩⟩,_,_,_,_,_,_,_,_,_,_,_,_,_,_,_,_,_,_⟩:ax)=Z;have e:=cI (step:=L0) m (λi=>(((m:Int),(),(),(i:Int),()),(Z,nN c i,()))) (.inl (((),(),()),(Z,nN c m,()))) aV (λk mJ=>by
    unfold L0 az xG;dsimp only;rw[aW (show (k:Int)<(m:Int) by omega),aq,dy,ak,h5,aq,(one k mJ).1,ak,bI]) (by
    unfold L0 az xG;dsimp only;rw[aZ (show ¬ (m:Int)<(m:Int) by omega),av]) (bM)
   rw[cv]at e;exact(bC (λo=>Option.bind o _) e).trans rfl
  unfold zz;rw[Ez c I,ak,BX c I,ak,hk,bG,av,h];simp only[Int.reduceBEq,av,aq];rw[O,dy,ak,h6,aq,e0,ak]
 ·unfold zH xC bw xL xM;rw[h];simp only[Int.reduceBEq,av,aq];rw[O,fm,ak,h6,bG,av];have e:=cI (step:=M9) m (λk=>(((),(),(k:Int),()),(nN c k,a,()))) (.inl ((),(nN c m,()))) aV (λk mJ=>by
   unfold M9 az xG;dsimp only;rw[O,aW (show (k:Int)<(m:Int) by omega),aq,(one k mJ).2,ak,bI]) (by
   unfold M9 az xG;dsimp only;rw[O,aZ (show ¬ (m:Int)<(m:Int) by omega),av]) (bM)
  rw[cv]at e;exact(bC (λo=>Option.bind o _) e).trans rfl
def aF3{c:dP}{p:dz}(I:lR c)(O:tu p)(aT:aa fV)(S:Nat->ax)(t:Nat->Bool)(h0:S 0=gS c p)(U:∀ k (h:k<aT.length),zz (S k) aT[k]=some (S (k+1),t k)/\zH (S k) aT[k]=some (t k,(S (k+1),()))/\(t k=false->S (k+1)=S k))(hl:aT.length<=60)(hz:dJ (S aT.length)):∃ n,L4 c p aT=some (S aT.length,n)/\Nc c p aT=some (S aT.length,n):=by
 obtain⟨N,N0,C⟩:∃N:Nat->Int,N 0=0/\∀k,N (k+1)=bif t k then N k+1 else N k:=⟨λk=>Nat.rec 0 (λk n=>bif t k then n+1 else n) k,rfl,λ_=>rfl⟩
 have Y:∀ k:Nat,0<=N k/\N k<=k:=λk=>by
  induction k with
  |zero=>omega
  | succ k ih=>
   rw[C];cases t k
   ·rw[av];omega
   ·rw[aq];omega
 refine⟨N aT.length,?_⟩;unfold L4 Nc bw;rw[aER I O,ak,anx I O,ak];dsimp only;rw[bG,av,av,aZ (show ¬ (aT.length:Int) > 60 by omega),av,av,<-h0];generalize (⟨⟨⟨(0:Int),(0:Int),(0:Int),(0:Int)⟩,⟨(0:Int),(0:Int),(0:Int),(0:Int),(0:Int),(0:Int),(0:Int),(0:Int),(0:Int),(0:Int),(0:Int),(0:Int),(0:Int),(0:Int),(0:Int),(0:Int),(0:Int)⟩,⟨(0:Int),false⟩,(0:Int),(0:Int),(0:Int),⟨(0:Int),(0:Int)⟩⟩,⟨⟨(0:Int),(0:Int),(0:Int),(0:Int),(0:Int),([]:aa Int),⟨(0:Int),(0:Int)⟩⟩,⟨(0:Int),(0:Int),(0:Int),(0:Int),(0:Int),([]:aa Int),⟨(0:Int),(0:Int)⟩⟩,false⟩,(0:Int),⟨([]:aa di),(0:Int)⟩,⟨([]:aa Int),([]:aa Int)⟩,⟨([]:aa bQ),([]:aa Int),([]:aa Int)⟩,⟨(0:Int),([]:aa Int)⟩,⟨([]:aa Int),(0:Int),false⟩,([]:aa cq),([]:aa Int),([]:aa aM),([]:aa aN),([]:aa cD),⟨false,(0:Int),(0:Int)⟩,⟨(0:Int),(0:Int),(0:Int)⟩,⟨(0:Int),(0:Int),(0:Int)⟩,([]:aa cB),([]:aa bW),([]:aa dA)⟩:ax)=Z;have e:=cI (step:=L3) aT.length (λi=>(((),(),N i,aT,(aT.length:Int),(i:Int),()),(Z,S i,()))) (.inl (((),(),N aT.length,()),(Z,S aT.length,()))) aV (λk D=>by
  have:=Y k;obtain⟨E,_,k3⟩:=U k D;unfold L3 az xG xI;dsimp only;rw[aW (show (k:Int)<(aT.length:Int) by omega),aq,aC ⟨by omega,by omega⟩];simp only[bD];rw[E,ak,bI,C];cases hd:t k with
  |true=>rw[aq,aq,aY (n:=N k+1)]
  |false=>rw[av,av,k3 hd]) (by
  unfold L3 az xG xI;dsimp only;rw[aZ (show ¬ (aT.length:Int)<(aT.length:Int) by omega),av]) (bM)
 have e2:=cI (step:=Nb) aT.length (λi=>((aT,(),(),N i,(i:Int),()),(Z,S i,()))) (.inl (((),(),N aT.length,()),(Z,S aT.length,()))) aV (λk D=>by
  have:=Y k;obtain⟨_,E,_⟩:=U k D;unfold Nb az xG xI;dsimp only;rw[aW (show (k:Int)<(aT.length:Int) by omega),aq,aC ⟨by omega,by omega⟩];simp only[bD];rw[E,ak,bI,C];cases hd:t k with
  |true=>rw[aq,aq,aY (n:=N k+1)]
  |false=>rw[av,av]) (by
  unfold Nb az xG xI;dsimp only;rw[aZ (show ¬ (aT.length:Int)<(aT.length:Int) by omega),av]) (bM)
 rw[cv,N0]at e e2
 refine⟨(bC (λo=>Option.bind o _) e).trans rfl,(bC (λo=>Option.bind o _) e2).trans ?_⟩
 rw[ak];simp only[dH];rw[aCt _ hz,ak]
def Es.aF4{c:dP}{p:dz}(D:lR c):Es (gS c p):=by
 have I:200<=c.interval/\c.interval<=259:=D.2.2.2.2.1;have O:=eM c.au;have C:∀ (n k:Nat),(List.replicate n (0:Int)).getD k 0=0:=λn k=>by
  rw[cV,List.getElem?_replicate];split<;>rfl
 refine⟨rfl,rfl,⟨rfl,jw _,0,λb=>Int.le_of_eq (C _ _),by show (0+1)*200<=0+c.interval;omega⟩,⟨λk=>Int.le_of_eq (C _ _),λb r _ _=>?_⟩,λb hb=>?_,xS.new _ _,jw _⟩
 ·show (List.replicate (gn c.au).toNat (0:Int)).getD _ 0<=1+(0:Int)
  rw[C];decide
 ·have hb:(b:Int)<aU c.au:=hb;show zV 0 _ ((List.replicate (aU c.au).toNat ER).getD b zT);have E:(List.replicate (aU c.au).toNat ER).getD b zT=qZ 16:=by
   rw[cV,List.getElem?_replicate,bg];rfl
  rw[E];exact⟨λ_=>0,qf.new _,λ_ _=>jG _⟩
def Jr.aoc{a s:Nat}{n x:Int}{rs:aa dA}{D:dP}{G:aG}{c:ax}(E:Es c)(C:∀ i:Nat,c.ready.last.getD i (-1)<=c.now)(I:c.config=D)(O:c.errors=[])(U:cX c.config.au c.spare=G){m:Nat->Int}(Y:Mm m c.array.cells)(h0:c.queue=[])(hr:c.bP=rs){q:aN}(ht:q.dM=0)(hs:Sg (uC c q) s)(hn:c.now+17*(s:Int)<=n)(hA:(dG c.trace).length<=a)(hv:q.write=false->m (eJ c.config.au (dL c q.line))=x):Jr a n (nI c q) rs x D G (uC c q):=by
 obtain⟨g1,g2,g3,g4,g5,g6,g7⟩:=E;have hq:(uC c q).queue=[nI c q]:=by show c.queue++[nI c q]=_;rw[h0];rfl
 exact⟨⟨g1,g2,g3,g4,g5,g6,g7⟩,C,I,O,U,m,Y,.inl ⟨⟨c.now,s,⟨hq,hr,ht,λb k _ _=>.inl (Uo C b k),by show c.now<=c.now+16;omega⟩,hs,λ_=>C,hn,by split<;>(show (dG c.trace).length<=_;omega)⟩,hv⟩⟩
def Jr.jmv{a:Nat}{n x:Int}{q:aN}{rs:aa dA}{D:dP}{G:aG}{c y:ax}(h:Jr a n q rs x D G c)(E:c.queue=[])(hl:0<=q.line/\q.line<dU G)(I:Mv c y):Jr a n q rs x D G y/\y.now=c.now:=by
 obtain⟨b,s,rfl,O,U,Y,h4⟩:=I;obtain⟨⟨g1,g2,g3,⟨g4,g5⟩,g6,g7,g8⟩,jm,jc,je,jg,m,hM,jp⟩:=h;obtain⟨m',k1,k2⟩:=h4 m hM
 refine⟨⟨⟨g1,g2,g3,⟨λk=>by rw[O];exact g4 k,λb r hb C=>by rw[U];exact g5 b r hb C⟩,g6,g7,g8⟩,jm,jc,je,Y.trans jg,m',k1,?_⟩,rfl⟩
 rcases jp with ⟨⟨T,s,hw,_⟩,_⟩|⟨q0,hA,hv,t,C⟩
 ·have:=hw.wq;rw[E]at this;cases this
 ·exact .inr ⟨E,hA,(k2 _ hl.1 (by rw[jg];exact hl.2)).trans hv,t,C⟩
def Jr.jdn{a:Nat}{n x:Int}{q:aN}{rs:aa dA}{C:dP}{G:aG}{c:ax}(h:Jr a n q rs x C G c)(hn:n+16<c.now):c.queue=[]/\(dG c.trace).length<=a+1/\∃ m,Mm m c.array.cells/\m (eJ c.config.au (dL c q.line))=x/\∃ t,c.bP=rs++[⟨q.id,t,bif q.write then 0 else x,0⟩]:=by
 obtain⟨_,_,_,_,_,m,D,jp⟩:=h;rcases jp with ⟨E,_⟩|⟨I,O,U,Y⟩
 ·have:=E.wnw;omega
 ·exact⟨I,O,m,D,U,Y⟩
def UB(line x b r:Int):aa fV:=[⟨1,⟨1,0,line,true,x,0⟩,0,0,⟨0,0,0⟩,o4⟩,⟨2,v7,30,0,⟨0,0,0⟩,o4⟩,⟨6,v7,0,0,⟨b,r,0⟩,o4⟩,⟨2,v7,250,0,⟨0,0,0⟩,o4⟩,⟨6,v7,0,0,⟨b,r,0⟩,o4⟩,⟨1,⟨2,0,line,false,0,0⟩,0,0,⟨0,0,0⟩,o4⟩,⟨2,v7,250,0,⟨0,0,0⟩,o4⟩]
def aF5{c:dP}{p:dz}(Y:lR c)(hp:tu p){line x:Int}(hl:0<=line/\line<dU (cX c.au (gS c p).spare))(I:0<=x/\x<=4294967295):∃ (y:ax) (n:Int) (C:dA) (t:Int),L4 c p (UB line x (qb (cX c.au (gS c p).spare) c.mapping line).ay (qb (cX c.au (gS c p).spare) c.mapping line).row)=some (y,n)/\Nc c p (UB line x (qb (cX c.au (gS c p).spare) c.mapping line).ay (qb (cX c.au (gS c p).spare) c.mapping line).row)=some (y,n)/\dJ y/\dK y=true/\Ig y/\y.bP=[C,⟨2,t,x,0⟩]:=by
 have tQ:=ant Y hp;have yX:=anu Y hp;obtain⟨G,hG⟩:∃G,G=cX c.au (gS c p).spare:=⟨_,rfl⟩
 rw[<-hG]at hl ⊢;generalize hA:qb G c.mapping line=A;have hla:∀ i:Nat,(gS c p).ready.last.getD i (-1)<=0:=λi=>by
  show (List.replicate (9*(aU c.au+1)).toNat (-1:Int)).getD i (-1)<=0;rw[cV,List.getElem?_replicate];split<;>decide
 -- the first request
 obtain⟨C,O⟩:∃C:aN,C=⟨1,0,line,true,x,0⟩:=⟨_,rfl⟩
 have q0:nI (gS c p) C=C:=by rw[O];rfl
 have en1:nJ (gS c p) C=(uC (gS c p) C,true):=anW (N:=0) yX ⟨λx I=>(by cases I),λx I=>(by cases I)⟩ (by rw[O];show (0:Int)<1;decide) (by show (0:Nat)<12;decide) (by
  rw[q0,O];simp only[nH,aP];exact⟨by decide,by decide,aW hl.1,aW (by rw[hG]at hl;exact hl.2),bA.2 I,rfl,by decide⟩)
 have fR:=al3 (gS c p) C tQ;have gC:=(anv yX C).1;rw[en1]at fR gC;have hJ1:Jr 0 17 (nI (gS c p) C) [] x c G (uC (gS c p) C):=Jr.aoc (s:=1) (Es.aF4 Y) hla rfl rfl hG.symm (Mm.new c.au) rfl rfl (by rw[O]) (.inr ⟨rfl,.inr (.inl ⟨rfl,aFf (by
  show ((List.replicate (aU c.au).toNat (⟨false,0⟩:di)).all λb=>!b.open_)=true;rw[ck];intro x I;rw[(List.mem_replicate.1 I).2];rfl) _⟩)⟩) (by show (0:Int)+17*((1:Nat):Int)<=17;omega) (dc _) (λh=>by rw[O]at h;cases h)
 rw[q0]at hJ1;have AH:C.write=true->C.data=x:=λ_=>by rw[O]
 have d1:=aoa tQ yX (a:=⟨1,C,0,0,⟨0,0,0⟩,o4⟩) rfl;rw[show (⟨1,C,0,0,⟨0,0,0⟩,o4⟩:fV).request=C from rfl,en1]at d1
 -- thirty cycles
 obtain⟨y2,e2,f2,xk,lK,pU,pV⟩:=abx (J:=Jr 0 17 C [] x c G) fR gC hJ1 (m:=30) (by decide) (a:=⟨2,v7,30,0,⟨0,0,0⟩,o4⟩) rfl rfl λz g1 g2 g3 g4 U=>g3.jst (by decide) AH (by decide) Y g1 g2 (by have U:z.now<0+((30:Nat):Int):=U;omega)
 have pU:y2.now=30:=pU;have rz:0<=C.line/\C.line<dU G:=by rw[O];exact hl
 -- a row retires
 obtain⟨v3,y3,e3,f3,ZQ,G2,qT,Bw,R6⟩:=aob xk lK (a:=⟨6,v7,0,0,⟨A.ay,A.row,0⟩,o4⟩) rfl;obtain⟨DS,By⟩:Jr 0 17 C [] x c G y3/\y3.now=30:=by
  have aF6:=pV;obtain⟨_,_,jc,_,jg,m,_,⟨⟨T,s,hw,hs,_,hT,_⟩,_⟩|⟨q9,_⟩⟩:=aF6
  ·have hv:v3=false:=by
    have:=hw.wn;cases v3 with
    |false=>rfl
    | true=>
     have ho:=Bw rfl;have ea:(cR y2 0).ay=A.ay:=by
      rw[aFj hw.wq,O,<-hA];unfold dL;rw[jg,jc]
     rcases hs with ⟨rfl,_⟩|⟨_,⟨rfl,_⟩|⟨rfl,_⟩|⟨_,o1,_⟩⟩
     ·omega
     ·omega
     ·omega
     ·rw[ea,ho]at o1;cases o1
   rw[qT hv];exact⟨pV,pU⟩
  ·have:=pV.jmv q9 rz R6;exact⟨this.1,this.2.trans pU⟩
 -- two hundred and fifty cycles
 obtain⟨y4,e4,f4,Zv,G3,G4,G5⟩:=abx (J:=Jr 0 17 C [] x c G) ZQ G2 DS (m:=250) (by decide) (a:=⟨2,v7,250,0,⟨0,0,0⟩,o4⟩) rfl rfl λz g1 g2 g3 g4 U=>g3.jst (by decide) AH (by decide) Y g1 g2 (by rw[By]at U;omega)
 have G4:y4.now=280:=by rw[G4,By];rfl
 have q4:=(G5.jdn (by omega)).1
 -- and once more
 obtain⟨v5,D,e5,f5,y51,UC,y53,_,y55⟩:=aob Zv G3 (a:=⟨6,v7,0,0,⟨A.ay,A.row,0⟩,o4⟩) rfl;obtain⟨y56,Ok⟩:=G5.jmv q4 rz y55;have Ok:D.now=280:=Ok.trans G4;obtain⟨q5,hA5,m5,hM5,UD,t5,UE⟩:=y56.jdn (by omega);obtain⟨hE5,jm5,jc5,je5,jg5,_⟩:=y56;have UE:D.bP=[⟨1,t5,0,0⟩]:=by rw[UE,O];rfl
 have UD:m5 (eJ D.config.au (dL D line))=x:=by rw[O]at UD;exact UD
 -- the second request
 obtain⟨E,iL⟩:∃E:aN,E=⟨2,0,line,false,0,0⟩:=⟨_,rfl⟩
 have q2:nI D E=⟨2,0,line,false,0,280⟩:=by rw[iL];unfold nI;rw[Ok]
 have en2:nJ D E=(uC D E,true):=anW (N:=1) UC ⟨λx I=>(by rw[q5]at I;cases I),λx I=>(by rw[UE,jH]at I;rw[I];exact jw 1)⟩ (by rw[iL];show (1:Int)<2;decide) (by rw[q5];decide) (by
  rw[q2,jg5];simp only[nH,aP];exact⟨by decide,by decide,aW hl.1,aW hl.2,by decide,by decide,by decide⟩)
 have y61:=al3 D E y51;have DL:=(anv UC E).1;rw[en2]at y61 DL;obtain⟨s,hs3,hs⟩:∃ s:Nat,s<=3/\Sg (uC D E) s:=by
  have sX:=Ck.of UC;have hpw:=sX.pw;simp only[kG,aP,bA]at hpw;have jY:=sX.ps;by_cases h0:D.aO.aR=0
  ·obtain⟨s,h1,h2⟩:=Sg.sex (c:=uC D E) h0;exact⟨s,by omega,h2⟩
  ·exact⟨3,dc _,.inl ⟨rfl,by show D.aO.aR=1\/D.aO.aR=2;omega⟩⟩
 have hJ2:Jr 1 331 (nI D E) [⟨1,t5,0,0⟩] x c G (uC D E):=Jr.aoc hE5 jm5 jc5 je5 jg5 hM5 q5 UE (by rw[iL]) hs (by omega) hA5 (λ_=>by rw[iL];exact UD);rw[q2]at hJ2;have d6:=aoa y51 UC (a:=⟨1,E,0,0,⟨0,0,0⟩,o4⟩) rfl;rw[show (⟨1,E,0,0,⟨0,0,0⟩,o4⟩:fV).request=E from rfl,en2]at d6
 -- and two hundred and fifty cycles
 obtain⟨y7,e7,f7,y71,y72,UF,y74⟩:=abx (J:=Jr 1 331 ⟨2,0,line,false,0,280⟩ [⟨1,t5,0,0⟩] x c G) y61 DL hJ2 (m:=250) (by decide) (a:=⟨2,v7,250,0,⟨0,0,0⟩,o4⟩) rfl rfl λz g1 g2 g3 g4 U=>g3.jst (dc _) (λh=>by cases h) (by show (1:Nat)<=9;decide) Y g1 g2 (by have U:z.now<D.now+((250:Nat):Int):=U;rw[Ok]at U;omega)
 have UF:y7.now=530:=by
  have UF:y7.now=D.now+((250:Nat):Int):=UF;rw[UF,Ok];rfl
 obtain⟨_,_,_,_,_,t,hr7⟩:=y74.jdn (by omega);obtain⟨n,g1,g2⟩:=aF3 Y hp (UB line x A.ay A.row) (λi=>[gS c p,uC (gS c p) C,y2,y3,y4,D,uC D E,y7].getD i y7) (λi=>[true,true,v3,true,v5,true,true].getD i true) rfl (λi hi=>by
  have hi:i<7:=hi;rw[O]at d1 e2 f2;rw[iL]at d6 e7 f7;rcases i with _|_|_|_|_|_|_|i
  ·rw[O];exact⟨d1.1,d1.2,λh=>by cases h⟩
  ·rw[O];exact⟨e2,f2,λh=>by cases h⟩
  ·exact⟨e3,f3,qT⟩
  ·exact⟨e4,f4,λh=>by cases h⟩
  ·exact⟨e5,f5,y53⟩
  ·rw[iL];exact⟨d6.1,d6.2,λh=>by cases h⟩
  ·rw[iL];exact⟨e7,f7,λh=>by cases h⟩
  ·omega) (by show (7:Nat)<=60;decide) y71
 exact⟨y7,n,_,t,g1,g2,y71,y72,y74.js.eT,hr7⟩
def aF7(l:aa Int)(h:l.length<=maxLen):ZS l=some true:=by
 unfold ZS Yx;rw[ak];by_cases aod:(l.length:Int) > 1048576
 ·rw[aW aod];rfl
 ·rw[aZ aod,av];obtain⟨c0,p,aT,e1,tN,I⟩:=aFr l (by omega);obtain⟨ps,e2,jY,hpb⟩:=az9 l (by omega);rw[e1,ak];dsimp only;obtain⟨c,O⟩:∃ c:dP,c=⟨c0.au,c0.bY,c0.mapping,2,c0.interval,c0.gO,c0.dg⟩:=⟨_,rfl⟩
  have U:lR c:=by
   obtain⟨k1,k2,k3,_,k5,k6,k7⟩:=tN;rw[O];exact⟨k1,k2,k3,⟨by show (0:Int)<=2;decide,by show (2:Int)<=2;decide⟩,k5,k6,k7⟩
  have eg:c0.au=c.au:=by rw[O]
  have em:c0.mapping=c.mapping:=by rw[O]
  rw[<-O,eg,em];have tQ:=ant U I;have yX:=anu U I;have h2:=aFs (c:=gS c p) tQ yX;have h2:2<=dU (cX c.au (gS c p).spare):=h2;have qz:=mN (cX c.au (gS c p).spare);have hq:=Pq.of tQ yX;have hgo:ct (cX c.au (gS c p).spare)=true:=(EI hq.sp).2.2.1;rw[e2,ak,anx U I,ak];dsimp only;rw[aA7,ak];have Y:(0:Int).toNat<ps.length:=by show 0<ps.length;omega
  have C:(1:Int).toNat<ps.length:=by show 1<ps.length;omega
  have a0:=hpb _ (cQ Y);have a1:=hpb _ (cQ C);have t0:=ZW (x:=ps[(0:Int).toNat]'Y) (n:=dU (cX c.au (gS c p).spare)) a0.1 (by omega);obtain⟨y,n,r1,t,e4,e5,y1,y2,y3,e6⟩:=aF5 U I t0 (x:=ps[(1:Int).toNat]'C) ⟨a1.1,by omega⟩;unfold UB v7 o4 at e4 e5;rw[aC ⟨by decide,Y⟩,aC Y,Ef,ak,bk (show ¬ dU (cX c.au (gS c p).spare)=0 by omega),ami (m:=c.mapping) hgo hq.mo t0.1 t0.2,ak,aC ⟨by decide,C⟩,aC C,e4,ak,e5,ak];clear e4 e5;obtain⟨D,iL⟩:∃D:dA,D=⟨2,t,ps[(1:Int).toNat]'C,0⟩:=⟨_,rfl⟩
  rw[<-iL]at e6;have hda:D.data=ps[(1:Int).toNat]'C:=by rw[iL]
  have hco:D.code=0:=by rw[iL]
  have kL:((y.bP.length:Int) != 2)=false:=by rw[e6];rfl
  have E:(1:Int).toNat<y.bP.length:=by rw[e6];show (1:Nat)<2;decide
  have g1:y.bP[(1:Int).toNat]'E=D:=by simp[e6]
  have hml:y.spare.map.length<=1048576:=y1.2.2.2.2.1;dsimp only;rw[bne_self_eq_false,av,kL,av,aC ⟨by decide,E⟩,aC E,g1,aC ⟨by decide,C⟩,aC C,hda,iS,aq,aC ⟨by decide,E⟩,aC E,g1,hco,iS,aq,aCF _ y1,ak,y2,y3.saf,Bool.and_self,aq,aBR _ (by omega),ak]
def aF8(C:Value)(w:World)(D:RdL .u8 (λx:Int=>0<=x/\x<=255) w C):Calls Tryz.prog 3 #[C] w λe w'=>e = .returned (.bool true)/\Below w.heap.size w w':=by
 obtain⟨l,hl,_,E⟩:=D;exact asq az8 (asr (ai:=[(false,.sl .u8)]) (x:=(l,())) (by kernel_rfl) (aF7 l hl)) (ass E)
end Go.Proofs.YtdfkhfiglknaoaaGreat
