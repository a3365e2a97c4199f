/-
  Plain laws. Nothing here is a claim.
-/
import Derived.Test.YtnilicojgkhpnaaGreatPYExactDoAct
namespace Go.Proofs.YtnilicojgkhpnaaGreat
set_option linter.defProp false
open Go.RowKit
set_option linter.unusedVariables false
set_option linter.unusedSimpArgs false
set_option maxRecDepth 100000
def aG1{c:iG}{p:fh}(hl:p.weights.length<1073741823)(h:oQ c p=true):jh c.cq=true:=by
 have⟨b,e,C⟩:=aaU c p hl;have hb:b=true:=by
  rw[N1 c p hl]at e;simp_all
 have:=C hb;simp[oK,aU]at this;simp_all
def jK(i:Nat):aG:=⟨(i:Int) % 9+1,if (i:Int) % 9+1<=5 then (i:Int) / 9 else 0,0,0⟩
def yO(n m:Int):Int:=if n > m then n else m
def US(g:aM)(t:dj)(l:aa Int)(c:aG)(m:Int)(i:Nat):Int:=match l[i]? with
 |some n=>bif decide (n<0)then m else yO (n+wC g t (jK i) c) m
 |none=>m
def ve(g:aM)(t:dj)(l:aa Int)(c:aG)(k:Nat):Int:=(List.range k).foldl (US g t l c) 0
def yP(g:aM)(t:dj)(r:dB)(c:aG):Int:=
 bif c.kind==1&&(r.bC.length:Int)==4 then yO (r.bC.getD 0 0+t.ke) (ve g t r.last c r.last.length)else ve g t r.last c r.last.length
def ab0(g:aM)(t:dj)(l:aa Int)(c:aG)(k:Nat):ve g t l c (k+1)=US g t l c (ve g t l c k) k:=by
 unfold ve;rw[List.range_succ,List.foldl_append];rfl
def ab1{g:aM}{t:dj}{l:aa Int}{c:aG}{m:Int}{i:Nat}(h:i<l.length):US g t l c m i=bif decide (l[i]<0)then m else yO (l[i]+wC g t (jK i) c) m:=by
 unfold US;rw[bZ h]
def aG2{a b C:Int}(D:a<=C)(hb:0<=b/\b<=C):0<=yO a b/\yO a b<=C:=by
 unfold yO;split<;>omega
structure HA (g:aM) (t:dj) (r:dB):Prop where
 s7:cG g=true
 Ec:jh t=true
 len:r.last.length<1000
 last:∀(i:Nat) (h:i<r.last.length),(-1<=r.last[i]/\r.last[i]<=1000000)/\(r.last[i] = -1\/oN g i=true)
 a4:r.bC.length<=4
 act:∀x∈r.bC,0<=x/\x<=1000000
def aG3{g:aM}{t:dj}{r:dB}(E:jh t=true)(h:lP g r=true):HA g t r:=by
 have hb:=fH g;simp only[lP,aU,cx,fK]at h;have⟨L,C,D,O,T⟩:=h;have C:(r.last.length:Int)=9*(bg g+1):=by simpa using C
 have D:¬ (r.bC.length:Int) > 4:=by simpa using D
 refine⟨L,E,by omega,λi hi=>?_,by omega,λx U=>?_⟩
 ·have e:=O i hi;rw[NN hi]at e;simp only[aU,eG]at e;refine⟨bF.1 e.1,?_⟩
  grind
 ·obtain⟨i,hi,rfl⟩:=jo.1 U;have e:=T i hi;cases i with
  |zero=>rw[NO hi]at e;exact bF.1 e
  |succ i=>rw[Hg hi]at e;simp at e;exact bF.1 e.1
def anU(i:Nat):1<=(jK i).kind/\(jK i).kind<=9:=by
 unfold jK;dsimp only;omega
def aG4{g:aM}{i:Nat}(C:oN g i=true):(jK i).kind <= 5 -> 0 <= (jK i).ay/\(jK i).ay<bg g:=by
 unfold oN at C;unfold jK
 grind
def aG5{g:aM}{i:Nat}(hi:i<1000)(C:oN g i=true):∃ b,Dv g (i:Int)=some (jK i,b):=by
 have E:=C;unfold oN at C;unfold Dv jK;rw[oE,ak,qR (by omega),sg (by omega),aR,aR,NM,ak];cases D:decide ((i:Int) / 9<bg g)with
 |true =>simp_all
 | false=>
  rw[D]at C;have L:¬ (i:Int) % 9+1 <= 5:=by
   simp_all
  simp[*]
def UT{g:aM}{t:dj}{r:dB}(h:HA g t r)(c:aG):∀ k,k <= r.last.length -> 0 <= ve g t r.last c k/\ve g t r.last c k <= 1000128
 |0,_=>⟨Int.le_refl _,by show 0 <= _;omega⟩
 | k+1,D=>by
  have C:=UT h c k (by omega);rw[ab0,ab1 (by omega)];have E:=abd h.Ec g (jK k) c;have hl:=(h.last k (by omega)).1;cases decide (r.last[k]<0)with
  |true=>exact C
  |false=>exact aG2 (by omega) C
def aG6{g:aM}{t:dj}{r:dB}{c:aG}(h:HA g t r)(T:dS g c=true):Sf g t r c=some (yP g t r c):=by
 have hb:=λk E=>UT h c k E
 have Y:1<=c.kind/\c.kind<=9:=by
  simp only[dS,aU]at T;exact bF.1 T.2.1
 have e:=cB (step:=Lw) r.last.length (λi=>(((),(),(),(),ve g t r.last c i,(i:Int),()),((g.cu,g.aC,g.rows,g.aO,()),t,(r.last,r.bC,()),(c.kind,c.ay,c.row,c.bT,()),()))) (.inl (((),(),(),ve g t r.last c r.last.length,()),(t,(r.last,r.bC,()),(c.kind,c.ay,c.row,c.bT,()),()))) aX (λk E=>by
  have h1:=h.len;have h2:=(h.last k E).1;have h3:=hb k (by omega);have D:=abd h.Ec g (jK k) c;unfold Lw av xG xI;dsimp only;rw[aS,au,aA ⟨by omega,by omega⟩,bD];simp only[bz];rw[ab0,ab1 E];cases hd:decide (r.last[k]<0)with
  |true=>rfl
  | false=>
   have L:AA g t (jK k) c=some (wC g t (jK k) c):=aDS h.s7 h.Ec (anU k) Y;have Z:W6 ((k:Int).tmod 9+1)=(k:Int) % 9+1:=by rw[sg (by omega),aR]
   have e2:W6 ((k:Int).tdiv 9)=(k:Int) / 9:=by rw[qR (by omega),aR]
   unfold jK at L;rw[aq,aq,Z,e2];by_cases C:(k:Int) % 9+1<=5
   ·rw[bI C]at L;rw[aS C,au,aA ⟨by omega,E⟩,nW];show Option.bind (AA g t _ c) _=_;rw[L,ak,aR (n:=r.last[k]+_) (by unfold jK at D;rw[bI C]at D;omega) (by unfold jK at D;rw[bI C]at D;omega)];unfold jK yO;rw[bI C]
   ·rw[bU C]at L;rw[aT C,aq,aA ⟨by omega,E⟩,nW];show Option.bind (AA g t _ c) _=_;rw[L,ak,aR (n:=r.last[k]+_) (by unfold jK at D;rw[bU C]at D;omega) (by unfold jK at D;rw[bU C]at D;omega)];unfold jK yO;rw[bU C]) (by
  unfold Lw av xG xI;dsimp only;rw[aT,aq]) (bN (by have:=h.len;omega))
 rw[cr]at e;unfold Sf yP xI bk
 refine(aZ (λo=>Option.bind o _) e).trans ?_
 rw[ak];simp only[en];have hL:=hb r.last.length (dQ _);have hf:=am7 h.Ec;cases c.kind==(1:Int)with
 |false=>rfl
 | true=>
  cases U:(r.bC.length:Int)==(4:Int)with
  |false=>rfl
  | true=>
   have U:(r.bC.length:Int)=4:=by simpa using U
   have O:0<r.bC.length:=by omega
   have ha:=h.act _ (cT O);rw[au,au,aA ⟨by omega,O⟩];show some (if W6 (r.bC[0]+t.ke) > _ then W6 (r.bC[0]+t.ke)else _)=_;rw[aR,fz,bZ O];rfl
def aG7{g:aM}{t:dj}{r:dB}(h:HA g t r)(c:aG):0 <= yP g t r c:=by
 have C:=UT h c _ (dQ _);unfold yP yO
 grind
def aG8{g:aM}{t:dj}{r:dB}{c:aG}(h:HA g t r)(Z:lP g r=true)(C:dS g c=true):Tp g t r c=some (bif decide (yP g t r c > 1000000)then -1 else yP g t r c):=by
 have hb:=λk D=>UT h c k D
 have T:(1<=c.kind/\c.kind<=9)/\(c.kind<=5->0<=c.ay/\c.ay<bg g):=by
  simp only[dS,aU]at C
  refine⟨bF.1 C.2.1,λh5=>?_⟩
  have E:=C.2.2.1;rw[NT (bF.1 C.2.1),aS h5]at E;have:=bF.1 E;omega
 have e:=cB (step:=M3) r.last.length (λi=>(((),(),(),(),ve g t r.last c i,r.last,(r.last.length:Int),(i:Int),()),((g.cu,g.aC,g.rows,g.aO,()),t,(r.last,r.bC,()),(c.kind,c.ay,c.row,c.bT,()),()))) (.inl (((),(),(),ve g t r.last c r.last.length,()),(t,(r.last,r.bC,()),(c.kind,c.ay,c.row,c.bT,()),()))) aX (λk D=>by
  have E:=h.len;have h2:=(h.last k D).1;have h3:=hb k (by omega);have hg:=abd h.Ec g (jK k) c;unfold M3 av xG xI;dsimp only;rw[aS,au,aA ⟨by omega,by omega⟩,bD];simp only[bz];rw[ab0,ab1 D];cases hd:decide (r.last[k]<0)with
  |true=>rfl
  | false=>
   have aJW:¬ r.last[k]<0:=by simpa using hd
   have U:oN g k=true:=by
    rcases(h.last k D).2 with h9|h9
    ·omega
    ·exact h9
   obtain⟨b,eb⟩:=aG5 (g:=g) (i:=k) (by omega) U;rw[aq,aq,nW,eb,ak];show Option.bind (M1 g t (jK k) c) _=_;rw[aDR t h.s7 (anU k) T.1 (aG4 U) T.2,ak,aR (n:=r.last[k]+_)];rfl) (by
  unfold M3 av xG xI;dsimp only;rw[aT,aq]) (bN (by have:=h.len;omega))
 rw[cr]at e;unfold Tp yP xI bk;rw[NG,ak,h.Ec,bA,aq,aa1,ak,Z,bA,aq,aa6,ak,C,bA,aq]
 refine(aZ (λo=>Option.bind o _) e).trans ?_
 rw[ak];simp only[en];have hL:=hb r.last.length (dQ _);have hf:=am7 h.Ec;have L:∀m:Int,(bif decide (m > 1000000)then some (-1:Int)else some m)=some (bif decide (m > 1000000)then -1 else m):=λm=>by cases decide (m > 1000000)<;>rfl
 cases c.kind==(1:Int)with
 |false=>exact L _
 | true=>
  cases Y:(r.bC.length:Int)==(4:Int)with
  |false=>exact L _
  | true=>
   have Y:(r.bC.length:Int)=4:=by simpa using Y
   have O:0<r.bC.length:=by omega
   have ha:=h.act _ (cT O);rw[au,au,aA ⟨by omega,O⟩];show (bif decide ((if W6 (r.bC[0]+t.ke) > _ then W6 (r.bC[0]+t.ke)else _) > 1000000)then _ else some (if W6 (r.bC[0]+t.ke) > _ then W6 (r.bC[0]+t.ke)else _))=_;rw[aR,fz,bZ O];exact L _
def dG(c:ax)(x:aG):Bool:=pV c.br x&&(decide (yP c.config.az c.config.cq c.ready x<=1000000)&&decide (yP c.config.az c.config.cq c.ready x<=c.now))
structure Pk (c:ax):Prop where
 z:dU c
 ok:eV c=true
 rk:mE c.config.az c.br=true
 rdy:lP c.config.az c.ready=true
 R:HA c.config.az c.config.cq c.ready
 bl:(c.br.aC.length:Int)=bg c.config.az
def Pk.of{c:ax}(C:dU c)(h:eV c=true):Pk c:=by
 have T:c.box.bH.weights.length <= 1048576:=C.1.1;have L:=h;simp[eV,aU]at h;have⟨O,U,Y,D,E,Z,h7,h8,h9,Hl,Ho,tW,uG,Ba,Bb,qz,D4,HB,HC,N6,yh,N7⟩:=h;have hb:c.br.aC.length=bg c.config.az:=by
  simp[mE,aU]at D;simp_all
 exact⟨C,L,D,E,aG3 (aG1 (by omega) O) E,hb⟩
def aG9{g:aM}{x:aG}(C:dS g x=true):(1 <= x.kind/\x.kind <= 9)/\(x.kind <= 5 -> 0 <= x.ay/\x.ay<bg g):=by
 simp[dS,aU]at C
 refine⟨bF.1 C.2.1,λE=>?_⟩
 have D:=C.2.2.1;rw[NT (bF.1 C.2.1),aS E]at D;have:=bF.1 D;omega
def UU{c:ax}(h:Pk c){x:aG}(C:dS c.config.az x=true):Dg c x=some (dG c x):=by
 have⟨L,D⟩:=aG9 C;have hb:=fH c.config.az;have hl:=h.bl;unfold Dg dG;rw[aDN L (λE=>⟨(D E).1,by have:=D E;omega⟩) (by omega),ak,aG6 h.R C,ak]
 grind
def yQ{c:ax}(h:Pk c){x:aG}(C:dS c.config.az x=true):jf c x=some (dG c x):=by
 have D:=aG7 h.R x;unfold jf dG;rw[aa7,ak,h.rk,C,cw,cw,aG8 h.R h.rdy C,ak]
 grind
def cI(i:Nat):aa Int->aa Int
 |[]=>[]
 |d::l=>bif decide (d >= 4)then (i:Int)::cI (i+1) l else cI (i+1) l
def aHa(i:Nat)(a b:aa Int):cI i (a++b)=cI i a++cI (i+a.length) b:=by
 induction a generalizing i with
 |nil=>rfl
 | cons d a C=>
  rw[List.cons_append,cI,cI,C,show i+1+a.length=i+(a.length+1) by omega]
  grind
def Ed(i:Nat)(l:aa Int):(cI i l).length <= l.length:=by
 induction l generalizing i with
 |nil=>exact dQ _
 | cons d l C=>
  have:=C (i+1);unfold cI
  grind
def ab2{l:aa Int}{i:Nat}(h:i<l.length):cI 0 (l.take (i+1))=bif decide (l[i] >= 4)then cI 0 (l.take i)++[(i:Int)]else cI 0 (l.take i):=by
 rw[oG h,aHa,fT,Nat.min_eq_left (by omega),fD];show _++(bif decide _ then _::cI _ []else cI _ [])=_;cases decide (l[i] >= 4)with
 |true=>rfl
 |false=>exact List.append_nil _
def anV{l:aa Int}{i:Nat}{b:Int}(h:b∈cI i l):∃ j:Nat,b=((i+j:Nat):Int)/\j<l.length/\l.getD j 0 >= 4:=by
 induction l generalizing i with
 |nil=>cases h
 | cons d l D=>
  unfold cI at h;have tl:b∈cI (i+1) l -> ∃ j:Nat,b=((i+j):Int)/\j<(d :: l).length/\(d :: l).getD j 0 >= 4:=λh=>by
   have⟨j,E,L,O⟩:=D h;exact⟨j+1,by rw[E];omega,by simpa using L,by simpa using O⟩
  cases C:decide (d >= 4)with
  | true=>
   rw[C]at h;rcases iw.1 h with rfl|h
   ·exact⟨0,rfl,by simp,by simpa using C⟩
   ·exact tl h
  |false =>grind
def nc{r:cS}(h:fe r=true):r.aI.length<=8/\1<=r.aI.length:=by
 simp only[fe,aU]at h;have:=bF.1 h.2.1;omega
def ab3{r:cS}(C:fe r=true):GD r=some (cI 0 r.aI):=by
 have hl:=nc C;unfold GD bk;rw[G9 _ (by omega),ak,C,bA,aq];have e:=cB (step:=MQ) r.aI.length (λi=>(((),r.aI,(r.aI.length:Int),(i:Int),()),(cI 0 (r.aI.take i),()))) (.inl (((),()),(cI 0 r.aI,()))) aX (λi h=>by
  have D:=Ed 0 (r.aI.take i);rw[fT]at D;unfold MQ av xG xI;dsimp only;rw[aS,au,aA ⟨by omega,by omega⟩,bD,ab2 h];simp only[bz];cases decide (r.aI[i] >= 4)with
  |true=>rw[au,au,lU,cX,au]
  |false=>rfl) (by
  unfold MQ av xG xI;dsimp only;rw[aT,aq,iP]) (bN)
 rw[cr]at e
 refine(aZ (λo=>Option.bind o _) e).trans ?_
 rfl
def anW{r:cS}(C:fe r=true):Lk r=some (cI 0 r.aI):=by
 have hl:=nc C;unfold Lk bk;have e:=cB (step:=Lj) r.aI.length (λi=>(((),(),(i:Int),()),((r.aI,r.wait,r.dD,()),cI 0 (r.aI.take i),()))) (.inl (((),()),(cI 0 r.aI,()))) aX (λi h=>by
  have D:=Ed 0 (r.aI.take i);rw[fT]at D;unfold Lj av xG xI;dsimp only;rw[aS,au,show (⟨r.aI,r.wait,r.dD⟩:cS)=r from rfl,NK _ (by omega),ak,C,au,aA ⟨by omega,by omega⟩,bD,ab2 h];simp only[bz];cases decide (r.aI[i] >= 4)with
  |true=>rw[au,au,lU,cX,au]
  |false=>rfl) (by
  unfold Lj av xG xI;dsimp only;rw[aT,aq,iP]) (bN)
 rw[cr,List.take_zero]at e
 refine(aZ (λo=>Option.bind o _) e).trans ?_
 rfl
def wM(c:ax):Bool:=decide ((c.queue.length:Int) > 0) ||(decide ((c.pending.length:Int) > 0) ||decide (((cI 0 c.aV.aI).length:Int) > 0))
def anX{c:ax}(C:fe c.aV=true):AT c=some (wM c):=by
 unfold AT wM;rw[ab3 C]
 grind
def anY{c:ax}(C:fe c.aV=true):C8 c=some (wM c):=by
 unfold C8 wM;rw[anW C]
 grind
def vf(r:lA)(p:eN)(b:Bool):Int:=
 bif b then (bif p.state==1 then 7 else bif p.state==2 then 9 else 0)else bif p.state==0&&decide (p.idle >= r.sleep)then 8 else bif p.state==0&&decide (p.idle >= r.down)then 6 else bif p.state==1&&decide (p.idle >= r.sleep)then 7 else 0
def aHb(r:lA)(p:eN)(b:Bool)(C:A7 r=true)(D:kH p=true):Tq r p b=some (vf r p b):=by
 unfold Tq vf;rw[amD,ak,C,bA,Uq,ak,D,bA]
 grind
def aHc(r:lA)(p:eN)(b:Bool)(C:A7 r=true)(D:kH p=true):Sc r p b=some (vf r p b):=by
 unfold Sc vf;simp[amE,Ur,C,D,aq]
 grind
def aHd(r:lA)(p:eN)(b:Bool):vf r p b=0 \/ 6 <= vf r p b/\vf r p b <= 9:=by
 unfold vf
 grind
def Bh(D:Nat->Bool)(v:Nat->Int)(C:Int)(i:Nat):Int:=bif D i&&(decide (C<0) ||decide (v i > v C.toNat))then (i:Int)else C
def ld(C:Nat->Bool)(v:Nat->Int)(k:Nat):Int:=(List.range k).foldl (Bh C v) (-1)
def HD(C:Nat->Bool)(v:Nat->Int)(k:Nat):ld C v (k+1)=Bh C v (ld C v k) k:=by
 unfold ld;rw[List.range_succ,List.foldl_append];rfl
def wN(C:Nat -> Bool)(v:Nat -> Int):∀ k,-1 <= ld C v k/\ld C v k<k
 |0=>⟨Int.le_refl _,by show (-1)<0;omega⟩
 | k+1=>by
  have D:=wN C v k;rw[HD];unfold Bh
  grind
def ab4(C:Nat -> Bool)(v:Nat -> Int):∀ k,ld C v k = -1 \/ C (ld C v k).toNat=true
 |0=>.inl rfl
 | k+1=>by
  have D:=ab4 C v k;rw[HD];unfold Bh
  grind
def ab5{C:Nat -> Bool}(v:Nat -> Int){i:Nat}(h:C i=true):∀ k,i<k -> 0 <= ld C v k
 |0,D=>by omega
 | k+1,D=>by
  have hb:=wN C v k;rw[HD];unfold Bh;by_cases E:i=k
  ·grind
  ·have L:=ab5 v h k (by omega)
   grind
def vg(l:aa bY)(w:aa Bool):Int:=ld (λi=>w.getD i false) (λi=>(l.getD i ⟨0,0⟩).ff) (min l.length w.length)
def N8(l:aa bY)(w:aa Bool)(hl:l.length<1073741824):GL l w=some (vg l w):=by
 unfold GL vg bk;generalize T:min l.length w.length=n;have e:=cB (step:=M6) n (λi=>((l,w,ld (λi=>w.getD i false) (λi=>(l.getD i ⟨0,0⟩).ff) i,(i:Int),()),())) (.inl ((ld (λi=>w.getD i false) (λi=>(l.getD i ⟨0,0⟩).ff) n,()),())) aX (λi h=>by
  have C:i<l.length:=by omega
  have O:i<w.length:=by omega
  have hb:=wN (λi=>w.getD i false) (λi=>(l.getD i ⟨0,0⟩).ff) i;rw[HD];generalize ld (λi=>w.getD i false) (λi=>(l.getD i ⟨0,0⟩).ff) i=D at hb;unfold M6 Bh av xG xI;dsimp only;rw[aS,au,aS,au,aA ⟨by omega,by omega⟩,bD];simp only[bz,fz,bZ O,bZ C,Option.getD_some];cases w[i]with
  |false=>rfl
  | true=>
   rw[au,cw];by_cases E:D<0
   ·rw[aS E];rfl
   ·have L:D.toNat<l.length:=by omega
    rw[aT E,aA ⟨by omega,C⟩,aA ⟨by omega,L⟩,bZ L,Option.getD_some];cases decide (l[i].ff > l[D.toNat].ff)<;>rfl) (by
  unfold M6 av xG xI;dsimp only;by_cases C:n<l.length
  ·rw[aS,au,aT,aq]
  ·rw[aT,aq]) (bN)
 rw[cr]at e
 refine(aZ (λo=>Option.bind o _) e).trans ?_
 rfl
def aHe:Sr=GL:=rfl
def s8(s:bY):bY:=⟨s.weight,s.weight⟩
def jl(l:aa bY):aa bY:=l.map s8
def ab6(l:aa bY)(w:aa Bool)(hl:l.length<1073741824):iter GM aX ((w,(),(l.length:Int),(0:Int),()),(l,()))=some (.inl ((w,(),()),(jl l,()))):=by
 have e:=cB (step:=GM) _ (λi=>((w,(),l.length,i,()),(upto s8 l i,()))) (.inl ((w,(),()),(jl l,()))) aX (λi h=>by
  have hlen:=A1 s8 l i;unfold GM av xG xL;dsimp only;rw[aS,au,aA ⟨by omega,by omega⟩,aA,aA ⟨by omega,by omega⟩,aA,bD];simp only[bz];rw[G2 s8 l i h,<- G3 s8 l i h];rfl) (by
  unfold GM av xG xL;dsimp only;rw[aT,aq,G1];rfl) (bN hl)
 exact e
def aHf(l:aa bY)(w:aa Bool)(hl:l.length<1073741824):iter F3 aX ((w,(),(0:Int),()),(l,()))=some (.inl ((w,(),()),(jl l,()))):=by
 have e:=cB (step:=F3) _ (λi=>((w,(),i,()),(upto s8 l i,()))) (.inl ((w,(),()),(jl l,()))) aX (λi h=>by
  have hlen:=A1 s8 l i;unfold F3 av xG xL;dsimp only;rw[aS,au,aA ⟨by omega,by omega⟩,aA,aA ⟨by omega,by omega⟩,aA,bD];simp only[bz];rw[G2 s8 l i h,<- G3 s8 l i h];rfl) (by
  have hlen:=A1 s8 l l.length;unfold F3 av xG xL;dsimp only;rw[aT,aq,G1];rfl) (bN hl)
 exact e
def anZ(l:aa bY)(w:aa Bool)(hl:l.length<1073741823):LJ l w=qD l w:=by
 unfold LJ qD xA xC bk xL xZ;rw[lT,aHe,N8 l w (by omega),NJ _ (by omega),aaS _ (by omega),ak];rw[ab6 l w (by omega),aHf l w (by omega)];rfl
def ab7{l:aa bY}(w:aa Bool)(hl:l.length<1073741823)(D:ji l=true)(U:l.length=w.length):∃ y t,qD l w=some (y,t)/\y.length=l.length:=by
 unfold qD xA xC bk xL xZ;have hb:=wN (λi=>w.getD i false) (λi=>(l.getD i ⟨0,0⟩).ff) (min l.length w.length);have E:(jl l).length=l.length:=by simp[jl]
 have L:=wN (λi=>w.getD i false) (λi=>((jl l).getD i ⟨0,0⟩).ff) (min (jl l).length w.length);have O:=ab4 (λi=>w.getD i false) (λi=>(l.getD i ⟨0,0⟩).ff) (min l.length w.length);rw[lT,N8 l w (by omega),ak,NJ _ (by omega),ak,D,bA,aq,List.length_nil,fD,cX,au];unfold vg;generalize Y:ld (λi=>w.getD i false) (λi=>(l.getD i ⟨0,0⟩).ff) (min l.length w.length)=b at *
 by_cases T:b<0
 ·simp_all
 ·have C:b.toNat<l.length:=by omega
  rw[aT T,aq,aA ⟨by omega,C⟩,aA C];dsimp only;cases l[b.toNat].ff==0 with
  |false =>simp_all
  | true=>
   rw[au,ab6 l w (by omega),ak];simp only[en];rw[N8 _ w (by omega),ak];have Z:0 <= vg (jl l) w:=ab5 _ (i:=b.toNat) (by rcases O with h|h;exact absurd h (by omega);exact h) _ (by rw[E];omega);have hq:vg (jl l) w<((min (jl l).length w.length:Nat):Int):=L.2;simp_all
def Bi(m:jX)(n:Int)(a:aJ):aJ:=bif m.hash then ⟨(a.ay+a.row) % n,a.row,a.bT⟩else a
def yR(g:aM)(m:jX)(l:Int):aJ:=Bi m (bg g)
 (bif m.order==0 then ⟨l / g.aO % bg g,l / g.aO / bg g,l % g.aO⟩else bif m.order==1 then ⟨l % bg g,l / bg g / g.aO,l / bg g % g.aO⟩else ⟨l / g.aO / g.rows,l / g.aO % g.rows,l % g.aO⟩)
def HE{l a b:Int}(C:0<=l)(hb:0<b)(h:l<a*b):0<=l / b/\l / b<a/\l / b<=l:=by
 refine⟨Int.ediv_nonneg C (by omega),Int.ediv_lt_of_lt_mul hb h,?_⟩;exact Int.ediv_le_self _ C
def Bj{l b:Int}(hb:0<b):0<=l % b/\l % b<b:=⟨Int.emod_nonneg _ (by omega),Int.emod_lt_of_pos _ hb⟩
def ab8{m:jX}{n:Int}{a:aJ}(C:0<n)(hb:0 <= a.ay/\a.ay<n):0 <= (Bi m n a).ay/\(Bi m n a).ay<n/\(Bi m n a).row=a.row/\(Bi m n a).bT=a.bT:=by
 unfold Bi;cases m.hash with
 |false=>simp_all
 |true=>exact⟨(Bj C).1,(Bj C).2,rfl,rfl⟩
def ab9{m:jX}{n b r c:Int}(C:0<n)(D:n<=8)(E:0<=b/\b<=100000)(L:0<=r/\r<=100000):(bif m.hash then if n=0 then none else some ((⟨(W6 (b+r)).tmod n,r,c⟩:aJ),true)else some ((⟨b,r,c⟩:aJ),true))=some (Bi m n ⟨b,r,c⟩,true):=by
 unfold Bi;cases m.hash with
 |false=>rfl
 |true=>rw[au,bU,aR,sg (by omega),au]
def an0{g:aM}{m:jX}{l:Int}(T:cG g=true)(hm:aN m.order 0 2=true)(D:0<=l)(hl:l<fy g):∀ (f:ah (aJ×Bool)),f=(bif (m.order==(0:Int))then if g.aO=0 then none else if g.aO=0 then none else if bg g=0 then none else if g.aO=0 then none else if bg g=0 then none else bif m.hash then if bg g=0 then none else some ((⟨((W6 (((W6 (l.tdiv g.aO)).tmod (bg g))+(W6 ((W6 (l.tdiv g.aO)).tdiv (bg g))))).tmod (bg g)),(W6 ((W6 (l.tdiv g.aO)).tdiv (bg g))),(l.tmod g.aO)⟩:aJ),true)else some ((⟨((W6 (l.tdiv g.aO)).tmod (bg g)),(W6 ((W6 (l.tdiv g.aO)).tdiv (bg g))),(l.tmod g.aO)⟩:aJ),true)else bif (m.order==(1:Int))then if bg g=0 then none else if bg g=0 then none else if g.aO=0 then none else if bg g=0 then none else if g.aO=0 then none else bif m.hash then if bg g=0 then none else some ((⟨((W6 ((l.tmod (bg g))+(W6 ((W6 (l.tdiv (bg g))).tdiv g.aO)))).tmod (bg g)),(W6 ((W6 (l.tdiv (bg g))).tdiv g.aO)),((W6 (l.tdiv (bg g))).tmod g.aO)⟩:aJ),true)else some ((⟨(l.tmod (bg g)),(W6 ((W6 (l.tdiv (bg g))).tdiv g.aO)),((W6 (l.tdiv (bg g))).tmod g.aO)⟩:aJ),true)else if g.aO=0 then none else if g.aO=0 then none else if g.rows=0 then none else if g.aO=0 then none else if g.rows=0 then none else bif m.hash then if bg g=0 then none else some ((⟨((W6 ((W6 ((W6 (l.tdiv g.aO)).tdiv g.rows))+((W6 (l.tdiv g.aO)).tmod g.rows))).tmod (bg g)),((W6 (l.tdiv g.aO)).tmod g.rows),(l.tmod g.aO)⟩:aJ),true)else some ((⟨(W6 ((W6 (l.tdiv g.aO)).tdiv g.rows)),((W6 (l.tdiv g.aO)).tmod g.rows),(l.tmod g.aO)⟩:aJ),true))->f=some (yR g m l,true)/\dA g (yR g m l)=true:=by
 have hb:=fH g;have hp:=amc T;have hL:=oF g;have gb:=fG T;have eL:fy g=bg g*g.rows*g.aO:=by simp[fy,T]
 have BH:aN l 0 (W6 (fy g-1))=true:=by rw[aR];exact bF.2 ⟨D,by omega⟩
 have ho:=bF.1 hm;rw[eL]at hl;have UW:¬ bg g=0:=by omega
 have xy:¬ g.aO=0:=by omega
 have iS:¬ g.rows=0:=by omega
 rintro f rfl;simp only[bU UW,bU xy,bU iS];unfold yR;by_cases o0:m.order=0
 ·have C:=HE (a:=bg g*g.rows) D (show 0<g.aO by omega) hl;have E:=HE (l:=l / g.aO) (a:=g.rows) (b:=bg g) C.1 (by omega) (by rw[Int.mul_comm];exact C.2.1);have U:=Bj (l:=l / g.aO) (b:=bg g) (by omega);have a4:=Bj (l:=l) (b:=g.aO) (by omega);rw[o0,dM,au,au,qR D,sg D,aR (n:=l / g.aO),qR C.1,sg C.1,aR (n:=l / g.aO / bg g)];obtain⟨Y,Z,L,O⟩:=ab8 (m:=m) (n:=bg g) (a:=⟨l / g.aO % bg g,l / g.aO / bg g,l % g.aO⟩) (by omega) U;refine⟨?_,yH T Y Z (by rw[L];exact E.1) (by rw[L];exact E.2.1) (by rw[O];exact a4.1) (by rw[O];exact a4.2)⟩;refine Eq.trans ?_ (ab9 (by omega) (by omega) (by omega) (by omega));rw[bU UW]
 ·rw[kG o0,aq,aq];by_cases o1:m.order=1
  ·have C:=HE (a:=g.rows*g.aO) D (show 0<bg g by omega) (by rw[Int.mul_comm,<-Int.mul_assoc];exact hl);have E:=HE (l:=l / bg g) (a:=g.rows) (b:=g.aO) C.1 (by omega) C.2.1;have U:=Bj (l:=l) (b:=bg g) (by omega);have a4:=Bj (l:=l / bg g) (b:=g.aO) (by omega);rw[o1,dM,au,au,qR D,sg D,aR (n:=l / bg g),qR C.1,sg C.1,aR (n:=l / bg g / g.aO)];obtain⟨Y,Z,L,O⟩:=ab8 (m:=m) (n:=bg g) (a:=⟨l % bg g,l / bg g / g.aO,l / bg g % g.aO⟩) (by omega) U;refine⟨?_,yH T Y Z (by rw[L];exact E.1) (by rw[L];exact E.2.1) (by rw[O];exact a4.1) (by rw[O];exact a4.2)⟩;refine Eq.trans ?_ (ab9 (by omega) (by omega) (by omega) (by omega));rw[bU UW]
  ·have C:=HE (a:=bg g*g.rows) D (show 0<g.aO by omega) hl;have E:=HE (l:=l / g.aO) (a:=bg g) (b:=g.rows) C.1 (by omega) C.2.1;have U:=Bj (l:=l / g.aO) (b:=g.rows) (by omega);have a4:=Bj (l:=l) (b:=g.aO) (by omega);rw[kG o1,aq,aq,qR D,sg D,aR (n:=l / g.aO),qR C.1,sg C.1,aR (n:=l / g.aO / g.rows)];obtain⟨Y,Z,L,O⟩:=ab8 (m:=m) (n:=bg g) (a:=⟨l / g.aO / g.rows,l / g.aO % g.rows,l % g.aO⟩) (by omega) ⟨E.1,E.2.1⟩;refine⟨?_,yH T Y Z (by rw[L];exact U.1) (by rw[L];exact U.2) (by rw[O];exact a4.1) (by rw[O];exact a4.2)⟩;refine Eq.trans ?_ (ab9 (by omega) (by omega) (by omega) (by omega));rw[bU UW]
def an1{g:aM}{m:jX}{l:Int}(C:cG g=true)(D:aN m.order 0 2=true)(E:0<=l)(hl:l<fy g):Ts g m l=some (yR g m l,true)/\dA g (yR g m l)=true:=by
 have O:=oF g;have L:aN l 0 (W6 (fy g-1))=true:=by rw[aR];exact bF.2 ⟨E,by omega⟩
 refine an0 C D E hl _ ?_;unfold Ts;rw[yG,ak,C,bA,aq,aaP,ak,D,bA,aq,G5,ak,dx,ak,L,bA,aq,oE,ak]
def aHg{g:aM}{m:jX}{l:Int}(E:cG g=true)(C:aN m.order 0 2=true)(D:0<=l)(hl:l<fy g):Sj g m l=some (yR g m l,true):=by
 have O:=oF g;have L:aN l 0 (W6 (fy g-1))=true:=by rw[aR];exact bF.2 ⟨D,by omega⟩
 refine(an0 E C D hl _ ?_).1;unfold Sj;rw[show FI m=some (aN m.order 0 2)from aaP m,ak,C,bA,aq,G6,ak,ei,ak,L,bA,aq,rJ,ak]
def gT(c:ax)(l:Int):aJ:=
 let a:=yR (eF c.config.az c.spare) c.config.mapping l
 ⟨a.ay,c.spare.map.getD (a.ay*(c.config.az.rows-c.spare.bQ)+a.row).toNat 0,a.bT⟩
def N9{g:aM}{s:cQ}(h:kY g s=true):eF g s=⟨g.cu,g.aC,g.rows-s.bQ,g.aO⟩/\cG g=true/\cG (eF g s)=true/\bg (eF g s)=bg g/\0 <= s.bQ/\s.bQ <= 2/\2 <= g.rows-s.bQ/\g.rows <= 16:=by
 have D:=h;simp[kY,aU]at h;have⟨C,E,L,O,T⟩:=Uj h.1;have Y:=fG C;have e:eF g s=⟨g.cu,g.aC,g.rows-s.bQ,g.aO⟩:=by
  unfold eF;rw[D,au,aR]
 have U:cG (eF g s)=true:=by
  rw[e];unfold cG;simp[aU,bF];omega
 refine⟨e,C,U,?_,E,L,O,T⟩;unfold bg;simp_all
def an2{g:aM}{s:cQ}(h:kY g s=true){b r:Int}(hb:0 <= b/\b<bg g)(E:0 <= r/\r<g.rows-s.bQ):(b*(g.rows-s.bQ)+r).toNat<s.map.length/\0 <= s.map.getD (b*(g.rows-s.bQ)+r).toNat 0/\s.map.getD (b*(g.rows-s.bQ)+r).toNat 0<g.rows:=by
 have⟨_,Z,_,_,h1,h2,h3,h4⟩:=N9 h;have L:=fH g;simp only[kY,aU,fU,cx,fK]at h;have⟨_,hl,O⟩:=h;obtain⟨b,rfl⟩:=fL hb.1;obtain⟨r,rfl⟩:=fL E.1;have⟨R,hR⟩:=fL (show 0 <= g.rows-s.bQ by omega);have⟨C,T⟩:=fL L.1;rw[hR,T,bz,bz]at hl;have hl:s.map.length=C*R:=by exact_mod_cast hl
 have U:b<C:=by omega
 have D:r<R:=by omega
 have e:((b:Int)*(g.rows-s.bQ)+(r:Int)).toNat=b*R+r:=by rw[hR,<- Int.natCast_mul,<- Int.natCast_add,bz]
 have dI:=A9 (R:=R) U (show r+1 <= R from D);have hi:b*R+r<s.map.length:=by omega
 have h5:=O b (by omega) r (by omega);rw[e];refine⟨hi,?_⟩;rw[fz,bZ hi,Option.getD_some];have Y:(fI s.map R b)[r]?=some s.map[b*R+r]:=by rw[Hh,List.getElem?_take_of_lt D,List.getElem?_drop,bZ hi]
 rw[hR,bz]at h5;unfold rQ at h5;rw[Y]at h5;simp only[eG,aU,fU,bF]at h5;rcases h5 with h5|h5
 ·omega
 ·grind
def aHh{c:ax}(h:Pk c)(E:kY c.config.az c.spare=true)(he:c.spare.bQ=c.config.bQ)(hm:aN c.config.mapping.order 0 2=true){l:Int}(h0:0 <= l)(hl:l<fy (eF c.config.az c.spare)):wo c l=some (gT c l,true)/\dA c.config.az (gT c l)=true:=by
 have⟨Z,hg,tC,eb,s1,s2,s3,s4⟩:=N9 E;have⟨m1,m3⟩:=an1 tC hm h0 hl;have⟨_,C,D,L,O,b5,b6⟩:=qF m3;rw[eb]at D;have gb:=fG hg;have hb:=fH c.config.az;have er:(eF c.config.az c.spare).rows=c.config.az.rows-c.spare.bQ:=by rw[Z]
 have ec:(eF c.config.az c.spare).aO=c.config.az.aO:=by rw[Z]
 rw[er]at O;rw[ec]at b6;have⟨k1,k2,k3⟩:=an2 E ⟨C,D⟩ ⟨L,O⟩;have hmul:=wq C D L O;have hM:=Ua (a:=bg c.config.az) (b:=c.config.az.rows-c.spare.bQ) (A:=8) (B:=16) hb.1 hb.2 (by omega) (by omega);unfold gT;generalize hA:yR (eF c.config.az c.spare) c.config.mapping l=A at *
 dsimp only;refine⟨?_,yH hg C D k2 k3 b5 b6⟩;unfold wo;rw[D0,ak,m1,ak];dsimp only;rw[bA,aq];unfold DG xI;have hx:AX (eF c.config.az c.spare) A.ay A.row=some true:=by
  unfold AX;rw[DR,ak,yH (a:=⟨A.ay,A.row,0⟩) tC C (by rw[eb];exact D) L (by rw[er];exact O) (Int.le_refl 0) (by rw[ec];show 0<_;omega)]
 have⟨b,hbN⟩:=fL C;have⟨r,hrN⟩:=fL L;have⟨R,hR⟩:=fL (show 0 <= c.config.az.rows-c.spare.bQ by omega);have⟨bn,hn⟩:=fL hb.1;have U:c.spare.map.length=bn*R:=by
  simp only[kY,aU,fU]at E;have:=E.2.1
  grind
 have T:b<bn:=by omega
 have Y:r<R:=by omega
 have dI:=A9 (R:=R) T (show r+1 <= R from Y);have aHi:=A9 (R:=R) T (dQ R);have hi:b*R+r<c.spare.map.length:=by omega
 rw[D0,ak,hx,ak,bA,aq,hbN,Uv hR (by omega) (by omega) T U,ak];have ht:((c.spare.map.take ((b+1)*R)).drop (b*R))=fI c.spare.map R b:=rfl;have lH:(fI c.spare.map R b).length=R:=Hi (by rw[U];exact iX R T);have hgx:(fI c.spare.map R b)[r]?=some c.spare.map[b*R+r]:=by rw[Hh,List.getElem?_take_of_lt Y,List.getElem?_drop,bZ hi]
 have hgy:(fI c.spare.map R b)[r]'(by omega)=c.spare.map[b*R+r]:=by
  grind
 dsimp only;rw[jn (by rw[iN];omega),jn (by rw[iN,U];omega),cw,au,hrN,aA ⟨by omega,by rw[ht,lH,bz];exact Y⟩];simp only[bz,ht,hgy,ak];rw[hR,<- Int.natCast_mul,<- Int.natCast_add,bz,fz,bZ hi,Option.getD_some]
def aHj{c:ax}(h:Pk c)(L:kY c.config.az c.spare=true)(he:c.spare.bQ=c.config.bQ)(O:aN c.config.mapping.order 0 2=true){l:Int}(T:0<=l)(hl:l<fy (eF c.config.az c.spare)):yg c l=some (gT c l):=by
 obtain⟨C,hg,U,eb,s1,s2,s3,s4⟩:=N9 L;obtain⟨m1,m3⟩:=an1 U O T hl;have m2:=aHg U O T hl;obtain⟨_,Y,D,Z,E,b5,b6⟩:=qF m3;rw[eb]at D;have gb:=fG hg;have hb:=fH c.config.az;have er:(eF c.config.az c.spare).rows=c.config.az.rows-c.spare.bQ:=by rw[C]
 have ec:(eF c.config.az c.spare).aO=c.config.az.aO:=by rw[C]
 rw[er]at E;rw[ec]at b6;obtain⟨k1,k2,k3⟩:=an2 L ⟨Y,D⟩ ⟨Z,E⟩;have hmul:=wq Y D Z E;have hM:=Ua (a:=bg c.config.az) (b:=c.config.az.rows-c.spare.bQ) (A:=8) (B:=16) hb.1 hb.2 (by omega) (by omega);unfold gT;generalize hA:yR (eF c.config.az c.spare) c.config.mapping l=A at *
 dsimp only;unfold yg xI;have hw:W6 (c.config.az.rows-c.config.bQ)=c.config.az.rows-c.spare.bQ:=by rw[<-he];exact aR
 have hw1:W6 (A.ay*(c.config.az.rows-c.spare.bQ))=A.ay*(c.config.az.rows-c.spare.bQ):=aR;have hw2:W6 (A.ay*(c.config.az.rows-c.spare.bQ)+A.row)=A.ay*(c.config.az.rows-c.spare.bQ)+A.row:=aR;simp only[hw];rw[<-C,m2,ak];simp only[hw1,hw2];rw[aA ⟨hmul.2.1,k1⟩,fz,bZ k1,Option.getD_some]
def Ee{c:iG}{p:fh}(hl:p.weights.length<1073741823)(h:oQ c p=true):oK c=true/\oM p=true:=by
 have⟨b,e,D⟩:=aaU c p hl;have hb:b=true:=by
  rw[N1 c p hl]at e;simp_all
 subst hb;have C:=D rfl;refine⟨C,?_⟩;unfold uz at e;have⟨y,E⟩:=aaT p.fQ;simp[aaQ,Un _ hl,C]at e
 grind
structure Pq (c:ax):Prop where
 p:Pk c
 sp:kY c.config.az c.spare=true
 se:c.spare.bQ=c.config.bQ
 mo:aN c.config.mapping.order 0 2=true
 q:∀r∈c.queue,(0<=r.line/\r.line<fy (eF c.config.az c.spare))/\(0<=r.dm/\r.dm<=3)/\(0<=r.at_/\r.at_<=1000000)
 ql:c.queue.length<=12
 pe:∀a∈c.pending,dA c.config.az a=true
 pl:c.pending.length<=128
 rf:fe c.aV=true
 dl:(c.aV.aI.length:Int)=bg c.config.az
 sh:ji c.shares=true
 shl:c.shares.length=4
 dr:pT c.drain=true
 pw:kH c.bf=true
 ps:c.bf.state=c.br.bf
 nw:0<=c.now/\c.now<=1000000
 cap:0<=c.box.bH.cap/\c.box.bH.cap<=100000
 eT:A7 c.box.bH.eT=true
def Pq.of{c:ax}(D:dU c)(h:eV c=true):Pq c:=by
 have L:=Pk.of D h;have z1:c.box.bH.weights.length <= 1048576:=D.1.1;simp only[eV,aU]at h;have⟨O,h2,T,h4,h5,h6,U,Y,C,E,Z,tW,uG,Ba,Bb,qz,D4,HB,HC,N6,yh,N7⟩:=h;have⟨f1,f2⟩:=Ee (by omega) O;simp only[oK,aU]at f1;simp only[oM,aU]at f2;have⟨f3,f4,f5,f6,f7,f8,f9⟩:=f2;simp only[sW,aU,fU,gV,p7,cx,fK]at C;have⟨C,g1,g2,g3,g4,g5,g6⟩:=C;simp only[hJ,aU,cx,fK,iZ]at E;have⟨q1,q2⟩:=E;have mA:c.shares.length=4:=by
  grind
 refine⟨L,U,by simpa using Y,f1.2.2.1,λr hr=>?_,by omega,λa ha=>?_,by omega,C,g1,Z,mA,uG,Ba,by simpa using Bb,bF.1 T,bF.1 f4,f9⟩
 ·obtain⟨i,hi,rfl⟩:=jo.1 hr;have hb:=q1 i hi;unfold rP at hb;rw[bZ hi]at hb;simp[pU,aU,iZ]at hb;have⟨⟨k1,k2,k3,k4,k5,k6,k7⟩,_⟩:=hb;exact⟨⟨k3,k4⟩,bF.1 k2,bF.1 k7⟩
 ·obtain⟨i,hi,rfl⟩:=jo.1 ha;have hb:=g6 i hi;unfold uF at hb;simp_all
def wO(r:cC)(a:aJ):Bool:=(jw r a.ay).open_&&((jw r a.ay).row==a.row)
def Ef(r:cC)(a:aJ)(w:Bool):aG:=
 bif !(jw r a.ay).open_ then ⟨1,a.ay,a.row,0⟩else bif (jw r a.ay).row != a.row then ⟨4,a.ay,0,0⟩else bif w then ⟨3,a.ay,0,a.bT⟩else ⟨2,a.ay,0,a.bT⟩
def Bk{r:cC}{b:Int}(h:b.toNat<r.aC.length):jw r b=r.aC[b.toNat]:=by
 unfold jw;rw[fz,bZ h];rfl
def Oa{b:Int}{n:Nat}(C:0<=b)(h:b.toNat<n)(D:n<=1048576):aN b 0 (W6 ((n:Int)-1))=true:=by
 rw[aR];exact bF.2 ⟨C,by omega⟩
def UX{r:cC}{a:aJ}(w:Bool)(C:0 <= a.ay)(h:a.ay.toNat<r.aC.length)(hl:r.aC.length <= 1048576):yD r a w=some (Ef r a w):=by
 unfold yD Ef xI;rw[dx,ak,Oa C h hl,bA,aA ⟨C,h⟩,Bk h]
 grind
def an3:AB=yD:=rfl
def an4{r:cC}{b:Int}(C:0 <= b)(h:b.toNat<r.aC.length)(hl:r.aC.length <= 1048576):M5 r b=some (bif (jw r b).open_ then (jw r b).row else -1):=by
 unfold M5 xI;rw[dx,ak,Oa C h hl,bA,aA ⟨C,h⟩,Bk h]
 grind
def aHk:So=M5:=rfl
def aHl{r:cC}{a:aJ}(D:0 <= a.row)(C:0 <= a.ay)(h:a.ay.toNat<r.aC.length)(hl:r.aC.length <= 1048576):GK r a=some (wO r a):=by
 unfold GK wO;rw[ga (by omega:¬ a.row = -1),an4 C h hl,ak];cases (jw r _).open_ with
 |false=>rw[aq,kG (by omega:¬ (-1)=a.row)];rfl
 |true=>rfl
def an5{r:cC}{a:aJ}(D:0 <= a.row)(C:0 <= a.ay)(h:a.ay.toNat<r.aC.length)(hl:r.aC.length <= 1048576):LG r a=some (wO r a):=by
 unfold LG wO;rw[aHk,an4 C h hl,ak,ak];cases (jw r _).open_ with
 |false=>simp_all
 | true=>
  rw[au,cw];by_cases e:(jw r a.ay).row=a.row
  ·rw[e,dM,au,ga (by omega:¬ a.row = -1)]
  ·grind
def aHm{g:aM}{r:cC}{a:aJ}(w:Bool)(h:dA g a=true):dS g (Ef r a w)=true:=by
 have⟨D,E,Y,L,Z,O,b6⟩:=qF h;have T:aN _ 0 (bg g-1)=true:=bF.2 ⟨E,by omega⟩;have C:aN a.row 0 (g.rows-1)=true:=bF.2 ⟨L,by omega⟩;have U:aN a.bT 0 (g.aO-1)=true:=bF.2 ⟨O,by omega⟩;unfold Ef dS sX;cases (jw r _).open_<;>cases (jw r _).row != a.row<;>cases w<;>simp[D,aN,C]<;>simp[aN,iZ]at T C U<;>omega
def Bl{g:aM}{k b:Int}(C:cG g=true)(D:k=4 \/ k=5)(hb:0 <= b/\b<bg g):dS g ⟨k,b,0,0⟩=true:=by
 have E:aN b 0 (bg g-1)=true:=bF.2 ⟨hb.1,by omega⟩;unfold dS sX;rcases D with rfl|rfl<;>simp[C,aN]<;>simp[aN,iZ]at E<;>omega
def aHn{g:aM}{a:aJ}(h:dA g a=true):dS g ⟨1,a.ay,a.row,0⟩=true:=by
 have⟨C,D,E,L,O,T,U⟩:=qF h;unfold dS sX;simp[C,aN];omega
def UY{g:aM}{k:Int}(C:cG g=true)(D:6<=k/\k<=9):dS g ⟨k,0,0,0⟩=true:=by
 obtain⟨n,rfl⟩:=fL (show 0<=k by omega);have:n=6\/n=7\/n=8\/n=9:=by omega
 unfold dS;rw[C];rcases this with rfl|rfl|rfl|rfl<;>rfl
def acd(l:aa aJ)(b:Int)(hl:l.length<=1048576):DF l b=some (l.any λa=>a.ay==b):=by
 have E:=sY (λa:aJ=>a.ay==b) l;unfold DF aas aar;rw[Hy];have e:=cB (step:=GI) (de (λa:aJ=>a.ay==b) l) (λi=>((l,b,(l.length:Int),(i:Int),()),())) (if de (λa:aJ=>a.ay==b) l<l.length then .inl ((((de (λa:aJ=>a.ay==b) l:Nat):Int),()),())else .inr (.inl ((),()))) aX (λk h=>by
  have D:=mG h (by omega);unfold GI av aQ xG xI;dsimp only;rw[aS,au,aA ⟨by omega,by omega⟩];simp only[bz];rw[D,aq,bD]) (by
  by_cases C:de (λa:aJ=>a.ay==b) l<l.length
  ·have D:=pW C;unfold GI av aQ xG xI;dsimp only;rw[aS,au,aA ⟨by omega,by omega⟩];simp only[bz];rw[D,au,bI C]
  ·unfold GI av aQ xG xI;dsimp only;rw[aT,aq,bU C]) (bN)
 rw[cr]at e;rw[e];by_cases C:de (λa:aJ=>a.ay==b) l<l.length
 ·rw[bI C,aS C];simp
 ·rw[bU C,aT C];rfl
def pX(t:bV)(row:Int):ah Nat:=match t.rows.findIdx? (λe=>e==row)with
 |some i=>some i
 |none=>t.counts.findIdx? (λe=>e==t.dg)
def kJ(t:bV)(row:Int):bV:=match t.rows.findIdx? (λe=>e==row)with
 |some i=>⟨t.rows,t.counts.set i (t.counts.getD i 0+1),t.dg⟩
 | none=>match t.counts.findIdx? (λe=>e==t.dg)with
  |some i=>⟨t.rows.set i row,t.counts.set i (t.dg+1),t.dg⟩
  |none=>⟨t.rows,t.counts,t.dg+1⟩
def vh(t:bV)(row dH:Int):bV×Bool:=bif kX t&&(aN row 0 15&&aN dH 2 1000)then (bif kX (kJ t row)then (kJ t row,match pX t row with
    |some i=>((kJ t row).counts.getD i 0).tmod dH==0
    |none=>false)else (t,false))else (t,false)
structure Tk (t:bV):Prop where
 rl:t.rows.length<=16
 cl:t.counts.length=t.rows.length
 sp:0<=t.dg/\t.dg<=100000
 cs:∀i (h:i<t.counts.length),0<=t.counts[i]/\t.counts[i]<=100000
def Tk.of{t:bV}(h:kX t=true):Tk t:=by
 simp[kX,aU,fU,cx,fK]at h;have⟨D,L,C,E⟩:=h;have D:=bF.1 D;have C:=bF.1 C
 refine⟨by omega,by omega,C,λi hi=>?_⟩
 have hb:=E i (by omega);rw[Uu (by omega) hi,aU,aU]at hb;have:=bF.1 hb.2.1;omega
def Ob{T:Type}{p:T -> Bool}{l:aa T}{i:Nat}(h:l.findIdx? p=some i):∃ hi:i<l.length,p l[i]=true:=by
 have⟨hi,C,_⟩:=mI.1 h;simp_all
def aHo{t:bV}(h:Tk t)(row:Int):SF t row=some ((match pX t row with | some i=>(i:Int) | none=>-1),(kJ t row,())):=by
 have T:=h.rl;have U:=h.cl;have E:=rO (step:=LR) t.rows (λe=>e==row) (λi=>(((),row,(i:Int),()),(((),(),t.dg,()),t.rows,t.counts,()))) (λi=>.inl (((i:Int),()),(((),(),t.dg,()),t.rows,t.counts.set i (t.counts.getD i 0+1),()))) (.inr (.inl (((),row,()),(((),(),t.dg,()),t.rows,t.counts,())))) aX (λk D=>by
  have C:k<t.counts.length:=by omega
  have L:=h.cs k C;unfold LR av aQ xG xL;dsimp only;rw[aS,au,aA ⟨by omega,by omega⟩,aA];simp only[bz];cases t.rows[k]==row with
  |false=>rw[aq,aq,bD]
  | true=>
   rw[ aA ⟨by omega,C⟩,aA C,aA ⟨by omega,C⟩,aA C,aR (n:=t.counts[k]+1),fz,bZ C];rfl) (by
  unfold LR av aQ xG xL;dsimp only;rw[aT,aq]) (bN)
 have O:=rO (step:=LS) t.counts (λe=>e==t.dg) (λi=>(((),row,(i:Int),()),(((),(),t.dg,()),t.rows,t.counts,()))) (λi=>.inl (((i:Int),()),(((),(),t.dg,()),t.rows.set i row,t.counts.set i (t.dg+1),()))) (.inr (.inl (((),()),(((),(),t.dg,()),t.rows,t.counts,())))) aX (λk D=>by
  have C:k<t.rows.length:=by omega
  have L:=h.sp;unfold LS av aQ xG xL;dsimp only;rw[aS,au,aA ⟨by omega,by omega⟩,aA];simp only[bz];cases t.counts[k]==t.dg with
  |false=>rw[aq,aq,bD]
  |true=>rw[au,au,aA ⟨by omega,C⟩,aA C,aA ⟨by omega,D⟩,aA D,aR]) (by
  unfold LS av aQ xG xL;dsimp only;rw[aT,aq]) (bN)
 have Y:=h.sp;unfold SF pX kJ bE
 refine(aZ (λo=>Option.bind o _) E).trans ?_
 rw[ak];cases Z:t.rows.findIdx? (λe=>e==row)with
 |some i=>rfl
 | none=>
  simp only[en,Sum.elim_inr]
  refine(aZ (λo=>Option.bind o _) O).trans ?_
  rw[ak];cases h2:t.counts.findIdx? (λe=>e==t.dg)with
  |some i=>rfl
  | none=>
   simp;rw[aR]
def ace{t:bV}(row:Int):(kJ t row).rows.length=t.rows.length/\(kJ t row).counts.length=t.counts.length:=by
 unfold kJ
 grind
def an6{t:bV}(h:Tk t){row:Int}{i:Nat}(hi:pX t row=some i):i<t.counts.length:=by
 have:=h.cl;unfold pX at hi;split at hi
 next j C=>cases hi;have⟨D,_⟩:=Ob C;omega
 ·exact(Ob hi).1
def an7(t:bV)(D:iD t)(row dH:Int):LU t row dH=some (vh t row dH):=by
 unfold LU vh xL;rw[anJ t D,ak,aa0,ak];cases E:kX t with
 |false=>rfl
 | true=>
  have C:=Tk.of E;rw[bA,aq,ei,ak,cw];cases T:aN row 0 15 with
  |false=>rfl
  | true=>
   rw[bA,aq,ei,ak,cw];cases L:aN dH 2 1000 with
   |false=>rfl
   | true=>
    have hl:=bF.1 L;rw[bA,aq,au,aHo C,ak,aa0,ak];dsimp only;cases U:kX (kJ t row)with
    |false =>simp_all
    | true=>
     rw[bA,aq,au];cases O:pX t row with
     |none=>rfl
     | some i=>
      have hi:i<(kJ t row).counts.length:=by rw[(ace row).2];exact an6 C O
      grind
def aHp(t:bV)(hz:iD t)(row dH:Int):TH t row dH=some (vh t row dH):=by
 have sw:∀x:Int,(λe:Int=>x==e)=λe=>e==x:=λx=>funext λe=>by rw[Bool.eq_iff_iff,fU,fU];exact eq_comm
 unfold TH vh xL;rw[abK t hz,ak,aaZ,ak];dsimp only;cases ht:kX t with
 |false=>rfl
 | true=>
  have T:=Tk.of ht;have r1:=T.rl;have r2:=T.cl;have vA:=T.sp;rw[bA,aq,dx,ak,cw];cases h1:aN row 0 15 with
  |false=>rfl
  | true=>
   rw[bA,aq,dx,ak,cw];cases h2:aN dH 2 1000 with
   |false=>rfl
   | true=>
    have hl:=bF.1 h2;rw[bA,aq,au,Ut _ _ (by omega),ak,sw row];have acf:∀ (E:Int) (D:bV),D=kJ t row->(E=match pX t row with | some i=>(i:Int) | none=>-1)->
      ((AR D).bind λkF=>bif (!kF)then ((some t).bind λrI=>some (rI,false))else (bif (decide (E >= (0:Int)))then if Ss:0<=E/\E.toNat<D.counts.length then if h25:E.toNat<D.counts.length then (if dH=0 then none else some (D,(D.counts[E.toNat]'h25).tmod dH==(0:Int)))else none else none else some (D,false)))=some (bif kX (kJ t row)then (kJ t row,match pX t row with
        |some i=>((kJ t row).counts.getD i 0).tmod dH==0
        |none=>false)else (t,false)):=by
     intro E D U e2;subst U;rw[aaZ,ak];cases h3:kX (kJ t row)with
     |false=>rfl
     | true=>
      rw[bA,aq,au,e2];cases h4:pX t row with
      |none=>rfl
      | some i=>
       have hi:i<(kJ t row).counts.length:=by rw[(ace row).2];exact an6 T h4
       simp only[bz];rw[aS,au,aA ⟨by omega,hi⟩,aA hi,bU,fz,bZ hi];rfl
    cases C:t.rows.findIdx? (λe=>e==row)with
    | some i=>
     obtain⟨hi,_⟩:=Ob C;have O:i<t.counts.length:=by omega
     have hc:=T.cs i O;have Y:pX t row=some i:=by unfold pX;rw[C]
     have Z:kJ t row=⟨t.rows,t.counts.set i (t.counts[i]+1),t.dg⟩:=by unfold kJ;simp only[C];rw[fz,bZ O];rfl
     have U:gz (λe=>e==row) t.rows=(i:Int):=by unfold gz;rw[C]
     rw[U,aT,aq];simp only[bz];rw[aS,au,aA ⟨by omega,O⟩,aA O,aA ⟨by omega,O⟩,aA O];have hw:W6 (t.counts[i]+1)=t.counts[i]+1:=aR;simp only[hw];exact acf (i:Int) ⟨t.rows,t.counts.set i (t.counts[i]+1),t.dg⟩ Z.symm (by rw[Y])
    | none=>
     have U:gz (λe=>e==row) t.rows = -1:=by unfold gz;rw[C]
     rw[U,aS,au,Ut _ _ (by omega),ak,sw t.dg];cases L:t.counts.findIdx? (λe=>e==t.dg)with
     | some i=>
      obtain⟨hi,hp⟩:=Ob L;have hir:i<t.rows.length:=by omega
      have hp:t.counts[i]=t.dg:=by simpa using hp
      have Y:pX t row=some i:=by unfold pX;rw[C];exact L
      have Z:kJ t row=⟨t.rows.set i row,t.counts.set i (t.dg+1),t.dg⟩:=by unfold kJ;rw[C];simp only[L]
      have e3:gz (λe=>e==t.dg) t.counts=(i:Int):=by unfold gz;rw[L]
      rw[e3];simp only[bz];rw[aS,au,aA ⟨by omega,hir⟩,aA hir,au,aA ⟨by omega,hi⟩,aA hi,aA ⟨by omega,hi⟩,aA hi];have hw:W6 (t.dg+1)=t.dg+1:=aR;simp only[hp,hw];exact acf (i:Int) ⟨t.rows.set i row,t.counts.set i (t.dg+1),t.dg⟩ Z.symm (by rw[Y])
     | none=>
      have Y:pX t row=none:=by unfold pX;rw[C];exact L
      have Z:kJ t row=⟨t.rows,t.counts,t.dg+1⟩:=by unfold kJ;rw[C];simp only[L]
      have e3:gz (λe=>e==t.dg) t.counts = -1:=by unfold gz;rw[L]
      have hw:W6 (t.dg+1)=t.dg+1:=aR;rw[e3,aT,aq,aq];simp only[hw];exact acf (-1) ⟨t.rows,t.counts,t.dg+1⟩ Z.symm (by rw[Y])
def yS(k:Int):bV:=⟨List.replicate k.toNat (-1),List.replicate k.toNat 0,0⟩
def aHq{k:Int}(h:aN k 1 16=true):TM k=some (yS k,true):=by
 have hb:=bF.1 h;unfold TM;have e:CJ ([(-1:Int)]) k=some (List.replicate k.toNat (-1)):=by
  unfold CJ;simp_all
 rw[dx,ak,h,bA,e,ak,bI ⟨by omega,Int.le_refl _,by omega⟩];rfl
def aHr{k:Int}(h:aN k 1 16=true):SI k=some (yS k,true):=by
 have hb:=bF.1 h;obtain⟨n,rfl⟩:=fL (show 0 <= k by omega);unfold SI;rw[ei,ak,h,bA,aD2 n (by omega),ak,bI ⟨by omega,Int.le_refl _,by omega⟩];rfl
def wP(r:cS)(b:Int):cS:=bif decide (r.aI.getD b.toNat 0 = -2)then r else ⟨r.aI.set b.toNat (r.aI.getD b.toNat 0-1),r.wait,r.dD⟩
def HF{r:cS}(h:fe r=true):∀ x∈r.aI,-2 <= x/\x <= 5:=by
 simp[fe,aU,cx]at h;exact λx C=>bF.1 (h.1 x C)
def aHs{α β:Type}{o:ah (α×β)}{a:α}(h:o.map Prod.fst=some a):∃b,o=some (a,b):=by simp_all
def aHt{r:cS}(h:fe r=true){b:Int}(D:0 <= b)(C:b.toNat<r.aI.length):∃ y,SJ r b=some (wP r b,y):=by
 have hl:=nc h;have O:=HF h _ (cT C);have E:r.aI.getD b.toNat 0=r.aI[b.toNat]:=by rw[fz,bZ C];rfl
 unfold SJ C0 wP xI xL xA xZ;rw[cX (by simp;omega),au,ak,NK _ (by omega),ak,h,bA,aq,ei,ak,Oa D C (by omega),bA,aq,aA ⟨D,C⟩,E];dsimp only;by_cases L:r.aI[b.toNat] = -2
 ·simp_all
 ·rw[aT (show ¬ r.aI[b.toNat] <= -2 by omega),aT L,lT,aA ⟨D,C⟩,aA ⟨D,C⟩,aA C,aR];simp_all
def aHu{r:cS}(h:fe r=true){b:Int}(D:0 <= b)(C:b.toNat<r.aI.length):∃ y,TN r b=some (wP r b,y):=by
 have hl:=nc h;have O:=HF h _ (cT C);have L:r.aI.getD b.toNat 0=r.aI[b.toNat]:=by rw[fz,bZ C];rfl
 unfold TN ym wP xI xL xA xZ;rw[cX (by simp;omega),au,ak,G9 _ (by omega),ak,h,bA,aq,dx,ak,Oa D C (by omega),bA,aq,aA ⟨D,C⟩,L];dsimp only;by_cases E:r.aI[b.toNat] = -2
 ·simp_all
 ·rw[kG E,aT E,lT,aA ⟨D,C⟩,aA C,aA ⟨D,C⟩,aA C,aR];simp_all
def yT(p:eN)(k now:Int):eN:=bif kH p&&aN now p.since 1000000 then
 (bif (k==6)&&(p.state==0)then ⟨1,now,p.idle⟩else bif (k==8)&&(p.state==0)then ⟨2,now,p.idle⟩else bif (k==7)&&(p.state==1)then ⟨0,now,p.idle⟩else bif (k==9)&&(p.state==2)then ⟨0,now,p.idle⟩else p)else p
def UZ(p:eN){k:Int}(C:6 <= k/\k <= 9)(now:Int):∃ y,TR p k now=some (yT p k now,y):=by
 refine aHs ?_;unfold TR yT;rw[Uq,ak];cases kH p with
 |false=>rfl
 | true=>
  rw[bA,aq,dx,ak];cases aN now p.since 1000000 with
  |false=>rfl
  | true=>
   have:k=6 \/ k=7 \/ k=8 \/ k=9:=by omega
   grind
def U0(p:eN){k:Int}(C:6 <= k/\k <= 9)(now:Int):∃ y,SM p k now=some (yT p k now,y):=by
 unfold SM yT;simp[Ur,ei];have:k=6 \/ k=7 \/ k=8 \/ k=9:=by omega
 rcases this with rfl|rfl|rfl|rfl
 ·grind
 ·grind
 ·grind
 ·grind
def an8{α β T:Type}{step:α -> ah (α⊕β)}(p:T -> Bool)(S:Nat -> Nat -> aa T -> α)(Z:Nat -> aa T -> β)
  (hs:∀i j s (E:j<s.length),i <= j -> j<1073741824 -> step (S i j s)=some (.inl (bif p s[j]then S i (j+1) s else S (i+1) (j+1) (s.set i s[j]))))
  (hz:∀i s,i <= s.length -> step (S i s.length s)=some (.inr (Z i s))):
  ∀(n i j fuel:Nat) (s:aa T),j+n=s.length -> i <= j -> s.length<1073741824 -> n<fuel -> ∃C D,iter step fuel (S i j s)=some (Z D C)/\C.length=s.length/\D <= s.length/\C.take D=s.take i++(s.drop j).filter (λx=>!p x):=by
 intro n
 induction n with
 | zero=>
  intro i j fuel s hn hi hl hf;obtain⟨f,rfl⟩:∃f,fuel=f+1:=⟨fuel-1,by omega⟩
  have ej:j=s.length:=by omega
  subst ej;refine⟨s,i,?_,rfl,hi,by simp⟩;unfold iter;simp_all
 | succ n L=>
  intro i j fuel s hn hi hl hf;obtain⟨f,rfl⟩:∃f,fuel=f+1:=⟨fuel-1,by omega⟩
  have E:j<s.length:=by omega
  unfold iter;rw[hs i j s E hi (by omega)];have hd:=List.drop_eq_getElem_cons E;cases hp:p s[j]with
  | true=>
   have⟨C,D,O,U,Y,h4⟩:=L i (j+1) f s (by omega) (by omega) hl (by omega)
   grind
  | false=>
   have⟨C,D,O,U,Y,h4⟩:=L (i+1) (j+1) f (s.set i s[j]) (by simp;omega) (by omega) (by simp;omega) (by omega);refine⟨C,D,O,by simpa using U,by simpa using Y,?_⟩;rw[h4,hd,List.filter_cons_of_pos (by simp[hp]),List.drop_set_of_lt (by omega),List.take_add_one,List.getElem?_set_self (by omega),List.take_set_of_le (by omega)];simp
def acg{T:Type}{p:T -> Bool}{l:aa T}{k:Nat}(h:l.findIdx? p=some k):l.filter (λx=>!p x)=l.take k++(l.drop (k+1)).filter (λx=>!p x):=by
 have⟨D,E,L⟩:=mI.1 h;have e:l=l.take k++l[k] :: l.drop (k+1):=by
  simp[*]
 have O:(l.take k).filter (λx=>!p x)=l.take k:=by
  rw[List.filter_eq_self];intro a C;obtain⟨i,hi,rfl⟩:=jo.1 C
  grind
 grind
def ach{T:Type}(s r:aa T)(i:Nat)(h:i <= s.length):(splice s i r).take i=s.take i:=by
 unfold splice;simp_all
def aHv(l:aa aJ)(a:aJ)(hl:l.length<1073741824):TI l a=some (gz (gM a) l):=by
 unfold TI gz;have e:=rO (step:=Nf) l (gM a) (λi=>((l,a,(l.length:Int),(i:Int),()),())) (λi=>.inl (((i:Int),()),())) (.inr (.inl ((),()))) aX (λk h=>by
  unfold Nf gM av aQ xG xI;dsimp only;rw[aS,au,aA ⟨by omega,by omega⟩];simp only[bz];rw[bD];cases (l[k].ay==a.ay&&(l[k].row==a.row&&(l[k].bT==a.bT&&true)))<;>rfl) (by
  unfold Nf av aQ xG xI;dsimp only;rw[aT,aq]) (bN hl)
 rw[cr]at e;rw[e];cases l.findIdx? (gM a)<;>rfl
def aHw(l:aa aJ)(x:aG)(hl:l.length<1073741824):TS l x=some (gz (λa=>a.ay==x.ay) l):=by
 unfold TS gz;have e:=rO (step:=Nl) l (λa=>a.ay==x.ay) (λi=>((l,x,(l.length:Int),(i:Int),()),())) (λi=>.inl (((i:Int),()),())) (.inr (.inl ((),()))) aX (λk h=>by
  unfold Nl av aQ xG xI;dsimp only;rw[aS,au,aA ⟨by omega,by omega⟩];simp only[bz];rw[bD];cases (l[k].ay==x.ay)<;>rfl) (by
  unfold Nl av aQ xG xI;dsimp only;rw[aT,aq]) (bN hl)
 rw[cr]at e;rw[e];cases l.findIdx? (λa=>a.ay==x.ay)<;>rfl
def aHx(l:aa aJ)(a:aJ)(hl:l.length<1000000):TJ l a=some (l.filter (λx=>!gM a x),([],())):=by
 unfold TJ;rw[aHv l a (by omega),ak];unfold gz;cases C:l.findIdx? (gM a)with
 | none=>
  have e:l.filter (λx=>!gM a x)=l:=by
   rw[List.filter_eq_self];intro x D;have:=List.findIdx?_eq_none_iff.1 C x D;simp[this]
  rw[e];rfl
 | some k=>
  obtain⟨O,T,U⟩:=mI.1 C;rw[acg C];simp only;rw[kG (show ¬ (k:Int) = -1 by omega),aq,bD];obtain⟨Y,Z,E,h2,h3,L⟩:=an8 (step:=Ng) (gM a) (λi j s=>(((),a,(i:Int),(j:Int),()),(s,()))) (λi s=>.inl (((),(i:Int),()),(s,()))) (λi j s hj hi hb=>by
   unfold Ng gM av xG xL;dsimp only;rw[aS,au,aA ⟨by omega,by omega⟩,aA];simp only[bz];rw[bD,bD,aA ⟨by omega,by omega⟩,aA];cases (s[j].ay==a.ay&&(s[j].row==a.row&&(s[j].bT==a.bT&&true)))<;>rfl) (λi s hi=>by
   unfold Ng av xG xL;dsimp only;rw[aT,aq]) (l.length-(k+1)) k (k+1) aX l (by omega) (by omega) (by omega) (by unfold aX;omega)
  rw[E,ak,en];dsimp only;rw[bI ⟨by omega,by omega,by omega⟩,bI ⟨by omega,by omega⟩,bI ⟨by omega,by omega,by
   rw[tu _ _ _ (by simp;omega)];omega⟩]
  rw[ach _ _ _ (by omega),bz,L]
def aHy(l:aa aJ)(c:aG)(hl:l.length<1000000):TT l c=some (l.filter (λx=>!(x.ay==c.ay)),([],())):=by
 unfold TT;rw[aHw l c (by omega),ak];unfold gz;cases C:l.findIdx? (λa=>a.ay==c.ay)with
 | none=>
  have e:l.filter (λx=>!(x.ay==c.ay))=l:=by
   rw[List.filter_eq_self];intro x D;have:=List.findIdx?_eq_none_iff.1 C x D;simp[this]
  rw[e];rfl
 | some k=>
  obtain⟨O,T,U⟩:=mI.1 C;rw[acg C];simp only;rw[kG (show ¬ (k:Int) = -1 by omega),aq,bD];obtain⟨Y,Z,E,h2,h3,L⟩:=an8 (step:=Nm) (λx=>x.ay==c.ay) (λi j s=>(((),c,(i:Int),(j:Int),()),(s,()))) (λi s=>.inl (((),(i:Int),()),(s,()))) (λi j s hj hi hb=>by
   unfold Nm av xG xL;dsimp only;rw[aS,au,aA ⟨by omega,by omega⟩,aA];simp only[bz];rw[bD,bD,aA ⟨by omega,by omega⟩,aA];cases (s[j].ay==c.ay)<;>rfl) (λi s hi=>by
   unfold Nm av xG xL;dsimp only;rw[aT,aq]) (l.length-(k+1)) k (k+1) aX l (by omega) (by omega) (by omega) (by unfold aX;omega)
  rw[E,ak,en];dsimp only;rw[bI ⟨by omega,by omega,by omega⟩,bI ⟨by omega,by omega⟩,bI ⟨by omega,by omega,by
   rw[tu _ _ _ (by simp;omega)];omega⟩]
  rw[ach _ _ _ (by omega),bz,L]
def ng(b:Int)(pd:aa aJ)(n:Int):aa aJ:=bif pd.any (gM ⟨b,n,0⟩)then pd else pd++[⟨b,n,0⟩]
def qI(c:ax)(t:aa bV)(C:aa Int)(pd:aa aJ):ax:=⟨c.config,c.box,c.now,c.br,c.ready,c.array,c.spare,c.aV,t,C,pd,c.queue,c.shares,c.drain,c.bf,c.cH,c.errors,c.trace,c.cy⟩
def aci{T:Type}(p:T -> Bool)(l:aa T):decide (gz p l<0) = !l.any p/\decide (gz p l >= 0)=l.any p:=by
 unfold gz
 grind
def U1(b:Int):∀ (ns:aa Int) (pd:aa aJ),(ns.foldl (ng b) pd).length <= pd.length+ns.length
 |[],pd=>dQ _
 | n :: ns,pd=>by
  have:=U1 b ns (ng b pd n);have C:(ng b pd n).length <= pd.length+1:=by
   unfold ng
   grind
  grind
def an9{T U:Type}(f:U->T->U)(l:aa T)(u:U){k:Nat}(h:k<l.length):(l.take (k+1)).foldl f u=f ((l.take k).foldl f u) l[k]:=by
 rw[List.take_add_one,bZ h,List.foldl_append];rfl
def aHz(c:ax)(x:aG)(ns:aa Int)(C:ns.length <= 1000)(D:c.pending.length <= 1000):iter GU aX (((),(),(),(ns.length:Int),(0:Int),()),(c,(x.kind,x.ay,x.row,x.bT,()),ns,()))=some (.inl ((),(qI c c.bJ c.guard (ns.foldl (ng x.ay) c.pending),()))):=by
 have e:=cB (step:=GU) _ (λi=>(((),(),(),ns.length,i,()),(qI c c.bJ c.guard ((ns.take i).foldl _ _),(x.kind,x.ay,x.row,x.bT,()),ns,()))) _ aX (λk h=>by
  have hl:=U1 x.ay (ns.take k) c.pending;rw[fT]at hl;rw[an9 _ _ _ h];generalize (ns.take k).foldl (ng x.ay) c.pending=pd at hl;unfold GU ng qI aay av xG xL;dsimp only;rw[aS,au,aA ⟨by omega,by omega⟩,aA];simp only[bz];rw[amR _ _ (by omega),ak,ak,(aci _ _).2,bD,cX (by simp;omega)];cases pd.any (gM ⟨x.ay,ns[k],0⟩)<;>rfl) (by
  unfold GU qI av xG xL;dsimp only;rw[aT,aq]) (bN)
 rw[ iP]at e;exact e
def aHA(c:ax)(x:aG)(ns:aa Int)(C:ns.length <= 1000)(D:c.pending.length <= 1000):iter uw aX (((),(),true,(),(0:Int),()),(c,(x.kind,x.ay,x.row,x.bT,()),ns,()))=some (.inl ((),(qI c c.bJ c.guard (ns.foldl (ng x.ay) c.pending),()))):=by
 have e:=cB (step:=uw) _ (λi=>(((),(),true,(),i,()),(qI c c.bJ c.guard ((ns.take i).foldl _ _),(x.kind,x.ay,x.row,x.bT,()),ns,()))) _ aX (λk h=>by
  have hl:=U1 x.ay (ns.take k) c.pending;rw[fT]at hl;rw[an9 _ _ _ h];generalize (ns.take k).foldl (ng x.ay) c.pending=pd at hl;unfold uw ng qI av xG xL;dsimp only;rw[aS,au,au,aA ⟨by omega,by omega⟩,aA];simp only[bz];rw[aa4 _ _ (by omega),ak,(aci _ _).1,bD,cX (by simp;omega)];cases pd.any (gM ⟨x.ay,ns[k],0⟩)<;>rfl) (by
  unfold uw qI av xG xL;dsimp only;rw[aT,aq]) (bN)
 rw[ iP]at e;exact e
def aHB(c:ax)(x:aG)(ns:aa Int):iter uw aX (((),(),false,(),(0:Int),()),(c,(x.kind,x.ay,x.row,x.bT,()),ns,()))=some (.inl ((),(c,()))):=by
 have e:=cB (step:=uw) 0 (λi=>(((),(),false,(),i,()),(c,(x.kind,x.ay,x.row,x.bT,()),ns,()))) _ aX (λk h=>by omega) (by
  unfold uw av xG xL;cases decide ((0:Int)<ns.length)<;>rfl) (bN)
 simp_all
def zT:bV:=⟨[],[],0⟩
def s9(c:ax)(x:aG):bV×Bool:=vh (c.bJ.getD x.ay.toNat zT) x.row (c.guard.getD x.ay.toNat 0)
def oR(c:ax)(x:aG):aa aJ:=c.pending.filter (λa=>!gM ⟨x.ay,x.row,0⟩ a)
def vi(c:ax)(x:aG):ax:=
 qI (cM c (vc c.config.az c.config.dW c.array x.ay x.row)) (c.bJ.set x.ay.toNat (s9 c x).1) c.guard (bif (s9 c x).2 then (mF c.config.az.rows x.row).foldl (ng x.ay) (oR c x)else oR c x)
def lu{T:Type}{l:aa T}{i:Nat}(d:T)(h:i<l.length):l.getD i d=l[i]:=by
 rw[fz,bZ h];rfl
def acj(R r:Int):(mF R r).length <= 2:=by
 unfold mF
 grind
def ack{T:Type}(p:T->Bool)(l:aa T):(l.filter p).length<=l.length:=List.length_filter_le p l
def aHC{B:Int}(c:ax)(x:aG)(L:cG c.config.az=true)(Y:eA c.config.az B c.array)(hp:c.pending.length <= 200)(Z:∀ t∈c.bJ,iD t)(D:0 <= x.ay)(h2:x.ay<bg c.config.az)(O:0 <= x.row)(T:x.row<c.config.az.rows)(C:x.ay.toNat<c.bJ.length)(E:x.ay.toNat<c.guard.length):TK c x=some ((),(vi c x,())):=by
 have⟨_,_,_,_,g5,g6,g7,g8⟩:=fG L;have U:=anP L c.config.dW c Y D h2 O T;have e2:=aHx c.pending ⟨x.ay,x.row,0⟩ (by omega);have hf:(oR c x).length <= c.pending.length:=List.length_filter_le _ _;have q7:=acj c.config.az.rows x.row;simp only[cM]at U;unfold TK bk xL xM
 refine(aZ (λo=>Option.bind o _) U).trans ?_
 rw[ak];dsimp only
 refine(aZ (λo=>Option.bind o _) e2).trans ?_
 rw[ak];dsimp only;rw[aA ⟨D,C⟩,aA C,aA ⟨D,E⟩,aA E,aA C,aA C];rw[aHp _ (Z _ (cT C)),ak,aA ⟨D,C⟩,aA C];unfold vi s9;rw[lu _ C,lu _ E];cases (vh (c.bJ[x.ay.toNat]'C) x.row (c.guard[x.ay.toNat]'E)).2 with
 |false=>rfl
 | true=>
  rw[bA,aq,abk (by omega) (by omega) O T,ak]
  refine(aZ (λo=>Option.bind o _) (aHz (qI (cM c (vc _ _ c.array x.ay x.row)) _ c.guard (oR c x)) x _ (by omega) (by unfold qI;dsimp only;omega))).trans ?_
  rfl
def wQ(l:aa aJ):Prop:=∀i (h:i<l.length),(l.take i).any (gM l[i])=false
def Oc{a b:aJ}:gM a b=true ↔ a=b:=by
 have⟨C,D,E⟩:=a;have⟨L,O,T⟩:=b;simp[gM,aU,fU,and_true,aJ.mk.injEq]
 grind
def wQ.cut{l:aa aJ}(h:wQ l){a:aJ}{k:Nat}(C:l.findIdx? (gM a)=some k):l.take k++l.drop (k+1)=l.filter (λx=>!gM a x):=by
 have⟨O,D,T⟩:=mI.1 C;rw[acg C];congr 1;symm;rw[List.filter_eq_self];intro x E;obtain⟨i,hi,rfl⟩:=jo.1 E;rw[List.length_drop]at hi;rw[List.getElem_drop];cases L:gM a _ with
 |false=>rfl
 | true=>
  have U:=Oc.1 L;have Y:=Oc.1 D;have:=List.any_eq_false.1 (h (k+1+i) (by omega)) l[k] (jo.2 ⟨k,by rw[fT];omega,by rw[List.getElem_take]⟩);simp_all
def aHD{B:Int}(c:ax)(x:aG)(L:cG c.config.az=true)(ha:eA c.config.az B c.array)(hp:c.pending.length <= 200)(hu:wQ c.pending)(O:∀ t∈c.bJ,iD t)(D:0 <= x.ay)(h2:x.ay<bg c.config.az)(T:0 <= x.row)(U:x.row<c.config.az.rows)(C:x.ay.toNat<c.bJ.length)(E:x.ay.toNat<c.guard.length):SG c x=some ((),(vi c x,())):=by
 have⟨_,_,_,_,g5,g6,g7,g8⟩:=fG L;have Y:=anT L c.config.dW c ha D h2 T U;have e2:=aa4 c.pending ⟨x.ay,x.row,0⟩ (by omega);have hf:(oR c x).length <= c.pending.length:=List.length_filter_le _ _;have q7:=acj c.config.az.rows x.row;have Z:ZX c.config.az.rows x.row=some (mF c.config.az.rows x.row):=abk (by omega) (by omega) T U;simp only[cM]at Y;unfold SG xA bk xL xM xZ
 refine(aZ (λo=>Option.bind o _) Y).trans ?_
 rw[ak];dsimp only
 refine(aZ (λo=>Option.bind o _) e2).trans ?_
 rw[ak];have Ce:∀ pd:aa aJ,pd=oR c x -> ∀ t:bV×Bool,t=s9 c x -> (iter uw aX (((),(),t.2,(),(0:Int),()),((⟨c.config,c.box,c.now,c.br,c.ready,vc c.config.az c.config.dW c.array x.ay x.row,c.spare,c.aV,(c.bJ.set x.ay.toNat t.1),c.guard,pd,c.queue,c.shares,c.drain,c.bf,c.cH,c.errors,c.trace,c.cy⟩:ax),(x.kind,x.ay,x.row,x.bT,()),mF c.config.az.rows x.row,()))).bind (Sum.elim (λLW=>some ((),(LW.2.1,()))) (λz=>nomatch z))=some ((),(vi c x,())):=by
  rintro pd rfl ⟨t1,t2⟩ C;unfold vi;rw[<- C];cases t2 with
  | false=>
   refine(aZ (λo=>Option.bind o _) (aHB _ x _)).trans ?_
   rfl
  | true=>
   refine(aZ (λo=>Option.bind o _) (aHA _ x _ (by omega) (by dsimp only;omega))).trans ?_
   rfl
 have hT:s9 c x=vh (c.bJ[x.ay.toNat]'C) x.row (c.guard[x.ay.toNat]'E):=by
  unfold s9;simp[*]
 unfold gz;cases hi:c.pending.findIdx? (gM ⟨x.ay,x.row,0⟩)with
 | none=>
  have e:oR c x=c.pending:=by
   unfold oR;rw[List.filter_eq_self];simp_all
  dsimp only;rw[aT,aq,aA ⟨D,C⟩,aA C,aA ⟨D,E⟩,aA E,aA C,aA C];rw[an7 _ (O _ (cT C)),ak,aA ⟨D,C⟩,aA C,Z,ak];exact Ce _ e.symm _ hT.symm
 | some k=>
  have⟨k1,Qh,hq⟩:=mI.1 hi;have e:=hu.cut hi;dsimp only;rw[aS,au,bD,bI ⟨by omega,by omega,by omega⟩,bI ⟨by omega,by omega,by omega⟩];simp only[bz,Int.toNat_zero,List.drop_zero,lT,iP];rw[cX (by simp;omega),au,cX (by simp;omega),au,aA ⟨D,C⟩,aA C,aA ⟨D,E⟩,aA E,aA C,aA C];rw[an7 _ (O _ (cT C)),ak,aA ⟨D,C⟩,aA C,Z,ak];exact Ce _ e _ hT.symm
def yU{U:Type}(f:U->Nat->U)(u:U)(k:Nat):(List.range (k+1)).foldl f u=f ((List.range k).foldl f u) k:=by
 rw[List.range_succ,List.foldl_append];rfl
def qJ(g:aM)(l:jq)(a:cV)(b:Int)(n:Nat):cV:=(List.range n).foldl (λa (r:Nat)=>vc g l a b (r:Int)) a
def HG{g:aM}(C:cG g=true)(l:jq){B:Int}(hB:0<=B){a:cV}(D:eA g B a){b:Int}(E:0<=b)(L:b<bg g):∀ n:Nat,(n:Int)<=g.rows->eA g B (qJ g l a b n)
 |0,_=>D
 | n+1,h=>by
  unfold qJ;rw[yU];exact abY C l hB (HG C l hB D E L n (by omega)) E L (by omega) (by omega)
def aoa{B:Int}(hB:0 <= B)(c:ax)(C:cG c.config.az=true)(O:eA c.config.az B c.array){b:Int}(D:0 <= b)(E:b<bg c.config.az):TL c b=some ((),(cM c (qJ c.config.az c.config.dW c.array b c.config.az.rows.toNat),())):=by
 have⟨_,_,_,_,T,U,Y,Z⟩:=fG C;have e:=cB (step:=Nh) c.config.az.rows.toNat (λi=>(((),b,i,()),(cM c (qJ _ _ _ b i),()))) _ aX (λk h=>by
  have L:=anP C c.config.dW (cM c (qJ c.config.az c.config.dW c.array b k)) (HG C c.config.dW hB O D E k (by omega)) D E (show 0 <= (k:Int) by omega) (by omega);simp only[cM]at L;unfold Nh cM av xG;dsimp only;rw[aS,au,L,ak,bD];dsimp only;unfold qJ;rw[yU]) (by
  unfold Nh cM av xG;dsimp only;rw[aT,aq]) (bN)
 refine(aZ (λo=>Option.bind o _) e).trans ?_
 rfl
def aHE{B:Int}(hB:0 <= B)(c:ax)(C:cG c.config.az=true)(O:eA c.config.az B c.array){b:Int}(D:0 <= b)(E:b<bg c.config.az):Z0 c.config.az c.config.dW c b=some ((),(cM c (qJ c.config.az c.config.dW c.array b c.config.az.rows.toNat),())):=by
 have⟨_,_,_,_,T,U,Y,Z⟩:=fG C;have e:=cB (step:=LY) c.config.az.rows.toNat (λi=>(((),b,(),(),i,()),(cM c _,(c.config.az.cu,c.config.az.aC,c.config.az.rows,c.config.az.aO,()),(c.config.dW.bx,c.config.dW.bw,()),()))) _ aX (λk h=>by
  have L:=anT C c.config.dW (cM c (qJ c.config.az c.config.dW c.array b k)) (HG C c.config.dW hB O D E k (by omega)) D E (show 0 <= (k:Int) by omega) (by omega);simp only[cM]at L;unfold LY cM av xG;dsimp only;rw[aS,au,L,ak,bD];dsimp only;unfold qJ;rw[yU]) (by
  unfold LY cM av xG;dsimp only;rw[aT,aq]) (bN)
 refine(aZ (λo=>Option.bind o _) e).trans ?_
 rfl
def Od(c:ax)(b:Int)(pd:aa aJ):ax:=
 qI (cM c (qJ c.config.az c.config.dW c.array b c.config.az.rows.toNat)) (c.bJ.set b.toNat (yS c.config.iQ)) (c.guard.set b.toNat c.box.bH.fQ) pd
def aob(c:ax)(L:aN c.config.iQ 1 16=true){b:Int}(C:0<=b)(D:b.toNat<c.bJ.length)(E:b.toNat<c.guard.length):Ni c b=some ((),(qI c (c.bJ.set b.toNat (yS c.config.iQ)) (c.guard.set b.toNat c.box.bH.fQ) c.pending,())):=by
 unfold Ni xL;rw[aHq L,ak,aA ⟨C,D⟩,aA D,aA ⟨C,E⟩,aA E];rfl
def aHF(c:ax)(b:Int)(D:c.pending.length <= 1000):iter F9 aX (((),b,(),(0:Int),()),(c,([]:aa aJ),()))=some (.inl (((),(),()),(c,c.pending.filter (λa=>!(a.ay==b)),()))):=by
 have e:=cB (step:=F9) c.pending.length (λi=>(((),b,(),(i:Int),()),(c,(c.pending.take i).filter (λa=>!(a.ay==b)),()))) (.inl (((),(),()),(c,(c.pending.take c.pending.length).filter (λa=>!(a.ay==b)),()))) aX (λk h=>by
  have hl:=ack (λa:aJ=>!(a.ay==b)) (c.pending.take k);rw[fT]at hl;have C:c.pending.take (k+1)=c.pending.take k++[c.pending[k]]:=by rw[List.take_add_one,bZ h];rfl
  rw[C,List.filter_append];generalize (c.pending.take k).filter (λa=>!(a.ay==b))=ls at hl;unfold F9 av xG xL;dsimp only;rw[aS,au,aA ⟨by omega,by omega⟩,aA];simp only[bz];rw[bD,bne];cases hb:c.pending[k].ay==b with
  |true=>rw[List.filter_cons_of_neg (by simp[hb])];simp
  | false=>
   rw[gW,aA ⟨by omega,by omega⟩,aA,cX (by simp;omega),List.filter_cons_of_pos (by simp[hb])];rfl) (by
  unfold F9 av xG xL;dsimp only;rw[aT,aq]) (bN)
 rw[cr,iP]at e;exact e
def aoc{B:Int}(hB:0 <= B)(c:ax)(O:cG c.config.az=true)(T:eA c.config.az B c.array)(U:aN c.config.iQ 1 16=true)(Z:c.pending.length <= 200){b:Int}(C:0 <= b)(Y:b<bg c.config.az)(D:b.toNat<c.bJ.length)(E:b.toNat<c.guard.length):LZ c b=some ((),(Od c b (c.pending.filter (λa=>!(a.ay==b))),())):=by
 have L:=aHE hB c O T C Y;simp only[cM]at L;unfold LZ bk xL
 refine(aZ (λo=>Option.bind o _) L).trans ?_
 rw[ak];rw[aHr U,ak,aA ⟨C,D⟩,aA D,aA ⟨C,E⟩,aA E]
 refine(aZ (λo=>Option.bind o _) (aHF _ b (by dsimp only;omega))).trans ?_
 rfl
def gN(c:ax)(k:Nat)(pd:aa aJ):ax:=
 ⟨c.config,c.box,c.now,c.br,c.ready,(List.range k).foldl (λa (b:Nat)=>qJ c.config.az c.config.dW a (b:Int) c.config.az.rows.toNat) c.array,c.spare,⟨(List.range k).foldl (λd b=>d.set b 0) c.aV.aI,c.aV.wait,c.aV.dD⟩,(List.range k).foldl (λd b=>d.set b (yS c.config.iQ)) c.bJ,(List.range k).foldl (λd b=>d.set b c.box.bH.fQ) c.guard,pd,c.queue,c.shares,c.drain,c.bf,c.cH,c.errors,c.trace,c.cy⟩
def yV{T:Type}(x:T)(l:aa T):∀ k:Nat,((List.range k).foldl (λd b=>d.set b x) l).length=l.length
 |0=>rfl
 |k+1=>by rw[yU,gG,yV x l k]
def U2{g:aM}(C:cG g=true)(l:jq){B:Int}(hB:0 <= B){a:cV}(D:eA g B a):∀ k:Nat,(k:Int) <= bg g -> eA g B ((List.range k).foldl (λa (b:Nat)=>qJ g l a (b:Int) g.rows.toNat) a)
 |0,_=>D
 | k+1,h=>by
  have⟨_,_,_,_,E,L,O,T⟩:=fG C;rw[yU];exact HG C l hB (U2 C l hB D k (by omega)) (by omega) (by omega) _ (by omega)
structure vj (B:Int) (c:ax):Prop where
 hB:0<=B
 g:cG c.config.az=true
 a:eA c.config.az B c.array
 k:aN c.config.iQ 1 16=true
 p:c.pending.length<=200
 t:(c.bJ.length:Int)=bg c.config.az
 d:(c.guard.length:Int)=bg c.config.az
 r:(c.aV.aI.length:Int)=bg c.config.az
def vj.U3{B:Int}{c:ax}(h:vj B c)(k:Nat)(C:(k:Int)<=bg c.config.az)(pd:aa aJ)(D:pd.length<=200):vj B (gN c k pd):=
 ⟨h.hB,h.g,U2 h.g c.config.dW h.hB h.a k C,h.k,D,(aZ (λn:Nat=>(n:Int)) (yV _ _ k)).trans h.t,(aZ (λn:Nat=>(n:Int)) (yV _ _ k)).trans h.d,(aZ (λn:Nat=>(n:Int)) (yV _ _ k)).trans h.r⟩
def aod(c:ax)(k:Nat)(pd C:aa aJ):gN c (k+1) C=⟨c.config,c.box,c.now,c.br,c.ready,(Od (gN c k pd) (k:Int) C).array,c.spare,⟨(gN c k pd).aV.aI.set k 0,c.aV.wait,c.aV.dD⟩,(Od (gN c k pd) (k:Int) C).bJ,(Od (gN c k pd) (k:Int) C).guard,C,c.queue,c.shares,c.drain,c.bf,c.cH,c.errors,c.trace,c.cy⟩:=by
 unfold gN;simp only[yU];rfl
def aHG{B:Int}{c:ax}(h:vj B c):iter yF aX (((),(c.bJ.length:Int),(0:Int),()),(gN c 0 [],()))=some (.inl ((),(gN c c.bJ.length [],()))):=by
 have U:=fH c.config.az;have Y:=h.t;have e:=cB (step:=yF) c.bJ.length (λi=>(((),c.bJ.length,i,()),(gN c i [],()))) _ aX (λk Z=>by
  have C:=h.U3 k (by omega) [] (by simp);have w1:=C.t;have E:=C.d;have L:=C.r;have D:bg (gN c k []).config.az=bg c.config.az:=rfl;rw[D]at w1 E L;have O:=aoa C.hB _ C.g C.a (b:=(k:Int)) (by omega) (by rw[D];omega);have T:=aob (cM (gN c k []) (qJ (gN c k []).config.az (gN c k []).config.dW (gN c k []).array (k:Int) (gN c k []).config.az.rows.toNat)) C.k (b:=(k:Int)) (by omega) (by show (k:Int).toNat<(gN c k []).bJ.length;omega) (by show (k:Int).toNat<(gN c k []).guard.length;omega);rw[aod c k [] []];unfold yF av xG xL;dsimp only;rw[aS,au,O,ak,T,ak,bD];have w4:k<(gN c k []).aV.aI.length:=by omega
  rw[aA ⟨by omega,by show (k:Int).toNat<(gN c k []).aV.aI.length;omega⟩,aA (by show (k:Int).toNat<(gN c k []).aV.aI.length;omega)];rfl) (by
  unfold yF av xG xL;dsimp only;rw[aT,aq]) (bN)
 simp_all
def qK(pd:aa aJ):Nat->aa aJ
 |0=>pd
 |k+1=>(qK pd k).filter (λa=>!(a.ay==(k:Int)))
def aoe(pd:aa aJ):∀ k,(qK pd k).length<=pd.length
 |0=>dQ _
 |k+1=>Nat.le_trans (ack _ _) (aoe pd k)
def aof(pd:aa aJ){a:aJ}:∀ k,a∈qK pd k -> a∈pd /\ ∀ b:Nat,b<k -> a.ay≠(b:Int)
 |0,h=>⟨h,λb hb=>by omega⟩
 | k+1,h=>by
  have⟨C,D⟩:=List.mem_filter.1 h;have⟨E,L⟩:=aof pd k C
  grind
def aHH{pd:aa aJ}{k:Nat}(h:∀ a∈pd,0 <= a.ay/\a.ay<(k:Int)):qK pd k=[]:=by
 rw[List.eq_nil_iff_forall_not_mem];intro a C;have⟨D,E⟩:=aof pd k C;have:=h a D;exact E a.ay.toNat (by omega) (by omega)
def aHI{B:Int}{c:ax}(h:vj B c)(hr:c.br.aC.length=c.bJ.length)(E:∀ a∈c.pending,0<=a.ay/\a.ay<bg c.config.az):iter Dp aX (((),(0:Int),()),(c,()))=some (.inl ((),(gN c c.bJ.length [],()))):=by
 have b1:=fH c.config.az;have htr:=h.t;have e:=cB (step:=Dp) c.bJ.length (λi=>(((),(i:Int),()),(gN c i (qK c.pending i),()))) (.inl ((),(gN c c.bJ.length (qK c.pending c.bJ.length),()))) aX (λk hk=>by
  have C:=h.U3 k (by omega) (qK c.pending k) (Nat.le_trans (aoe _ _) h.p);have w1:=C.t;have L:=C.d;have O:=C.r;have D:bg (gN c k (qK c.pending k)).config.az=bg c.config.az:=rfl;rw[D]at w1 L O;have T:=aoc C.hB _ C.g C.a C.k C.p (b:=(k:Int)) (by omega) (by rw[D];omega) (by omega) (by omega);rw[aod c k (qK c.pending k) (qK c.pending (k+1))];unfold Dp av xG xL;dsimp only;rw[aS (by show (k:Int)<((c.br.aC.length:Nat):Int);omega),au,T,ak,bD];rw[aA ⟨by omega,by show (k:Int).toNat<(gN c k (qK c.pending k)).aV.aI.length;omega⟩,aA (by show (k:Int).toNat<(gN c k (qK c.pending k)).aV.aI.length;omega)];rfl) (by
  unfold Dp av xG xL;dsimp only;rw[aT (by show ¬ ((c.bJ.length:Nat):Int)<((c.br.aC.length:Nat):Int);omega),aq]) (bN)
 have U:qK c.pending c.bJ.length=[]:=aHH (λa Y=>by have:=E a Y;omega);have Z:gN c 0 (qK c.pending 0)=c:=rfl;rw[cr,U,Z]at e;exact e
def wv(l:aa Int):Nat->Int
 |0=>0
 |i+1=>bits .or .i64 (wv l i) (W6 (l.getD i 0*2 ^ (min (4*(i:Int)).toNat IntKind.i64.bits)))
def aog{l:aa Int}(h:l.length=8)(C:∀ s∈l,0 <= s/\s <= 15):rM l 8=true:=by
 simp[rM,aU,cx,wz,bF];simp_all
def aHJ{l:aa Int}(h:l.length=8)(D:∀ s∈l,0<=s/\s<=15):Te l=some (wv l 8,true):=by
 unfold Te bk;rw[amq _ _ (by omega),aog h D,ak];have e:=cB (step:=MV) 8 (λi=>((wv l i,l,(l.length:Int),(i:Int),()),())) (.inl ((wv l 8,()),())) aX (λi hi=>by
  have C:i<l.length:=by omega
  have E:W6 (4*(i:Int))=4*(i:Int):=aR;have L:¬ 4*(i:Int)<0:=by omega
  have O:l.getD i 0=l[i]:=by rw[fz,bZ C];rfl
  have T:wv l (i+1)=bits .or .i64 (wv l i) (W6 (l.getD i 0*2 ^ (min (4*(i:Int)).toNat IntKind.i64.bits))):=rfl;unfold MV av xG xI;rw[T,O];simp (disch:=omega) [C,E,L,bD]) (by unfold MV av xG xI;simp[h]) (bN)
 rw[cr]at e;simp only[bA,aq];have U:wv l 0=0:=rfl;rw[U]at e;rw[e];rfl
def aHK{l:aa Int}(h:l.length=8)(D:∀ s∈l,0<=s/\s<=15):R7 l=some (wv l 8,true):=by
 unfold R7 bk;rw[NA _ _ (by omega),aog h D,ak];have e:=cB (step:=Lp) 8 (λi=>((l,wv l i,(i:Int),()),())) (.inl ((wv l 8,()),())) aX (λi hi=>by
  have C:i<l.length:=by omega
  have E:W6 (4*(i:Int))=4*(i:Int):=aR;have L:IntKind.u64.wrap (4*(i:Int))=4*(i:Int):=anm (by omega) (by omega);have O:¬ 4*(i:Int)<0:=by omega
  have T:l.getD i 0=l[i]:=by rw[fz,bZ C];rfl
  have U:wv l (i+1)=bits .or .i64 (wv l i) (W6 (l.getD i 0*2 ^ (min (4*(i:Int)).toNat IntKind.i64.bits))):=rfl;unfold Lp av xG xI;rw[U,T];simp (disch:=omega) [C,E,L,O,bD]) (by unfold Lp av xG xI;simp[h]) (bN)
 rw[cr]at e;simp only[bA,aq];have Y:wv l 0=0:=rfl;rw[Y]at e;rw[e];rfl
def aHL{w:aa Nat}(D:dO w)(hl:w.length=11):R8 (bB w)=some (bB (w.drop 3)):=by
 have E:=(NB D hl).ok;have hlen:(bB w).length=11:=by rw[ij,hl]
 have C:(bB w).drop 3=bB (w.drop 3):=by simp
 unfold R8 xA xZ;rw[NA _ _ (by rw[ij];omega),E];generalize bB w=W at hlen C ⊢;rw[<- C];have L:W.take 11=W:=by rw[<- hlen,iP]
 simp[hlen,bM,L]
def aoh{w:aa Nat}(D:dO w)(hl:w.length=11):(bB (w.drop 3)).length=8 /\ ∀ s∈bB (w.drop 3),0 <= s/\s <= 15:=by
 refine⟨by rw[ij];simp[hl],λs C=>?_⟩
 simp only[ List.mem_map]at C;obtain⟨x,E,rfl⟩:=C;have:=D x (List.mem_of_mem_drop E);omega
def Bm(w:aa Nat):Int:=bif (gA w).2.1==2 then 0 else wv (bB ((gA w).1.drop 3)) 8
def aHM{w:aa Nat}(C:dO w)(hl:w.length=11):Tg (bB w)=some (Bm w,(gA w).2.1,(gA w).2.2):=by
 have⟨D,E,_⟩:=D8 C hl;have⟨d1,d2⟩:=aoh E D;unfold Tg Bm;rw[anp C hl,ak];cases h:(gA w).2.1==2 with
 |true=>simp
 | false=>
  rw[ aEy E D,ak,aHJ d1 d2];rfl
def aHN{w:aa Nat}(C:dO w)(hl:w.length=11):R9 (bB w)=some (Bm w,(gA w).2.1,(gA w).2.2):=by
 have⟨D,E,_⟩:=D8 C hl;have⟨d1,d2⟩:=aoh E D;unfold R9 Bm;rw[aEr C hl,ak];cases h:(gA w).2.1==2 with
 |true=>simp
 | false=>
  rw[ aHL E D,ak,aHK d1 d2];rfl
def nw(c:bP):aa Nat:=c.symbols.map Int.toNat
def U4{c:bP}(h:Sy c.symbols):bB (nw c)=c.symbols/\dO (nw c)/\(nw c).length=11:=by
 have⟨C,D⟩:=aaL _ h.2;exact⟨C,D,by simp[nw,h.1]⟩
def kK(c:bP):Int:=bif c.gO then 2 else (gA (nw c)).2.1
def pY(c:bP):bP:=bif c.gO then c else bif (gA (nw c)).2.1==1 then ⟨bB (gA (nw c)).1,c.gO⟩else bif (gA (nw c)).2.1==2 then ⟨c.symbols,true⟩else c
def aHO{l:aa bP}{j:Nat}(h:j<l.length):l.set j l[j]=l:=List.set_getElem_self h
def acm{c:bP}(h:Sy c.symbols):Sy (pY c).symbols:=by
 have⟨O,C,D⟩:=U4 h;have⟨E,L,_⟩:=D8 C D;unfold pY;cases c.gO with
 |true=>exact h
 | false=>
  cases (gA _).2.1==1 with
  |true=>exact NB L E
  |false=>grind
def HH(x:Int)(k:Nat):Int:=bits .and .i64 (x.fdiv (2 ^ (min (4*(k:Int)).toNat IntKind.i64.bits))) 15
def kL(x:Int):Nat->aa Int
 |0=>[]
 |k+1=>kL x k++[HH x k]
def Oe(x:Int):∀ k,(kL x k).length=k
 |0=>rfl
 |k+1=>by simp[kL,Oe x k]
def acn(x:Int):∀ k,∀ s∈kL x k,0<=s/\s<=15
 |0,s,h=>by cases h
 | k+1,s,h=>by
  rcases List.mem_append.1 h with h|h
  ·exact acn x k s h
  ·rw[List.mem_singleton.1 h];exact aEj _
def aHP{x:Int}(Y:0<=x)(Z:x<=4294967295):Sa x=some (kL x 8):=by
 have C:aN x 0 4294967295=true:=by rw[bF];omega
 unfold Sa bk;have e:=cB (step:=Lr) 8 (λk=>((x,(),(k:Int),()),(kL x k,()))) (.inl (((),()),(kL x 8,()))) aX (λk hk=>by
  have D:(k:Int)<8:=by omega
  have E:bM ((kL x k).length+1)=true:=cX (by rw[Oe];omega);have L:W6 (4*(k:Int))=4*(k:Int):=aR;have O:IntKind.u64.wrap (4*(k:Int))=4*(k:Int):=anm (by omega) (by omega);have T:¬ 4*(k:Int)<0:=by omega
  unfold Lr K6 av xG;simp (disch:=omega) [D,ei,C,L,O,T,E,bD,kL,HH]) (by
  unfold Lr av xG;simp) (bN)
 rw[cr]at e;have U:kL x 0=[]:=rfl;rw[U]at e;rw[e];rfl
def aHQ{x:Int}(U:0<=x)(Y:x<=4294967295):TO x=some (kL x 8):=by
 have C:aN x 0 4294967295=true:=by rw[bF];omega
 unfold TO Dz bk;rw[dx,ak,ak,C,bA,aq];have e:=cB (step:=Nk) 8 (λk=>((x,(),(k:Int),()),(kL x k,()))) (.inl (((),()),(kL x 8,()))) aX (λk Z=>by
  have D:(k:Int)<8:=by omega
  have E:bM ((kL x k).length+1)=true:=cX (by rw[Oe];omega);have L:W6 (4*(k:Int))=4*(k:Int):=aR;have O:¬ 4*(k:Int)<0:=by omega
  unfold Nk av xG;simp (disch:=omega) [D,L,O,E,bD,kL,HH]) (by
  unfold Nk av xG;simp) (bN)
 rw[cr]at e;have T:kL x 0=[]:=rfl;rw[T]at e;rw[e];rfl
def aoi:(jv λx=>jv λy=>jv λz=>(λC D E=>Nat.beq (gm (gm 2 (C ^^^ D) ^^^ gm 5 (C ^^^ E)) 13) y&&(Nat.beq (gm (gm 3 (C ^^^ E) ^^^ gm 5 (C ^^^ D)) 13) z&&Nat.beq (C ^^^ (y ^^^ z)) x)) (gm x (pw 0) ^^^ (gm y (pw 0) ^^^ gm z (pw 0))) (gm x (pw 0) ^^^ (gm y (pw 1) ^^^ gm z (pw 2))) (gm x (pw 0) ^^^ (gm y (pw 2) ^^^ gm z (pw 4))))=true:=by kernel_rfl
def aHR{x y z:Nat}{d:aa Nat}(j:Nat):bX (x :: y :: z :: d) j 11=(gm x (pw (0*j)) ^^^ (gm y (pw (1*j)) ^^^ gm z (pw (2*j)))) ^^^ bX (0 :: 0 :: 0 :: d) j 11:=by
 simp[bX,List.getD_cons_zero,List.getD_cons_succ,Nat.xor_assoc,Nat.zero_xor,Uf (uC _)]
def HI{a b:Nat}(h:a ^^^ b=0):a=b:=by
 have C:(a ^^^ b) ^^^ b=0 ^^^ b:=by rw[h]
 grind
def aoj{w v:aa Nat}(L:dO w)(O:dO v)(lw:w.length=11)(lv:v.length=11)(T:w.drop 3=v.drop 3)(zw:nY w=true)(zv:nY v=true):w=v:=by
 obtain⟨x,y,z,d,rfl⟩:∃ x y z d,w=x :: y :: z :: d:=by
  match w,lw with
  |x::y::z::d,_=>simp_all
 obtain⟨C,D,E,d',rfl⟩:∃ x y z d,v=x :: y :: z :: d:=by
  match v,lv with
  |x::y::z::d,_=>simp_all
 have T:d=d':=T;subst T;simp only[nY,aU]at zw zv;have⟨w0,w1,U⟩:=zw;have⟨Y,Z,v2⟩:=zv;rw[aHR]at w0 w1 U Y Z v2;have w0:gm x (pw 0) ^^^ (gm y (pw 0) ^^^ gm z (pw 0))=bX (0::0::0::d) 0 11:=HI (cK w0);have w1:gm x (pw 0) ^^^ (gm y (pw 1) ^^^ gm z (pw 2))=bX (0::0::0::d) 1 11:=HI (cK w1);have U:gm x (pw 0) ^^^ (gm y (pw 2) ^^^ gm z (pw 4))=bX (0::0::0::d) 2 11:=HI (cK U);have Y:gm C (pw 0) ^^^ (gm D (pw 0) ^^^ gm E (pw 0))=bX (0::0::0::d) 0 11:=HI (cK Y);have Z:gm C (pw 0) ^^^ (gm D (pw 1) ^^^ gm E (pw 2))=bX (0::0::0::d) 1 11:=HI (cK Z);have v2:gm C (pw 0) ^^^ (gm D (pw 2) ^^^ gm E (pw 4))=bX (0::0::0::d) 2 11:=HI (cK v2);have m:∀{l:aa Nat} {n:Nat},dO l -> n∈l -> n<16:=λh hn=>h _ hn
 have k1:=gL (gL (gL aoi (m L (n:=x) (by simp))) (m L (n:=y) (by simp))) (m L (n:=z) (by simp));have k2:=gL (gL (gL aoi (m O (n:=C) (by simp))) (m O (n:=D) (by simp))) (m O (n:=E) (by simp));simp_all
def aok(w r:aa Nat):∀ k,k<=3->(qH w r k).drop 3=w.drop 3
 |0,_=>rfl
 | k+1,h=>by
  show (List.set _ _ _).drop 3=_;rw[List.drop_set_of_lt (by omega),aok w r k (by omega)]
def aco{a b:aa Nat}(h:bB a=bB b):a=b:=(List.map_inj_right (λx y h=>by
 omega)).1 h
def aHS{d:aa Nat}(D:dO d)(hl:d.length=8):∃ w,Ax (bB d)=some (bB w)/\w.length=11/\dO w/\w.drop 3=d/\nY w=true:=by
 have E:dO (0 :: 0 :: 0 :: d):=by
  intro x hx;simp only[iw]at hx;rcases hx with rfl|rfl|rfl|hx
  ·decide
  ·decide
  ·decide
  ·exact D x hx
 have C:(0::0::0::d).length=11:=by simp[hl]
 obtain⟨w,e,L,O,T,U,Y⟩:=aC8 D hl;refine⟨w,e,L,O,?_,by simp[nY,T,U,Y]⟩;have Z:Ax (bB d)=some (bB (qH (0 :: 0 :: 0 :: d) (out (0 :: 0 :: 0 :: d) 8) 3)):=by
  unfold Ax xA bk xZ;have c0:((d.length:Int)==(8:Int))=true:=by rw[hl];rfl
  have c1:bM ((List.replicate (3:Int).toNat (0:Int)).length+(bB d).length)=true:=by
   rw[ij,hl];rfl
  have c2:bM (([]:aa Int).length+(bB (0 :: 0 :: 0 :: d)).length)=true:=by
   rw[ij,C];rfl
  have c3:W6 (((bB (0 :: 0 :: 0 :: d)).length:Int)-(1:Int))=10:=by
   rw[ij,C];rfl
  have eW:List.replicate (3:Int).toNat (0:Int)++bB d=bB (0::0::0::d):=rfl;rw[ami D (by omega),ak,c0,show (!true)=false from rfl,aq,bI (by decide),c1,au,eW,amh,ak,en];dsimp only;rw[lT,c2,au,c3,amj E C,ak,en];dsimp only;rw[amp C (by rw[DT,C]),ak,en]
 rw[Z]at e;injection e with e;rw[<-aco e,aok _ _ 3 (dQ _)];rfl
def Eg(x:Int):aa Int:=(GV x).getD []
def Of{x:Int}(E:0 <= x)(L:x <= 4294967295):GV x=some (Eg x)/\Sy (Eg x) /\ ∃ w,Eg x=bB w/\w.length=11/\dO w/\bB (w.drop 3)=kL x 8/\nY w=true:=by
 have O:aN x 0 4294967295=true:=by rw[bF];omega
 have⟨t1,t2⟩:=aaL _ (acn x 8);have tl:((kL x 8).map Int.toNat).length=8:=by rw[eS,Oe]
 have⟨w,C,l1,d1,T,U,Y,Z⟩:=aCY t2 tl;have z1:nY w=true:=by simp[nY,U,Y,Z]
 rw[t1]at C;have D:GV x=some (bB w):=by
  unfold GV Dz;rw[dx,ak,ak,O,bA,aq,aHQ E L,ak,C,ak]
 have ee:Eg x=bB w:=by unfold Eg;rw[D];rfl
 rw[ee];exact⟨D,NB d1 l1,w,rfl,l1,d1,by rw[T,t1],z1⟩
def aol{x:Int}(C:0 <= x)(D:x <= 4294967295):FV x=some (Eg x):=by
 have⟨t1,t2⟩:=aaL _ (acn x 8);have tl:((kL x 8).map Int.toNat).length=8:=by rw[eS,Oe]
 have⟨_,_,w,L,l1,d1,O,T⟩:=Of C D;have⟨v,E,l2,d2,U,Y⟩:=aHS t2 tl;have Z:=aoj d1 d2 l1 l2 (by rw[U];exact aco (by rw[O,t1])) T Y;subst Z;rw[t1]at E;unfold FV;rw[aHP C D,ak,E,ak,L]
def aHT{a b:Nat}(E:a<9223372036854775808)(hb:b<9223372036854775808):bits .or .i64 (a:Int) (b:Int)=((a ||| b:Nat):Int):=by
 have e:bits .or .i64 (a:Int) (b:Int)=W6 ((BitVec.ofInt 64 (a:Int) |||BitVec.ofInt 64 (b:Int)).toNat:Int):=rfl;have h:a |||b<2 ^ 63:=Nat.or_lt_two_pow (by omega) (by omega);have C:BitVec.ofInt 64 (a:Int)=BitVec.ofNat 64 a:=BitVec.ofInt_natCast 64 a;have D:BitVec.ofInt 64 (b:Int)=BitVec.ofNat 64 b:=BitVec.ofInt_natCast 64 b;rw[e,C,D,BitVec.toNat_or,BitVec.toNat_ofNat,BitVec.toNat_ofNat,Nat.mod_eq_of_lt (by omega),Nat.mod_eq_of_lt (by omega),aR]
def aHU(a:Nat)(L:a<9223372036854775808):bits .and .i64 (a:Int) 15=((a % 16:Nat):Int):=by
 have e:bits .and .i64 (a:Int) 15=W6 ((BitVec.ofInt 64 (a:Int) &&& BitVec.ofInt 64 15).toNat:Int):=rfl;have C:BitVec.ofInt 64 (a:Int)=BitVec.ofNat 64 a:=BitVec.ofInt_natCast 64 a;have D:(BitVec.ofInt 64 15).toNat=15:=rfl;have E:a &&& 15=a % 16:=Nat.and_two_pow_sub_one_eq_mod a 4;rw[e,C,BitVec.toNat_and,BitVec.toNat_ofNat,Nat.mod_eq_of_lt (by omega),D,E,aR]
def nv(d:aa Nat):Nat->Nat
 |0=>0
 |k+1=>nv d k+d.getD k 0*16 ^ k
def Og{d:aa Nat}(C:dO d):∀ k,nv d k<16 ^ k
 |0=>Nat.one_pos
 | k+1=>by
  have D:=Og C k;have E:=C.get k;have L:d.getD k 0*16 ^ k <= 15*16 ^ k:=iX _ (by omega);show nv d k+d.getD k 0*16 ^ k<16 ^ (k+1)
  grind
def aom(k:Nat)(C:k<8):(min (4*(k:Int)).toNat IntKind.i64.bits)=4*k:=by
 have:IntKind.i64.bits=64:=rfl;rw[this];omega
def acp{d:aa Nat}(C:dO d)(hl:d.length=8):∀ k,k<=8->wv (bB d) k=(nv d k:Int)
 |0,_=>rfl
 | k+1,h=>by
  have E:=Og C k;have T:=C.get k;have U:(16:Nat) ^ k<=16 ^ 7:=Nat.pow_le_pow_right (by decide) (by omega);have D:(2:Nat) ^ (4*k)=16 ^ k:=by rw[Nat.pow_mul]
  have Y:d.getD k 0*16 ^ k<=15*16 ^ k:=iX _ (by omega);have L:(bB d).getD k 0=((d.getD k 0:Nat):Int):=by
   rw[fz,bZ (by rw[ij];omega)];exact uD (by rw[ij];omega)
  have O:((d.getD k 0:Nat):Int)*2 ^ (4*k)=((d.getD k 0*16 ^ k:Nat):Int):=by
   rw[<-D]
   push_cast
   rfl
  show bits .or .i64 (wv (bB d) k) (W6 ((bB d).getD k 0*2 ^ (min (4*(k:Int)).toNat IntKind.i64.bits)))=((nv d k+d.getD k 0*16 ^ k:Nat):Int)
  rw[acp C hl k (by omega),aom k (by omega),L,O,aR,aHT (by omega) (by omega)];congr 1;have:=Nat.two_pow_add_eq_or_of_lt (i:=4*k) (b:=nv d k) (by rw[D];exact E) (d.getD k 0);rw[D,Nat.mul_comm]at this;rw[Nat.or_comm,<-this];omega
def aon{d:aa Nat}(C:dO d):∀ n k,k<n -> nv d n / 16 ^ k % 16=d.getD k 0
 |0,k,h=>by omega
 | n+1,k,h=>by
  have D:=Og C n;have L:=C.get n;show (nv d n+d.getD n 0*16 ^ n) / 16 ^ k % 16=_;by_cases e:k=n
  ·subst e;rw[Nat.add_mul_div_right _ _ (Nat.pow_pos (by decide)),Nat.div_eq_of_lt D,fD];omega
  ·have O:n=(n-k-1)+1+k:=by omega
   have E:d.getD n 0*16 ^ n=(d.getD n 0*16 ^ (n-k-1)*16)*16 ^ k:=by
    grind
   rw[E,Nat.add_mul_div_right _ _ (Nat.pow_pos (by decide)),Nat.add_mul_mod_self_right,aon C n k (by omega)]
def aHV{d:aa Nat}(C:dO d)(hl:d.length=8):kL (wv (bB d) 8) 8=bB d:=by
 have O:nv d 8<16 ^ 8:=Og C 8;rw[acp C hl 8 (dQ _)];have key:∀ k,k <= 8 -> kL (nv d 8:Int) k=bB (d.take k):=by
  intro k
  induction k with
  |zero=>intro _;rfl
  | succ k D=>
   intro T;have U:(2:Nat) ^ (4*k)=16 ^ k:=by rw[Nat.pow_mul]
   have E:(nv d 8:Int).fdiv (2 ^ (4*k))=((nv d 8 / 16 ^ k:Nat):Int):=by
    grind
   have L:HH (nv d 8:Int) k=((d.getD k 0:Nat):Int):=by
    unfold HH;rw[aom k (by omega),E,aHU _ (Nat.lt_of_le_of_lt (Nat.div_le_self _ _) (by omega)),aon C 8 k (by omega)]
   show kL (nv d 8:Int) k++[HH (nv d 8:Int) k]=_;rw[D (by omega),L,List.take_add_one,bZ (by omega),fz,bZ (by omega)];exact(List.map_append (f:=λn:Nat=>(n:Int)) (l₁:=d.take k) (l₂:=[d[k]])).symm
 rw[key 8 (dQ _),<- hl,iP]
def aHW{d:aa Nat}(C:dO d)(hl:d.length=8):0 <= wv (bB d) 8/\wv (bB d) 8 <= 4294967295:=by
 have D:=Og C 8;rw[acp C hl 8 (dQ _)];omega
def aHX{w:aa Nat}(C:dO w)(hl:w.length=11)(h:(gA w).2.1=1):FV (Bm w)=some (bB (gA w).1):=by
 have⟨D,E,_⟩:=D8 C hl;have Z:=aEx C hl (by omega);have L:dO ((gA w).1.drop 3):=λx hx=>E x (List.mem_of_mem_drop hx)
 have O:((gA w).1.drop 3).length=8:=by rw[List.length_drop,D]
 have he:Bm w=wv (bB ((gA w).1.drop 3)) 8:=by
  unfold Bm;simp_all
 have⟨T,U⟩:=aHW L O;have e2:=aol T U;have⟨_,_,v,ev,vl,v16,Y,vz⟩:=Of T U;rw[aHV L O]at Y;have:=aoj v16 E vl D (aco Y) vz Z;simp_all
def Oh(d:bP):Int:=bif d.gO then 0 else Bm (nw d)
def rR(c:ax)(j:Nat)(d:bP):ax:=cM c ⟨c.array.cells.set j d,c.array.bx,c.array.bw⟩
def aoo{c:ax}{j:Nat}(h:j<c.array.cells.length):rR c j c.array.cells[j]=c:=by
 unfold rR cM;rw[aHO h]
def aop{c:ax}{j:Nat}(C:j<c.array.cells.length)(T:Sy c.array.cells[j].symbols):yE c (j:Int)=some ((Oh c.array.cells[j],kK c.array.cells[j]),(rR c j (pY c.array.cells[j]),())):=by
 have⟨U,D,E⟩:=U4 T;have L:=anp D E;have O:=aHM D E;rw[U]at L O;have Z:=aoo C;unfold yE kK pY Oh xL xM;rw[aA ⟨by omega,by omega⟩,aA];simp only[bz];cases Y:c.array.cells[j].gO with
 |true =>simp_all
 | false=>
  rw[aq,aq,aq,aq,aA C,aA C,L,ak,aA C,aA C,O,ak];dsimp only;rcases(D8 D E).2.2 with q|q|q
  ·grind
  ·rw[q,dM,aA C,Y];rfl
  ·rw[q,kG (by omega),aq,dM,aA C];rfl
def aoq{c:ax}{j:Nat}(C:j<c.array.cells.length)(O:Sy c.array.cells[j].symbols):Dn c (j:Int)=some ((Oh c.array.cells[j],kK c.array.cells[j]),(rR c j (pY c.array.cells[j]),())):=by
 have⟨T,D,E⟩:=U4 O;have L:=aHN D E;rw[T]at L;have Y:=aoo C;unfold Dn kK pY Oh xL xM;rw[aA ⟨by omega,by omega⟩,aA];simp only[bz];cases U:c.array.cells[j].gO with
 |true =>simp_all
 | false=>
  rw[aq,aq,aq,aq,aA C,L,ak];dsimp only;rcases(D8 D E).2.2 with q|q|q
  ·grind
  ·rw[q,dM,aHX D E q,ak,aA ⟨by omega,C⟩,aA C,kG (by omega),aq,U];rfl
  ·rw[q,kG (by omega),dM,aq,aA ⟨by omega,C⟩,aA C];rfl
def vk(q:aa aK)(i:Nat):Bool:=match q[i]? with
 |some r=>(q.take i).any λx=>x.line==r.line
 |none=>false
def aor{q:aa aK}{i:Nat}(h:i<q.length):vk q i=(q.take i).any λx=>x.line==q[i].line:=by
 unfold vk;rw[bZ h]
def aHY{α:Type}(p:α -> Bool)(q:aa α)(i:Nat)(hi:i <= q.length):de p (q.take i)=min (de p q) i:=by
 have O:=sY p q;have D:=sY p (q.take i);rw[fT,Nat.min_eq_left hi]at D;rcases Nat.lt_or_ge (de p (q.take i)) i with h|h
 ·have E:de p (q.take i)<(q.take i).length:=by rw[fT,Nat.min_eq_left hi];exact h
  have L:=pW E;rw[List.getElem_take]at L;rcases Nat.lt_or_ge (de p q) (de p (q.take i))with h5|h5
  ·have h6:=pW (p:=p) (q:=q) (by omega);have C:=mG h5 (by rw[fT];omega);simp_all
  ·rcases Nat.lt_or_ge (de p (q.take i)) (de p q)with h6 | h6
   ·have C:=mG h6 (by omega);simp_all
   ·omega
 ·have e:de p (q.take i)=i:=by omega
  rw[e];rcases Nat.lt_or_ge (de p q) i with h5|h5
  ·have h6:=pW (p:=p) (q:=q) (by omega);have C:=mG (p:=p) (q:=q.take i) (i:=de p q) (by omega) (by rw[fT];omega);simp_all
  ·omega
def aHZ{q:aa aK}{i:Nat}(h:i<q.length)(L:q.length <= 1000):Tu q (i:Int)=some (vk q i):=by
 have O:=sY (λx:aK=>x.line==q[i].line) (q.take i);have hlen:(q.take i).length=i:=by rw[fT];omega
 unfold Tu bE;rw[dx,ak,Oa (by omega) (by omega) (by omega),bA,aq,bI ⟨by omega,by omega,by omega⟩,aor h,Hy];simp only[bz,Int.toNat_zero,List.drop_zero];generalize T:q.take i=t at *
 have e:=cB (step:=GJ) (de (λx:aK=>x.line==q[i].line) t) (λj=>((q,(i:Int),t,(t.length:Int),(j:Int),()),())) (if de (λx:aK=>x.line==q[i].line) t<t.length then .inl ((true,()),())else .inr (.inl ((),()))) aX (λk E=>by
  have D:=mG E (by omega);unfold GJ av aQ xG xI;dsimp only;rw[aS,au,aA ⟨by omega,by omega⟩,aA ⟨by omega,by omega⟩];simp only[bz];rw[D,aq,bD]) (by
  by_cases C:de (λx:aK=>x.line==q[i].line) t<t.length
  ·have D:=pW C;unfold GJ av aQ xG xI;dsimp only;rw[aS,au,aA ⟨by omega,by omega⟩,aA ⟨by omega,by omega⟩]
   grind
  ·unfold GJ av aQ xG xI;dsimp only;rw[aT,aq,bU C]) (bN)
 rw[cr]at e
 refine(aZ (λo=>Option.bind o _) e).trans ?_
 by_cases C:de (λx:aK=>x.line==q[i].line) t<t.length
 ·rw[bI C,aS C];rfl
 ·rw[bU C,aT C];rfl
def aos{q:aa aK}{i:Nat}(h:i<q.length)(E:q.length <= 1000):LC q (i:Int)=some (vk q i):=by
 have L:=aHY (λx:aK=>x.line==q[i].line) q i (by omega);have O:=sY (λx:aK=>x.line==q[i].line) (q.take i);have hlen:(q.take i).length=i:=by rw[fT];omega
 unfold LC bE;rw[aor h,Hy,hlen];generalize T:de (λx:aK=>x.line==q[i].line) (q.take i)=n at *
 have e:=cB (step:=F1) n (λj=>((q,(i:Int),(j:Int),()),())) (if n<i then .inl ((true,()),())else .inr (.inl ((),()))) aX (λk U=>by
  have D:=mG (p:=λx:aK=>x.line==q[i].line) (q:=q) (i:=k) (by omega) (by omega);unfold F1 av aQ xG xI;dsimp only;rw[aS,au,aS,au,aA ⟨by omega,by omega⟩,aA ⟨by omega,by omega⟩];simp only[bz];rw[D,aq,bD]) (by
  by_cases C:n<i
  ·have D:((q[n]'(by omega)).line==q[i].line)=true:=by
    have Y:de (λx:aK=>x.line==q[i].line) q=n:=by omega
    have:=pW (p:=λx:aK=>x.line==q[i].line) (q:=q) (by omega)
    grind
   unfold F1 av aQ xG xI;dsimp only;rw[aS,au,aS,au,aA ⟨by omega,by omega⟩,aA ⟨by omega,by omega⟩]
   grind
  ·unfold F1 av aQ xG xI;dsimp only;rw[aT,aq,bU C]) (bN)
 rw[cr]at e
 refine(aZ (λo=>Option.bind o _) e).trans ?_
 by_cases C:n<i
 ·rw[bI C,aS C];rfl
 ·rw[bU C,aT C];rfl
def Bn(d:gP)(n:Int)(w:Bool):Bool:=bif w then d.on ||decide (n<1)else !d.on
def aH0{d:gP}(n:Int)(w:Bool)(h:pT d=true):Tv d n w=some (Bn d n w):=by
 unfold Tv Bn;rw[Ul,h]
 grind
def aH1{d:gP}(n:Int)(w:Bool)(h:pT d=true):Sl d n w=some (Bn d n w):=by
 unfold Sl Bn;rw[Um,h]
 grind
def Bo(p:Nat->Bool)(k:Nat):Int:=((List.range k).countP p:Nat)
def U5(p:Nat -> Bool)(k:Nat):Bo p (k+1)=Bo p k+(bif p k then 1 else 0):=by
 unfold Bo;rw[List.range_succ,List.countP_append,List.countP_singleton]
 grind
def U6(p:Nat -> Bool)(k:Nat):0 <= Bo p k/\Bo p k <= k:=by
 unfold Bo;have:=List.countP_le_length (p:=p) (l:=List.range k);simp_all
def rS(f:Nat->Bool)(n k:Nat):aa Bool:=(List.range k).map f++List.replicate (n-k) false
def U7{f:Nat->Bool}{n k:Nat}(h:k<=n):(rS f n k).length=n:=by unfold rS;simp;omega
def U8{f:Nat -> Bool}{n k:Nat}(h:k<n):(rS f n k).set k (f k)=rS f n (k+1):=by
 unfold rS;rw[List.set_append_right _ _ (by simp),eS,cU,Nat.sub_self,show n-k=(n-(k+1))+1 by omega,List.replicate_succ,List.range_succ,List.map_append,List.append_assoc];rfl
def acq(f:Nat->Bool)(n:Nat):rS f n 0=List.replicate n false:=rfl
def U9(f:Nat->Bool)(n:Nat):rS f n n=(List.range n).map f:=by unfold rS;simp
def yW{f:Nat->Bool}{n k:Nat}(h:k<n)(C:k<((List.range n).map f).length):((List.range n).map f)[k]=f k:=by simp
def qL(q:aa aK)(i:Nat):Bool:=match q[i]? with
 |some r=>r.write
 |none=>false
def Eh{q:aa aK}{i:Nat}(h:i<q.length):qL q i=q[i].write:=by
 unfold qL;rw[bZ h]
def kM(q:aa aK)(i:Nat):Bool:=!vk q i
def qM(q:aa aK)(k:Nat):Int:=Bo (λi=>kM q i && !qL q i) k
def rT(q:aa aK)(k:Nat):Int:=Bo (λi=>kM q i&&qL q i) k
def ir(c:ax)(i:Nat):Bool:=kM c.queue i&&(Bn c.drain (qM c.queue c.queue.length) (qL c.queue i) ||(!qL c.queue i&&rT c.queue c.queue.length==0))
def aH2{c:ax}(h:Pq c):Sn c=some ((List.range c.queue.length).map (ir c)):=by
 have L:=h.ql;have e:=cB (step:=LD) c.queue.length (λi=>((c,qM c.queue i,rT c.queue i,(i:Int),()),())) (.inl ((c,qM c.queue c.queue.length,rT c.queue c.queue.length,()),())) aX (λk C=>by
  have O:=U6 (λi=>kM c.queue i && !qL c.queue i) k;have T:=U6 (λi=>kM c.queue i&&qL c.queue i) k;unfold LD av xG xI;dsimp only;rw[aS,au,aos C (by omega),ak,bD];unfold qM rT at *
  have E:kM c.queue k = !vk c.queue k:=rfl;rw[U5,U5];simp only[E,Eh C];cases vk c.queue k with
  |true=>simp
  | false=>
   rw[aq,aA ⟨by omega,by omega⟩];simp only[bz];cases c.queue[k].write with
   |true=>rw[au,aR];simp[kM]
   |false=>rw[aq,aR];simp[kM]) (by
  unfold LD av xG xI;dsimp only;rw[aT,aq]) (bN)
 have D:=cB (step:=LF) c.queue.length (λi=>((c,qM c.queue c.queue.length,rT c.queue c.queue.length,(),(i:Int),()),((List.range i).map (ir c),()))) (.inl (((),()),((List.range c.queue.length).map (ir c),()))) aX (λk C=>by
  have hl:((List.range k).map (ir c)).length=k:=by simp
  unfold LF av xG xI;dsimp only;rw[aS,au,aA ⟨by omega,by omega⟩,aos C (by omega),ak,bD,List.range_succ,List.map_append,hl,List.map_singleton];simp only[bz,lU,cX (show k+1<1073741824 by omega),au,aH1 _ _ h.dr,ak];unfold ir kM;rw[Eh C];cases vk c.queue k<;>cases c.queue[k].write<;>cases Bn c.drain (qM c.queue c.queue.length) _<;>first|rfl|simp) (by
  unfold LF av xG xI;dsimp only;rw[aT,aq]) (bN)
 rw[cr]at e D;unfold Sn bk
 refine(aZ (λo=>Option.bind o _) e).trans ?_
 rw[ak]
 refine(aZ (λo=>Option.bind o _) D).trans ?_
 rfl
def fJ(c:ax):aa aJ:=c.queue.map λr=>gT c r.line
def vm(c:ax):(fJ c).length=c.queue.length:=by unfold fJ;rw[eS]
def aH3{c:ax}{i:Nat}(h:i<c.queue.length)(C:i<(fJ c).length):(fJ c)[i]=gT c c.queue[i].line:=by simp only[fJ,List.getElem_map]
def Va{c:ax}(h:Pq c){r:aK}(C:r∈c.queue):wo c r.line=some (gT c r.line,true)/\dA c.config.az (gT c r.line)=true:=
 aHh h.p h.sp h.se h.mo (h.q r C).1.1 (h.q r C).1.2
def acr{c:ax}(h:Pq c){r:aK}(C:r∈c.queue):yg c r.line=some (gT c r.line):=
 aHj h.p h.sp h.se h.mo (h.q r C).1.1 (h.q r C).1.2
def aH4{c:ax}(h:Pq c):Tt c=some (fJ c):=by
 have D:=h.ql;have e:=cB (step:=M4) c.queue.length (λi=>(((),(),c.queue,c.queue.length,i,()),(c,(c.queue.take i).map _,()))) (.inl (((),()),(fJ c,()))) aX (λk C=>by
  have hl:((c.queue.take k).map (λr=>gT c r.line)).length=k:=by simp;omega
  unfold M4 av xG xI;dsimp only;rw[aS,au,aA ⟨by omega,by omega⟩];simp only[bz];rw[(Va h (cT C)).1,ak,bD,hl,lU,cX,au,oG C,List.map_append];rfl) (by
  unfold M4 av xG xI;dsimp only;rw[aT,aq,iP];rfl) (bN)
 unfold Tt bk;simp_all
def aot{c:ax}(h:Pq c):LB c=some (fJ c):=by
 have D:=h.ql;have e:=cB (step:=LA) c.queue.length (λi=>((c,(),i,()),((c.queue.take i).map _,()))) (.inl (((),()),(fJ c,()))) aX (λk C=>by
  have hl:((c.queue.take k).map (λr=>gT c r.line)).length=k:=by simp;omega
  unfold LA av xG xI;dsimp only;rw[aS,au,aA ⟨by omega,by omega⟩];simp only[bz];rw[acr h (cT C),ak,bD,hl,lU,cX,au,oG C,List.map_append];rfl) (by
  unfold LA av xG xI;dsimp only;rw[aT,aq,iP];rfl) (bN)
 unfold LB bk;simp_all
def zA:aJ:=⟨0,0,0⟩
def zQ:aK:=⟨0,0,0,false,0,0⟩
def fP(c:ax)(i:Nat):aJ:=(fJ c).getD i zA
def lR(c:ax)(i:Nat):aK:=c.queue.getD i zQ
def Ei{c:ax}{i:Nat}(h:i<(fJ c).length):(fJ c)[i]=fP c i:=by
 unfold fP;rw[fz,bZ h];rfl
def pZ{c:ax}{i:Nat}(h:i<c.queue.length):c.queue[i]=lR c i:=by
 unfold lR;rw[fz,bZ h];rfl
def Ej{c:ax}(h:Pq c){i:Nat}(hi:i<c.queue.length):dA c.config.az (fP c i)=true/\0 <= (fP c i).ay/\(fP c i).ay.toNat<c.br.aC.length/\(fP c i).ay.toNat<c.aV.aI.length/\(fP c i).ay<bg c.config.az/\0 <= (fP c i).row:=by
 have e:=aH3 hi (by rw[vm];exact hi);rw[Ei]at e;have C:=(Va h (cT hi)).2;rw[<- e]at C;have⟨_,D,E,L,O,T,U⟩:=qF C;have:=h.p.bl;have:=h.dl;simp_all
def wR{c:ax}(h:Pq c):c.br.aC.length<=1048576:=by
 have:=h.p.bl;have:=fH c.config.az;omega
def eB(c:ax)(i:Nat):Bool:=wO c.br (fP c i)
def aH5{c:ax}(h:Pq c)(C:aa Int)(D:aa aJ)(Z:Int×Int×Int×Int×af)(P:Int×Int×Int×Int×Int×(aa Int)×Int×Int×af):iter GN aX ((C,D,(),(),(),(),(0:Int),(0:Int),c.queue,(c.queue.length:Int),(0:Int),()),(c,Z,P,List.replicate c.queue.length false,()))=some (.inl ((C,D,(),(),(),(),qM c.queue c.queue.length,rT c.queue c.queue.length,()),(c,Z,P,(List.range c.queue.length).map (kM c.queue),()))):=by
 have O:=h.ql;have e:=cB (step:=GN) c.queue.length (λi=>((C,D,(),(),(),(),qM c.queue i,rT c.queue i,c.queue,(c.queue.length:Int),(i:Int),()),(c,Z,P,rS (kM c.queue) c.queue.length i,()))) (.inl ((C,D,(),(),(),(),qM c.queue c.queue.length,rT c.queue c.queue.length,()),(c,Z,P,(List.range c.queue.length).map (kM c.queue),()))) aX (λk E=>by
  have T:=U6 (λi=>kM c.queue i && !qL c.queue i) k;have U:=U6 (λi=>kM c.queue i&&qL c.queue i) k;have L:kM c.queue k = !vk c.queue k:=rfl;have hl:=U7 (f:=kM c.queue) (n:=c.queue.length) (k:=k) (by omega);have Y:((rS (kM c.queue) c.queue.length k).set k (!vk c.queue k)).length=c.queue.length:=by rw[gG,hl]
  rw[<- U8 E];unfold GN av xG xI xL;dsimp only;rw[aS,au,aA ⟨by omega,by omega⟩,aHZ E (by omega),ak,aA ⟨by omega,by omega⟩,aA,aA ⟨by omega,by simp only[bz];omega⟩,aA (by simp only[bz];omega),bD];simp only[bz,nq];unfold qM rT at *
  rw[U5,U5];simp only[L,Eh E];cases vk c.queue k with
  | true=>
   simp[*]
  | false=>
   rw[gW,au];cases c.queue[k].write with
   |true=>rw[ aR];simp
   | false=>
    rw[aq,aA ⟨by omega,by rw[gG];omega⟩,aA (by rw[gG];omega),aR];simp) (by
  unfold GN av xG xI xL;dsimp only;rw[aT,aq,U9]) (bN)
 rw[cr,acq]at e;exact e
def ta(c:ax):Nat->aa (Int×Bool)
 |0=>[]
 |k+1=>bif ir c k&&eB c k then nP (ta c k) (fP c k).ay true else ta c k
def yX(c:ax)(k:Nat)(b:Int):Bool:=(List.range k).any λi=>ir c i&&eB c i&&b==(fP c i).ay
def aou(c:ax)(b:Int):∀ k,mO (ta c k) b=yX c k b
 |0=>rfl
 | k+1=>by
  have C:=aou c b k;have e:yX c (k+1) b=(yX c k b || (ir c k&&eB c k&&b==(fP c k).ay)):=by
   unfold yX
   grind
  rw[e,<- C];show mO (bif ir c k&&eB c k then nP _ (fP c k).ay true else ta c k) b=_;cases ir c k&&eB c k with
  |false=>simp
  |true=>rw[au,aEd,cw,Bool.or_comm]
def aH6{c:ax}(h:Pq c)(D:aa Int)(Z:Int×Int×Int×Int×af)(P:Int×Int×Int×Int×Int×(aa Int)×Int×Int×af):iter GO aX ((D,fJ c,(),(),(),(),qM c.queue c.queue.length,rT c.queue c.queue.length,(),(),(),c.queue,(c.queue.length:Int),(0:Int),()),(c,Z,P,(List.range c.queue.length).map (kM c.queue),List.replicate c.queue.length false,List.replicate c.queue.length false,([]:aa (Int×Bool)),()))=some (.inl ((D,fJ c,(),(),(),(),(),(),()),(c,Z,P,(List.range c.queue.length).map (ir c),(List.range c.queue.length).map (eB c),ta c c.queue.length,()))):=by
 have hq:=h.ql;have E:=wR h;have e:=cB (step:=GO) c.queue.length (λi=>((D,fJ c,(),(),(),(),qM c.queue c.queue.length,rT c.queue c.queue.length,(),(),(),c.queue,(c.queue.length:Int),(i:Int),()),(c,Z,P,(List.range c.queue.length).map (kM c.queue),rS (ir c) c.queue.length i,rS (eB c) c.queue.length i,ta c i,()))) (.inl ((D,fJ c,(),(),(),(),(),(),()),(c,Z,P,(List.range c.queue.length).map (ir c),(List.range c.queue.length).map (eB c),ta c c.queue.length,()))) aX (λk C=>by
  have hl:=U7 (f:=ir c) (n:=c.queue.length) (k:=k) (by omega);have L:=U7 (f:=eB c) (n:=c.queue.length) (k:=k) (by omega);have O:=vm c;have hl4:((List.range c.queue.length).map (kM c.queue)).length=c.queue.length:=by simp
  obtain⟨ho,T,U,o3,o4,Y⟩:=Ej h C;have hh:=aHl (r:=c.br) (a:=fP c k) Y T U E;have hd:ir c k=(kM c.queue k&&(Bn c.drain (qM c.queue c.queue.length) c.queue[k].write ||(!c.queue[k].write&&rT c.queue c.queue.length==0))):=by unfold ir;rw[Eh C]
  have hhb:ta c (k+1)=bif ir c k&&eB c k then nP (ta c k) (fP c k).ay true else ta c k:=rfl;have jg:eB c k=wO c.br (fP c k):=rfl;rw[<-U8 C,<-U8 C,hhb];unfold GO av xG xI xL;dsimp only;rw[aS,au,aA ⟨by omega,by omega⟩,aA ⟨by omega,by omega⟩,aA];simp only[bz,yW C,aH0 _ _ h.dr,ak,Ei,hh,bD (show k<4611686018427387904 by omega),nq,gG,hl,L,O];rw[hd,jg];cases kM c.queue k<;>cases Bn c.drain (qM c.queue c.queue.length) c.queue[k].write<;>cases c.queue[k].write<;>cases wO c.br (fP c k)<;>cases rT c.queue c.queue.length==0<;>simp[C]) (by
  unfold GO av xG xI xL;dsimp only;rw[aT,aq,U9,U9]) (bN)
 rw[cr,acq,acq]at e;exact e
def Vb(e:bW):bW:=⟨e.line,e.code,(if (999:Int)<(W6 (e.times+(1:Int)))then (999:Int)else (W6 (e.times+(1:Int))))⟩
def zEE:bW:=⟨0,0,0⟩
def rU(l:aa bW)(line code:Int):aa bW:=match l.findIdx? (lO ⟨line,code,1⟩)with
 |some i=>l.set i (Vb (l.getD i zEE))
 |none=>bif ((l.length:Int)==(6:Int))then l.drop 1++[⟨line,code,1⟩]else l++[⟨line,code,1⟩]
def aH7{l:aa bW}(h:kW l=true){line code:Int}(D:0<=line/\line<=1023)(E:code=1\/code=2):Th l line code=some (rU l line code,true):=by
 have hl:l.length<=6:=by
  simp only[kW,aU,iZ]at h;omega
 have L:aN line 0 1023=true:=bF.2 D;unfold Th MW rU bE xA xZ;rw[cX (by simp;omega),au,ak,amL _ (by omega),ak,h,bA,aq,dx,ak,L,bA,aq,lT];have e:=rO (step:=MX) l (lO ⟨line,code,1⟩) (λk=>((line,code,(),(),(l.length:Int),(k:Int),()),(l,()))) (λi=>.inl (((),true,()),(l.set i (Vb (l.getD i zEE)),()))) (.inr (.inl ((line,code,(),()),(l,())))) aX (λk O=>by
  unfold MX lO av aQ xG xL;dsimp only;rw[aS,au,aA ⟨by omega,by omega⟩,aA];simp only[bz];rw[aA ⟨by omega,by omega⟩,aA,bD,lu _ O];cases l[k].line==line<;>cases l[k].code==code<;>rfl) (by
  unfold MX av aQ xG xL;dsimp only;rw[aT,aq]) (bN)
 rw[cr]at e;have T:iter aam aX ((line,code,(),(),(l.length:Int),(0:Int),()),(l,()))=_:=e;rcases E with rfl|rfl
 ·rw[dY,aq,T];cases l.findIdx? (lO ⟨line,1,1⟩)with
  |some i=>rfl
  | none=>
   rw[ak,Sum.elim_inr,en];dsimp only;cases C:(l.length:Int)==(6:Int)with
   |false=>rw[aq,aq,cX (by simp;omega)];rfl
   | true=>
    have C:=eq_of_beq C;rw[au,au,bI ⟨by omega,by omega,by omega⟩,cX (by simp;omega),au,ak,cX (by simp;omega),au];simp
 ·rw[ga (by omega),au,dY,aq,e];cases l.findIdx? (lO ⟨line,2,1⟩)with
  |some i=>rfl
  | none=>
   rw[ak,Sum.elim_inr,en];dsimp only;cases C:(l.length:Int)==(6:Int)with
   |false=>rw[aq,aq,cX (by simp;omega)];rfl
   | true=>
    have C:=eq_of_beq C;rw[au,au,bI ⟨by omega,by omega,by omega⟩,cX (by simp;omega),au,ak,cX (by simp;omega),au];simp
def aH8{l:aa bW}(h:kW l=true){line code:Int}(D:0 <= line/\line <= 1023)(Y:code=1 \/ code=2):Sb l line code=some (rU l line code,true):=by
 have hl:l.length <= 6:=by
  simp only[kW,aU,iZ]at h;omega
 have E:aN line 0 1023=true:=bF.2 D;have L:aN 1 1 999=true:=rfl;have O:FN ⟨line,code,1⟩=some true:=by
  unfold FN;rw[ei,ak,E,ei,L]
  grind
 unfold Sb rU xA xC xZ;rw[cX (by simp;omega),au,amK,ak,h,bA,aq,O,ak,bA,aq];have C:=amJ l ⟨line,code,1⟩ (by omega);dsimp only at C;rw[C,ak,lT];unfold gz;cases hi:l.findIdx? (lO ⟨line,code,1⟩)with
 | some i=>
  have⟨T,Z,hq⟩:=mI.1 hi;dsimp only;rw[aS,au,aA ⟨by omega,by omega⟩,aA,aA ⟨by omega,by omega⟩,aA];rw[lu _ T];rfl
 | none=>
  dsimp only;rw[aT,aq];by_cases U:l.length=6
  ·rw[aS,show ((l.length:Int)==6)=true by rw[U];rfl,bI ⟨by omega,by omega,by omega⟩,cX (by simp;omega),cX (by simp;omega)];simp
  ·rw[aT,aq,kG (by omega),aq,cX (by simp;omega),au]
def Oi(c:ax)(l:aa bW):ax:=⟨c.config,c.box,c.now,c.br,c.ready,c.array,c.spare,c.aV,c.bJ,c.guard,c.pending,c.queue,c.shares,c.drain,c.bf,c.cH,l,c.trace,c.cy⟩
def El(c:ax)(n code:Int):ax:=bif code != 0 then Oi c (rU c.errors n code)else c
def aov{c:ax}(h:kW c.errors=true){n code:Int}(C:0<=n/\n<=1023)(h2:code=0\/code=1\/code=2):yC c n code=some ((),(El c n code,())):=by
 unfold yC El;rcases h2 with rfl|h2
 ·rfl
 ·rw[aH7 h C h2,ga (by omega)];rfl
def aow{c:ax}(h:kW c.errors=true){n code:Int}(C:0<=n/\n<=1023)(h2:code=0\/code=1\/code=2):Dc c n code=some ((),(El c n code,())):=by
 unfold Dc El;rcases h2 with rfl|h2
 ·rfl
 ·rw[aH8 h C h2,ga (by omega)];rfl
def aox(q:aa aK):Prop:=∀i (h:i<q.length),(q.take i).any (λx=>x.id==q[i].id)=false
def aH9{q:aa aK}{i:Nat}(h:i<q.length)(hl:q.length<=12):TP q (i:Int) (W6 ((i:Int)+1))=some (q.take i++q.drop (i+1),([],())):=by
 have C:(splice q i ((q.take ((q.length:Int).toNat)).drop (i+1))).length=q.length:=by
  rw[tu _ _ _ (by simp;omega)]
 have E:((q.take ((q.length:Int).toNat)).drop (i+1))=q.drop (i+1):=by rw[bz,iP]
 unfold TP;rw[bD,bI ⟨by omega,by omega,by omega,by omega⟩,kG (by omega),aq,bI ⟨by omega,by omega,by omega⟩,bI ⟨by omega,by omega,by omega⟩];simp only[bz]at C ⊢;rw[bI ⟨by omega,by omega,by omega,by omega⟩,bI ⟨by omega,by omega,by omega⟩,bI ⟨by omega,by omega⟩];have D:i+(q.length-(i+1))-0=i+(q.length-(i+1)):=by omega
 rw[D,ach _ _ _ (by omega)];unfold splice;rw[iP,List.take_append_of_le_length (by simp;omega),List.take_of_length_le (by simp;omega)]
def aIa{q:aa aK}(C:aox q){i:Nat}(h:i<q.length)(hl:q.length <= 12):SK q q[i].id=some (q.take i++q.drop (i+1),true):=by
 have D:q.findIdx? (λr=>r.id==q[i].id)=some i:=by
  rw[mI]
  refine⟨h,by simp,λj E=>?_⟩
  have:=List.any_eq_false.1 (C i h) q[j] (jo.2 ⟨j,by rw[fT];omega,by rw[List.getElem_take]⟩);simp_all
 unfold SK xA xZ;rw[aaV _ _ (by omega),ak];unfold gz;rw[D];dsimp only;rw[aT,aq,bI ⟨by omega,by omega,by omega⟩,cX (by simp;omega),au,bD,bI ⟨by omega,by omega,by omega⟩,cX (by simp;omega),au];simp_all
def yY:aK:=⟨0,0,0,false,0,0⟩
def Bp(s:aa bY)(t:Int):aa bY:=match qD s ((List.replicate 4 false).set t.toNat true)with
 |some (l,_)=>l
 |none=>[]
def p6(c:ax)(i:Nat)(a:cV)(e:aa bW)(x:cE):ax:=
 ⟨c.config,c.box,c.now,c.br,c.ready,a,c.spare,c.aV,c.bJ,c.guard,c.pending,c.queue.take i++c.queue.drop (i+1),Bp c.shares (c.queue.getD i yY).dm,c.drain,c.bf,c.cH,e,c.trace,c.cy++[x]⟩
def yZ(c:ax)(i:Nat):ax:=
 let r:=c.queue.getD i yY
 let n:=gp c.config.az (gT c r.line)
 bif r.write then p6 c i ⟨c.array.cells.set n ⟨Eg r.data,false⟩,c.array.bx,c.array.bw⟩ c.errors ⟨r.id,c.now,0,0⟩
 else p6 c i ⟨c.array.cells.set n (pY (c.array.cells.getD n wL)),c.array.bx,c.array.bw⟩ (bif kK (c.array.cells.getD n wL) != 0 then rU c.errors (n:Int) (kK (c.array.cells.getD n wL))else c.errors) ⟨r.id,c.now,Oh (c.array.cells.getD n wL),kK (c.array.cells.getD n wL)⟩
def Vc{d:bP}(h:Sy d.symbols):kK d=0 \/ kK d=1 \/ kK d=2:=by
 have⟨E,C,D⟩:=U4 h;unfold kK;cases d.gO with
 |true=>simp_all
 |false=>exact(D8 C D).2.2
structure oS (c:ax) (i:Nat) (B:Int):Prop where
 ad:∀r∈c.queue,wo c r.line=some (gT c r.line,true)/\dA c.config.az (gT c r.line)=true
 tn:∀r∈c.queue,0<=r.dm/\r.dm<=3
 ql:c.queue.length<=12
 sh:ji c.shares=true
 shl:c.shares.length=4
 u:aox c.queue
 i:i<c.queue.length
 d:∀r∈c.queue,0<=r.data/\r.data<=4294967295
 a:eA c.config.az B c.array
 e:kW c.errors=true
 r:c.cy.length<=1000
def oS.facts{c:ax}{i:Nat}{B:Int}(h:oS c i B){r:aK}(C:r∈c.queue):wo c r.line=some (gT c r.line,true)/\qG c.config.az (gT c r.line)=(gp c.config.az (gT c r.line):Int)/\gp c.config.az (gT c r.line)<c.array.cells.length/\(gp c.config.az (gT c r.line):Int) <= 1023/\qD c.shares ((List.replicate 4 false).set r.dm.toNat true)=some (Bp c.shares r.dm,(qD c.shares ((List.replicate 4 false).set r.dm.toNat true)).get!.2)/\0 <= r.dm/\r.dm.toNat<4:=by
 obtain⟨D,E⟩:=h.ad _ C;have L:=h.tn _ C;obtain⟨O,T⟩:=Be E;have U:=h.a.cells;have hl:=oF c.config.az;obtain⟨y,t,e,_⟩:=ab7 ((List.replicate 4 false).set _ true) (by have:=h.shl;omega) h.sh (by simp[h.shl]);refine⟨D,O,by omega,by omega,?_,L.1,by omega⟩;unfold Bp;rw[e];rfl
def aoy{c:ax}{i:Nat}{B:Int}(h:oS c i B):TQ c (i:Int)=some ((),(yZ c i,())):=by
 have hi:=h.i;have⟨f1,f3,f4,f5,f6,f7,f8⟩:=h.facts (cT hi);have C:=h.d _ (cT hi);have D:=h.a.syms _ (cT f4);have E:c.queue.getD i yY=c.queue[i]:=lu _ hi;have O:=h.r;unfold TQ xL;rw[aA ⟨by omega,by omega⟩,aA];simp only[bz];rw[f1,ak,aH9 hi h.ql,ak,bI (by decide)];have L:(4:Int).toNat=4:=rfl;rw[L,aA ⟨f7,by simpa using f8⟩,aA (by simpa using f8)];dsimp only;rw[f6,ak];dsimp only;unfold yZ;rw[E];dsimp only;cases hw:c.queue[i].write with
 | true=>
  rw[ G7,ak,(Of C.1 C.2).1,ak,aA ⟨by omega,by omega⟩,aA,cX (by simp;omega)];unfold p6;simp_all
 | false=>
  rw[aq,aq,G7,ak,f3,lu _ f4]
  refine(aZ (λo=>Option.bind o _) (aop (c:=⟨c.config,c.box,c.now,c.br,c.ready,c.array,c.spare,c.aV,c.bJ,c.guard,c.pending,c.queue.take i++c.queue.drop (i+1),Bp c.shares c.queue[i].dm,c.drain,c.bf,c.cH,c.errors,c.trace,c.cy⟩) f4 D)).trans ?_
  rw[ak];unfold rR cM;dsimp only;rw[cX (by simp;omega),au,ak]
  refine(aZ (λo=>Option.bind o _) (aov (by exact h.e) ⟨by omega,f5⟩ (Vc D))).trans ?_
  rw[ak];unfold El p6 Oi;rw[E];dsimp only;cases kK c.array.cells[gp c.config.az (gT c c.queue[i].line)] != 0<;>rfl
def aoz{c:ax}{i:Nat}{B:Int}(h:oS c i B)(L:∀ r∈c.queue,yg c r.line=some (gT c r.line)):SL c (i:Int)=some ((),(yZ c i,())):=by
 have hi:=h.i;have⟨f1,f3,f4,f5,f6,f7,f8⟩:=h.facts (cT hi);have f2:=L _ (cT hi);have C:=h.d _ (cT hi);have D:=h.a.syms _ (cT f4);have E:c.queue.getD i yY=c.queue[i]:=lu _ hi;have T:=h.r;unfold SL xL;rw[aA ⟨by omega,by omega⟩,aA];simp only[bz];rw[f2,ak,Uc,ak,f3,aIa h.u hi h.ql,ak,bI (by decide)];have O:(4:Int).toNat=4:=rfl;rw[O,aA ⟨f7,by simpa using f8⟩,aA (by simpa using f8)];dsimp only;rw[anZ _ _ (by have:=h.shl;omega),f6,ak];dsimp only;unfold yZ;rw[E];dsimp only;cases hw:c.queue[i].write with
 | true=>
  rw[ aol C.1 C.2,ak,aA ⟨by omega,by omega⟩,aA,cX (by simp;omega)];unfold p6;simp_all
 | false=>
  rw[aq,aq,lu _ f4]
  refine(aZ (λo=>Option.bind o _) (aoq (c:=⟨c.config,c.box,c.now,c.br,c.ready,c.array,c.spare,c.aV,c.bJ,c.guard,c.pending,c.queue.take i++c.queue.drop (i+1),Bp c.shares c.queue[i].dm,c.drain,c.bf,c.cH,c.errors,c.trace,c.cy⟩) f4 D)).trans ?_
  rw[ak];dsimp only
  refine(aZ (λo=>Option.bind o _) (aow (by exact h.e) ⟨by omega,f5⟩ (Vc D))).trans ?_
  rw[ak];unfold El p6 Oi rR cM;rw[E];dsimp only;cases kK c.array.cells[gp c.config.az (gT c c.queue[i].line)] != 0 with
  | true=>
   rw[au];rw[cX (by simp;omega)];rfl
  | false=>
   rw[aq];rw[cX (by simp;omega)];rfl
def eo(c:ax)(x:aG):ax:=⟨c.config,c.box,c.now,gn c.br x,uH c.config.az c.ready ⟨c.now,x⟩,c.array,c.spare,c.aV,c.bJ,c.guard,c.pending,c.queue,c.shares,c.drain,c.bf,c.cH,c.errors,c.trace++[⟨c.now,x⟩],c.cy⟩
def aoA(c:ax)(p:eN):ax:=⟨c.config,c.box,c.now,c.br,c.ready,c.array,c.spare,c.aV,c.bJ,c.guard,c.pending,c.queue,c.shares,c.drain,p,c.cH,c.errors,c.trace,c.cy⟩
def qN(c:ax)(r:cS):ax:=⟨c.config,c.box,c.now,c.br,c.ready,c.array,c.spare,r,c.bJ,c.guard,c.pending,c.queue,c.shares,c.drain,c.bf,c.cH,c.errors,c.trace,c.cy⟩
def aoB(c:ax)(r:cC):ax:=⟨c.config,c.box,c.now,r,c.ready,c.array,c.spare,c.aV,c.bJ,c.guard,c.pending,c.queue,c.shares,c.drain,c.bf,c.cH,c.errors,c.trace,c.cy⟩
def Em(c:ax)(k:Int):ax:=aoA c (yT c.bf k c.now)
def Vd(c:ax)(b:Int):ax:=qN (Od c b (c.pending.filter (λa=>!(a.ay==b)))) (wP c.aV b)
def za(c:ax)(x:aG)(i:Int):ax:=
 bif x.kind==1 then vi (eo c x) x else
 bif x.kind==5 then Vd (eo c x) x.ay else
 bif x.kind==2 ||x.kind==3 then yZ (eo c x) i.toNat else
 bif x.kind==4 then eo c x else
 bif x.kind==9 then gN (Em (eo c x) 9) c.bJ.length []else Em (eo c x) x.kind
structure Bs (c:ax):Prop where
 w:vj 100000 c
 u:wQ c.pending
 pk:∀a∈c.pending,0<=a.ay/\a.ay<bg c.config.az
 zt:∀t∈c.bJ,iD t
 rf:fe c.aV=true
 bl:(c.br.aC.length:Int)=bg c.config.az
 l1:c.ready.last.length<1073741824
 l2:c.ready.bC.length<1073741824
 tl:c.trace.length<10000
def Bs.eo{c:ax}(h:Bs c)(x:aG):vj 100000 (eo c x):=⟨h.w.hB,h.w.g,h.w.a,h.w.k,h.w.p,h.w.t,h.w.d,h.w.r⟩
def oS.eo{c:ax}{n:Nat}{B:Int}(h:oS c n B)(x:aG):oS (eo c x) n B:=⟨h.ad,h.tn,h.ql,h.sh,h.shl,h.u,h.i,h.d,h.a,h.e,h.r⟩
def aIb{c:ax}(h:vj 100000 c):iter yF aX (((),(c.bJ.length:Int),(0:Int),()),((⟨c.config,c.box,c.now,c.br,c.ready,c.array,c.spare,c.aV,c.bJ,c.guard,([]:aa aJ),c.queue,c.shares,c.drain,c.bf,c.cH,c.errors,c.trace,c.cy⟩:ax),()))=some (.inl ((),(gN c c.bJ.length [],()))):=aHG h
def aIc{c:ax}{x:aG}(C:1 <= x.kind/\x.kind <= 9)(hb:x.kind <= 5 -> 0 <= x.ay/\x.ay.toNat<c.br.aC.length):SN c x=some ((),(aoB c (gn c.br x),())):=by
 unfold SN gn aoB xL;rcases kinds C with h|h|h|h|h|h|h|h|h<;>(try (have hb:=hb _))<;>simp[h,hb]
def Ve{g:aM}{x:aG}(h:dS g x=true)(C:x.kind=1):0 <= x.row/\x.row<g.rows:=by
 simp[dS,aU]at h;have D:=h.2.2.2.1;rw[sX,C,show ((1:Int)==1)=true from rfl,au,bF]at D;omega
def aId{c:ax}(h:Bs c){x:aG}(E:mY c.config.az c.br x=true){i:Int}(L:x.kind=2 \/ x.kind=3 -> oS c i.toNat 100000/\0 <= i):Nn c x i=some ((),(za c x i,())):=by
 have⟨hg,hlen,O,hb⟩:=NR E;have T:dS c.config.az x=true:=by
  simp only[mY,aU]at E
  grind
 have b1:=fH c.config.az;have w:=h.eo x;have ht:=h.w.t;have hd:=h.w.d;have hr:=h.w.r;have Vf:=h.tl;have er:Nc c.config.az c.br x=some (gn c.br x,true):=by
  rw[aDP _ _ _ (by omega)];unfold aa8;simp_all
 unfold Nn za bk;rw[cX (by simp;omega),au,aDW _ _ _ h.l1 h.l2,ak,er,ak];rcases kinds O with q|q|q|q|q|q|q|q|q<;>rw[q]<;>simp only[Int.reduceBEq,Int.reduceBNe,au,aq,Bool.or_true,Bool.or_false,Bool.true_or,Bool.false_or,Bool.or_self]
 ·have⟨C,U⟩:=hb (by omega);have⟨Y,Z⟩:=Ve T q
  refine(aZ (λo=>Option.bind o _) (aHC (c:=eo c x) x w.g w.a w.p h.zt C (by show x.ay<bg c.config.az;omega) Y Z (by show x.ay.toNat<c.bJ.length;omega) (by show x.ay.toNat<c.guard.length;omega))).trans ?_
  rfl
 ·have⟨s,D⟩:=L (.inl q);have e:=aoy (s.eo x);rw[Int.toNat_of_nonneg D]at e
  refine(aZ (λo=>Option.bind o _) e).trans ?_
  rfl
 ·have⟨s,D⟩:=L (.inr q);have e:=aoy (s.eo x);rw[Int.toNat_of_nonneg D]at e
  refine(aZ (λo=>Option.bind o _) e).trans ?_
  rfl
 ·rfl
 ·have⟨C,U⟩:=hb (by omega);have⟨y,e4⟩:=aHu h.rf (b:=x.ay) C (by omega)
  refine(aZ (λo=>Option.bind o _) (aoa w.hB (eo c x) w.g w.a C (by show x.ay<bg c.config.az;omega))).trans ?_
  rw[ak];unfold cM;dsimp only;rw[aHy _ _ (by show c.pending.length<1000000;have:=h.w.p;omega),ak];dsimp only
  refine(aZ (λo=>Option.bind o _) (aob _ (by exact w.k) C (by show x.ay.toNat<c.bJ.length;omega) (by show x.ay.toNat<c.guard.length;omega))).trans ?_
  rw[ak];unfold qI;dsimp only
  refine(aZ (λo=>Option.bind o _) e4).trans ?_
  rfl
 ·have⟨y,e⟩:=UZ c.bf (k:=6) (by omega) c.now;rw[e,ak];rfl
 ·have⟨y,e⟩:=UZ c.bf (k:=7) (by omega) c.now;rw[e,ak];rfl
 ·have⟨y,e⟩:=UZ c.bf (k:=8) (by omega) c.now;rw[e,ak];rfl
 ·have⟨y,e⟩:=UZ c.bf (k:=9) (by omega) c.now;rw[e,ak]
  refine(aZ (λo=>Option.bind o _) (aIb (c:=Em (eo c x) 9) ⟨w.hB,w.g,w.a,w.k,w.p,w.t,w.d,w.r⟩)).trans ?_
  rfl
def aIe{c:ax}(h:Bs c){x:aG}(E:mY c.config.az c.br x=true){i:Int}(L:x.kind=2 \/ x.kind=3 -> oS c i.toNat 100000/\0 <= i)(O:∀ r∈c.queue,yg c r.line=some (gT c r.line)):AI c x i=some ((),(za c x i,())):=by
 have⟨hg,hlen,T,hb⟩:=NR E;have U:dS c.config.az x=true:=by
  simp[mY,aU]at E;simp_all
 have b1:=fH c.config.az;have w:=h.eo x;have ht:=h.w.t;have hd:=h.w.d;have hr:=h.w.r;have Vf:=h.tl;unfold AI za bk;rw[cX (by simp;omega),au,aDX _ _ _ h.l1 h.l2,ak]
 refine(aZ (λo=>Option.bind o _) (aIc T (λY=>by have:=hb Y;exact⟨this.1,this.2⟩))).trans ?_
 rw[ak];rcases kinds T with q|q|q|q|q|q|q|q|q<;>rw[q]<;>simp only[Int.reduceBEq,Int.reduceBNe,au,aq,Bool.or_true,Bool.or_false,Bool.true_or,Bool.false_or,Bool.or_self]
 ·have⟨C,Z⟩:=hb (by omega);have⟨r0,r1⟩:=Ve U q
  refine(aZ (λo=>Option.bind o _) (aHD (c:=eo c x) x w.g w.a w.p h.u h.zt C (by show x.ay<bg c.config.az;omega) r0 r1 (by show x.ay.toNat<c.bJ.length;omega) (by show x.ay.toNat<c.guard.length;omega))).trans ?_
  rfl
 ·have⟨s,D⟩:=L (.inl q);have e:=aoz (s.eo x) O;rw[Int.toNat_of_nonneg D]at e
  refine(aZ (λo=>Option.bind o _) e).trans ?_
  rfl
 ·have⟨s,D⟩:=L (.inr q);have e:=aoz (s.eo x) O;rw[Int.toNat_of_nonneg D]at e
  refine(aZ (λo=>Option.bind o _) e).trans ?_
  rfl
 ·rfl
 ·have⟨C,Z⟩:=hb (by omega);have⟨y,e4⟩:=aHt h.rf (b:=x.ay) C (by omega)
  refine(aZ (λo=>Option.bind o _) (aoc w.hB (eo c x) w.g w.a w.k w.p C (by show x.ay<bg c.config.az;omega) (by show x.ay.toNat<c.bJ.length;omega) (by show x.ay.toNat<c.guard.length;omega))).trans ?_
  rw[ak]
  refine(aZ (λo=>Option.bind o _) e4).trans ?_
  rfl
 ·have⟨y,e⟩:=U0 c.bf (k:=6) (by omega) c.now
  refine(aZ (λo=>Option.bind o _) e).trans ?_
  rfl
 ·have⟨y,e⟩:=U0 c.bf (k:=7) (by omega) c.now
  refine(aZ (λo=>Option.bind o _) e).trans ?_
  rfl
 ·have⟨y,e⟩:=U0 c.bf (k:=8) (by omega) c.now
  refine(aZ (λo=>Option.bind o _) e).trans ?_
  rfl
 ·have⟨y,e⟩:=U0 c.bf (k:=9) (by omega) c.now
  refine(aZ (λo=>Option.bind o _) e).trans ?_
  rw[ak]
  refine(aZ (λo=>Option.bind o _) (aHI (c:=Em (eo c x) 9) ⟨w.hB,w.g,w.a,w.k,w.p,w.t,w.d,w.r⟩ (by show (gn c.br x).aC.length=c.bJ.length;rw[am0];omega) h.pk)).trans ?_
  rfl
def aIf{l m:aa Int}(h:l.length=m.length)(D:(l.zip m).all sV=true):(∀ x∈l,0 <= x/\x <= 100000) /\ ∀ x∈m,0 <= x/\x <= 100000:=by
 rw[cx]at D;have key:∀ i _ (E:i<m.length),(0 <= l[i]/\l[i] <= 100000)/\(0 <= m[i]/\m[i] <= 100000):=λi O E=>by
  have L:i<(l.zip m).length:=by rw[List.length_zip];omega
  have:=D _ (cT L);rw[List.getElem_zip]at this;simp[sV,aU,bF]at this;exact this
 constructor
 ·intro x C;obtain⟨i,hi,rfl⟩:=jo.1 C
  grind
 ·intro x C;obtain⟨i,hi,rfl⟩:=jo.1 C;simp_all
def eA.qO{g:aM}{a:cV}(h:lN g a=true):eA g 100000 a:=by
 simp only[lN,aU,iZ]at h;have⟨Z,C,D,E,L,O⟩:=h;have⟨T,U⟩:=aIf (by omega) O
 refine⟨C,λc Y=>?_,D,E,T,U⟩
 exact Sy.of (cx.1 L c Y)
def Bs.of{c:ax}(D:dU c)(h:eV c=true)(L:c.trace.length<10000):Bs c:=by
 have E:=Pq.of D h;have z1:c.box.bH.weights.length <= 1048576:=D.1.1;have h0:=h;simp only[eV,aU]at h;have⟨O,h2,h3,h4,T,U,h7,h8,C,Hl,Ho,tW,uG,Ba,Bb,qz,D4,HB,HC,N6,yh,N7⟩:=h;have⟨f1,f2⟩:=Ee (by omega) O;simp only[oK,aU]at f1;simp only[sW,aU,fU,gV,p7,cx,fK]at C;have⟨C,Y,Z,g3,g4,g5,g6⟩:=C;have vB:=E.pl;have⟨hg,rl,ra⟩:=Uy T;have b1:=fH c.config.az
 refine⟨⟨by decide,hg,eA.qO U,f1.2.2.2.2.2.1,by omega,Z,g3,Y⟩,λi hi=>?_,λa ha=>?_,D.2.2.2.2.2.2.1.2,C,E.p.bl,by omega,by omega,L⟩
 ·have hb:=g6 i hi;unfold uF at hb
  grind
 ·have⟨_,k1,k2,_⟩:=qF (E.pe a ha);simp_all
def oS.of{c:ax}(O:dU c)(h:eV c=true){n:Nat}(T:n<c.queue.length)(C:c.cy.length <= 1000):oS c n 100000:=by
 have D:=Pq.of O h;simp[eV,aU]at h;have⟨Z,h2,h3,h4,h5,U,h7,h8,h9,E,Ho,tW,uG,Ba,Bb,qz,D4,HB,HC,Y,yh,N7⟩:=h;simp[hJ,aU,cx,fK]at E;have⟨L,q2⟩:=E
 refine⟨λr C=>Va D C,λr C=>(D.q r C).2.1,D.ql,D.sh,D.shl,λi hi=>?_,T,λr C=>?_,eA.qO U,Y,C⟩
 ·cases i with
  |zero=>simp
  | succ i=>
   have hb:=L _ hi;rw[NL hi]at hb;simp_all
 ·obtain⟨i,hi,rfl⟩:=jo.1 C;have hb:=L i hi;unfold rP at hb;rw[bZ hi]at hb;simp[pU,Uo,aU,bF]at hb;simp_all
def wS{g:aM}{B:Int}{a:cV}(h:eA g B a):D9 a:=by
 have D:=h.cells;have E:=h.bx;have L:=h.bw;have O:=oF g;have T:=qE g;exact⟨⟨by omega,λc C=>by unfold uT;rw[(h.syms c C).1];omega⟩,by omega,by omega⟩
def acs{l:aa bV}(h:l.length <= 1048576 /\ ∀y∈l,iD y){t:bV}(C:iD t)(i:Nat):(l.set i t).length <= 1048576 /\ ∀y∈l.set i t,iD y:=by grind
def aoC{k:Int}(h:aN k 1 16=true):iD (yS k):=by
 have:=bF.1 h;unfold yS iD
 grind
def aIg{t:bV}(h:iD t)(row dH:Int):iD (vh t row dH).1:=by
 have hl:=ace (t:=t) row;unfold iD at h ⊢;unfold vh
 grind
def aIh{c:ax}(E:dU c)(L:c.ready.bC.length <= 4)(ht:c.trace.length <= 10000)(x:aG):dU (eo c x):=by
 have⟨O,C,⟨T,z4⟩,U,Y,Z,z8,z9,gy,iE,iK,jj,jk,kZ⟩:=E;have D:=aD3 c.config.az c.ready ⟨c.now,x⟩;refine⟨O,by unfold NY at C ⊢;show (gn _ x).aC.length <= _;rw[am0];exact C,⟨by show (uH _ _ _).last.length <= _;rw[D.1];exact T,Nat.le_trans (D.2 L) (by decide)⟩,U,Y,Z,z8,z9,gy,iE,iK,jj,by simp[eo];omega,kZ⟩
def Vg{c:ax}(D:dU c){a:cV}(E:D9 a){r:cS}(L:uU r){t:aa bV}(O:t.length <= 1048576 /\ ∀ y∈t,iD y){C:aa Int}(T:C.length <= 1048576){pd:aa aJ}(U:pd.length <= 1048576)(pw:eN):dU ⟨c.config,c.box,c.now,c.br,c.ready,a,c.spare,r,t,C,pd,c.queue,c.shares,c.drain,pw,c.cH,c.errors,c.trace,c.cy⟩:=by
 have⟨Y,Z,z3,z5,z6,z7,z8,z9,gy,iE,iK,jj,jk,kZ⟩:=D;exact⟨Y,Z,z3,E,z6,L,O,T,U,iE,iK,jj,jk,kZ⟩
def aIi{c:ax}(C:dU c)(h:vj 100000 c)(x:aG)(D:0 <= x.ay)(E:x.ay<bg c.config.az)(L:0 <= x.row)(O:x.row<c.config.az.rows):dU (vi c x):=by
 have zt:=C.2.2.2.2.2.2.1;have hb:x.ay.toNat<c.bJ.length:=by have:=h.t;omega
 have T:=h.p;refine Vg C (wS (abY h.g _ h.hB h.a D E L O)) C.2.2.2.2.2.1 (acs zt ?_ _) C.2.2.2.2.2.2.2.1 ?_ _
 ·unfold s9;rw[lu];exact aIg (zt.2 _ (cT hb)) _ _
 ·have U:(oR c x).length <= c.pending.length:=List.length_filter_le _ _;have Y:=acj c.config.az.rows x.row;have Z:=U1 x.ay (mF c.config.az.rows x.row) (oR c x)
  grind
def aoD(r:cS)(b:Int):(wP r b).aI.length=r.aI.length:=by
 unfold wP;cases decide (r.aI.getD b.toNat 0 = -2)<;>simp
def aIj{c:ax}(C:dU c)(h:vj 100000 c){b:Int}(D:0 <= b)(E:b<bg c.config.az):dU (Vd c b):=by
 have⟨_,_,_,_,L,O,T,U⟩:=fG h.g;have zt:=C.2.2.2.2.2.2.1;have Y:=h.p;have Z:=ack (λa:aJ=>!(a.ay==b)) c.pending;exact Vg C (wS (HG h.g _ h.hB h.a D E _ (by omega))) (by unfold uU;rw[aoD];exact C.2.2.2.2.2.1) (acs zt (aoC h.k) _) (by show (c.guard.set _ _).length <= _;rw[gG];exact C.2.2.2.2.2.2.2.1) (by show (c.pending.filter _).length <= _;omega) _
def aoE{l:aa bV}(h:l.length<=1048576/\∀ y∈l,iD y){t:bV}(C:iD t):∀ k:Nat,((List.range k).foldl (λd b=>d.set b t) l).length<=1048576/\∀ y∈(List.range k).foldl (λd b=>d.set b t) l,iD y
 |0=>h
 |k+1=>by rw[yU];exact acs (aoE h C k) C k
def aIk{c:ax}(C:dU c)(h:vj 100000 c)(k:Nat)(D:(k:Int)<=bg c.config.az):dU (gN c k []):=
 Vg C (wS (U2 h.g c.config.dW h.hB h.a k D)) (by unfold uU;rw[yV];exact C.2.2.2.2.2.1) (aoE C.2.2.2.2.2.2.1 (aoC h.k) k) (by rw[yV];exact C.2.2.2.2.2.2.2.1) (by simp) c.bf
def aoF{l:aa bW}(n code:Int):(rU l n code).length <= l.length+1:=by
 unfold rU
 grind
def aoG{c:ax}(L:dU c){i:Nat}(h:oS c i 100000):dU (yZ c i):=by
 have⟨O,T,U,z5,Y,Z,z8,z9,gy,iE,iK,jj,jk,kZ⟩:=L;have hi:=h.i;have hql:=h.ql;have hr:=h.r;have⟨f1,f3,f4,f5,f6,f7,f8⟩:=h.facts (cT hi);have C:c.queue.getD i yY=c.queue[i]:=lu _ hi;have D:=h.d _ (cT hi);have YN:(Bp c.shares c.queue[i].dm).length <= 1048576:=by
  have⟨y,t,e,hl⟩:=ab7 ((List.replicate 4 false).set c.queue[i].dm.toNat true) (by have:=h.shl;omega) h.sh (by simp[h.shl])
  grind
 have iR:c.errors.length <= 6:=by
  have E:=h.e;simp only[kW,aU,iZ]at E;omega
 have key:∀ (a:cV) (e:aa bW) (x:cE),D9 a -> e.length <= 100 -> dU (p6 c i a e x):=λa e x ha E=>
  ⟨O,T,U,ha,Y,Z,z8,z9,gy,by simp[p6];omega,by unfold p6;rw[C];exact YN,by show e.length <= _;omega,jk,by simp[p6];omega⟩
 unfold yZ;rw[C];dsimp only;cases c.queue[i].write with
 |true=>exact key _ _ _ (wS (h.a.D7 _ (c:=⟨_,false⟩) (Of D.1 D.2).2.1)) (by omega)
 | false=>
  rw[aq,lu _ f4];refine key _ _ _ (wS (h.a.D7 _ (acm (h.a.syms _ (cT f4))))) ?_;have:=aoF (l:=c.errors) (gp c.config.az (gT c c.queue[i].line):Int) (kK c.array.cells[gp c.config.az (gT c c.queue[i].line)]);cases kK c.array.cells[gp c.config.az (gT c c.queue[i].line)] != 0 with
  |true=>grind
  |false=>grind
def aIl{c:ax}(O:dU c)(h:Bs c)(T:c.ready.bC.length <= 4){x:aG}(E:mY c.config.az c.br x=true){i:Int}(L:x.kind=2 \/ x.kind=3 -> oS c i.toNat 100000/\0 <= i):dU (za c x i):=by
 have⟨hg,hlen,U,hb⟩:=NR E;have Y:dS c.config.az x=true:=by
  simp[mY,aU]at E;simp_all
 have w:=h.eo x;have ht:=h.w.t;have Vf:=h.tl;have z:=aIh O T (by omega) x;have C:∀k,dU (Em (eo c x) k):=λk=>Vg z z.2.2.2.1 z.2.2.2.2.2.1 z.2.2.2.2.2.2.1 z.2.2.2.2.2.2.2.1 z.2.2.2.2.2.2.2.2.1 _
 unfold za;rcases kinds U with q|q|q|q|q|q|q|q|q<;>rw[q]<;>simp
 ·have⟨D,Z⟩:=hb (by omega);have⟨r0,r1⟩:=Ve Y q;exact aIi z w x D (by show _<bg c.config.az;omega) r0 r1
 ·exact aoG z ((L (.inl q)).1.eo x)
 ·exact aoG z ((L (.inr q)).1.eo x)
 ·exact z
 ·have⟨D,Z⟩:=hb (by omega);exact aIj z w D (by show x.ay<bg c.config.az;omega)
 ·exact C 6
 ·exact C 7
 ·exact C 8
 ·exact aIk (C 9) ⟨w.hB,w.g,w.a,w.k,w.p,w.t,w.d,w.r⟩ _ (by show (c.bJ.length:Int) <= bg c.config.az;omega)
def nZ(c:ax)(b:Int):Bool:=decide (c.aV.aI.getD b.toNat 0 >= 4)
def Oj(c:ax)(b:Int):Bool:=c.pending.any λa=>a.ay==b
def nh(c:ax)(i:Nat):aG:=Ef c.br (fP c i) (qL c.queue i)
def Vh(c:ax)(i:Nat):Bool:=decide (c.now-(lR c i).at_<c.box.bH.cap)
def lz(c:ax)(i:Nat):Bool:=
 ir c i&&(!nZ c (fP c i).ay&&(dG c (nh c i)&&(!(((nh c i).kind==1 ||(nh c i).kind==4)&&Oj c (fP c i).ay) && !((nh c i).kind==4&&(yX c c.queue.length (fP c i).ay&&Vh c i)))))
def aIm{l:aa Int}{b:Int}(C:0 <= b)(h:b.toNat<l.length):∀ i:Nat,(((i:Int)+b)∈cI i l) ↔ l.getD b.toNat 0 >= 4:=by
 obtain⟨n,rfl⟩:=fL C;rw[bz]at *
 clear C
 induction l generalizing n with
 |nil=>simp at h
 | cons d l E=>
  intro i;have L:∀ x∈cI (i+1) l,(i:Int)+1 <= x:=λx D=>by
   have⟨j,O,_,_⟩:=anV D;omega
  have e:cI i (d::l)=bif decide (d >= 4)then (i:Int)::cI (i+1) l else cI (i+1) l:=rfl
  grind
def acu{c:ax}{b:Int}(hl:c.aV.aI.length <= 8)(C:0 <= b)(h:b.toNat<c.aV.aI.length):wm (cI 0 c.aV.aI) b=some (nZ c b):=by
 have E:=Ed 0 c.aV.aI;have D:=aIm C h 0;rw[cr,Int.zero_add]at D;unfold wm;rw[Ut _ _ (by omega),ak];congr 1;unfold nZ gz
 grind
def Vi{c:ax}{b:Int}(hl:c.aV.aI.length <= 8)(C:0 <= b)(h:b.toNat<c.aV.aI.length):Di c b=some (nZ c b):=by
 unfold Di nZ xI;simp_all
def aoH{c:ax}(h:Pq c){i:Nat}(hi:i<c.queue.length):dS c.config.az (nh c i)=true:=aHm _ (Ej h hi).1
def rV(c:ax):Nat->aa Bool
 |0=>List.replicate 4 false
 |k+1=>bif lz c k then (rV c k).set (lR c k).dm.toNat true else rV c k
def Vj(c:ax):∀ k,(rV c k).length=4
 |0=>rfl
 | k+1=>by
  have C:=Vj c k;show (bif lz c k then _ else _:aa Bool).length=4
  grind
def aIn{c:ax}{U:aa Int}{T:aa aJ}{Z:Int×Int×Int×Int×af}{P:Int×Int×Int×Int×Int×(aa Int)×Int×Int×af}{L jg Y wait:aa Bool}{hb:aa (Int×Bool)}{acv:aa aG}{k:Nat}{r:aK}{a:aJ}{nd:aG}{ct rd ib:Bool}(hq:c.queue.length<=12)(hk:k<c.queue.length)(hr:c.queue[k]=r)(h2:k<T.length)(ha:T[k]=a)(h3:k<L.length)(C:k<Y.length)(h5:acv.length=k)(D:0<=r.dm)(E:r.dm.toNat<wait.length)(e1:yD c.br a r.write=some nd)(e2:wm U a.ay=some ct)(e3:jf c nd=some rd)(e4:DF c.pending a.ay=some ib)(b1:0<=r.at_/\r.at_<=1000000)(b2:0<=c.now/\c.now<=1000000):
  DI ((U,T,(),(),(),(),(),(),(),(),(),c.queue,(c.queue.length:Int),(k:Int),()),(c,Z,P,L,jg,hb,acv,Y,wait,()))=some (.inl ((U,T,(),(),(),(),(),(),(),(),(),c.queue,(c.queue.length:Int),((k+1:Nat):Int),()),(c,Z,P,L,jg,hb,acv++[nd],Y.set k (L[k]&&(!ct&&(rd&&(!((nd.kind==1 ||nd.kind==4)&&ib) && !(nd.kind==4&&(mO hb a.ay&&decide (c.now-r.at_<P.2.1))))))),(bif (L[k]&&(!ct&&(rd&&(!((nd.kind==1 ||nd.kind==4)&&ib) && !(nd.kind==4&&(mO hb a.ay&&decide (c.now-r.at_<P.2.1)))))))then wait.set r.dm.toNat true else wait),()))):=by
 have hw:W6 (c.now-r.at_)=c.now-r.at_:=aR;unfold DI av xG xI xL;dsimp only;rw[aS,au,aA ⟨by omega,by omega⟩,aA ⟨by omega,by omega⟩,aA ⟨by omega,by omega⟩];simp only[bz,hr,ha,e1,ak,h5,lU,cX (show k+1<1073741824 by omega),au,e2,e3,e4,hw,bD (show k<4611686018427387904 by omega)];by_cases O:nd.kind=1
 ·have k4:(nd.kind==(4:Int))=false:=by rw[O];rfl
  have O:(nd.kind==(1:Int))=true:=by rw[O];rfl
  simp only[O,k4,au,aq,Bool.true_or,cw,Bool.false_and,gW,Bool.and_true];rw[aA ⟨by omega,by omega⟩,aA];cases L[k]<;>cases ct<;>cases rd<;>cases ib<;>simp[C,D,E]
 ·have O:(nd.kind==(1:Int))=false:=by simpa using O
  simp only[O,aq,Bool.false_or];rw[aA ⟨by omega,by omega⟩,aA];cases nd.kind==(4:Int)with
  |false=>cases L[k]<;>cases ct<;>cases rd<;>cases ib<;>simp[C,D,E]
  | true=>
   cases L[k]with
   |false=>simp[C,D,E]
   | true=>
    cases ct with
    |true=>simp[C,D,E]
    | false=>
     cases rd with
     |false=>simp[C,D,E]
     | true=>
      cases ib with
      |true=>simp[C,D,E]
      | false=>
       cases mO hb a.ay with
       |false=>simp[C,D,E]
       | true=>
        by_cases hc:c.now-r.at_<P.2.1
        ·simp[C,D,E,hc]
        ·simp[C,D,E,hc]
def acw(y x:aG):Bool:=(y.kind==x.kind)&&((y.ay==x.ay)&&((y.row==x.row)&&((y.bT==x.bT)&&true)))
def Ok(c:ax)(x:aG)(i:Int):Bool:=aN i 0 ((c.queue.length:Int)-1)&&(decide ((c.cy.length:Int)<400)&&acw (Ef c.br (gT c (c.queue.getD i.toNat yY).line) (c.queue.getD i.toNat yY).write) x)
def wT(c:ax)(x:aG)(i:Int):Bool:=dS c.config.az x&&(dG c x&&(!decide ((c.trace.length:Int) >= 2000)&&bif x.kind==2 ||x.kind==3 then Ok c x i else i == -1 ||aN i 0 ((c.queue.length:Int)-1)))
def acy{c:ax}(h:Pq c){i:Int}(hi:aN i 0 ((c.queue.length:Int)-1)=true):∃ C:i.toNat<c.queue.length,0 <= i/\c.queue.getD i.toNat yY=c.queue[i.toNat]/\wo c c.queue[i.toNat].line=some (gT c c.queue[i.toNat].line,true)/\yD c.br (gT c c.queue[i.toNat].line) c.queue[i.toNat].write=some (Ef c.br (gT c c.queue[i.toNat].line) c.queue[i.toNat].write):=by
 have hb:=bF.1 hi;have C:i.toNat<c.queue.length:=by omega
 have⟨D,E⟩:=Va h (cT C);have⟨_,L,O,_⟩:=qF E;have T:=h.p.bl;have U:=fH c.config.az;exact⟨C,hb.1,lu _ C,D,UX _ L (by omega) (by omega)⟩
def aIo{c:ax}(h:Pq c)(x:aG)(i:Int):AF c x i=some (wT c x i):=by
 have U:=h.ql;unfold AF wT;rw[amW,ak];cases O:dS c.config.az x with
 |false=>rfl
 |true=>
 rw[bA,aq,UU h.p O,ak];cases dG c x with
 |false=>rfl
 |true=>
 rw[bA,aq];cases decide ((c.trace.length:Int) >= 2000)with
 |true=>rfl
 |false=>
 rw[aq,cw,cw,gW,cw,ei,aR (n:=(c.queue.length:Int)-1),ak];unfold Ok;have nd:AB=yD:=rfl;cases hi:aN i 0 ((c.queue.length:Int)-1)with
 | true=>
  have⟨D,E,T,f1,f3⟩:=acy h hi;have f2:=acr h (cT D);rw[ga (show ¬ i = -1 by omega),au,bA,aq,aS (show i >= 0 from E),cw,Bool.or_true,T];by_cases C:x.kind=2
  ·rw[show (x.kind != 2)=false by rw[C];rfl,show (x.kind==2)=true by rw[C];rfl,aq,au,Bool.true_or,au];cases decide ((c.cy.length:Int)<400)with
   |false=>rfl
   | true=>
    rw[ aA ⟨E,D⟩,aA ⟨E,D⟩];rw[f2,ak,nd,f3];rfl
  ·rw[ga C,kG C,au,Bool.false_or];by_cases L:x.kind=3
   ·rw[show (x.kind != 3)=false by rw[L];rfl,show (x.kind==3)=true by rw[L];rfl,aq,au,au];cases decide ((c.cy.length:Int)<400)with
    |false=>rfl
    | true=>
     rw[ aA ⟨E,D⟩,aA ⟨E,D⟩];rw[f2,ak,nd,f3];rfl
   ·grind
 | false=>
  rw[Bool.false_and,gW,au,Bool.or_false];by_cases e:i = -1
  ·subst e;rw[dY,aq,dM,show decide ((-1:Int) >= 0)=false from rfl,aq];by_cases C:x.kind=2
   ·simp_all
   ·rw[ga C,kG C,au,Bool.false_or];by_cases L:x.kind=3
    ·simp_all
    ·grind
  ·grind
def aIp{c:ax}(T:dU c)(h:Pq c)(x:aG)(i:Int):sS c x i=bif wT c x i then (Nn c x i).bind (λy=>some (y.2.1,true))else some (c,false):=by
 have Z:=h.ql;unfold sS wT xI;rw[Hx c T,ak,Hw c T,ak,h.p.ok,bA,aq];cases U:dS c.config.az x with
 | false=>
  have e:jf c x=some false:=by
   unfold jf;rw[aa7,U,Bool.false_and,Bool.and_false];rfl
  rw[e];rfl
 |true=>
 rw[yQ h.p U,ak];cases dG c x with
 |false=>rfl
 |true=>
 rw[bA,aq];cases decide ((c.trace.length:Int) >= 2000)with
 |true=>rfl
 |false=>
 rw[aq,cw,cw,gW,cw,dx,aR (n:=(c.queue.length:Int)-1),ak];unfold Ok;cases hi:aN i 0 ((c.queue.length:Int)-1)with
 | true=>
  have⟨C,D,Y,f1,f3⟩:=acy h hi;rw[ga (show ¬ i = -1 by omega),bA,aq,au,aq,cw,Bool.or_true,Y];by_cases E:x.kind=2
  ·rw[show (x.kind==2)=true by rw[E];rfl,au,Bool.true_or,au];by_cases L:(c.cy.length:Int)<400
   ·rw[aS L,aT (show ¬ (c.cy.length:Int) >= 400 by omega),aq,aA ⟨D,C⟩];dsimp only;rw[f1,ak,aA ⟨D,C⟩,f3,ak];unfold acw
    grind
   ·grind
  ·rw[kG E,aq,Bool.false_or];by_cases O:x.kind=3
   ·rw[show (x.kind==3)=true by rw[O];rfl,au,au];by_cases L:(c.cy.length:Int)<400
    ·rw[aS L,aT (show ¬ (c.cy.length:Int) >= 400 by omega),aq,aA ⟨D,C⟩];dsimp only;rw[f1,ak,aA ⟨D,C⟩,f3,ak];unfold acw
     grind
    ·grind
   ·grind
 | false=>
  rw[Bool.false_and,gW,au,Bool.or_false];by_cases E:x.kind=2
  ·simp_all
  ·rw[kG E,aq,Bool.false_or];by_cases O:x.kind=3
   ·simp_all
   ·rw[kG O,aq,aq];by_cases e:i = -1
    ·simp_all
    ·grind
def aoI{c:ax}(D:dU c)(h:Pq c){x:aG}{i:Int}(E:wT c x i=true):Bs c/\mY c.config.az c.br x=true/\(x.kind=2 \/ x.kind=3 -> oS c i.toNat 100000/\0 <= i)/\c.ready.bC.length <= 4:=by
 simp only[wT,aU,gV,p7]at E;have⟨O,L,Z,C⟩:=E;simp[dG,aU]at L
 refine⟨Bs.of D h.p.ok (by omega),?_,λT=>?_,(Uy h.p.rdy).2.2⟩
 ·unfold mY;rw[h.p.rk,O,L.1];rfl
 ·have e:(x.kind==2 || x.kind==3)=true:=by rcases T with q | q <;>rw[q] <;>rfl
  rw[e,au]at C;simp[Ok,aU,iZ]at C;have⟨U,Y,_⟩:=acy h C.1;exact⟨oS.of D h.p.ok U (by omega),Y⟩
structure Ck (c:ax):Prop where
 f1:oQ c.config c.box.bH=true
 f2:oQ c.config c.box.next=true
 nw:aN c.now 0 1000000=true
 rk:mE c.config.az c.br=true
 rd:lP c.config.az c.ready=true
 ar:lN c.config.az c.array=true
 sp:kY c.config.az c.spare=true
 se:c.spare.bQ=c.config.bQ
 rf:fe c.aV=true
 pa:sW c=true
 qu:hJ (fy (eF c.config.az c.spare)) c.queue=true
 sh:ji c.shares=true
 sl:(c.shares.length:Int)=4
 dr:pT c.drain=true
 pw:kH c.bf=true
 ps:c.bf.state=c.br.bf
 si:c.bf.since<=c.now
 s1:aN c.cH.every 1 100000=true
 s2:aN c.cH.wait 1 c.cH.every=true
 s3:aN c.cH.next 0 (W6 (fy c.config.az-1))=true
 er:kW c.errors=true
 tr:c.trace.length<=2000
 rp:c.cy.length<=400
def Ck.of{c:ax}(h:eV c=true):Ck c:=by
 simp[eV,aU,fU,iZ,gV,p7]at h;have⟨C,D,E,L,O,T,U,Y,⟨Z,h9'⟩,Hl,Ho,tW,uG,Ba,Bb,qz,D4,HB,HC,N6,yh,N7⟩:=h;exact⟨C,D,E,L,O,T,U,Y,Z,h9',Hl,Ho,tW,uG,Ba,Bb,by omega,D4,HB,HC,N6,by omega,by omega⟩
def Ck.ok{c:ax}(h:Ck c):eV c=true:=by
 have⟨C,D,E,L,O,T,U,Y,Z,h9',Hl,Ho,tW,uG,Ba,Bb,qz,D4,HB,HC,N6,yh,N7⟩:=h;simp[eV,aU,fU,iZ,gV,p7]
 grind
def aoJ:∀ (l:aa Nat) (a:Nat),l.Pairwise (λx y=>x≠y) -> l.length <= (l.filter (λx=>decide (x≠a))).length+1
 |[],a,_=>by simp
 | x :: l,a,h=>by
  have⟨C,D⟩:=List.pairwise_cons.1 h;by_cases e:x=a
  ·subst e;have:(x :: l).filter (λy=>decide (y≠x))=l:=by
    rw[List.filter_cons_of_neg (by simp)];exact List.filter_eq_self.2 λy E=>by simpa using (C y E).symm
   grind
  ·rw[List.filter_cons_of_pos (by simpa using e)];have:=aoJ l a D;simp only[List.length_cons];omega
def pig:∀ (n:Nat) (l:aa Nat),(∀ x∈l,x<n)->l.Pairwise (λx y=>x≠y)->l.length<=n
 | 0,l,h,_=>by
  cases l with
  |nil=>simp
  |cons x l=>exact absurd (h x (.head _)) (by omega)
 | n+1,l,h,C=>by
  have E:=aoJ l n C;have L:=pig n (l.filter (λx=>decide (x≠n))) (λx D=>by
   have:=List.mem_filter.1 D;have O:=h x this.1;have T:x≠n:=by simpa using this.2
   omega) (C.filter _)
  omega
def wQ.pw{l:aa aJ}(h:wQ l):l.Pairwise (λx y=>x≠y):=by
 rw[List.pairwise_iff_getElem];intro i j hi D L e;have C:=h j D;rw[List.any_eq_false]at C;have E:l[i]∈l.take j:=by
  rw[List.mem_take_iff_getElem]
  grind
 exact C _ E (Oc.2 e.symm)
def wQ.mk{l:aa aJ}(h:l.Pairwise (λx y=>x≠y)):wQ l:=by
 rw[List.pairwise_iff_getElem]at h;intro j C;rw[List.any_eq_false];intro x D e;obtain⟨i,hi,rfl⟩:=List.mem_take_iff_getElem.1 D;exact h i j _ C (by omega) (Oc.1 e).symm
structure gF (c:ax):Prop where
 dl:(c.aV.aI.length:Int)=bg c.config.az
 tl:(c.bJ.length:Int)=bg c.config.az
 gl:(c.guard.length:Int)=bg c.config.az
 t:∀x∈c.bJ,kX x=true
 g:∀x∈c.guard,3<=x/\x<=1000
 pd:∀a∈c.pending,dA c.config.az a=true/\a.bT=0
 u:c.pending.Pairwise (λx y=>x≠y)
def gF.of{c:ax}(h:sW c=true):gF c:=by
 simp[sW,aU,fU,cx,fK]at h;have⟨E,L,O,g4,T,U⟩:=h;have key:=λi C Y=>by
  have:=T i C;unfold partAt at this;rw[bZ C,bZ Y,aU,bF]at this;exact this
 have Z:∀ i _,dA _ c.pending[i]=true/\c.pending[i].bT=0/\(c.pending.take i).any _=false:=λi C=>by
  have:=U i C;unfold uF at this;rw[bZ C]at this
  simpa [aU]using this
 refine⟨E,L,O,λx D=>?_,λx D=>?_,λa ha=>?_,wQ.pw λi hi=>(Z i hi).2.2⟩
 ·obtain⟨i,hi,rfl⟩:=jo.1 D
  grind
 ·obtain⟨i,hi,rfl⟩:=jo.1 D
  grind
 ·obtain⟨i,hi,rfl⟩:=jo.1 ha;simp[*]
def aIq{g:aM}{l:aa aJ}(D:∀ a∈l,dA g a=true/\a.bT=0)(O:l.Pairwise (λx y=>x≠y)):l.length <= 128:=by
 have E:∀ a∈l,0 <= a.ay/\a.ay<8/\0 <= a.row/\a.row<16:=λa C=>by
  have⟨L,Y,Z,h4,h5,_⟩:=qF (D a C).1;have b1:=fH g;have b2:=fG L;omega
 have L:=pig 128 (l.map λa=>(a.ay*16+a.row).toNat) (λx T=>by
  obtain⟨a,C,rfl⟩:=List.mem_map.1 T;have:=E a C;omega) (by
  rw[List.pairwise_map]
  refine O.imp_of_mem λ{a b} C hb U e=>U ?_
  have r1:=E a C;have r2:=E b hb;have c1:=(D a C).2;have c2:=(D b hb).2;cases a;cases b;simp only at *
  congr 1<;>omega)
 simp_all
def gF.ok{c:ax}(h:gF c):sW c=true:=by
 have⟨E,L,O,Y,Z,C,D⟩:=h;have hl:=aIq C D;have T:=wQ.mk D;simp[sW,aU,fU,gV,p7,cx,fK]
 refine⟨E,L,O,by omega,λi hi=>?_,λi hi=>?_⟩
 ·have U:i<c.guard.length:=by omega
  unfold partAt;rw[bZ hi,bZ U,aU,bF];simp_all
 ·unfold uF;rw[bZ hi];simp only[aU,fU,gV];exact⟨(C _ (cT hi)).1,(C _ (cT hi)).2,T i hi⟩
def aIr{g:aM}{b n:Int}{l:aa aJ}(L:dA g ⟨b,n,0⟩=true)(O:∀ a∈l,dA g a=true/\a.bT=0)(C:l.Pairwise (λx y=>x≠y)):(∀ a∈ng b l n,dA g a=true/\a.bT=0)/\(ng b l n).Pairwise (λx y=>x≠y):=by
 unfold ng;cases h:l.any _ with
 |true=>simp_all
 | false=>
  rw[aq];rw[List.any_eq_false]at h
  refine⟨λa T=>?_,?_⟩
  ·grind
  ·rw[List.pairwise_append]
   refine⟨C,List.pairwise_singleton _ _,λx D y E e=>?_⟩
   rw[List.mem_singleton.1 E]at e;exact h x D (Oc.2 e.symm)
def aoK{g:aM}{b:Int}:∀ (ns:aa Int) {l:aa aJ},(∀ n∈ns,dA g ⟨b,n,0⟩=true) -> (∀ a∈l,dA g a=true/\a.bT=0) -> l.Pairwise (λx y=>x≠y) -> (∀ a∈ns.foldl (ng b) l,dA g a=true/\a.bT=0)/\(ns.foldl (ng b) l).Pairwise (λx y=>x≠y)
 |[],l,_,C,D=>⟨C,D⟩
 | n :: ns,l,E,C,D=>by
  have⟨L,O⟩:=aIr (E n (.head _)) C D;exact aoK ns (λm T=>E m (.tail _ T)) L O
def HJ{T:Type}{p:T -> Prop}{l:aa T}{i:Nat}{x:T}(h:∀y∈l,p y)(C:p x):∀y∈l.set i x,p y:=by grind
def aIs{t:bV}(h:kX t=true)(row dH:Int):kX (vh t row dH).1=true:=by
 unfold vh
 grind
def aoL{k:Int}(h:aN k 1 16=true):kX (yS k)=true:=by
 have hb:=bF.1 h;simp only[kX,yS,aU,fU,cx,List.length_replicate,bF]
 refine⟨by omega,trivial,by omega,λi hi=>?_⟩
 rw[Uu (by simpa using hi) (by simpa using hi)];simp[aN]
def aoM{c:iG}{p:fh}(hl:p.weights.length<1073741823)(h:oQ c p=true):3 <= p.fQ/\p.fQ <= 1000:=by
 have⟨_,f2⟩:=Ee hl h;simp[oM,aU,bF]at f2;simp_all
def zb{g:aM}{a:cV}(C:cG g=true)(h:eA g 100000 a):lN g a=true:=by
 simp only[lN,aU,iZ,cx]
 refine⟨C,h.cells,h.bx,h.bw,λc D=>Sy.ok (h.syms c D),λp E=>?_⟩
 have⟨x,y⟩:=p;have⟨L,O⟩:=List.of_mem_zip E;simp[sV,aU,bF];exact⟨h.DV x L,h.jg y O⟩
def aIt{g:aM}{c:aG}(h:dS g c=true):oN g (jx g c).toNat=true:=by
 have⟨E,D,hb,_⟩:=D1 h;have⟨L,O⟩:=abc h;unfold oN;unfold jx at *
 cases C:aN _ 1 5 with
 | true=>
  have C:=bF.1 C
  grind
 | false=>
  have T:¬ c.kind <= 5:=λh=>by rw[bF.2 ⟨D.1,h⟩]at C;cases C
  grind
def aoN{l:aa Int}(h:∀ i,i<l.length -> oO l i=true){i:Nat}(hi:i<l.length):aN l[i] 0 1000000=true:=by
 have:=h i hi;cases i with
 |zero=>rw[NO]at this;exact this
 |succ i=>rw[Hg,aU]at this;exact this.1
def aoO{l:aa Int}(h:∀ i,i<l.length -> oO l i=true){i:Nat}(hi:i+1<l.length):l[i]<l[i+1]:=by
 have:=h _ hi;rw[Hg hi,aU,gV,p7]at this;omega
def aoP{l:aa Int}(C:∀ i (hi:i<l.length),aN l[i] 0 1000000=true)(D:∀ i (hi:i+1<l.length),l[i]<l[i+1]):∀ i,i<l.length -> oO l i=true:=λi hi=>by
 cases i with
 |zero=>rw[NO];exact C 0 hi
 | succ i=>
  have:=D i hi;rw[Hg hi,aU,gV,p7];simp_all
def aIu{l:aa Int}(h:∀ i,i<l.length -> oO l i=true){x:Int}(L:aN x 0 1000000=true)(hl:D5 ⟨[],l⟩ x=false):∀ i,i<(l++[x]).length -> oO (l++[x]) i=true:=by
 refine aoP (λi hi=>?_) λi hi=>?_
 ·by_cases C:i<l.length
  ·rw[List.getElem_append_left];exact aoN h C
  ·grind
 ·have D:i<l.length:=by simp at hi;omega
  by_cases C:i+1<l.length
  ·rw[List.getElem_append_left C,List.getElem_append_left];exact aoO h C
  ·have e:i+1=l.length:=by omega
   have E:(l++[x])[i+1]=x:=by simp[e]
   rw[E,List.getElem_append_left D];unfold D5 at hl
   grind
def aIv{l:aa Int}(h:∀ i,i<l.length -> oO l i=true)(k:Nat):∀ i,i<(l.drop k).length -> oO (l.drop k) i=true:=by
 refine aoP (λi hi=>?_) λi hi=>?_
 ·rw[List.getElem_drop];exact aoN h _
 ·rw[List.getElem_drop,List.getElem_drop];rw[List.length_drop]at hi;exact aoO h _
def aoQ{g:aM}{r:dB}(e:c8)(h:lP g r=true):lP g (uH g r e)=true:=by
 unfold uH;cases C:lP g r&&(dS g e.cmd&&(aN e.at_ 0 1000000 && !(e.cmd.kind==1&&D5 r e.at_)))with
 |false=>exact h
 | true=>
  rw[au];simp only[aU,gV]at C;have⟨_,O,D,E⟩:=C;simp only[lP,aU,fU,gV,p7,cx,fK]at h ⊢;have⟨T,U,Y,Z,L⟩:=h
  refine⟨T,by rw[gG];exact U,?_,λi hi=>?_,?_⟩
  ·cases e.cmd.kind==1 with
   |false=>exact Y
   | true=>
    rw[au];unfold D6
    grind
  ·rw[gG]at hi;have hb:=Z i hi;rw[NN hi]at hb;rw[NN (by rw[gG];exact hi)];by_cases e':(jx g e.cmd).toNat=i
   ·subst e';rw[nq,aIt O];have:=bF.1 D;rw[bF.2 ⟨by omega,by omega⟩];rfl
   ·simp_all
  ·cases hk:e.cmd.kind==1 with
   |false=>exact L
   | true=>
    rw[hk]at E;exact aIv (aIu L D E) _
structure Qk (n:Int) (q:List aK):Prop where
 r:∀x∈q,pU n x=true
 b:q.Pairwise λx y=>dR x y=true
 i:q.Pairwise λx y=>x.id≠y.id
 l:q.length<=12
def aIw{x y z:aK}(C:dR x y=true)(D:dR y z=true):dR x z=true:=by
 simp only[dR,eG,aU,iZ,fU]at *
 omega
def Qk.of{n:Int}{q:aa aK}(h:hJ n q=true):Qk n q:=by
 have L:=h;simp only[hJ,aU,cx,fK,iZ]at h;have⟨E,Y⟩:=h;have O:∀ x∈q,pU n x=true:=λx T=>by
  obtain⟨i,hi,rfl⟩:=jo.1 T;have:=E i hi;unfold rP at this;simp_all
 have hb:∀ j i (D:i<j) (C:j<q.length),dR q[i] q[j]=true:=by
  intro j
  induction j with
  |zero=>simp_all
  | succ j U=>
   intro i D C;have:=E (j+1) C;rw[NL C,aU,aU]at this;by_cases e:i=j
   ·simp_all
   ·exact aIw (U i (by omega) _) this.2.1
 refine⟨O,?_,?_,by omega⟩
 ·rw[List.pairwise_iff_getElem]
  grind
 ·rw[List.pairwise_iff_getElem];intro i j hi C D e;have:=abI L D C;simp_all
def Qk.ok{n:Int}{q:aa aK}(h:Qk n q):hJ n q=true:=by
 have⟨C,D,E,O⟩:=h;rw[List.pairwise_iff_getElem]at D E;simp[hJ,aU,cx,fK,iZ]
 refine⟨λi hi=>?_,by omega⟩
 cases i with
 |zero=>rw[aaW hi];exact C _ (cT hi)
 | succ i=>
  rw[NL hi,aU,aU,gV];refine⟨C _ (cT hi),D i (i+1) (by omega) hi (by omega),?_⟩;rw[List.any_eq_false];intro x L e;obtain⟨k,T,rfl⟩:=List.mem_take_iff_getElem.1 L
  grind
def Qk.sub{n:Int}{q s:aa aK}(h:Qk n q)(C:s.Sublist q):Qk n s:=
 ⟨λx D=>h.r x (C.subset D),h.b.sublist C,h.i.sublist C,Nat.le_trans C.length_le h.l⟩
def aIx{T:Type}(l:aa T)(i:Nat):(l.take i++l.drop (i+1)).Sublist l:=by
 rw[<-List.eraseIdx_eq_take_drop_succ];exact List.eraseIdx_sublist l i
def aIy(e x:bW):Prop:=¬ (e.line=x.line/\e.code=x.code)
structure Ek (l:List bW):Prop where
 e:∀x∈l,yK x=true
 k:l.Pairwise aIy
 l:l.length<=6
def acz{e x:bW}:lO e x=true ↔ x.line=e.line/\x.code=e.code:=by
 simp only[lO,aU,fU]
def Ek.of{l:aa bW}(h:kW l=true):Ek l:=by
 simp[kW,aU,cx,fK,iZ]at h;have⟨D,O⟩:=h;have key:=λi hi=>by
  have:=D i hi
  rwa [Us hi,aU,gV]at this
 refine⟨λx E=>?_,?_,by omega⟩
 ·obtain⟨i,hi,rfl⟩:=jo.1 E
  grind
 ·rw[List.pairwise_iff_getElem];intro i j hi L T e;have C:=(key j L).2;rw[List.any_eq_false]at C;exact C l[i] (List.mem_take_iff_getElem.2 ⟨i,by omega,rfl⟩) (acz.2 e)
def Ek.ok{l:aa bW}(h:Ek l):kW l=true:=by
 have⟨D,C,L⟩:=h;rw[List.pairwise_iff_getElem]at C;simp only[kW,aU,cx,fK,iZ]
 refine⟨λi hi=>?_,by omega⟩
 rw[Us hi,aU,gV];refine⟨D _ (cT hi),?_⟩;rw[List.any_eq_false];intro x E e;obtain⟨k,O,rfl⟩:=List.mem_take_iff_getElem.1 E;exact C k i (by omega) hi (by omega) (acz.1 e)
def aoR{l:aa bW}(h:kW l=true){n code:Int}(h1:0 <= n/\n <= 1023)(h2:code=1 \/ code=2):kW (rU l n code)=true:=by
 have C:=Ek.of h;have hl:=C.l;have Ij:yK ⟨n,code,1⟩=true:=by
  simp[yK,aU,eG,fU,bF];omega
 refine Ek.ok ?_;unfold rU;cases D:l.findIdx? (lO ⟨n,code,1⟩)with
 | some i=>
  have⟨hi,hp⟩:=Ob D;dsimp only;rw[lu _ hi];have U:=C.e _ (cT hi);have Y:yK (Vb l[i])=true:=by
   simp only[yK,aU,bF]at U ⊢;unfold Vb;dsimp only;rw[aR]
   grind
  refine⟨HJ C.e Y,?_,by rw[gG];exact hl⟩;have E:=C.k;rw[List.pairwise_iff_getElem]at E ⊢;intro a b L hb Z;rw[gG]at L hb;have:=E a b L hb Z;rw[List.getElem_set,List.getElem_set];by_cases O:i=a
  ·subst O
   rwa [bI rfl,bU]
  ·rw[bU O];by_cases e2:i=b
   ·subst e2
    rwa [bI rfl]
   ·simp[*]
 | none=>
  have hn:∀ x∈l,¬ (x.line=n/\x.code=code):=λx hx e=>by
   have:=List.findIdx?_eq_none_iff.1 D x hx;rw[acz.2 e]at this;cases this
  have app:∀ m:aa bW,m.Sublist l -> m.length <= 5 -> Ek (m++[⟨n,code,1⟩]):=λm T hml=>by
   refine⟨λx hx=>?_,?_,by rw[List.length_append,lU];omega⟩
   ·rcases List.mem_append.1 hx with hx | hx
    ·exact C.e x (T.subset hx)
    ·rwa [List.mem_singleton.1 hx]
   ·rw[List.pairwise_append]
    refine⟨C.k.sublist T,List.pairwise_singleton _ _,λx hx y hy e=>?_⟩
    rw[List.mem_singleton.1 hy]at e
    grind
  dsimp only;by_cases e6:l.length=6
  ·grind
  ·rw[kG (show ¬ (l.length:Int)=6 by omega),aq]
   grind
def aoS{l:aa bY}(h:∀ s∈l,nX s=true){k:Nat}(C:k<l.length)(E:1<=l[k].ff):∀ s∈l.set k ⟨l[k].weight,W6 (l[k].ff-1)⟩,nX s=true:=by
 have D:=h _ (cT C);simp only[nX,aU,bF]at D;rw[aR (n:=l[k].ff-1)];refine HJ h ?_;simp only[nX,aU,bF];omega
def aIz{l:aa bY}(w:aa Bool)(hl:l.length<1073741823)(D:ji l=true)(hw:l.length=w.length):∃ y t,qD l w=some (y,t)/\y.length=l.length/\ji y=true:=by
 have mk:∀ y:aa bY,y.length=l.length -> (∀ s∈y,nX s=true) -> y.length=l.length/\ji y=true:=λy C h2=>by
  refine⟨C,?_⟩;simp[ji,aU,cx]at D ⊢;exact⟨h2,by rw[C];exact D.2⟩
 have E:∀ s∈l,nX s=true:=by
  simp only[ji,aU,cx]at D;exact D.1
 unfold qD xA xC bk xL xZ;have hb:=wN (λi=>w.getD i false) (λi=>(l.getD i ⟨0,0⟩).ff) (min l.length w.length);have T:(jl l).length=l.length:=by simp[jl]
 have gZ:=wN (λi=>w.getD i false) (λi=>((jl l).getD i ⟨0,0⟩).ff) (min (jl l).length w.length);have hm:=ab4 (λi=>w.getD i false) (λi=>(l.getD i ⟨0,0⟩).ff) (min l.length w.length);rw[lT,N8 l w (by omega),ak,NJ _ (by omega),ak,D,bA,aq,List.length_nil,fD,cX,au];unfold vg;generalize hr:ld (λi=>w.getD i false) (λi=>(l.getD i ⟨0,0⟩).ff) (min l.length w.length)=b at *
 by_cases U:b<0
 ·rw[aS U];exact⟨_,_,rfl,mk _ rfl E⟩
 ·have C:b.toNat<l.length:=by omega
  rw[aT U,aq,aA ⟨by omega,C⟩,aA C];dsimp only;have hsb:=E _ (cT C);simp only[nX,aU,bF]at hsb;cases Y:l[b.toNat].ff==0 with
  | false=>
   have Y:¬ l[b.toNat].ff=0:=by simpa using Y
   rw[ aA ⟨by omega,C⟩,aA C,aA ⟨by omega,C⟩,aA C];exact⟨_,_,rfl,mk _ (by simp) (aoS E C (by omega))⟩
  | true=>
   have aIA:∀ s∈jl l,nX s=true:=λs D=>by
    obtain⟨x,O,rfl⟩:=List.mem_map.1 D;have:=E x O;simp[nX,aU,bF,s8]at this ⊢;omega
   rw[au,ab6 l w (by omega),ak];simp only[en];rw[N8 _ w (by omega),ak];have Z:0 <= vg (jl l) w:=ab5 _ (i:=b.toNat) (by rcases hm with h|h;exact absurd h (by omega);exact h) _ (by rw[T];omega);have hq:vg (jl l) w<((min (jl l).length w.length:Nat):Int):=gZ.2;have L:(vg (jl l) w).toNat<(jl l).length:=by omega
   have h4:1 <= (jl l)[(vg (jl l) w).toNat].ff:=by
    have dI:(vg (jl l) w).toNat<l.length:=by omega
    have O:=E _ (cT dI);simp only[nX,aU,bF]at O;simp only[jl,List.getElem_map,s8];simp only[jl]at O;omega
   rw[aA ⟨Z,L⟩,aA L,aA ⟨Z,L⟩,aA L];exact⟨_,_,rfl,mk _ (by simp[T]) (aoS aIA L h4)⟩
def aoT{r:cS}(h:fe r=true)(k:Nat){d:Int}(C:-2 <= d/\d <= 5):fe ⟨r.aI.set k d,r.wait,r.dD⟩=true:=by
 simp only[fe,aU]at h ⊢;refine⟨abe h.1 ?_,by rw[gG];exact h.2.1,h.2.2⟩;exact bF.2 C
def aIB{r:cS}(h:fe r=true){b:Int}(hb:b.toNat<r.aI.length):fe (wP r b)=true:=by
 have C:=HF h _ (cT hb);unfold wP;rw[lu _ hb];by_cases e:r.aI[b.toNat] = -2
 ·simp_all
 ·rw[aT e];exact aoT h _ (by omega)
def aIC{r:cC}{p:eN}{x:aG}{now:Int}(E:kH p=true)(C:p.state=r.bf)(L:p.since <= now)(O:now <= 1000000)(U:6 <= x.kind/\x.kind <= 9)(D:pV r x=true):kH (yT p x.kind now)=true/\(yT p x.kind now).state=(gn r x).bf/\(yT p x.kind now).since <= now:=by
 have hb:0 <= p.since:=by
  simp[kH,aU,bF]at E;omega
 have hi:0 <= p.idle/\p.idle <= 1000000:=by
  simp[kH,aU,bF]at E;omega
 have T:=bF.2 ⟨L,O⟩;unfold yT;rw[E,T,Bool.and_self];have mk:∀ s:Int,0 <= s/\s <= 2 -> kH ⟨s,now,p.idle⟩=true:=λs C=>by
  simp[kH,aU,bF];omega
 have:x.kind=6 \/ x.kind=7 \/ x.kind=8 \/ x.kind=9:=by omega
 rcases this with h|h|h|h
 ·have e:r.bf=0:=by simpa [pV,h]using D
  simp[gn,h,C,e,mk]
 ·have e:r.bf=1:=by simpa [pV,h]using D
  simp[gn,h,C,e,mk]
 ·have e:r.bf=0:=by have:=D;simp[pV,h]at this;exact this.1
  simp[gn,h,C,e,mk]
 ·have e:r.bf=2:=by simpa [pV,h]using D
  simp[gn,h,C,e,mk]
def aID{c:ax}(h:Pq c)(Z:Int×Int×Int×Int×af)(P:Int×Int×Int×Int×Int×(aa Int)×Int×Int×af)(L:P.2.1=c.box.bH.cap):iter DI aX ((cI 0 c.aV.aI,fJ c,(),(),(),(),(),(),(),(),(),c.queue,(c.queue.length:Int),(0:Int),()),(c,Z,P,(List.range c.queue.length).map (ir c),(List.range c.queue.length).map (eB c),ta c c.queue.length,([]:aa aG),List.replicate c.queue.length false,List.replicate 4 false,()))=some (.inl (((),(),(),(),(),(),(),()),(c,Z,P,(List.range c.queue.length).map (eB c),(List.range c.queue.length).map (nh c),(List.range c.queue.length).map (lz c),rV c c.queue.length,()))):=by
 have O:=h.ql;have vB:=h.pl;have T:=nc h.rf;have U:=wR h;have e:=cB (step:=DI) c.queue.length (λi=>((cI 0 _,fJ c,(),(),(),(),(),(),(),(),(),c.queue,c.queue.length,i,()),(c,Z,P,(List.range _).map (ir c),(List.range c.queue.length).map (eB c),ta c _,(List.range i).map (nh c),rS (lz c) c.queue.length i,rV c i,()))) _ aX (λk C=>by
  have hl:=U7 (f:=lz c) (n:=c.queue.length) (k:=k) (by omega);have Vk:=vm c;have hwl:=Vj c k;have⟨ho,D,Y,o3,o4,o5⟩:=Ej h C;have⟨q1,q2,E⟩:=h.q _ (cT C);rw[pZ C]at q1 q2 E;have CI:(lR c k).write=qL c.queue k:=by rw[Eh C,pZ C]
  refine(aIn (r:=lR c k) (a:=fP c k) (nd:=nh c k) (ct:=nZ c (fP c k).ay) (rd:=dG c (nh c k)) (ib:=Oj c (fP c k).ay) O C (pZ C) (by omega) (Ei _) (by simp;exact C) (by omega) (by simp) (by omega) (by omega) (by rw[CI];exact UX _ D Y U) (acu T.1 D o3) (yQ h.p (aoH h C)) (acd _ _ (by omega)) E h.nw).trans ?_;rw[yW C,aou,L,<- U8 C,List.range_succ,List.map_append];rfl) (by
  unfold DI av xG xI xL;dsimp only;rw[aT,aq,U9]) (bN)
 exact e
def td(f g:Nat->Bool)(n k:Nat):aa Bool:=(List.range n).map λi=>bif Nat.blt i k then f i else g i
def aoU(f g:Nat->Bool)(n:Nat):td f g n 0=(List.range n).map g:=rfl
def aoV(f g:Nat -> Bool)(n:Nat):td f g n n=(List.range n).map f:=by
 refine List.map_congr_left λi hi=>?_
 have hi:=fK.1 hi;rw[show Nat.blt i n=true from jn hi];rfl
def Vl(f g:Nat->Bool)(n k:Nat):(td f g n k).length=n:=by unfold td;simp
def aIE(k:Nat):Nat.blt k k=false:=by
 cases h:Nat.blt k k with
 |false=>rfl
 |true=>simp_all
def aoW{f g:Nat->Bool}{n k:Nat}(C:k<(td f g n k).length):(td f g n k)[k]=g k:=by
 simp only[td,List.getElem_map,iY,aIE,aq]
def aoX{f g:Nat -> Bool}{n k:Nat}(h:k<n):(td f g n k).set k (f k)=td f g n (k+1):=by
 apply List.ext_getElem
 ·rw[gG,Vl,Vl]
 ·intro i E L;rw[List.getElem_set];simp only[td,List.getElem_map,iY];by_cases e:k=i
  ·subst e;rw[bI rfl,show Nat.blt k _=true from jn (dQ _)];rfl
  ·rw[bU e];rcases Nat.lt_or_gt_of_ne e with h3 | h3
   ·have C:Nat.blt i k=false:=by
     cases hb:Nat.blt i k with
     |false=>rfl
     |true=>have:=cZ hb;omega
    have D:Nat.blt i (k+1)=false:=by
     cases hb:Nat.blt i (k+1)with
     |false=>rfl
     |true=>have:=cZ hb;omega
    rw[C,D]
   ·rw[show Nat.blt i k=true from jn h3,show Nat.blt i _=true from jn (by omega)]
def rW(c:ax)(t:Int)(i:Nat):Bool:=lz c i&&(lR c i).dm==t
def aIF{c:ax}(L:c.queue.length <= 12)(t:Int)(Z:Int×Int×Int×Int×af)(P:Int×Int×Int×Int×Int×(aa Int)×Int×Int×af)(jg:aa Bool)(C:aa aG):iter GQ aX (((),(),(),(),(),(),t,c.queue,(c.queue.length:Int),(0:Int),()),(c,Z,P,jg,C,(List.range c.queue.length).map (lz c),()))=some (.inl (((),(),(),(),(),(),()),(c,Z,P,jg,C,(List.range c.queue.length).map (rW c t),()))):=by
 have e:=cB (step:=GQ) c.queue.length (λi=>(((),(),(),(),(),(),t,c.queue,(c.queue.length:Int),(i:Int),()),(c,Z,P,jg,C,td (rW c t) (lz c) c.queue.length i,()))) _ aX (λk D=>by
  have hl:=Vl (rW c t) (lz c) c.queue.length k;rw[<- aoX D];unfold GQ av xG xI xL;dsimp only;rw[aS,au,aA ⟨by omega,by omega⟩,aA ⟨by omega,by omega⟩,aA,bD];simp only[bz,aoW,pZ];have E:rW c t k=(lz c k&&(lR c k).dm==t):=rfl;rw[E];cases lz c k with
  |false=>rw[aq,aA ⟨by omega,by omega⟩,aA];rfl
  |true=>rw[ aA ⟨by omega,by omega⟩,aA];rfl) (by
  unfold GQ av xG xI xL;dsimp only;rw[aT,aq,aoV]) (bN)
 rw[cr,aoU]at e;exact e
def fS(p:Nat->Bool):Nat->Int
 |0=>-1
 |k+1=>bif decide (fS p k<0)&&p k then (k:Int)else fS p k
def En(p:Nat->Bool)(k:Nat):fS p (k+1)=bif decide (fS p k<0)&&p k then (k:Int)else fS p k:=rfl
def vn(p:Nat -> Bool):∀ n,(fS p n = -1 /\ ∀ k,k<n -> p k=false) \/ ∃ j:Nat,j<n/\fS p n=(j:Int)/\p j=true /\ ∀ k,k<j -> p k=false
 |0=>.inl ⟨rfl,λk C=>absurd C (Nat.not_lt_zero k)⟩
 | n+1=>by
  rw[En];rcases vn p n with ⟨D,E⟩|⟨j,D,E,L,O⟩
  ·grind
  ·grind
def vo(D jg C:Nat->Bool)(n:Nat):Int:=
 bif decide (fS (λi=>C i&&D i) n<0)then (bif decide (fS (λi=>C i&&jg i) n<0)then fS C n else fS (λi=>C i&&jg i) n)else fS (λi=>C i&&D i) n
def n5(c:ax)(i:Nat):Bool:=decide ((lR c i).at_<=c.now-c.box.bH.cap)
def aIG{c:ax}(h:Pq c)(C:Nat->Bool):Tw c.queue ((List.range c.queue.length).map C) ((List.range c.queue.length).map (eB c)) c.box.bH.cap c.now=some (vo (n5 c) (eB c) C c.queue.length):=by
 have hq:=h.ql;have hnw:=h.nw;have hcp:=h.cap;have Y:W6 (c.now-c.box.bH.cap)=c.now-c.box.bH.cap:=aR;have jm:∀ (k:Nat),k<c.queue.length->(C k&&n5 c k)=false->AY (((List.range c.queue.length).map C,(List.range c.queue.length).map (eB c),c.box.bH.cap,c.now,fS C k,fS (λi=>C i&&eB c i) k,c.queue,(c.queue.length:Int),(k:Int),()),())=some (.inl (((List.range c.queue.length).map C,(List.range c.queue.length).map (eB c),c.box.bH.cap,c.now,fS C (k+1),fS (λi=>C i&&eB c i) (k+1),c.queue,(c.queue.length:Int),((k+1:Nat):Int),()),())):=by
  intro k D E;rw[En,En];unfold AY av aQ xG xI;dsimp only;rw[aS,au,aA ⟨by omega,by omega⟩];simp only[eS,cU];rw[aT,aq,aA ⟨by omega,by omega⟩];simp only[bz,yW D,Y,pZ];rw[bD];cases L:C k with
  |false=>simp[L]
  | true=>
   rw[L,cw]at E;unfold n5 at E;rw[E,aS (by omega:(k:Int)<(c.queue.length:Int)),aA ⟨by omega,by omega⟩];simp only[bA,aq,au,L,cw];cases eB c k<;>cases decide (fS C k<0)<;>cases decide (fS (λi=>C i&&eB c i) k<0)<;>simp
 unfold Tw vo bE;rw[dx,ak,bF.2 ⟨hcp.1,by omega⟩,bA,aq,dx,ak,bF.2 hnw,bA,aq];rcases vn (λi=>C i&&n5 c i) c.queue.length with ⟨O,T⟩|⟨j,O,T,U,h4⟩
 ·have e:=cB (step:=AY) c.queue.length (λk=>(((List.range c.queue.length).map C,(List.range c.queue.length).map (eB c),c.box.bH.cap,c.now,fS C k,fS (λi=>C i&&eB c i) k,c.queue,(c.queue.length:Int),(k:Int),()),())) (.inr (.inl ((fS C c.queue.length,fS (λi=>C i&&eB c i) c.queue.length,()),()))) aX (λk D=>jm k D (T k D)) (by
   unfold AY av aQ xG xI;dsimp only;rw[aT,aq]) (bN)
  rw[cr]at e
  refine(aZ (λo=>Option.bind o _) e).trans ?_
  rw[ak,O];simp only[Sum.elim_inr,en];by_cases Z:fS (λi=>C i&&eB c i) c.queue.length<0
  ·rw[aT (by omega:¬ fS (λi=>C i&&eB c i) c.queue.length >= 0),aS Z];rfl
  ·rw[aS (by omega:fS (λi=>C i&&eB c i) c.queue.length >= 0),aT Z];rfl
 ·have e:=cB (step:=AY) j (λk=>(((List.range c.queue.length).map C,(List.range c.queue.length).map (eB c),c.box.bH.cap,c.now,fS C k,fS (λi=>C i&&eB c i) k,c.queue,(c.queue.length:Int),(k:Int),()),())) (.inl (((j:Int),()),())) aX (λk D=>jm k (by omega) (h4 k D)) (by
   rw[aU]at U;have h5:=U.2;unfold n5 at h5;unfold AY av aQ xG xI;dsimp only;rw[aS,au,aA ⟨by omega,by omega⟩];simp only[eS,cU];rw[aT,aq,aA ⟨by omega,by omega⟩];simp only[bz,yW O,Y,pZ,U.1,h5,bA,aq,au]) (bN)
  rw[cr]at e
  refine(aZ (λo=>Option.bind o _) e).trans ?_
  rw[ak,T,aT];rfl
def rkN(D jg C:Nat->Bool)(n:Nat):Int:=
 bif decide (fS (λi=>C i&&D i) n<0)then (bif decide (fS (λi=>C i&&jg i) n<0)then (bif decide (fS C n<0)then 0 else 1)else 2)else 3
def aIH{c:ax}(h:Pq c)(C:Nat->Bool):Su c.queue ((List.range c.queue.length).map C) ((List.range c.queue.length).map (eB c)) c.box.bH.cap c.now=some (vo (n5 c) (eB c) C c.queue.length):=by
 have U:=h.ql;have E:=h.nw;have L:=h.cap;have O:W6 (c.now-c.box.bH.cap)=c.now-c.box.bH.cap:=aR;unfold Su bk;rw[ei,ak,bF.2 ⟨L.1,by omega⟩,bA,aq,ei,ak,bF.2 E,bA,aq];have e:=cB (step:=LK) c.queue.length (λk=>((c.queue,(List.range c.queue.length).map C,(List.range c.queue.length).map (eB c),c.box.bH.cap,c.now,vo (n5 c) (eB c) C k,rkN (n5 c) (eB c) C k,(k:Int),()),())) (.inl ((vo (n5 c) (eB c) C c.queue.length,()),())) aX (λk D=>by
  have Y:=vn C k;have Z:=vn (λi=>C i&&eB c i) k;have ho:=vn (λi=>C i&&n5 c i) k;unfold LK av xG xI;dsimp only;simp only[eS,cU];rw[aS,au,au,aA ⟨by omega,by omega⟩];simp only[bz,yW D,O,pZ];rw[bD];unfold vo rkN;rw[En,En,En];have hold:decide ((lR c k).at_<=c.now-c.box.bH.cap)=n5 c k:=rfl;rw[hold];cases T:C k with
  |false=>simp[T]
  | true=>
   simp only[bA,aq,cw];rw[aA ⟨by omega,by omega⟩,aA ⟨by omega,by omega⟩];generalize fS (λi=>C i&&n5 c i) k=o at *
   generalize fS (λi=>C i&&eB c i) k=u at *
   generalize fS C k=a at *
   have ao:a<0\/0<=a:=by omega
   have uo:u<0\/0<=u:=by omega
   have oo:o<0\/0<=o:=by omega
   have kn:¬ (k:Int)<0:=by omega
   rcases ao with ao|ao<;>rcases uo with uo|uo<;>rcases oo with oo|oo<;>cases eB c k<;>cases n5 c k<;>simp[D,ao,uo,oo,kn,Int.not_lt.2 ao,Int.not_lt.2 uo,Int.not_lt.2 oo]) (by
  unfold LK av xG xI;dsimp only;rw[aT,aq]) (bN)
 rw[cr]at e
 refine(aZ (λo=>Option.bind o _) e).trans ?_
 rfl
def rX:aG:=⟨0,0,0,0⟩
def rY(c:ax):Int:=match qD c.shares (rV c c.queue.length)with
 |some y=>y.2
 |none=>0
def oT(c:ax):Int:=vo (n5 c) (eB c) (rW c (rY c)) c.queue.length
def Bq(c:ax):aG×Int:=bif decide (oT c<0)then (rX,-1)else (nh c (oT c).toNat,oT c)
def aoY{c:ax}(h:Pq c):∃ l,qD c.shares (rV c c.queue.length)=some (l,rY c):=by
 have⟨y,t,e,_⟩:=ab7 (rV c c.queue.length) (by have:=h.shl;omega) h.sh (by rw[Vj,h.shl]);refine⟨y,?_⟩;unfold rY;rw[e]
def aoZ(c:ax):-1 <= oT c/\oT c<c.queue.length:=by
 unfold oT vo;rcases vn _ _ with ⟨C,_⟩|⟨j,C,L,_⟩
 ·rw[C,aS,au];rcases vn _ _ with ⟨D,_⟩ | ⟨j,D,O,_⟩
  ·rw[D,aS,au];rcases vn (rW c (rY c)) c.queue.length with ⟨E,_⟩|⟨j,E,T,_⟩<;>omega
  ·grind
 ·grind
def aII{c:ax}(h:Pq c):TA c (cI 0 c.aV.aI) (fJ c)=some (Bq c):=by
 have E:=h.ql;have⟨l,hl⟩:=aoY h;have hb:=aoZ c;unfold TA bk xL;rw[bI ⟨by omega,by omega,by omega⟩,bz,aH5 h,ak];simp only[en];rw[bI ⟨by omega,by omega,by omega⟩,bI ⟨by omega,by omega,by omega⟩,bz,aH6 h,ak];simp only[en];rw[bI ⟨by omega,by omega,by omega⟩,bI (by decide),bz,show (4:Int).toNat=4 from rfl,aID h _ _ rfl,ak];simp only[en];rw[hl,ak];dsimp only;rw[aIF E,ak];simp only[en];rw[aIG h,ak];show (bif decide (oT c<0)then _ else _)=_;unfold Bq;by_cases C:oT c<0
 ·rw[aS C];rfl
 ·have L:(oT c).toNat<c.queue.length:=by omega
  rw[aT C,aq,aq];have O:¬ vo (n5 c) (eB c) (rW c (rY c)) c.queue.length<0:=C;have D:=L;rw[aA ⟨by omega,by simp only[eS,cU];exact D⟩,aA (by simp only[eS,cU];exact D)];simp only[List.getElem_map,iY];rfl
def acA(l:aa aJ)(b:Int)(hl:l.length <= 1048576):F0 l b=some (l.any λa=>a.ay==b):=by
 have E:=sY (λa:aJ=>a.ay==b) l;unfold F0 bE;rw[Hy];have e:=cB (step:=FZ) (de (λa:aJ=>a.ay==b) l) (λi=>((l,b,(i:Int),()),())) (if de (λa:aJ=>a.ay==b) l<l.length then .inl ((true,()),())else .inr (.inl ((),()))) aX (λk h=>by
  have D:=mG h (by omega);unfold FZ av aQ xG xI;dsimp only;rw[aS,au,aA ⟨by omega,by omega⟩];simp only[bz];rw[D,aq,bD]) (by
  by_cases C:de (λa:aJ=>a.ay==b) l<l.length
  ·have D:=pW C;unfold FZ av aQ xG xI;dsimp only;simp[*]
  ·unfold FZ av aQ xG xI;dsimp only;rw[aT,aq,bU C]) (bN)
 rw[cr]at e
 refine(aZ (λo=>Option.bind o _) e).trans ?_
 by_cases C:de (λa:aJ=>a.ay==b) l<l.length
 ·rw[bI C,aS C];rfl
 ·rw[bU C,aT C];rfl
def ao0{c:ax}(h:Pq c)(a:aJ):(iter F2 aX ((c,fJ c,(List.range c.queue.length).map (ir c),(),(0:Int),()),((a.ay,a.row,a.bT,()),()))).bind (Sum.elim (λD=>some D.1.1) (Sum.elim (λz28=>some true) (λz=>nomatch z)))=some (!yX c c.queue.length a.ay):=by
 have hq:=h.ql;have E:=wR h;have e:=gk (step:=F2) (List.range c.queue.length) (λi=>!(ir c i&&eB c i&&a.ay==(fP c i).ay)) (λi=>((c,fJ c,(List.range c.queue.length).map (ir c),(),(i:Int),()),((a.ay,a.row,a.bT,()),()))) (.inl ((false,()),())) (.inr (.inl ((),()))) aX (λk C=>by
  rw[cU]at C;have L:=vm c;have hl4:((List.range c.queue.length).map (ir c)).length=c.queue.length:=by simp
  have⟨ho,O,T,o3,o4,U⟩:=Ej h C;have Y:=an5 (r:=c.br) (a:=fP c k) U O T E;rw[iY];unfold F2 av aQ xG xI;dsimp only;rw[aS,au,aA ⟨by omega,by omega⟩];simp only[bz,yW C];rw[bD];cases ir c k with
  |false=>rfl
  | true=>
   rw[au,aA ⟨by omega,by omega⟩];simp only[Ei];rw[aA ⟨by omega,by omega⟩,Y,ak,Bool.beq_comm];have jg:eB c k=wO c.br (fP c k):=rfl;rw[jg];cases a.ay==(fP c k).ay<;>cases wO c.br (fP c k)<;>rfl) (by
  rw[cU];have L:=vm c;unfold F2 av aQ xG xI;dsimp only;rw[aT,aq]) (by rw[cU];exact bN)
 rw[cr]at e;rw[e,ak];have Z:(List.range c.queue.length).all (λi=>!(ir c i&&eB c i&&a.ay==(fP c i).ay)) = !yX c c.queue.length a.ay:=by
  unfold yX;rw[List.any_eq_not_all_not,Bool.not_not]
 rw[Z];cases yX c c.queue.length a.ay<;>rfl
def aIJ{c:ax}(h:Pq c){k:Nat}(C:k<c.queue.length):Sq c (fJ c) ((List.range c.queue.length).map (ir c)) (k:Int)=some (lz c k):=by
 have hq:=h.ql;have vB:=h.pl;have O:=nc h.rf;have T:=wR h;have Vk:=vm c;have hl4:((List.range c.queue.length).map (ir c)).length=c.queue.length:=by simp
 obtain⟨ho,E,U,Y,o4,o5⟩:=Ej h C;obtain⟨q1,q2,Z⟩:=h.q _ (cT C);rw[pZ C]at Z;have hnw:=h.nw;have CI:(lR c k).write=qL c.queue k:=by rw[Eh C,pZ C]
 have hnd:AB c.br (fP c k) (lR c k).write=some (nh c k):=by rw[CI,an3];exact UX _ E U T
 have hw:W6 (c.now-(lR c k).at_)=c.now-(lR c k).at_:=aR;unfold Sq xI bE;rw[aA ⟨by omega,by omega⟩];simp only[bz,Ei];rw[aA ⟨by omega,by omega⟩];simp only[yW C,(Vi O.1 E Y),ak,pZ];unfold lz;cases ir c k with
 |false=>rfl
 | true=>
  simp only[bA,aq,cw];cases nZ c (fP c k).ay with
  |true=>rfl
  | false=>
   rw[aq,aA ⟨by omega,by omega⟩,hnd,ak,UU h.p (aoH h C),ak];cases dG c (nh c k)with
   |false=>rfl
   | true=>
    simp only[bA,gW,aq,cw,acA _ _ (show c.pending.length<=1048576 by omega),ak,ao0 h,hw];have Cw:(c.pending.any λa=>a.ay==(fP c k).ay)=Oj c (fP c k).ay:=rfl;have hyg:decide (c.now-(lR c k).at_ >= c.box.bH.cap) = !Vh c k:=by
     unfold Vh;by_cases L:c.now-(lR c k).at_<c.box.bH.cap
     ·rw[aS L,aT];rfl
     ·rw[aT L,aS];rfl
    rw[Cw,hyg];by_cases D:(nh c k).kind=1
    ·have k4:((nh c k).kind==(4:Int))=false:=by rw[D];rfl
     have k4':((nh c k).kind != (4:Int))=true:=by rw[D];rfl
     have D:((nh c k).kind==(1:Int))=true:=by rw[D];rfl
     rw[D,k4,k4'];cases Oj c (fP c k).ay<;>rfl
    ·have D:((nh c k).kind==(1:Int))=false:=by simpa using D
     rw[D,bne];cases (nh c k).kind==(4:Int)with
     |false=>rfl
     | true=>
      cases Oj c (fP c k).ay with
      |true=>rfl
      | false=>
       simp only[Bool.false_or,bA,au,aq,cw,gW];refine(aA (⟨by omega,C⟩:0<=(k:Int)/\k<c.queue.length)).trans ?_;cases Vh c k with
       |false=>rw[Bool.and_false];rfl
       |true=>rw[Bool.and_true];exact ao0 h _
def aIK{c:ax}(h:Pq c):Sv c=some (Bq c):=by
 have hq:=h.ql;have U:=wR h;have Vk:=vm c;have⟨l,hl⟩:=aoY h;have hb:=aoZ c;have e:=cB (step:=LL) c.queue.length (λi=>((c,(),(),(),(),(),(),(i:Int),()),(((0:Int),(0:Int),(0:Int),(0:Int),()),fJ c,(List.range c.queue.length).map (ir c),(List.range i).map (lz c),(List.range i).map (eB c),rV c i,()))) (.inl ((c,(),(),(),(),(),()),(((0:Int),(0:Int),(0:Int),(0:Int),()),fJ c,(List.range c.queue.length).map (lz c),(List.range c.queue.length).map (eB c),rV c c.queue.length,()))) aX (λk C=>by
  have⟨Z,E,L,o3,o4,Y⟩:=Ej h C;have⟨q1,q2,q3⟩:=h.q _ (cT C);rw[pZ C]at q2;have hwl:=Vj c k;have hh:=an5 (r:=c.br) (a:=fP c k) Y E L U;have jg:eB c k=wO c.br (fP c k):=rfl;have hwt:rV c (k+1)=bif lz c k then (rV c k).set (lR c k).dm.toNat true else rV c k:=rfl;unfold LL av xG xI xL;dsimp only;simp only[eS,cU,lU];rw[aS,au,aIJ h C,ak,cX,au,aA ⟨by omega,by omega⟩,aA];simp only[bz,Ei];rw[hh,ak,au,bD,List.range_succ,List.map_append,List.map_append,List.map_singleton,List.map_singleton,jg,hwt];cases lz c k with
  |false=>rfl
  | true=>
   rw[ aA ⟨by omega,by omega⟩];simp only[pZ];rw[aA ⟨by omega,by omega⟩,aA];rfl) (by
  unfold LL av xG xI xL;dsimp only;rw[aT,aq]) (bN)
 have O:=cB (step:=LM) c.queue.length (λi=>((c,(),(),(),(),rY c,(i:Int),()),(((0:Int),(0:Int),(0:Int),(0:Int),()),fJ c,td (rW c (rY c)) (lz c) c.queue.length i,(List.range c.queue.length).map (eB c),()))) (.inl ((c,(),(),(),(),()),(((0:Int),(0:Int),(0:Int),(0:Int),()),fJ c,(List.range c.queue.length).map (rW c (rY c)),(List.range c.queue.length).map (eB c),()))) aX (λk C=>by
  have D:=Vl (rW c (rY c)) (lz c) c.queue.length k;have ht:rW c (rY c) k=(lz c k&&(lR c k).dm==rY c):=rfl;rw[<- aoX C,ht];unfold LM av xG xI xL;dsimp only;rw[aS,au,aA ⟨by omega,by omega⟩,aA,bD];simp only[bz,aoW];cases lz c k with
  |false=>rw[aq,aA ⟨by omega,by omega⟩,aA];rfl
  | true=>
   rw[ aA ⟨by omega,by omega⟩];simp only[pZ];rw[aA ⟨by omega,by omega⟩,aA];rfl) (by
  unfold LM av xG xI xL;dsimp only;rw[aT,aq,aoV]) (bN)
 rw[cr]at e O;rw[aoU]at O;unfold Sv xI bk xL;rw[aot h,ak,aH2 h,ak,bI (by decide)]
 refine(aZ (λo=>Option.bind o _) e).trans ?_
 rw[ak];simp only[en];rw[anZ _ _ (by have:=h.shl;omega),hl,ak]
 refine(aZ (λo=>Option.bind o _) O).trans ?_
 rw[ak];simp only[en];rw[aIH h,ak];show (bif decide (oT c<0)then _ else _)=_;unfold Bq;by_cases T:oT c<0
 ·rw[aS T];rfl
 ·have D:(oT c).toNat<c.queue.length:=by omega
  have⟨Z,E,L,o3,o4,Y⟩:=Ej h D;rw[aT T,aq,aq];have qa:¬ vo (n5 c) (eB c) (rW c (rY c)) c.queue.length<0:=T;have aHi:(vo (n5 c) (eB c) (rW c (rY c)) c.queue.length).toNat<c.queue.length:=D;rw[aA ⟨by omega,by omega⟩,aA];simp only[Ei];rw[aA ⟨by omega,by omega⟩];simp only[pZ];have CI:(lR c (oT c).toNat).write=qL c.queue (oT c).toNat:=by rw[Eh D,pZ D]
  show (AB c.br (fP c (oT c).toNat) (lR c (oT c).toNat).write).bind _=_;rw[CI,an3,UX _ E L U,ak];rfl
def Vm{α:Type}(p:α -> Bool)(l:aa α):(de p l=l.length/\l.find? p=none) \/ ∃ h:de p l<l.length,l.find? p=some l[de p l]:=by
 have E:=sY p l;rcases Nat.lt_or_ge _ _ with h|h
 ·refine .inr ⟨h,?_⟩;rw[List.find?_eq_some_iff_getElem]
  refine⟨pW h,_,h,rfl,λj C=>?_⟩
  rw[mG C];rfl
 ·refine .inl ⟨by omega,?_⟩;rw[List.find?_eq_none];intro x D;obtain⟨j,C,rfl⟩:=jo.1 D;rw[mG (p:=p) (by omega) C];simp
def Ol(c:ax)(l:aa aG):aG×Bool:=match l.find? (dG c)with
 |some x=>(x,true)
 |none=>(rX,false)
def ao1{c:ax}(h:Pq c){l:aa aG}(hl:l.length <= 1000)(L:∀ x∈l,dS c.config.az x=true):Lx c l=some (Ol c l):=by
 have hi:=sY (dG c) l;have jm:∀ (k:Nat) (C:k<l.length),Dh ((c,l,(),(k:Int),()),(((0:Int),(0:Int),(0:Int),(0:Int),()),()))=some (bif dG c l[k]then .inr (.inl (((),true,()),((l[k].kind,l[k].ay,l[k].row,l[k].bT,()),())))else .inl ((c,l,(),((k+1:Nat):Int),()),(((0:Int),(0:Int),(0:Int),(0:Int),()),()))):=by
  intro k C;unfold Dh av aQ xG xI;dsimp only;rw[aS,au,aA ⟨by omega,by omega⟩];simp only[bz];rw[UU h.p (L _ (cT C)),ak];cases dG c l[k]with
  |false=>rw[aq,bD];rfl
  |true=>simp_all
 unfold Lx Ol bE;rcases Vm (dG c) l with ⟨D,E⟩|⟨D,E⟩
 ·have e:=cB (step:=Dh) l.length _ _ aX (λk C=>by
   rw[jm k C,mG (p:=dG c) (i:=k) (by omega) C];rfl) (by
   unfold Dh av aQ xG xI;dsimp only;rw[aT,aq]) (bN)
  rw[cr]at e
  refine(aZ (λo=>Option.bind o _) e).trans ?_
  rw[E];rfl
 ·have e:=cB (step:=Dh) (de (dG c) l) (λk=>((c,l,(),(k:Int),()),(((0:Int),(0:Int),(0:Int),(0:Int),()),()))) (.inl (((),true,()),((l[de (dG c) l].kind,l[de (dG c) l].ay,l[de (dG c) l].row,l[de (dG c) l].bT,()),()))) aX (λk C=>by
   rw[jm k (by omega),mG (p:=dG c) (i:=k) C (by omega)];rfl) (by
   rw[jm _ D,pW D];rfl) (bN)
  rw[cr]at e
  refine(aZ (λo=>Option.bind o _) e).trans ?_
  rw[E];rfl
def Br(c:ax)(b:Int)(x:aG):aG:=bif (jw c.br b).open_ then ⟨4,b,0,0⟩else x
def acB{c:ax}{b:Int}(x:aG)(C:0 <= b)(h:b.toNat<c.br.aC.length):AV c b x=some (Br c b x):=by
 unfold AV Br xI;rw[aA ⟨C,h⟩,Bk h]
 grind
def acC{c:ax}(x:aG)(C:0 <= x.ay)(h:x.ay.toNat<c.br.aC.length):FY c x=some (Br c x.ay x):=by
 unfold FY Br xI;rw[aA ⟨C,h⟩,Bk h]
 grind
def Vn{c:ax}{b:Int}{x:aG}(h:Pq c)(C:0 <= b/\b<bg c.config.az)(D:dS c.config.az x=true):dS c.config.az (Br c b x)=true:=by
 unfold Br;cases (jw _ b).open_ with
 |false=>exact D
 |true=>exact Bl h.p.R.s7 (.inl rfl) C
def iu(c:ax)(b:Int):aG:=Br c b ⟨5,b,0,0⟩
def ni(c:ax)(i:Nat):aJ:=c.pending.getD i zA
def acD{c:ax}{i:Nat}(h:i<c.pending.length):c.pending[i]=ni c i:=by
 unfold ni;rw[fz,bZ h];rfl
def qP(c:ax)(i:Nat):Bool:=!nZ c (ni c i).ay && !((c.pending.take i).any λa=>a.ay==(ni c i).ay)
def jV(c:ax)(i:Nat):aG:=Br c (ni c i).ay ⟨1,(ni c i).ay,(ni c i).row,0⟩
def qQ(c:ax):aa aG:=(cI 0 c.aV.aI).map (iu c)
def rZ(c:ax)(k:Nat):aa aG:=((List.range k).filter (qP c)).map (jV c)
def acE{c:ax}(h:Pq c){i:Nat}(hi:i<c.pending.length):dA c.config.az (ni c i)=true/\0 <= (ni c i).ay/\(ni c i).ay.toNat<c.br.aC.length/\(ni c i).ay.toNat<c.aV.aI.length/\(ni c i).ay<bg c.config.az:=by
 have C:=h.pe _ (cT hi);rw[acD]at C;have⟨_,D,E,L,O,T,U⟩:=qF C;have:=h.p.bl;have:=h.dl;simp_all
def ao2{c:ax}(h:Pq c){b:Int}(hb:b∈cI 0 c.aV.aI):(0 <= b/\b<bg c.config.az)/\dS c.config.az (iu c b)=true:=by
 obtain⟨j,rfl,C,_⟩:=anV hb;have:=h.dl;have hb:0 <= ((0+j):Int)/\((0+j):Int)<bg c.config.az:=by omega
 exact⟨hb,Vn h hb (Bl h.p.R.s7 (.inr rfl) hb)⟩
def ao3{c:ax}(h:Pq c){i:Nat}(hi:i<c.pending.length):dS c.config.az (jV c i)=true:=by
 have⟨C,D,L,O,E⟩:=acE h hi;exact Vn h ⟨D,E⟩ (aHn C)
def ao4(c:ax)(k:Nat):(rZ c k).length <= k:=by
 unfold rZ
 grind
def aIL{c:ax}(h:Pq c):Si c=some (qQ c++rZ c c.pending.length):=by
 have E:=nc h.rf;have vB:=h.pl;have hdn:=h.dl;have NI:=h.p.bl;have ul:=Ed 0 c.aV.aI;have e:=cB (step:=Ly) c.aV.aI.length (λi=>((c,(),(i:Int),()),((cI 0 (c.aV.aI.take i)).map (iu c),()))) (.inl ((c,(),()),(qQ c,()))) aX (λk C=>by
  have O:=Ed 0 (c.aV.aI.take k);rw[fT]at O;have T:=(Vi (c:=c) (b:=(k:Int)) E.1 (by omega) (by omega))
  have U:nZ c (k:Int)=decide (c.aV.aI[k] >= 4):=by
   unfold nZ;rw[bz,fz,bZ C];rfl
  unfold Ly av xG;dsimp only;rw[aS,au,T,ak,bD,ab2 C,U];cases decide (c.aV.aI[k] >= 4)with
  |false=>rfl
  | true=>
   rw[au,au,acC _ (by show 0 <= (k:Int);omega) (by show (k:Int).toNat<_;omega),ak,eS,lU,cX,List.map_append];rfl) (by
  unfold Ly av xG;dsimp only;rw[aT,aq,iP];rfl) (bN)
 have D:=cB (step:=Lz) c.pending.length (λi=>((c,(),(i:Int),()),(qQ c++rZ c i,()))) (.inl (((),()),(qQ c++rZ c c.pending.length,()))) aX (λk C=>by
  have⟨ho,L,Y,Z,o4⟩:=acE h C;have hpk:=ao4 c k;have hul:(qQ c).length <= 8:=by unfold qQ;rw[eS];omega
  have e3:rZ c (k+1)=rZ c k++(bif qP c k then [jV c k]else []):=by
   unfold rZ;rw[List.range_succ,List.filter_append];cases hp:qP c k<;>simp[hp]
  rw[e3];unfold Lz av xG xI;dsimp only;rw[aS,au,aA ⟨by omega,by omega⟩,bD];simp only[bz,acD,(Vi E.1 L Z),ak,Int.toNat_zero,List.drop_zero];unfold qP;cases nZ c (ni c k).ay with
  |true=>rw[bA,aq,Bool.false_and,aq,List.append_nil]
  | false=>
   rw[gW,au,bI ⟨by omega,by omega,by omega⟩,acA _ _ (by rw[fT];omega),ak,cw];cases (c.pending.take k).any λa=>a.ay==(ni c k).ay with
   |true=>rw[bA,aq,aq,List.append_nil]
   | false=>
    rw[gW,acC _ L Y,ak,List.length_append,lU,cX,List.append_assoc];rfl) (by
  unfold Lz av xG xI;dsimp only;rw[aT,aq]) (bN)
 rw[cr]at e D;unfold Si bk
 refine(aZ (λo=>Option.bind o _) e).trans ?_
 rw[ak];have e0:qQ c++rZ c 0=qQ c:=List.append_nil _;rw[e0]at D
 refine(aZ (λo=>Option.bind o _) D).trans ?_
 rfl
def vp(u:Bool)(l:aa Int)(idle:Nat->Bool)(i:Nat):Bool:=bif u then decide (l.getD i 0 >= 4)else decide (l.getD i 0 > 0)&&idle i
def Bt(r:cS)(idle:Nat->Bool):Int:=ld (vp (decide (((cI 0 r.aI).length:Int) > 0)) r.aI idle) (λi=>r.aI.getD i 0) r.aI.length
def acF(r:cS)(idle:Nat->Bool):-1<=Bt r idle/\Bt r idle<r.aI.length:=wN _ _ _
def aIM{r:cS}(D:fe r=true)(idle:Nat -> Bool):M8 r ((List.range r.aI.length).map idle)=some (Bt r idle):=by
 have hl:=nc D;unfold M8 bk;rw[G9 _ (by omega),ak,D,bA,aq,ab3 D,ak];generalize T:decide (((cI 0 r.aI).length:Int) > 0)=u;have e:=cB (step:=M7) r.aI.length (λi=>(((List.range r.aI.length).map idle,(),u,ld (vp u r.aI idle) (λi=>r.aI.getD i 0) i,r.aI,(r.aI.length:Int),(i:Int),()),((r.aI,r.wait,r.dD,()),()))) (.inl ((ld (vp u r.aI idle) (λi=>r.aI.getD i 0) r.aI.length,()),())) aX (λk E=>by
  have hb:=wN (vp u r.aI idle) (λi=>r.aI.getD i 0) k;rw[HD];generalize ld (vp u r.aI idle) (λi=>r.aI.getD i 0) k=C at hb;have U:r.aI.getD k 0=r.aI[k]:=by rw[fz,bZ E];rfl
  unfold M7 Bh vp av xG xI;dsimp only;rw[aS,au,aA ⟨by omega,by omega⟩];simp only[bz,U,eS,cU];rw[bD,aS (by omega:(k:Int)<(r.aI.length:Int)),au,aA ⟨by omega,by omega⟩];simp only[yW E];by_cases L:C<0
  ·rw[aS L,Bool.true_or];cases u<;>cases decide (r.aI[k] > 0)<;>cases decide (r.aI[k] >= 4)<;>cases idle k<;>rfl
  ·have O:C.toNat<r.aI.length:=by omega
   have Y:r.aI.getD C.toNat 0=r.aI[C.toNat]:=by rw[fz,bZ O];rfl
   have Z:0 <= C/\C.toNat<r.aI.length:=⟨by omega,O⟩
   rw[aT L,Y];simp only[aA Z,aq];cases u<;>cases decide (r.aI[k] > 0)<;>cases decide (r.aI[k] >= 4)<;>cases idle k<;>cases decide (r.aI[k] > r.aI[C.toNat])<;>rfl) (by
  unfold M7 av xG xI;dsimp only;rw[aT,aq]) (bN)
 rw[cr]at e
 refine(aZ (λo=>Option.bind o _) e).trans ?_
 unfold Bt;rw[T];rfl
def aIN{r:cS}(D:fe r=true)(idle:Nat -> Bool):Sw r ((List.range r.aI.length).map idle)=some (Bt r idle):=by
 have hl:=nc D;unfold Sw bk;rw[NK _ (by omega),ak,D,bA,aq,anW D,ak];generalize T:decide (((cI 0 r.aI).length:Int) > 0)=u;have e:=cB (step:=LN) r.aI.length (λi=>(((List.range r.aI.length).map idle,(),u,ld (vp u r.aI idle) (λi=>r.aI.getD i 0) i,(i:Int),()),((r.aI,r.wait,r.dD,()),()))) (.inl ((ld (vp u r.aI idle) (λi=>r.aI.getD i 0) r.aI.length,()),())) aX (λk E=>by
  have hb:=wN (vp u r.aI idle) (λi=>r.aI.getD i 0) k;rw[HD];generalize ld (vp u r.aI idle) (λi=>r.aI.getD i 0) k=C at hb;have U:r.aI.getD k 0=r.aI[k]:=by rw[fz,bZ E];rfl
  have Y:0 <= (k:Int)/\k<r.aI.length:=⟨by omega,E⟩
  unfold LN Bh vp av xG xI;dsimp only;rw[aS,au,aA ⟨by omega,by omega⟩];simp only[bz,U,eS,cU,aA Y];rw[bD,aS (by omega:(k:Int)<(r.aI.length:Int)),au];simp only[yW E];by_cases L:C<0
  ·rw[aS L,Bool.true_or];cases u<;>cases decide (r.aI[k] > 0)<;>cases decide (r.aI[k] >= 4)<;>cases idle k<;>rfl
  ·have O:C.toNat<r.aI.length:=by omega
   have Z:r.aI.getD C.toNat 0=r.aI[C.toNat]:=by rw[fz,bZ O];rfl
   have h4:0 <= C/\C.toNat<r.aI.length:=⟨by omega,O⟩
   rw[aT L,Z];simp only[aA h4,aq];cases u<;>cases decide (r.aI[k] > 0)<;>cases decide (r.aI[k] >= 4)<;>cases idle k<;>cases decide (r.aI[k] > r.aI[C.toNat])<;>rfl) (by
  unfold LN av xG xI;dsimp only;rw[aT,aq]) (bN)
 rw[cr]at e
 refine(aZ (λo=>Option.bind o _) e).trans ?_
 unfold Bt;rw[T];rfl
def n6(w:aa aJ)(r:cC)(b:Nat):Bool:=w.any λa=>a.ay==(b:Int)&&a.row==(jw r (b:Int)).row
def tf(w:aa aJ)(r:cC)(b:Nat):Bool:=(jw r (b:Int)).open_ && !n6 w r b
def zc(r:cC)(eX:Int)(w:aa aJ):Int:=bif eX != 1 then -1 else fS (tf w r) r.aC.length
def acG(r:cC)(eX:Int)(w:aa aJ):-1 <= zc r eX w/\zc r eX w<r.aC.length:=by
 unfold zc;cases eX != 1 with
 |true=>grind
 | false=>
  rw[aq];rcases vn (tf w r) r.aC.length with ⟨C,_⟩|⟨j,C,D,_⟩<;>omega
def aIO{w:aa aJ}{r:cC}{L:aa Int}{b:Nat}{i n:Int}(hb:b<r.aC.length)(hl:r.aC.length<=1048576)(D:w.length<=1000):iter GR aX ((w,(),(b:Int),false,(),n,i,w,(w.length:Int),(0:Int),()),((r.aC,r.bf,()),L,()))=some (.inl ((w,(),(b:Int),n6 w r b,(),n,i,()),((r.aC,r.bf,()),L,()))):=by
 have e:=cB (step:=GR) w.length (λk=>((w,(),(b:Int),((w.take k).any λa=>a.ay==(b:Int)&&a.row==(jw r (b:Int)).row),(),n,i,w,(w.length:Int),(k:Int),()),((r.aC,r.bf,()),L,()))) (.inl ((w,(),(b:Int),n6 w r b,(),n,i,()),((r.aC,r.bf,()),L,()))) aX (λk C=>by
  rw[oG C,List.any_append,List.any_cons,List.any_nil,Bool.or_false,Bk (by rw[bz];exact hb)];unfold GR av xG xI;dsimp only;rw[aS,au,aA ⟨by omega,by omega⟩,bD];simp only[bz];cases (w.take k).any λa=>a.ay==(b:Int)&&a.row==r.aC[b].row with
  |true=>rfl
  | false=>
   rw[aq,Bool.false_or];cases w[k].ay==(b:Int)with
   |false=>rfl
   |true=>rw[au,aA ⟨by omega,hb⟩,cw]) (by
  unfold GR av xG xI;dsimp only;rw[aT,aq,iP];rfl) (bN)
 rw[cr]at e;exact e
def aIP{w:aa aJ}{r:cC}{b:Nat}(hb:b<r.aC.length)(hl:r.aC.length <= 1048576)(D:w.length <= 1000)(o:Bool):iter F4 aX ((w,(),(b:Int),o,(0:Int),()),((r.aC,r.bf,()),()))=some (.inl ((w,(),(b:Int),o || n6 w r b,()),((r.aC,r.bf,()),()))):=by
 have e:=cB (step:=F4) w.length (λk=>((w,(),(b:Int),o || ((w.take k).any λa=>a.ay==(b:Int)&&a.row==(jw r (b:Int)).row),(k:Int),()),((r.aC,r.bf,()),()))) (.inl ((w,(),(b:Int),o || n6 w r b,()),((r.aC,r.bf,()),()))) aX (λk C=>by
  rw[oG C,List.any_append,List.any_cons,List.any_nil,Bool.or_false,Bk (by rw[bz];exact hb)];unfold F4 av xG xI;dsimp only;rw[aS,au,aA ⟨by omega,by omega⟩,bD];simp only[bz];cases w[k].ay==(b:Int)with
  |false=>rw[aq,Bool.false_and,Bool.or_false]
  | true=>
   rw[au,aA ⟨by omega,C⟩,aA ⟨by omega,hb⟩,cw];cases w[k].row==r.aC[b].row with
   |false=>simp[*]
   |true=>rw[au,Bool.or_true,Bool.or_true]) (by
  unfold F4 av xG xI;dsimp only;rw[aT,aq,iP];rfl) (bN)
 rw[cr,List.take_zero,List.any_nil,Bool.or_false]at e;exact e
def ao5(w:aa aJ)(r:cC):∀ k,k <= r.aC.length -> (opens 0 (r.aC.take k)).find? (λb=>!n6 w r b.toNat)=bif decide (fS (tf w r) k<0)then none else some (fS (tf w r) k)
 |0,_=>rfl
 | k+1,E=>by
  have C:=ao5 w r k (by omega);have hb:(jw r (k:Int)).open_=r.aC[k].open_:=by rw[Bk (by rw[bz];omega)];simp only[bz]
  have D:tf w r k=(r.aC[k].open_ && !n6 w r k):=by unfold tf;rw[hb]
  rw[oG (show k<r.aC.length by omega),aaF,fT,Nat.min_eq_left (by omega),fD,List.find?_append,C,En,D];have L:opens k [r.aC[k]]=bif r.aC[k].open_ then [(k:Int)]else []:=rfl
  grind
def ao6(i:Nat)(l:aa c9)(x:Int)(h:x∈opens i l):∃ j:Nat,j<l.length/\x=((i+j:Nat):Int):=by
 induction l generalizing i with
 |nil=>cases h
 | cons d l C=>
  have e:opens i (d :: l)=bif d.open_ then (i:Int) :: opens (i+1) l else opens (i+1) l:=rfl;rw[e]at h;have tl:x∈opens (i+1) l -> ∃ j:Nat,j<(d :: l).length/\x=((i+j:Nat):Int):=λh=>by
   have⟨j,D,E⟩:=C _ h;exact⟨j+1,by simpa using D,by rw[E];omega⟩
  cases L:d.open_ with
  |false=>grind
  | true=>
   rw[L,au]at h;rcases iw.1 h with rfl|h
   ·exact⟨0,by simp,rfl⟩
   ·exact tl h
def aIQ{r:cC}(eX:Int){w:aa aJ}(hl:r.aC.length <= 1048576)(T:w.length <= 1000):M9 r eX w=some (zc r eX w):=by
 unfold M9 zc bE;cases eX != 1 with
 |true=>rfl
 | false=>
  rw[aq,aq,Ue r (by omega),ak];have O:=ao5 w r r.aC.length (dQ _);rw[iP]at O;have hol:=Ud 0 r.aC;have U:=ao6 0 r.aC;generalize hL:opens 0 r.aC=L at *
  have hi:=sY (λb:Int=>!n6 w r b.toNat) L;have jm:∀ (k:Nat) (C:k<L.length),DK ((w,(),(),(L.length:Int),(k:Int),()),((r.aC,r.bf,()),L,()))=some (bif !n6 w r L[k].toNat then .inr (.inl ((L[k],()),()))else .inl ((w,(),(),(L.length:Int),((k+1:Nat):Int),()),((r.aC,r.bf,()),L,()))):=by
   intro k C;have⟨j,E,D⟩:=U _ (cT C);rw[fD]at D;unfold DK av aQ xG bk xL;dsimp only;rw[aS,au,aA ⟨by omega,by omega⟩,aA];simp only[bz,D];rw[aIO E hl T,ak];simp only[en];rw[bD];cases n6 w r j<;>rfl
  rcases Vm (λb:Int=>!n6 w r b.toNat) L with ⟨E,D⟩|⟨E,D⟩
  ·have e:=cB (step:=DK) L.length (λk=>((w,(),(),(L.length:Int),(k:Int),()),((r.aC,r.bf,()),L,()))) (.inr (.inl ((),()))) aX (λk C=>by
    have:=mG (p:=λb:Int=>!n6 w r b.toNat) (q:=L) (i:=k) (by omega) C;rw[jm k C,this];rfl) (by
    unfold DK av aQ xG bk xL;dsimp only;rw[aT,aq]) (bN)
   rw[cr]at e
   refine(aZ (λo=>Option.bind o _) e).trans ?_
   rw[D]at O;by_cases Y:fS (tf w r) r.aC.length<0
   ·rcases vn (tf w r) r.aC.length with ⟨Z,_⟩ | ⟨j,_,k2,_⟩
    ·rw[Z];rfl
    ·omega
   ·grind
  ·have e:=cB (step:=DK) (de (λb:Int=>!n6 w r b.toNat) L) (λk=>((w,(),(),(L.length:Int),(k:Int),()),((r.aC,r.bf,()),L,()))) (.inl ((L[de (λb:Int=>!n6 w r b.toNat) L],()),())) aX (λk C=>by
    have:=mG (p:=λb:Int=>!n6 w r b.toNat) (q:=L) (i:=k) C (by omega);rw[jm k (by omega),this];rfl) (by
    have:=pW (p:=λb:Int=>!n6 w r b.toNat) (q:=L) E;rw[jm _ E,this];rfl) (bN)
   rw[cr]at e
   refine(aZ (λo=>Option.bind o _) e).trans ?_
   rw[D]at O;by_cases Y:fS (tf w r) r.aC.length<0
   ·grind
   ·simp[*]
def aIR{r:cC}(eX:Int){w:aa aJ}(hl:r.aC.length <= 1048576)(L:w.length <= 1000):Sx r eX w=some (zc r eX w):=by
 unfold Sx zc bE;cases eX != 1 with
 |true=>rfl
 | false=>
  have jm:∀ k (C:k<r.aC.length),Dl ((w,(),k,()),((r.aC,r.bf,()),()))=some (bif tf w r k then .inr (.inl ((k,()),()))else .inl ((w,(),((k+1):Int),()),((r.aC,r.bf,()),()))):=by
   intro k C;have hb:(jw r (k:Int)).open_=r.aC[k].open_:=by rw[Bk (by rw[bz];omega)];simp only[bz]
   unfold Dl tf av aQ xG xI bk;dsimp only;rw[aS,au,aA ⟨by omega,by omega⟩,hb];simp only[bz];rw[aIP C hl L,ak];simp only[en];rw[bD];cases r.aC[k].open_<;>cases n6 w r k<;>rfl
  rcases vn (tf w r) _ with ⟨D,E⟩|⟨j,D,E,O,T⟩
  ·have e:=cB (step:=Dl) r.aC.length (λk=>((w,(),(k:Int),()),((r.aC,r.bf,()),()))) (.inr (.inl ((),()))) aX (λk C=>by
    rw[jm k C,E k C];rfl) (by
    unfold Dl av aQ xG xI bk;dsimp only;rw[aT,aq]) (bN)
   rw[cr]at e
   refine(aZ (λo=>Option.bind o _) e).trans ?_
   rw[D];rfl
  ·have e:=cB (step:=Dl) j (λk=>((w,(),(k:Int),()),((r.aC,r.bf,()),()))) (.inl (((j:Int),()),())) aX (λk C=>by
    rw[jm k (by omega),T k C];rfl) (by
    rw[jm j D,O];rfl) (bN)
   rw[cr]at e
   refine(aZ (λo=>Option.bind o _) e).trans ?_
   rw[E];rfl
def cJ(c:ax):Int:=vf c.box.bH.eT c.bf (wM c)
def HK(c:ax)(i:Nat):Bool:=!((fJ c).any λa=>a.ay==(i:Int))
def gU(c:ax):Int:=Bt c.aV (HK c)
def iF(c:ax):Int:=zc c.br c.box.bH.eX (fJ c)
def zd(c:ax):aa aG:=bif decide (gU c >= 0) && !nZ c (gU c)then [iu c (gU c)]else []
def th(c:ax):aa aG:=bif decide (iF c >= 0)then [⟨4,iF c,0,0⟩]else []
def oU(c:ax):aa aG:=bif cJ c==8&&decide (((opens 0 c.br.aC).length:Int) > 0)then [⟨4,(opens 0 c.br.aC).headD 0,0,0⟩]else bif cJ c != 0 then [⟨cJ c,0,0,0⟩]else []
def tj(c:ax)(l:aa aG):aG:=(l.find? (dG c)).getD rX
def fnd_nil(c:ax):tj c []=rX:=rfl
def fnd_cons(c:ax)(x:aG)(l:aa aG):tj c (x :: l)=bif dG c x then x else tj c l:=by
 unfold tj;rw[List.find?_cons];cases dG c x<;>rfl
def Vo(c:ax)(w:Int):ah aG:=
 let D:Int->Int->Int->Int->ah (aG):=λE L O T=>(let U:Bool->ah (aG):=λY=>bif Y then some (⟨E,L,O,T⟩:aG)else some (⟨(0:Int),(0:Int),(0:Int),(0:Int)⟩:aG);bif (E != (0:Int))then (jf c (⟨E,L,O,T⟩:aG)).bind λZ=>(U Z)else (U false));bif (w==(8:Int))then (AP c.br).bind λC=>bif (decide ((C.length:Int) > (0:Int)))then if tW:0<=(0:Int)/\(0:Int).toNat<C.length then if uG:(0:Int).toNat<C.length then (let mB:=C[(0:Int).toNat]'uG;(D (4:Int) mB (0:Int) (0:Int)))else none else none else (D w 0 0 0)else (D w 0 0 0)
def Eo(c:ax)(D:aa aJ)(w:Int):ah aG:=
 (M9 c.br c.box.bH.eX D).bind λC=>bif (C != (-1:Int))then (jf c (⟨(4:Int),C,(0:Int),(0:Int)⟩:aG)).bind λE=>bif E then some (⟨(4:Int),C,(0:Int),(0:Int)⟩:aG)else Vo c w else Vo c w
def ao7(c:ax)(O:aa Int)(D:aa aJ)(w:Int)(idle:aa Bool):ah aG:=
 (M8 c.aV idle).bind λC=>(let E:Bool->ah (aG):=λT=>bif T then (AV c C (⟨(5:Int),C,(0:Int),(0:Int)⟩:aG)).bind λL=>(jf c L).bind λU=>bif U then some L else Eo c D w else Eo c D w;bif (C != (-1:Int))then (wm O C).bind λY=>(E (!Y))else (E false))
def Vp(c:ax):cJ c=0\/6<=cJ c/\cJ c<=9:=aHd _ _ _
def aIS(l:aa Int)(h:0<l.length):l.headD 0=l[0]:=by
 cases l with
 |nil=>cases h
 |cons x l=>rfl
def acH(c:ax)(h:Pq c)(C:0<(opens 0 c.br.aC).length):(0 <= (opens 0 c.br.aC)[0]/\(opens 0 c.br.aC)[0]<bg c.config.az)/\(opens 0 c.br.aC).headD 0=(opens 0 c.br.aC)[0]:=by
 have⟨j,D,E⟩:=ao6 0 _ _ (cT C);have:=h.p.bl;exact⟨by omega,aIS _ C⟩
def aIT{c:ax}(h:Pq c):Vo c (cJ c)=some (tj c (oU c)):=by
 have lH:=wR h;have hw:=Vp c;have D:=h.p.R.s7;have O:cJ c≠0 -> jf c ⟨cJ c,0,0,0⟩=some (dG c ⟨cJ c,0,0,0⟩):=λhn=>yQ h.p (UY D (by omega))
 have T:(bif (cJ c != (0:Int))then (jf c (⟨cJ c,0,0,0⟩:aG)).bind λU=>(bif U then some (⟨cJ c,0,0,0⟩:aG)else some rX)else some rX)=some (tj c (bif cJ c != 0 then [⟨cJ c,0,0,0⟩]else [])):=by
  by_cases C:cJ c=0
  ·rw[C];rfl
  ·rw[ga C,au,au,O C,fnd_cons,fnd_nil]
   grind
 unfold Vo oU;dsimp only;by_cases E:cJ c=8
 ·have Y:(cJ c==8)=true:=by rw[E];rfl
  rw[Y,au,Ue _ (by omega),ak,cw];by_cases L:0<(opens 0 c.br.aC).length
  ·have⟨Z,k2⟩:=acH c h L;rw[aS,au,au,aA ⟨by omega,L⟩,aA,k2];show (bif ((4:Int) != 0)then (jf c ⟨4,(opens 0 c.br.aC)[0],0,0⟩).bind _ else _)=_;rw[yQ h.p (Bl D (.inl rfl) Z),fnd_cons,fnd_nil];cases dG c ⟨4,(opens 0 c.br.aC)[0],0,0⟩<;>rfl
  ·rw[aT,aq];exact T
 ·rwa [kG E,aq,Bool.false_and,aq]
def aIU{c:ax}(h:Pq c):Eo c (fJ c) (cJ c)=some (tj c (th c++oU c)):=by
 have C:=wR h;have E:=h.ql;have L:=h.p.bl;have hb:-1 <= iF c/\iF c<c.br.aC.length:=acG _ _ _;unfold Eo th;rw[aIQ _ C (by rw[vm];omega),ak];show (bif iF c != -1 then (jf c ⟨4,iF c,0,0⟩).bind _ else _)=_;rw[aIT h];by_cases D:iF c >= 0
 ·rw[ga (by omega:¬ iF c = -1),au,aS D,au,yQ h.p (Bl h.p.R.s7 (.inl rfl) (by omega)),ak,List.singleton_append,fnd_cons];cases dG c ⟨4,iF c,0,0⟩<;>rfl
 ·grind
def aIV{c:ax}(h:Pq c):ao7 c (cI 0 c.aV.aI) (fJ c) (cJ c) ((List.range c.aV.aI.length).map (HK c))=some (tj c (zd c++(th c++oU c))):=by
 have Y:=wR h;have L:=nc h.rf;have Z:=h.p.bl;have hdn:=h.dl;have hb:-1 <= gU c/\gU c<c.aV.aI.length:=acF _ _;unfold ao7 zd;rw[aIM h.rf,ak];show (bif gU c != -1 then (wm (cI 0 c.aV.aI) (gU c)).bind λO=>(bif !O then (AV c (gU c) ⟨5,gU c,0,0⟩).bind λD=>(jf c D).bind λC=>bif C then some D else Eo c (fJ c) (cJ c)else Eo c (fJ c) (cJ c))else Eo c (fJ c) (cJ c))=_;rw[aIU h];by_cases T:gU c >= 0
 ·have E:0 <= gU c/\gU c<bg c.config.az:=by omega
  rw[ga (by omega:¬ gU c = -1),au,aS T,cw,(acu L.1 (by omega) (by omega)),ak];cases nZ c (gU c)with
  |true=>rfl
  | false=>
   have U:dS c.config.az (iu c (gU c))=true:=Vn h E (Bl h.p.R.s7 (.inr rfl) E);rw[gW,au,au,acB _ (by omega) (by omega),ak];show ((jf c (iu c (gU c))).bind λC=>bif C then some (iu c (gU c))else _)=_;rw[yQ h.p U,ak,List.singleton_append,fnd_cons]
   grind
 ·grind
def aIW{c:ax}(h:Pq c):Nb c (cI 0 c.aV.aI) (fJ c) ⟨cJ c,0,0,0⟩=some (tj c (zd c++(th c++oU c))):=by
 have D:=wR h;have E:=h.ql;have L:=h.p.bl;have O:=h.dl;have T:=nc h.rf;have C:c.br.aC.length=c.aV.aI.length:=by omega
 have e:=cB (step:=Na) c.br.aC.length (λi=>((cI 0 c.aV.aI,fJ c,(),(),(),(),(c.br.aC.length:Int),(i:Int),()),(c,(cJ c,(0:Int),(0:Int),(0:Int),()),((0:Int),(0:Int),(0:Int),(0:Int),()),(List.range i).map (HK c),()))) _ aX (λk U=>by
  unfold Na av xG;dsimp only;rw[aS,au,acd _ _ (by rw[vm];omega),ak,eS,cU,lU,cX,au,bD,List.range_succ,List.map_append];rfl) (by
  unfold Na av xG;dsimp only;rw[aT,aq]) (bN)
 rw[cr]at e;unfold Nb bk xL
 refine(aZ (λo=>Option.bind o _) e).trans ?_
 rw[ak,C];exact aIV h
def aIX{c:ax}(h:Pq c):(oU c).length <= 1 /\ ∀ x∈oU c,dS c.config.az x=true:=by
 have Y:=Vp c;have D:=h.p.R.s7;have E:(bif cJ c != 0 then [(⟨cJ c,0,0,0⟩:aG)]else []).length <= 1 /\ ∀ x∈(bif cJ c != 0 then [⟨cJ c,0,0,0⟩]else []),dS c.config.az x=true:=by
  by_cases L:cJ c=0
  ·simp_all
  ·rw[ga L];exact⟨dQ _,λx C=>by rw[List.mem_singleton.1 C];exact UY D (by omega)⟩
 unfold oU;cases cJ c==8 with
 |false=>exact E
 | true=>
  by_cases O:0<(opens 0 c.br.aC).length
  ·have⟨T,U⟩:=acH c h O;rw[aS,U];exact⟨dQ _,λx C=>by rw[List.mem_singleton.1 C];exact Bl D (.inl rfl) T⟩
  ·simp_all
def aIY{c:ax}(h:Pq c):(th c).length <= 1 /\ ∀ x∈th c,dS c.config.az x=true:=by
 have E:=h.p.bl;have hb:-1 <= iF c/\iF c<c.br.aC.length:=acG _ _ _;unfold th;by_cases C:iF c >= 0
 ·rw[aS C];exact⟨dQ _,λx D=>by rw[List.mem_singleton.1 D];exact Bl h.p.R.s7 (.inl rfl) (by omega)⟩
 ·grind
def aIZ{c:ax}(h:Pq c):(zd c).length <= 1 /\ ∀ x∈zd c,dS c.config.az x=true:=by
 have L:=h.dl;have hb:-1 <= gU c/\gU c<c.aV.aI.length:=acF _ _;unfold zd;by_cases D:gU c >= 0
 ·have C:0 <= gU c/\gU c<bg c.config.az:=by omega
  rw[aS D];cases nZ c _ with
  |true=>simp_all
  |false=>exact⟨dQ _,λx E=>by rw[List.mem_singleton.1 E];exact Vn h C (Bl h.p.R.s7 (.inr rfl) C)⟩
 ·grind
def aI0{c:ax}(h:Pq c):SA c (cJ c)=some (zd c++(th c++oU c)):=by
 have Y:=wR h;have hq:=h.ql;have NI:=h.p.bl;have hdn:=h.dl;have Z:=nc h.rf;have EK:c.br.aC.length=c.aV.aI.length:=by omega
 have tJ:-1 <= gU c/\gU c<c.aV.aI.length:=acF _ _;have gZ:-1 <= iF c/\iF c<c.br.aC.length:=acG _ _ _;have hol:=Ud 0 c.br.aC;have e:=cB (step:=LO) c.br.aC.length (λi=>((c,cJ c,(),(),(),(i:Int),()),(([]:aa aG),fJ c,(List.range i).map (HK c),()))) (.inl ((c,cJ c,(),(),(),()),(([]:aa aG),fJ c,(List.range c.br.aC.length).map (HK c),()))) aX (λk hk=>by
  unfold LO av xG;dsimp only;rw[aS,au,acA _ _ (by rw[vm];omega),ak,eS,cU,lU,cX,au,bD,List.range_succ,List.map_append];rfl) (by
  unfold LO av xG;dsimp only;rw[aT,aq]) (bN)
 rw[cr]at e;have D:∀l:aa aG,l.length <= 5 -> bM (l.length+1)=true:=λl hl=>cX
 -- the end
 have tl:∀ l:aa aG,l.length <= 5 -> (bif (cJ c==(8:Int))then (bif (decide (((opens 0 c.br.aC).length:Int) > (0:Int)))then (if L:0 <= (0:Int)/\(0:Int).toNat<(opens 0 c.br.aC).length then if C:(0:Int).toNat<(opens 0 c.br.aC).length then (bif bM (l.length+([(⟨(4:Int),(opens 0 c.br.aC)[(0:Int).toNat]'C,(0:Int),(0:Int)⟩:aG)]:aa aG).length)then some (l++([(⟨(4:Int),(opens 0 c.br.aC)[(0:Int).toNat]'C,(0:Int),(0:Int)⟩:aG)]:aa aG))else none)else none else none)else (bif (cJ c != (0:Int))then bif bM (l.length+([(⟨cJ c,(0:Int),(0:Int),(0:Int)⟩:aG)]:aa aG).length)then some (l++([(⟨cJ c,(0:Int),(0:Int),(0:Int)⟩:aG)]:aa aG))else none else some l))else (bif (cJ c != (0:Int))then bif bM (l.length+([(⟨cJ c,(0:Int),(0:Int),(0:Int)⟩:aG)]:aa aG).length)then some (l++([(⟨cJ c,(0:Int),(0:Int),(0:Int)⟩:aG)]:aa aG))else none else some l))=some (l++oU c):=by
  intro l hl;have z:(bif (cJ c != (0:Int))then bif bM (l.length+([(⟨cJ c,(0:Int),(0:Int),(0:Int)⟩:aG)]:aa aG).length)then some (l++([(⟨cJ c,(0:Int),(0:Int),(0:Int)⟩:aG)]:aa aG))else none else some l)=some (l++(bif cJ c != 0 then [(⟨cJ c,0,0,0⟩:aG)]else [])):=by
   rw[lU,D l hl];cases cJ c != 0 with
   |true=>rfl
   |false=>rw[aq,aq,List.append_nil]
  unfold oU;cases cJ c==8 with
  |false=>exact z
  | true=>
   rw[au,cw];by_cases E:0<(opens 0 c.br.aC).length
   ·have⟨k1,k2⟩:=acH c h E;rw[aS (by omega:((opens 0 c.br.aC).length:Int) > 0),au,au,aA ⟨by omega,E⟩,aA (show Int.toNat 0<(opens 0 c.br.aC).length from E),lU,D l hl,au,k2];rfl
   ·rw[aT (by omega:¬ ((opens 0 c.br.aC).length:Int) > 0),aq,aq];exact z
 unfold SA bk xL;rw[aot h,ak]
 refine(aZ (λo=>Option.bind o _) e).trans ?_
 rw[ak,EK];simp only[en,aIN h.rf,ak,aIR _ Y (show (fJ c).length <= 1000 by rw[vm];omega),amZ _ (show c.br.aC.length<1073741823 by omega)];have er:Bt c.aV (HK c)=gU c:=rfl;have ec:zc c.br c.box.bH.eX (fJ c)=iF c:=rfl;rw[er,ec];have h1:∀ l:aa aG,l.length <= 4 -> (bif decide (iF c >= 0)then bif bM (l.length+([(⟨4,iF c,0,0⟩:aG)]:aa aG).length)then some ((l++([(⟨4,iF c,0,0⟩:aG)]:aa aG))++oU c)else none else some (l++oU c))=some (l++(th c++oU c)):=by
  intro l hl;unfold th;rw[lU,D l (by omega)];cases decide (iF c >= 0)with
  |true=>rw[au,au,List.append_assoc];rfl
  |false=>rfl
 have O:∀ l:aa aG,l.length <= 1 -> (bif decide (iF c >= 0)then bif bM (l.length+([(⟨4,iF c,0,0⟩:aG)]:aa aG).length)then (bif (cJ c==(8:Int))then (bif (decide (((opens 0 c.br.aC).length:Int) > (0:Int)))then (if L:0 <= (0:Int)/\(0:Int).toNat<(opens 0 c.br.aC).length then if C:(0:Int).toNat<(opens 0 c.br.aC).length then (bif bM ((l++([(⟨4,iF c,0,0⟩:aG)]:aa aG)).length+([(⟨(4:Int),(opens 0 c.br.aC)[(0:Int).toNat]'C,(0:Int),(0:Int)⟩:aG)]:aa aG).length)then some ((l++([(⟨4,iF c,0,0⟩:aG)]:aa aG))++([(⟨(4:Int),(opens 0 c.br.aC)[(0:Int).toNat]'C,(0:Int),(0:Int)⟩:aG)]:aa aG))else none)else none else none)else (bif (cJ c != (0:Int))then bif bM ((l++([(⟨4,iF c,0,0⟩:aG)]:aa aG)).length+([(⟨cJ c,(0:Int),(0:Int),(0:Int)⟩:aG)]:aa aG).length)then some ((l++([(⟨4,iF c,0,0⟩:aG)]:aa aG))++([(⟨cJ c,(0:Int),(0:Int),(0:Int)⟩:aG)]:aa aG))else none else some (l++([(⟨4,iF c,0,0⟩:aG)]:aa aG))))else (bif (cJ c != (0:Int))then bif bM ((l++([(⟨4,iF c,0,0⟩:aG)]:aa aG)).length+([(⟨cJ c,(0:Int),(0:Int),(0:Int)⟩:aG)]:aa aG).length)then some ((l++([(⟨4,iF c,0,0⟩:aG)]:aa aG))++([(⟨cJ c,(0:Int),(0:Int),(0:Int)⟩:aG)]:aa aG))else none else some (l++([(⟨4,iF c,0,0⟩:aG)]:aa aG))))else none else (bif (cJ c==(8:Int))then (bif (decide (((opens 0 c.br.aC).length:Int) > (0:Int)))then (if L:0 <= (0:Int)/\(0:Int).toNat<(opens 0 c.br.aC).length then if C:(0:Int).toNat<(opens 0 c.br.aC).length then (bif bM (l.length+([(⟨(4:Int),(opens 0 c.br.aC)[(0:Int).toNat]'C,(0:Int),(0:Int)⟩:aG)]:aa aG).length)then some (l++([(⟨(4:Int),(opens 0 c.br.aC)[(0:Int).toNat]'C,(0:Int),(0:Int)⟩:aG)]:aa aG))else none)else none else none)else (bif (cJ c != (0:Int))then bif bM (l.length+([(⟨cJ c,(0:Int),(0:Int),(0:Int)⟩:aG)]:aa aG).length)then some (l++([(⟨cJ c,(0:Int),(0:Int),(0:Int)⟩:aG)]:aa aG))else none else some l))else (bif (cJ c != (0:Int))then bif bM (l.length+([(⟨cJ c,(0:Int),(0:Int),(0:Int)⟩:aG)]:aa aG).length)then some (l++([(⟨cJ c,(0:Int),(0:Int),(0:Int)⟩:aG)]:aa aG))else none else some l)))=some (l++(th c++oU c)):=by
  intro l hl;rw[tl _ (by rw[List.length_append,lU];omega),tl _ (by omega)];exact h1 l (by omega)
 have T:=O [] (by simp);unfold zd;by_cases U:gU c >= 0
 ·have hv:0 <= gU c/\gU c<bg c.config.az:=by omega
  rw[aS U,au,cw,(Vi Z.1 (by omega) (by omega)),ak];cases nZ c (gU c)with
  |true=>exact T
  | false=>
   rw[gW,au,au,acC _ (by show 0 <= gU c;omega) (by show (gU c).toNat<_;omega),ak,List.length_nil,lU,cX,au];exact O [iu c (gU c)] (dQ _)
 ·rw[aT U,aq,Bool.false_and,aq];exact T
def acI(c:ax):ah aG:=(qQ c++rZ c c.pending.length).find? (dG c)
def Bu(c:ax):aG×Int:=
 bif c.bf.state != 0 then (bif cJ c != 0 then (bif dG c ⟨cJ c,0,0,0⟩then (⟨cJ c,0,0,0⟩,-1)else (rX,-1))else (rX,-1))else
 match acI c with
 |some x=>(x,-1)
 |none=>bif decide ((Bq c).2 >= 0)then Bq c else (tj c (zd c++(th c++oU c)),-1)
def aI1(c:ax)(l:aa aG):Ol c l=(tj c l,(l.find? (dG c)).isSome):=by
 unfold Ol tj;cases l.find? (dG c)<;>rfl
def aI2{c:ax}(h:Pq c):AE c=some (bif decide ((c.trace.length:Int) >= 2000)then (rX,-1)else Bu c):=by
 have D:=h.p.R.s7;have U:=Vp c;have Y:=h.pl;have Z:=nc h.rf;have ul:=Ed 0 c.aV.aI;have E:=aIZ h;have L:=aIY h;have O:=aIX h;unfold AE;cases decide ((c.trace.length:Int) >= 2000)with
 |true=>rfl
 | false=>
  rw[aq,aq,anY h.rf,ak,aHc _ _ _ h.eT h.pw,ak];have T:vf c.box.bH.eT c.bf (wM c)=cJ c:=rfl;rw[T];unfold Bu;cases c.bf.state != 0 with
  | true=>
   rw[au,au];by_cases C:cJ c=0
   ·rw[C];rfl
   ·rw[kG C,ga C,UU h.p (UY D (by omega))];cases dG c ⟨cJ c,0,0,0⟩<;>rfl
  | false=>
   rw[aq,aq,aIL h,ak,ao1 h (by
    rw[List.length_append];have:=ao4 c c.pending.length;have:(qQ c).length=(cI 0 c.aV.aI).length:=by unfold qQ;rw[eS]
    omega) (λx hx=>by
    rcases List.mem_append.1 hx with hx|hx
    ·obtain⟨b,hb,rfl⟩:=List.mem_map.1 hx;exact(ao2 h hb).2
    ·obtain⟨i,hi,rfl⟩:=List.mem_map.1 hx;exact ao3 h (fK.1 (List.mem_filter.1 hi).1)),ak]
   unfold Ol acI;cases (qQ c++rZ c c.pending.length).find? (dG c)with
   |some x=>rfl
   | none=>
    dsimp only;rw[aq,aIK h,ak];cases decide ((Bq c).2 >= 0)with
    |true=>rfl
    | false=>
     rw[aq,aq,aI0 h,ak,ao1 h (by rw[List.length_append,List.length_append];omega) (λx hx=>by
      rcases List.mem_append.1 hx with hx|hx
      ·exact E.2 x hx
      ·rcases List.mem_append.1 hx with hx | hx
       ·exact L.2 x hx
       ·exact O.2 x hx),ak,aI1]
def aI3(p:Nat -> Bool)(n:Nat):de p (List.range n) <= n/\(∀ k,k<de p (List.range n) -> p k=false)/\(de p (List.range n)<n -> p (de p (List.range n))=true):=by
 have C:=sY p (List.range n);rw[cU]at C
 refine⟨C,λk D=>?_,λE=>?_⟩
 ·have:=mG D (by rw[cU];omega);simp_all
 ·have:=pW (p:=p) (q:=List.range n) (by rw[cU];exact E)
  rwa [iY]at this
def aI4(c:ax)(n:Nat):(rZ c n).find? (dG c)=if de (λi=>qP c i&&dG c (jV c i)) (List.range n)<n then some (jV c (de (λi=>qP c i&&dG c (jV c i)) (List.range n)))else none:=by
 unfold rZ;rw[List.find?_map,List.find?_filter];have e:(List.range n).find? (λa=>decide (qP c a=true/\(dG c ∘ jV c) a=true))=(List.range n).find? (λi=>qP c i&&dG c (jV c i)):=by
  simp_all
 rw[e];rcases Vm (λi=>qP c i&&dG c (jV c i)) (List.range n)with ⟨C,D⟩|⟨C,D⟩
 ·simp_all
 ·grind
def aI5{c:ax}(h:Pq c):TB c=some (Bu c):=by
 have Z:=h.p.R.s7;have hw:=Vp c;have vB:=h.pl;have hdl:=nc h.rf;have ul:=Ed 0 c.aV.aI;have NI:=h.p.bl;have hdn:=h.dl;unfold TB bE;rw[ab3 h.rf,ak,anX h.rf,ak,aHb _ _ _ h.eT h.pw,ak];have ew:vf c.box.bH.eT c.bf (wM c)=cJ c:=rfl;rw[ew];unfold Bu;cases c.bf.state != 0 with
 | true=>
  rw[au,au];by_cases T:cJ c=0
  ·rw[T];rfl
  ·rw[ga T,au,au,yQ h.p (UY Z (by omega)),ak];cases dG c ⟨cJ c,0,0,0⟩<;>rfl
 | false=>
  rw[aq,aq];have jm:∀ (k:Nat) (C:k<(cI 0 c.aV.aI).length),DL (((),(),(),(),(),((cI 0 c.aV.aI).length:Int),(k:Int),()),(c,((0:Int),(0:Int),(0:Int),(0:Int),()),cI 0 c.aV.aI,(cJ c,(0:Int),(0:Int),(0:Int),()),()))=some (bif dG c (iu c (cI 0 c.aV.aI)[k])then .inr (.inl (((),(-1:Int),()),(((iu c (cI 0 c.aV.aI)[k]).kind,(iu c (cI 0 c.aV.aI)[k]).ay,(iu c (cI 0 c.aV.aI)[k]).row,(iu c (cI 0 c.aV.aI)[k]).bT,()),())))else .inl (((),(),(),(),(),((cI 0 c.aV.aI).length:Int),((k+1:Nat):Int),()),(c,((0:Int),(0:Int),(0:Int),(0:Int),()),cI 0 c.aV.aI,(cJ c,(0:Int),(0:Int),(0:Int),()),()))):=by
   intro k C;have⟨k1,k2⟩:=ao2 h (cT C);unfold DL av aQ xG xL;dsimp only;rw[aS,au,aA ⟨by omega,by omega⟩,aA];simp only[bz];rw[acB _ (by omega) (by omega),ak];show ((jf c (iu c (cI 0 c.aV.aI)[k])).bind _)=_;rw[yQ h.p k2,ak,bD];cases dG c (iu c (cI 0 c.aV.aI)[k])<;>rfl
  have hfu:(qQ c).find? (dG c)=((cI 0 c.aV.aI).find? (λb=>dG c (iu c b))).map (iu c):=by
   unfold qQ;rw[List.find?_map];rfl
  unfold acI;rw[List.find?_append,hfu,aI4];rcases Vm (λb=>dG c (iu c b)) (cI 0 c.aV.aI)with ⟨L,U⟩|⟨L,U⟩
  ·have e:=cB (step:=DL) (cI 0 c.aV.aI).length (λk=>(((),(),(),(),(),((cI 0 c.aV.aI).length:Int),(k:Int),()),(c,((0:Int),(0:Int),(0:Int),(0:Int),()),cI 0 c.aV.aI,(cJ c,(0:Int),(0:Int),(0:Int),()),()))) (.inr (.inl (((),(),(),(),()),(c,((0:Int),(0:Int),(0:Int),(0:Int),()),cI 0 c.aV.aI,(cJ c,(0:Int),(0:Int),(0:Int),()),())))) aX (λk C=>by
    have:=mG (p:=λb=>dG c (iu c b)) (q:=cI 0 c.aV.aI) (i:=k) (by omega) C;rw[jm k C,this];rfl) (by
    unfold DL av aQ xG xL;dsimp only;rw[aT,aq]) (bN)
   rw[cr]at e
   refine(aZ (λo=>Option.bind o _) e).trans ?_
   rw[ak,U];simp only[Sum.elim_inr,en,Option.map_none,Option.none_or];have⟨i1,i2,i3⟩:=aI3 (λi=>qP c i&&dG c (jV c i)) c.pending.length;have O:∀ (k:Nat) (C:k<c.pending.length),DM (((),(),(),(),c.pending,(c.pending.length:Int),(k:Int),()),(c,((0:Int),(0:Int),(0:Int),(0:Int),()),cI 0 c.aV.aI,(cJ c,(0:Int),(0:Int),(0:Int),()),()))=some (bif qP c k&&dG c (jV c k)then .inr (.inl (((),(-1:Int),()),(((jV c k).kind,(jV c k).ay,(jV c k).row,(jV c k).bT,()),())))else .inl (((),(),(),(),c.pending,(c.pending.length:Int),((k+1:Nat):Int),()),(c,((0:Int),(0:Int),(0:Int),(0:Int),()),cI 0 c.aV.aI,(cJ c,(0:Int),(0:Int),(0:Int),()),()))):=by
    intro k C;have⟨ho,Y,o2,o3,o4⟩:=acE h C;unfold DM av aQ xG xI;dsimp only;rw[aS,au,aA ⟨by omega,by omega⟩,bD];simp only[bz,acD,(acu hdl.1 Y o3),ak,Int.toNat_zero,List.drop_zero];have ek:qP c k=(!nZ c (ni c k).ay && !((c.pending.take k).any λa=>a.ay==(ni c k).ay)):=rfl;rw[ek];cases nZ c (ni c k).ay with
    |true=>rfl
    | false=>
     rw[aq,bI ⟨by omega,by omega,by omega⟩,acd _ _ (by rw[fT];omega),ak];cases (c.pending.take k).any λa=>a.ay==(ni c k).ay with
     |true=>rfl
     | false=>
      rw[aq,acB _ Y o2,ak];show ((jf c (jV c k)).bind _)=_;rw[yQ h.p (ao3 h C)];cases dG c (jV c k)<;>rfl
   by_cases E:de (λi=>qP c i&&dG c (jV c i)) (List.range c.pending.length)<c.pending.length
   ·rw[bI E];generalize hN:de (λi=>qP c i&&dG c (jV c i)) (List.range c.pending.length)=N at *
    have D:=cB (step:=DM) N (λk=>(((),(),(),(),c.pending,(c.pending.length:Int),(k:Int),()),(c,((0:Int),(0:Int),(0:Int),(0:Int),()),cI 0 c.aV.aI,(cJ c,(0:Int),(0:Int),(0:Int),()),()))) (.inl (((),(-1:Int),()),(((jV c N).kind,(jV c N).ay,(jV c N).row,(jV c N).bT,()),()))) aX (λk C=>by
     rw[O k (by omega),i2 k C];rfl) (by
     rw[O N E,i3 E];rfl) (bN)
    rw[cr]at D
    refine(aZ (λo=>Option.bind o _) D).trans ?_
    rfl
   ·rw[bU E];have D:=cB (step:=DM) c.pending.length (λk=>(((),(),(),(),c.pending,(c.pending.length:Int),(k:Int),()),(c,((0:Int),(0:Int),(0:Int),(0:Int),()),cI 0 c.aV.aI,(cJ c,(0:Int),(0:Int),(0:Int),()),()))) (.inr (.inl (((),(),(),(),()),(c,((0:Int),(0:Int),(0:Int),(0:Int),()),cI 0 c.aV.aI,(cJ c,(0:Int),(0:Int),(0:Int),()),())))) aX (λk C=>by
     rw[O k C,i2 k (by omega)];rfl) (by
     unfold DM av aQ xG xI;dsimp only;rw[aT,aq]) (bN)
    rw[cr]at D
    refine(aZ (λo=>Option.bind o _) D).trans ?_
    rw[ak];simp only[Sum.elim_inr,en];rw[aH4 h,ak,aII h,ak];cases decide ((Bq c).2 >= 0)with
    |true=>rfl
    | false=>
     rw[aq,aq];show ((Nb c (cI 0 c.aV.aI) (fJ c) ⟨cJ c,0,0,0⟩).bind _)=_;rw[aIW h,ak]
  ·have e:=cB (step:=DL) (de (λb=>dG c (iu c b)) (cI 0 c.aV.aI)) (λk=>(((),(),(),(),(),((cI 0 c.aV.aI).length:Int),(k:Int),()),(c,((0:Int),(0:Int),(0:Int),(0:Int),()),cI 0 c.aV.aI,(cJ c,(0:Int),(0:Int),(0:Int),()),()))) (.inl (((),(-1:Int),()),(((iu c (cI 0 c.aV.aI)[de (λb=>dG c (iu c b)) (cI 0 c.aV.aI)]).kind,(iu c (cI 0 c.aV.aI)[de (λb=>dG c (iu c b)) (cI 0 c.aV.aI)]).ay,(iu c (cI 0 c.aV.aI)[de (λb=>dG c (iu c b)) (cI 0 c.aV.aI)]).row,(iu c (cI 0 c.aV.aI)[de (λb=>dG c (iu c b)) (cI 0 c.aV.aI)]).bT,()),()))) aX (λk C=>by
    have:=mG (p:=λb=>dG c (iu c b)) (q:=cI 0 c.aV.aI) (i:=k) C (by omega);rw[jm k (by omega),this];rfl) (by
    have:=pW (p:=λb=>dG c (iu c b)) (q:=cI 0 c.aV.aI) L;rw[jm _ L,this];rfl) (bN)
   simp_all
def aI6{r:cC}{x:aG}(C:x.kind <= 5):(gn r x).bf=r.bf:=by
 unfold gn
 grind
def gF.eo{c:ax}(p:gF c)(x:aG):gF (eo c x):=⟨p.dl,p.tl,p.gl,p.t,p.g,p.pd,p.u⟩
def Ck.eo{c:ax}(h:Ck c){x:aG}(C:mY c.config.az c.br x=true)(D:x.kind<=5)(E:c.trace.length<2000):Ck (eo c x):=by
 simp only[mY,aU]at C;exact⟨h.f1,h.f2,h.nw,am8 C.1 C.2.1 C.2.2,aoQ _ h.rd,h.ar,h.sp,h.se,h.rf,((gF.of h.pa).eo x).ok,h.qu,h.sh,h.sl,h.dr,h.pw,h.ps.trans (aI6 D).symm,h.si,h.s1,h.s2,h.s3,h.er,by simp[Proofs.YtnilicojgkhpnaaGreat.eo];omega,h.rp⟩
def Ck.opn{c:ax}(h:Ck c){x:aG}(E:0 <= x.ay)(L:x.ay<bg c.config.az)(O:0 <= x.row)(T:x.row<c.config.az.rows):Ck (vi c x):=by
 have C:=(Bc h.rk).1;have gb:=fG C;have p:=gF.of h.pa;have Vf:=p.tl;have hgl:=p.gl;have U:x.ay.toNat<c.bJ.length:=by omega
 have D:eA c.config.az 100000 (vc c.config.az c.config.dW c.array x.ay x.row):=abY C c.config.dW (by decide) (eA.qO h.ar) E L O T;have Y:∀a∈oR c x,dA c.config.az a=true/\a.bT=0:=λa D=>p.pd a (List.mem_filter.1 D).1
 have Z:(oR c x).Pairwise (λx y=>x≠y):=p.u.filter _;have q:(∀ a∈(vi c x).pending,dA c.config.az a=true/\a.bT=0)/\(vi c x).pending.Pairwise (λx y=>x≠y):=by
  show (∀a∈(bif (s9 c x).2 then (mF c.config.az.rows x.row).foldl (ng x.ay) (oR c x)else oR c x),dA c.config.az a=true/\a.bT=0)/\(bif (s9 c x).2 then (mF c.config.az.rows x.row).foldl (ng x.ay) (oR c x)else oR c x).Pairwise (λx y=>x≠y);cases (s9 c x).2 with
  |false=>simp_all
  | true=>
   refine aoK _ (λn hn=>?_) Y Z
   have:=anj O T n hn;exact yH C E L this.1 this.2 (Int.le_refl 0) (by show 0<_;omega)
 have hp:gF (vi c x):=⟨p.dl,by show ((c.bJ.set x.ay.toNat (s9 c x).1).length:Int)=_;rw[gG];exact p.tl,p.gl,HJ p.t (by unfold s9;rw[lu _ U];exact aIs (p.t _ (cT U)) _ _),p.g,q.1,q.2⟩
 exact⟨h.f1,h.f2,h.nw,h.rk,h.rd,zb C D,h.sp,h.se,h.rf,hp.ok,h.qu,h.sh,h.sl,h.dr,h.pw,h.ps,h.si,h.s1,h.s2,h.s3,h.er,h.tr,h.rp⟩
def Ck.ref{c:ax}(h:Ck c)(hl:c.box.bH.weights.length<1073741823)(E:aN c.config.iQ 1 16=true){b:Int}(L:0 <= b)(O:b<bg c.config.az):Ck (Vd c b):=by
 have C:=(Bc h.rk).1;have U:=fG C;have p:=gF.of h.pa;have Y:=p.dl;have D:eA _ 100000 (qJ _ c.config.dW c.array b c.config.az.rows.toNat):=HG C _ (by decide) (eA.qO h.ar) L O _ (by omega);have T:gF (Vd c b):=⟨by show ((wP c.aV b).aI.length:Int)=_;rw[aoD];exact p.dl,by show ((c.bJ.set b.toNat _).length:Int)=_;rw[gG];exact p.tl,by show ((c.guard.set b.toNat _).length:Int)=_;rw[gG];exact p.gl,HJ p.t (aoL E),HJ p.g (aoM hl h.f1),λa D=>p.pd a (List.mem_filter.1 D).1,p.u.filter _⟩
 exact⟨h.f1,h.f2,h.nw,h.rk,h.rd,zb C D,h.sp,h.se,aIB h.rf (by omega),T.ok,h.qu,h.sh,h.sl,h.dr,h.pw,h.ps,h.si,h.s1,h.s2,h.s3,h.er,h.tr,h.rp⟩
def acJ{T:Type}{p:T->Prop}{l:aa T}{x:T}(h:∀ y∈l,p y)(C:p x):∀ k:Nat,∀ y∈(List.range k).foldl (λd b=>d.set b x) l,p y
 |0=>h
 | k+1=>by
  rw[yU];exact HJ (acJ h C k) C
def ao8{r:cS}(h:fe r=true):∀ k:Nat,fe ⟨(List.range k).foldl (λd b=>d.set b 0) r.aI,r.wait,r.dD⟩=true
 |0=>h
 | k+1=>by
  rw[yU];exact aoT (ao8 h k) k (by omega)
def Ck.U3{c:ax}(h:Ck c)(hl:c.box.bH.weights.length<1073741823)(E:aN c.config.iQ 1 16=true)(n:Nat)(L:(n:Int) <= bg c.config.az):Ck (gN c n []):=by
 have D:=(Bc h.rk).1;have p:=gF.of h.pa;have C:=U2 D c.config.dW (by decide) (eA.qO h.ar) n L;have O:gF (gN c n []):=⟨by show (((List.range n).foldl _ c.aV.aI).length:Int)=_;rw[yV];exact p.dl,by show (((List.range n).foldl _ c.bJ).length:Int)=_;rw[yV];exact p.tl,by show (((List.range n).foldl _ c.guard).length:Int)=_;rw[yV];exact p.gl,acJ p.t (aoL E) n,acJ p.g (aoM hl h.f1) n,λa C=>(by cases C),List.Pairwise.nil⟩
 exact⟨h.f1,h.f2,h.nw,h.rk,h.rd,zb D C,h.sp,h.se,ao8 h.rf n,O.ok,h.qu,h.sh,h.sl,h.dr,h.pw,h.ps,h.si,h.s1,h.s2,h.s3,h.er,h.tr,h.rp⟩
def Ck.acc{c:ax}(h:Ck c){i:Nat}(C:oS c i 100000)(hr:c.cy.length<400):Ck (yZ c i):=by
 have T:=(Bc h.rk).1;have p:=gF.of h.pa;have hi:=C.i;have⟨f1,f3,f4,f5,f6,f7,f8⟩:=C.facts (cT hi);have D:c.queue.getD i yY=c.queue[i]:=lu _ hi;have E:=C.d _ (cT hi);have U:=C.shl;have L:ji (Bp c.shares c.queue[i].dm)=true/\((Bp c.shares c.queue[i].dm).length:Int)=4:=by
  have⟨y,t,e,hl,ho⟩:=aIz ((List.replicate 4 false).set c.queue[i].dm.toNat true) (by omega) h.sh (by simp[U])
  grind
 have Y:hJ (fy (eF c.config.az c.spare)) (c.queue.take i++c.queue.drop (i+1))=true:=((Qk.of h.qu).sub (aIx _ _)).ok;have key:∀ (a:cV) (e:aa bW) (x:cE),eA c.config.az 100000 a -> kW e=true -> Ck (p6 c i a e x):=λa e x Z he=>
  ⟨h.f1,h.f2,h.nw,h.rk,h.rd,zb T Z,h.sp,h.se,h.rf,(show gF (p6 c i a e x)from ⟨p.dl,p.tl,p.gl,p.t,p.g,p.pd,p.u⟩).ok,Y,by unfold p6;rw[D];exact L.1,by unfold p6;rw[D];exact L.2,h.dr,h.pw,h.ps,h.si,h.s1,h.s2,h.s3,he,h.tr,by simp[p6];omega⟩
 unfold yZ;rw[D];dsimp only;cases c.queue[i].write with
 |true=>exact key _ _ _ (C.a.D7 _ (c:=⟨_,false⟩) (Of E.1 E.2).2.1) h.er
 | false=>
  have O:=C.a.syms _ (cT f4);rw[aq,lu _ f4];refine key _ _ _ (C.a.D7 _ (acm O)) ?_;have hec:=Vc O;by_cases e:kK c.array.cells[gp c.config.az (gT c c.queue[i].line)]=0
  ·rw[e];exact h.er
  ·rw[ga e,au];exact aoR h.er ⟨by omega,f5⟩ (by omega)
def Ck.Vq{c:ax}(h:Ck c){x:aG}(C:mY c.config.az c.br x=true)(D:6 <= x.kind/\x.kind <= 9)(U:c.trace.length<2000):Ck (Em (Proofs.YtnilicojgkhpnaaGreat.eo c x) x.kind):=by
 simp[mY,aU]at C;have E:=bF.1 h.nw;have⟨L,O,T⟩:=aIC h.pw h.ps h.si E.2 D C.2.2;have p:=gF.of h.pa;exact⟨h.f1,h.f2,h.nw,am8 C.1 C.2.1 C.2.2,aoQ _ h.rd,h.ar,h.sp,h.se,h.rf,(show gF _ from ⟨p.dl,p.tl,p.gl,p.t,p.g,p.pd,p.u⟩).ok,h.qu,h.sh,h.sl,h.dr,L,O,T,h.s1,h.s2,h.s3,h.er,by simp[Em,aoA,Proofs.YtnilicojgkhpnaaGreat.eo];omega,h.rp⟩
def Ck.iss{c:ax}(L:dU c)(h:Ck c){x:aG}{i:Int}(E:wT c x i=true):Ck (za c x i):=by
 have Y:=Pq.of L h.ok;have O:c.box.bH.weights.length<1073741823:=by
  have:=L.1.1;unfold yL at this;omega
 have Z:aN c.config.iQ 1 16=true:=by
  have:=(Ee O h.f1).1;simp[oK,aU]at this;exact this.2.2.2.2.2.1
 have⟨hb,C,hs,hr⟩:=aoI L Y E;have D:c.trace.length<2000:=by
  simp only[wT,aU,gV,p7]at E;omega
 have hrp:x.kind=2 \/ x.kind=3 -> c.cy.length<400:=λT=>by
  simp only[wT,aU]at E;have e:(x.kind==2 ||x.kind==3)=true:=by rcases T with q|q<;>rw[q]<;>rfl
  rw[e,au]at E;simp[Ok,aU,iZ]at E;omega
 have⟨hg,hlen,T,hbk⟩:=NR C;have hc:dS c.config.az x=true:=by
  simp only[mY,aU]at C
  grind
 have Vf:=(gF.of h.pa).tl;have lH:=Y.p.bl;unfold za;rcases kinds T with q|q|q|q|q|q|q|q|q<;>rw[q]<;>simp only[Int.reduceBEq,Int.reduceBNe,au,aq,Bool.or_true,Bool.or_false,Bool.true_or,Bool.false_or,Bool.or_self]
 ·have⟨U,tJ⟩:=hbk (by omega);have⟨r0,r1⟩:=Ve hc q;exact(h.eo C (by omega) D).opn U (by show x.ay<bg c.config.az;omega) r0 r1
 ·exact(h.eo C (by omega) D).acc ((hs (.inl q)).1.eo x) (hrp (.inl q))
 ·exact(h.eo C (by omega) D).acc ((hs (.inr q)).1.eo x) (hrp (.inr q))
 ·exact h.eo C (by omega) D
 ·have⟨U,tJ⟩:=hbk (by omega);exact(h.eo C (by omega) D).ref O Z U (by show x.ay<bg c.config.az;omega)
 ·have:=h.Vq C (by omega) D;rw[q]at this;exact this
 ·have:=h.Vq C (by omega) D;rw[q]at this;exact this
 ·have:=h.Vq C (by omega) D;rw[q]at this;exact this
 ·have:=h.Vq C (by omega) D;rw[q]at this;exact this.U3 O Z _ (by show (c.bJ.length:Int) <= bg c.config.az;omega)
def tq(d:Int):Int:=if (5:Int)<W6 (d+1)then 5 else W6 (d+1)
def Vr(x:ax):ah ax:=(uB x).bind λC=>bif (C.1.kind != (0:Int))then (sS x C.1 C.2).bind λD=>some D.1 else some x
def Vs(x:ax)(n:Int):ah ax:=bif (decide (n >= (0:Int)))then (yE x n).bind λC=>(yC C.2.1 n C.1.2).bind λD=>Vr D.2.1 else Vr x
def Vt(R:Nat)(M:Int)(m:aa Int)(b j:Nat):Prop:=m.getD (b*R+j) 0=(j:Int)\/((R:Int)<=m.getD (b*R+j) 0/\m.getD (b*R+j) 0<=M/\∀k,k<j->m.getD (b*R+k) 0≠m.getD (b*R+j) 0)
def HL{m:aa Int}{R b k:Nat}(C:k<R)(hl:(b+1)*R <= m.length):(fI m R b)[k]?=some (m.getD (b*R+k) 0):=by
 rw[iN]at hl;rw[Hh,List.getElem?_take_of_lt C,List.getElem?_drop,bZ (by omega),lu]
def ao9{R:Nat}{M:Int}{m:aa Int}{b j:Nat}(D:j<R)(hl:(b+1)*R <= m.length):wB (R:Int) M (fI m R b) j=true ↔ Vt R M m b j:=by
 unfold wB Vt;rw[HL D hl];simp only[eG,aU,fU,bF,gV,List.any_eq_false];have key:(∀ x∈(fI m R b).take j,¬ x=m.getD (b*R+j) 0) ↔ ∀ k,k<j -> m.getD (b*R+k) 0≠m.getD (b*R+j) 0:=by
  constructor
  ·intro h k C;refine h _ ?_;rw[List.mem_iff_getElem?];exact⟨k,by rw[List.getElem?_take_of_lt C,HL (by omega) hl]⟩
  ·intro h x E;have⟨k,C⟩:=List.mem_iff_getElem?.1 E;have L:k<j:=by
    grind
   rw[List.getElem?_take_of_lt L,HL (by omega) hl]at C
   grind
 rw[key,and_assoc]
structure Sp (g:aM) (s:cQ) (bn R:Nat):Prop where
 sb:jU g s.bQ=true
 hb:bg g=(bn:Int)
 hR:g.rows-s.bQ=(R:Int)
 hl:s.map.length=bn*R
 f:∀b,b<bn->∀j,j<R->Vt R (g.rows-1) s.map b j
def Sp.of{g:aM}{s:cQ}(h:kY g s=true):∃ C R,Sp g s C R:=by
 have⟨_,hg,_,_,E,h2,h3,h4⟩:=N9 h;have Y:=fH g;simp only[kY,aU,fU,cx,fK]at h;have⟨Z,hl,O⟩:=h;have⟨R,hR⟩:=fL (show 0 <= g.rows-s.bQ by omega);have⟨C,L⟩:=fL Y.1;rw[hR,L,bz,bz]at hl;have hl:s.map.length=C*R:=by exact_mod_cast hl
 rw[hR,L,bz,bz]at O
 refine⟨C,R,Z,L,hR,hl,λb hb j D=>?_⟩
 have T:(b+1)*R <= s.map.length:=by rw[hl];exact iX R hb
 have U:=Hi T;have e:=aa2 (R:Int) (g.rows-1) (fI s.map R b) (by rw[U]);rw[U]at e;have E:=cx.2 λj D=>O b hb j (fK.1 D)
 rw[e]at E;exact(ao9 D T).1 (cx.1 E j (fK.2 D))
def Sp.ok{g:aM}{s:cQ}{L R:Nat}(h:Sp g s L R):kY g s=true:=by
 have⟨O,T,hR,hl,U⟩:=h;simp only[kY,aU,fU,cx,fK];rw[hR,T,bz,bz]
 refine⟨O,by exact_mod_cast hl,λb hb=>?_⟩
 have C:(b+1)*R <= s.map.length:=by rw[hl];exact iX R hb
 have D:=Hi C;have e:=aa2 (R:Int) (g.rows-1) _ (by rw[D]);rw[D]at e;have Y:=cx.2 λj E=>(ao9 (fK.1 E) C).2 (U b hb j (fK.1 E))
 simp_all
def aI7{R b c r j:Nat}(C:r<R)(E:j<R)(h:b*R+r=c*R+j):b=c/\r=j:=by
 have key:∀ {b c r j:Nat},r<R -> b*R+r=c*R+j -> ¬ b<c:=λ{b c r j} C h D=>by
  have:=iX R (show b+1 <= c from D)
  grind
 grind
def Vu{m:aa Int}{p:Nat}(C:p<m.length)(i:Int)(q:Nat):(m.set p i).getD q 0=if q=p then i else m.getD q 0:=by grind
def Sp.set{g:aM}{s:cQ}{D R:Nat}(h:Sp g s D R){b r:Nat}(hb:b<D)(O:r<R){i:Int}(Y:(R:Int) <= i)(Z:i <= g.rows-1)(hn:∀ k,k<R -> s.map.getD (b*R+k) 0≠i):Sp g ⟨s.bQ,s.map.set (b*R+r) i⟩ D R:=by
 have C:b*R+r<s.map.length:=by
  have:=A9 hb (show r+1 <= R from O);rw[h.hl];omega
 refine⟨h.sb,h.hb,h.hR,by rw[gG];exact h.hl,λc hc j T=>?_⟩
 have E:=h.f c hc j T;unfold Vt at E ⊢;dsimp only;by_cases e:c=b
 ·subst e;by_cases ej:j=r
  ·subst ej;refine .inr ?_;rw[Vu C,bI rfl]
   refine⟨Y,Z,λk L=>?_⟩
   rw[Vu C,bU]
   grind
  ·grind
 ·have U:∀ k,k<R -> ¬ c*R+k=b*R+r:=λk L he=>e (aI7 L O he).1
  rw[Vu C,bU (U j T)];rcases E with E|⟨o1,o2,o3⟩
  ·grind
  ·refine .inr ⟨o1,o2,λk L=>?_⟩
   rw[Vu C,bU (U k (by omega))];simp_all
def Sp.wU{g:aM}{s:cQ}{C R:Nat}(h:Sp g s C R):cG g=true/\cG (eF g s)=true/\eF g s=⟨g.cu,g.aC,(R:Int),g.aO⟩/\bg (eF g s)=(C:Int)/\C <= 8/\R <= 16/\2 <= R/\1 <= g.aO/\g.rows <= 16/\0 <= s.bQ:=by
 have⟨e,D,E,L,O,T,U,Y⟩:=N9 h.ok;have Z:=fH g;have gb:=fG D;have:=h.hb;have hR:=h.hR
 grind
def Sp.bound{g:aM}{s:cQ}{C R:Nat}(h:Sp g s C R){b r:Nat}(hb:b<C)(D:r<R):0<=s.map.getD (b*R+r) 0/\s.map.getD (b*R+r) 0<g.rows:=by
 have hR:=h.hR;have E:=h.wU.2.2.2.2.2.2.2.2.2;rcases h.f b hb r D with e|⟨L,O,_⟩
 ·omega
 ·omega
def acK(g:aM)(b r:Int):AX g b r=some (dA g ⟨b,r,0⟩):=by
 unfold AX;rw[DR,ak]
def Sp.ex{g:aM}{s:cQ}{C R:Nat}(h:Sp g s C R)(b r:Int):dA (eF g s) ⟨b,r,0⟩=true ↔ (0 <= b/\b<(C:Int))/\0 <= r/\r<(R:Int):=by
 have⟨_,O,e,T,_,_,_,Z,_⟩:=h.wU;have er:(eF g s).rows=R:=by rw[e]
 have U:(eF g s).aO=g.aO:=by rw[e]
 constructor
 ·intro Y;have⟨_,D,E,L,a4,_⟩:=qF Y;simp_all
 ·rintro⟨⟨D,E⟩,L,a4⟩;exact yH O D (by rw[T];exact E) L (by rw[er];exact a4) (Int.le_refl 0) (by rw[U];show (0:Int)<_;omega)
def Sp.lens{g:aM}{s:cQ}{D R:Nat}(h:Sp g s D R){b:Nat}(hb:b<D):(b+1)*R <= s.map.length/\s.map.length <= 128/\(fI s.map R b).length=R/\Nat.ble (b*R) ((b+1)*R)=true/\Nat.ble ((b+1)*R) s.map.length=true:=by
 have hl:=h.hl;have E:=h.wU.2.2.2.2.1;have L:=h.wU.2.2.2.2.2.1;have C:(b+1)*R <= s.map.length:=by rw[hl];exact iX R hb
 have O:=Nat.mul_le_mul E L;exact⟨C,by omega,Hi C,jn (by rw[iN];omega),jn C⟩
def aI8{g:aM}{s:cQ}{C R:Nat}(h:Sp g s C R){b:Nat}(hb:b<C)(x:Int):T5 g s (b:Int) x=some (gz (λe=>e==x) (fI s.map R b)):=by
 obtain⟨U,Y,Z,D,E⟩:=h.lens hb;obtain⟨hg,tC,eg,eb,L,O,lI,hc,Hj,_⟩:=h.wU;have T:((s.map.take ((b+1)*R)).drop (b*R))=fI s.map R b:=rfl;unfold T5 bE;rw[D0,ak,acK,ak,(h.ex (b:Int) 0).2 ⟨⟨by omega,by omega⟩,by omega,by omega⟩,bA,aq,Uv h.hR O L hb h.hl,ak];dsimp only;rw[D,E,cw,au,T];have e:=rO (step:=Nv) (fI s.map R b) (λe=>e==x) (λi=>((x,fI s.map R b,((fI s.map R b).length:Int),(i:Int),()),())) (λi=>.inl (((i:Int),()),())) (.inr (.inl ((),()))) aX (λk hk=>by
  unfold Nv av aQ xG xI;dsimp only;rw[aS,au,aA ⟨by omega,by omega⟩];simp only[bz];rw[bD];cases (fI s.map R b)[k]==x<;>rfl) (by
  unfold Nv av aQ xG xI;dsimp only;rw[aT,aq]) (bN)
 rw[cr]at e;rw[e];unfold gz;cases (fI s.map R b).findIdx? (λe=>e==x)<;>rfl
def aI9{g:aM}{a:cV}(h:lN g a=true)(t:aJ)(D n:Int):∃ y,GZ g a t D n=some y/\lN g y=true/\((dA g t&&(aN D 0 10&&aN n 0 15))=false->y=a):=by
 have T:cG g=true:=(UJ h).1;have C:=eA.qO h;by_cases E:(dA g t&&(aN D 0 10&&aN n 0 15))=true
 ·simp only[aU]at E;obtain⟨L,U,Y⟩:=E;have b2:=bF.1 U;have Z:=bF.1 Y;obtain⟨k,rfl⟩:=fL b2.1;have hl:=C.lt L;have O:=C.syms _ (cT hl);have hk:k<a.cells[gp g t].symbols.length:=by rw[O.1];omega
  have hx:=aaK (O.get hk) Z
  refine⟨_,ani C (Int.le_refl _) L hl (by omega) hk Z,zb T (C.D7 _ (c:=⟨_,_⟩) (O.set ⟨hx.1,hx.2.1⟩)),λhe=>?_⟩
  rw[L,U,Y]at he;cases he
 ·refine⟨a,?_,h,λ_=>rfl⟩
  unfold GZ sR xC xL xM;rw[C.copy,ak,C.ok T (Int.le_refl _),ak,au,DR,ak];cases e1:dA g t with
  |false=>rfl
  | true=>
   rw[au,dx,ak];cases e2:aN D 0 10 with
   |false=>rfl
   | true=>
    rw[au,dx,ak,ak];cases e3:aN n 0 15 with
    |false=>rfl
    |true=>exact absurd (by rw[e1,e2,e3];rfl) E
def aJa(b:fM)(C:wG b)(p:fh)(D:p.weights.length<=1048576):T4 b p=some (bif oM p then ⟨b.bH,p,true⟩else b,oM p):=by
 unfold T4;rw[UL b C,ak,Un _ (by omega),ak];cases oM p with
 |false=>rfl
 | true=>
  unfold AM xA xZ;rw[bA,aq,iq _,au,lT];rfl
def aJb{c:ax}(C:eV c=true)(r:aK):eV (sZ c r).1=true/\((sZ c r).2=false -> (sZ c r).1=c):=by
 have h:=Ck.of C;have p:=gF.of h.pa;unfold sZ;cases hb:((!eV c) ||((!(lQ c r).2) ||(c.cy.any λx=>x.id==r.id)))with
 |true=>simp_all
 | false=>
  refine⟨?_,λh=>by cases h⟩
  rw[aq];simp only[oW,Bool.not_eq_false']at hb;have D:hJ (fy (eF c.config.az c.spare)) (lQ c r).1=true:=by
   have E:=hb.2.1;unfold lQ Bf at E ⊢
   grind
  exact Ck.ok ⟨h.f1,h.f2,h.nw,h.rk,h.rd,h.ar,h.sp,h.se,h.rf,(show gF { c with queue:=(lQ c r).1 } from ⟨p.dl,p.tl,p.gl,p.t,p.g,p.pd,p.u⟩).ok,D,h.sh,h.sl,h.dr,h.pw,h.ps,h.si,h.s1,h.s2,h.s3,h.er,h.tr,h.rp⟩
abbrev Om:=ah (af×(ax×af))
def oV(j:ax)(b:fM)(s:aa bY)(d:gP)(p:eN)(u:lV):ax:=⟨j.config,b,j.now,j.br,j.ready,j.array,j.spare,j.aV,j.bJ,j.guard,j.pending,j.queue,s,d,p,u,j.errors,j.trace,j.cy⟩
def Vv(x:ax):Om:=(AE x).bind λC=>(let D:Bool -> Om:=λE=>bif E then (AI x C.1 C.2).bind λL=>some ((),(L.2.1,()))else some ((),(x,()));bif (C.1.kind != (0:Int))then (AF x C.1 C.2).bind λO=>(D O)else (D false))
def Vw(x:ax)(n:Int):Om:=bif (decide (n >= (0:Int)))then (Dn x n).bind λC=>(Dc C.2.1 n C.1.2).bind λD=>Vv D.2.1 else Vv x
def Vx(j:ax):Om:=(Lh j.queue true).bind λT=>(Le j.drain T).bind λD=>(C8 (oV j j.box j.shares D j.bf j.cH)).bind λU=>(Li j.bf U).bind λE=>(Ll j.box ((j.queue.length:Int)==(0:Int))).bind λC=>bif C.2 then (C4 C.1.bH.weights).bind λY=>(sO j.config.az).bind λZ=>(C9 j.cH Z).bind λL=>Vw (oV j C.1 Y.1 ⟨false,C.1.bH.low,C.1.bH.high⟩ E L.1) L.2 else (sO j.config.az).bind λqC=>(C9 j.cH qC).bind λO=>Vw (oV j C.1 j.shares D E O.1) O.2
def vr(c:ax)(n:Int):ax:=⟨c.config,c.box,n,c.br,c.ready,c.array,c.spare,c.aV,c.bJ,c.guard,c.pending,c.queue,c.shares,c.drain,c.bf,c.cH,c.errors,c.trace,c.cy⟩
def acL{g:aM}{s:cQ}{D R:Nat}(h:Sp g s D R)(b r:Int):L9 g s b r=some (bif dA (eF g s) ⟨b,r,0⟩then b*(R:Int)+r else -1):=by
 obtain⟨Z,tC,eg,eb,h8,qz,lI,hc,Hj,O0⟩:=h.wU;have hR:W6 (g.rows-s.bQ)=(R:Int):=by rw[h.hR];exact aR
 unfold L9;rw[aa3,ak,h.ok,bA,aq,rJ,ak,h.hb,hR,aR (n:=(D:Int)-1),aR (n:=(R:Int)-1),ei,ak];by_cases E:0<=b/\b<(D:Int)
 ·rw[bF.2 ⟨E.1,by omega⟩,bA,aq,ei,ak];by_cases O:0<=r/\r<(R:Int)
  ·have L:=(h.ex b r).2 ⟨E,O⟩;obtain⟨b,rfl⟩:=fL E.1;have U:=(h.lens (b:=b) (by omega)).1;have apa:=(h.lens (b:=b) (by omega)).2.1;rw[iN]at U;have Y:W6 ((b:Int)*(R:Int))=((b*R:Nat):Int):=by rw[<-Int.natCast_mul];exact aR
   rw[bF.2 ⟨O.1,by omega⟩,bA,aq,L,au,Y,aR,Int.natCast_mul]
  ·have L:dA (eF g s) ⟨b,r,0⟩=false:=by
    cases C:dA (eF g s) ⟨b,r,0⟩with
    |false=>rfl
    |true=>exact absurd ((h.ex b r).1 C).2 O
   have T:aN r 0 ((R:Int)-1)=false:=by
    cases C:aN r 0 ((R:Int)-1)with
    |false=>rfl
    |true=>have:=bF.1 C;exact absurd ⟨this.1,by omega⟩ O
   rw[T,L];rfl
 ·have L:dA (eF g s) ⟨b,r,0⟩=false:=by
   cases C:dA (eF g s) ⟨b,r,0⟩with
   |false=>rfl
   |true=>exact absurd ((h.ex b r).1 C).1 E
  have T:aN b 0 ((D:Int)-1)=false:=by
   cases C:aN b 0 ((D:Int)-1)with
   |false=>rfl
   |true=>have:=bF.1 C;exact absurd ⟨this.1,by omega⟩ E
  rw[T,L];rfl
def apb{g:aM}{s:cQ}{C R:Nat}(h:Sp g s C R){b r:Nat}(hb:b<C)(L:r<R):yl g s (b:Int) (r:Int)=some (s.map.getD (b*R+r) 0):=by
 have D:=(h.lens hb).1;rw[iN]at D;have E:=(h.ex (b:Int) r).2 ⟨⟨by omega,by omega⟩,by omega,by omega⟩;have e:b*R+r=((b*R+r:Nat):Int):=by rw[Int.natCast_add,Int.natCast_mul]
 unfold yl xI;rw[acL h,ak,E,au,e,aT,aq,aA ⟨by omega,by rw[bz];omega⟩]
 grind
def apc{g:aM}{s:cQ}{C R:Nat}(h:Sp g s C R){b r:Int}(D:dA (eF g s) ⟨b,r,0⟩=false):yl g s b r=some (-1):=by
 unfold yl xI;rw[acL h,ak,D];rfl
def aJc(b:fM)(C:wG b)(p:fh)(D:p.weights.length <= 1048576):SU b p=some (bif oM p then ⟨b.bH,p,true⟩else b,oM p):=by
 unfold SU;rw[abL b C,ak,amF _ (by omega),ak];cases oM p with
 |false=>rfl
 | true=>
  unfold CZ xA xZ;rw[bA,iq _,au];rfl
def aJd{c:ax}(C:eV c=true)(r:aK):(Ea c r).2=(sZ c r).1:=by
 unfold Ea sZ
 grind
def jm(c:ax):ax:=(GW c).getD c
def ze(c:ax):Nat->ax
 |0=>c
 |n+1=>jm (ze c n)
def Bv(r:cS)(n:Int):cS:=if 0<r.wait-1 then ⟨r.aI,r.wait-1,r.dD⟩else ⟨r.aI.map tq,bif r.dD then n / 2 else n,r.dD⟩
def aJe{t:dj}(h:jh t=true):2<=DW t:=by
 have q:=aaO t;unfold yu at q;rw[NG,ak,h,bA,aq]at q;simp only[jh,aU,cx]at h;have k:∀ x∈oJ t,0<=x/\x<=1000:=λx C=>by
  have:=h.1 x C;simp only[yJ,bF]at this;omega
 simp only[oJ,List.forall_mem_cons]at k;injection q with q;rw[<-q];simp (disch:=omega) only [aR];omega
def aJf{c:iG}{p:fh}(hl:p.weights.length<1073741823)(h:oQ c p=true):2<=c.interval/\c.interval<=10000:=by
 have q:=(Ee hl h).1;have t:=aJe (aaR q).2.1;simp only[oK,aU,bF]at q;omega
def aJg{r:cS}(h:fe r=true){n:Int}(E:2<=n/\n<=10000):fe (Bv r n)=true/\(Bv r n).aI.length=r.aI.length:=by
 have hl:=nc h;have C:=HF h;simp only[fe,aU,bF]at h;unfold Bv;split
 ·refine⟨?_,rfl⟩;simp only[fe,aU,bF];exact⟨h.1,by omega⟩
 ·refine⟨?_,eS _⟩;simp only[fe,aU,cx,A8,bF,eS,List.mem_map,forall_exists_index,and_imp,forall_apply_eq_imp_iff₂]
  refine⟨λd D=>?_,by omega,?_⟩
  ·have:=C d D;unfold tq;rw[aR (n:=d+1)];split<;>omega
  ·cases r.dD<;>simp<;>omega
def aJh{r:cS}(h:fe r=true){n:Int}(D:2<=n/\n<=10000):MN r n=some (Bv r n):=by
 have hl:=nc h;have L:=HF h;have O:1<=r.wait/\r.wait<=10000:=by
  simp only[fe,aU,bF]at h;exact h.2.2
 have E:W6 (n.tdiv 2)=n / 2:=by rw[qR (by omega)];exact aR
 unfold MN ym Bv bk xA xZ;rw[cX (by simp;omega),au,lT,ak,G9 _ (by omega),ak,h,bA,aq,dx,ak,bF.2 D,bA,aq];dsimp only;rw[aR (n:=r.wait-1)];by_cases C:r.wait-1 > 0
 ·rw[aS C,au,bI C]
 ·rw[aT C,aq,bU C];have e:=cB (step:=MM) r.aI.length (λi=>((n,(),(),(),(r.aI.length:Int),(i:Int),()),((r.aI,r.wait,r.dD,()),((),(0:Int),false,()),((),r.wait-1,r.dD,()),([]:aa Int),upto tq r.aI i,()))) (.inl ((n,(),(),(),()),((r.aI,r.wait,r.dD,()),((),(0:Int),false,()),((),r.wait-1,r.dD,()),([]:aa Int),r.aI.map tq,()))) aX (λi hi=>by
   have hlen:=A1 tq r.aI i;unfold MM av xG xL;dsimp only;rw[aS,au,aA ⟨by omega,by omega⟩,aA,aA ⟨by omega,by omega⟩,aA,bD];simp only[bz];rw[G2 tq r.aI i hi,<-G3 tq r.aI i hi];rfl) (by
   unfold MM av xG xL;dsimp only;rw[aT,aq,G1]) (bN)
  rw[cr,T9]at e
  refine(aZ (λo=>Option.bind o _) e).trans ?_
  rw[ak];simp only[en];rw[E];cases r.dD<;>rfl
def aJi{c:ax}(h:fe c.aV=true){n:Int}(L:2<=n/\n<=10000):L2 c n=some ((),(qN c (Bv c.aV n),())):=by
 have hl:=nc h;have O:=HF h;have T:1<=c.aV.wait/\c.aV.wait<=10000:=by
  simp only[fe,aU,bF]at h;exact h.2.2
 have D:W6 (c.aV.wait-1)=c.aV.wait-1:=aR;have E:W6 (n.tdiv 2)=n / 2:=by rw[qR (by omega)];exact aR
 unfold L2 Bv bk;by_cases C:c.aV.wait-1 > 0
 ·rw[D,aS C,au,bI C];rfl
 ·rw[bU C];have e:=cB (step:=L1) c.aV.aI.length (λi=>(((),n,(i:Int),()),(qN c ⟨upto tq c.aV.aI i,c.aV.wait-1,c.aV.dD⟩,()))) (.inl (((),n,()),(qN c ⟨c.aV.aI.map tq,c.aV.wait-1,c.aV.dD⟩,()))) aX (λi hi=>by
   have hlen:=A1 tq c.aV.aI i;unfold L1 qN av xG xL;dsimp only;rw[aS,au,aA ⟨by omega,by omega⟩,aA,aA ⟨by omega,by omega⟩,aA,bD];simp only[bz];rw[G2 tq c.aV.aI i hi,<-G3 tq c.aV.aI i hi];rfl) (by
   unfold L1 qN av xG xL;dsimp only;rw[G1,aT (by rw[eS];omega),aq]) (bN)
  rw[cr,T9]at e;rw[D,aT C,aq]
  refine(aZ (λo=>Option.bind o _) e).trans ?_
  rw[ak];simp only[en,qN];rw[E];cases c.aV.dD<;>rfl
def acM(a:cV):cV:=⟨a.cells,a.bx.map (mX 1),a.bw⟩
def aJj{g:aM}{a:cV}(h:lN g a=true):lN g (acM a)=true:=by
 have C:=eA.qO h
 refine zb (UJ h).1 ⟨C.cells,C.syms,(aZ (λn:Nat=>(n:Int)) (eS _)).trans C.bx,C.bw,λx D=>?_,C.jg⟩
 obtain⟨y,E,rfl⟩:=List.mem_map.1 D;exact amv (C.DV y E) (by decide)
def aJk{g:aM}{a:cV}(h:lN g a=true):Gz g a 1=some (acM a):=aEi (UJ h).1 (eA.qO h) (by decide) (by decide) (by decide)
def aJl{c:ax}(h:lN c.config.az c.array=true):L4 c 1=some ((),(cM c (acM c.array),())):=by
 have D:cG c.config.az=true:=(UJ h).1;have C:=eA.qO h;have hb:=qE c.config.az;have hl:=C.bx;have e:=cB (step:=L3) c.array.bx.length (λi=>(((),(1:Int),(i:Int),()),(cM c ⟨c.array.cells,upto (mX 1) c.array.bx i,c.array.bw⟩,()))) (.inl ((),(cM c ⟨c.array.cells,c.array.bx.map (mX 1),c.array.bw⟩,()))) aX (λi hi=>by
  have hlen:=A1 (mX 1) c.array.bx i;have E:=C.DV _ (cT hi);unfold L3 cM av xG xL;dsimp only;rw[aS,au,aA ⟨by omega,by omega⟩,aA,aA ⟨by omega,by omega⟩,aA,bD];simp only[bz];rw[G2 (mX 1) c.array.bx i hi,aR (n:=c.array.bx[i]+1),<-G3 (mX 1) c.array.bx i hi];rfl) (by
  unfold L3 cM av xG xL;dsimp only;rw[G1,aT (by rw[eS];omega),aq]) (bN)
 rw[cr,T9]at e;unfold L4 bk;exact(aZ (λo=>Option.bind o _) e).trans rfl
def aJm(q:aa aK)(w:Bool)(hl:q.length<1073741824):∃ n,GB q w=some n/\Lh q w=some n:=by
 unfold GB Lh bk;have e:=cB (step:=MP) q.length (λi=>((w,(((q.take i).countP λr=>r.write==w:Nat):Int),q,(q.length:Int),(i:Int),()),())) (.inl (((((q.take q.length).countP λr=>r.write==w:Nat):Int),()),())) aX (λk C=>by
  have D:=List.countP_le_length (p:=λr:aK=>r.write==w) (l:=q.take k);rw[fT]at D;unfold MP av xG xI;dsimp only;rw[aS,au,aA ⟨by omega,by omega⟩,bD];simp only[bz];rw[oG C,List.countP_append,List.countP_singleton];cases q[k].write==w with
  |true=>rw[au,bD];rfl
  |false=>rw[aq,bD];rfl) (by
  unfold MP av xG xI;dsimp only;rw[aT,aq]) (bN)
 have E:=cB (step:=Lg) q.length (λi=>((q,w,(((q.take i).countP λr=>r.write==w:Nat):Int),(i:Int),()),())) (.inl (((((q.take q.length).countP λr=>r.write==w:Nat):Int),()),())) aX (λk C=>by
  have D:=List.countP_le_length (p:=λr:aK=>r.write==w) (l:=q.take k);rw[fT]at D;unfold Lg av xG xI;dsimp only;rw[aS,au,aA ⟨by omega,by omega⟩,bD];simp only[bz];rw[oG C,List.countP_append,List.countP_singleton];cases q[k].write==w with
  |true=>rw[au,bD];rfl
  |false=>rw[aq,bD];rfl) (by
  unfold Lg av xG xI;dsimp only;rw[aT,aq]) (bN)
 rw[cr]at e E;exact⟨_,(aZ (λo=>Option.bind o _) e).trans rfl,(aZ (λo=>Option.bind o _) E).trans rfl⟩
def aJn{d:gP}(h:pT d=true)(n:Int):∃ y,GA d n=some y/\Le d n=some y/\pT y=true:=by
 have hb:=h;simp only[pT,aU,iZ]at hb;unfold GA Le;rw[Ul,Um,ak,ak,h,bA,aq,aq];by_cases C:n >= d.high
 ·rw[aS C,aT (show ¬ n<=d.low by omega)];exact⟨_,rfl,rfl,h⟩
 ·rw[aT C];cases decide (n<=d.low)<;>exact⟨_,rfl,rfl,h⟩
def aJo{p:eN}(h:kH p=true)(w:Bool):∃ y,GC p w=some y/\Li p w=some y/\kH y=true/\y.state=p.state/\y.since=p.since:=by
 unfold GC Li;rw[Uq,Ur,ak,h,bA,aq];simp only[kH,aU,bF]at h;cases w with
 |true=>exact⟨_,rfl,rfl,by simp only[kH,aU,bF];omega,rfl,rfl⟩
 | false=>
  refine⟨_,rfl,rfl,?_,rfl,rfl⟩;rw[aR (n:=p.idle+1)];simp only[kH,aU,bF];split<;>omega
def aJp(b:fM)(h:wG b)(x:Bool):∃ t,MR b x=some (bif t then ⟨b.next,b.next,false⟩else b,t)/\Ll b x=some (bif t then ⟨b.next,b.next,false⟩else b,t):=by
 have C:b.next.weights.length<=1048576:=h.2
 refine⟨x&&b.waits,?_⟩;unfold MR Ll AM CZ xA xZ;rw[UL b h,abL b h,ak,iq _];cases x<;>cases b.waits<;>exact⟨rfl,rfl⟩
def aJq{c:iG}{p:fh}(hl:p.weights.length<1073741823)(h:oQ c p=true):∃ l t,AO p.weights=some (l,t)/\C4 p.weights=some (l,t)/\ji l=true/\(l.length:Int)=4/\pT ⟨false,p.low,p.high⟩=true:=by
 obtain⟨_,f2⟩:=Ee hl h;simp only[oM,aU,fU]at f2;obtain⟨L,O,T,D,E,C,U⟩:=f2;rw[amA _ hl,amB _ hl];unfold DX;rw[C];exact⟨_,_,rfl,rfl,C,by rw[eS];exact E,D⟩
def aJr{s:lV}{n:Int}(C:aN s.every 1 100000=true)(E:aN s.wait 1 s.every=true)(D:aN s.next 0 (W6 (n-1))=true)(Z:1<=n/\n<=1000000):∃ y m,yB s n=some (y,m)/\C9 s n=some (y,m)/\aN y.every 1 100000=true/\aN y.wait 1 y.every=true/\aN y.next 0 (W6 (n-1))=true/\m<n:=by
 have T:=bF.1 C;have b2:=bF.1 E;have L:W6 (n-1)=n-1:=aR;have U:=bF.1 D;rw[L]at U;unfold yB C9;rw[dx,ei,ak,ak,C,bA,aq,aq,dx,ei,ak,ak,E,bA,aq,aq,aT (show ¬ n<1 by omega),aq,aq,dx,ak,D,bA,aq,aT (show ¬ s.next<0 by omega),aq,aT (show ¬ s.next >= n by omega),aq,aR (n:=s.wait-1)];by_cases O:s.wait-1 > 0
 ·rw[aS O,au];exact⟨_,_,rfl,rfl,C,bF.2 ⟨by dsimp only;omega,by dsimp only;omega⟩,D,by omega⟩
 ·rw[aT O,aq,bU,aR (n:=s.next+1)];refine⟨_,_,rfl,rfl,C,bF.2 ⟨T.1,Int.le_refl _⟩,?_,by omega⟩;rw[L,sg (by omega)];have Y:=Int.emod_nonneg (s.next+1) (show n≠0 by omega);have e2:=Int.emod_lt_of_pos (s.next+1) (show 0<n by omega);exact bF.2 ⟨Y,by dsimp only;omega⟩
def Jn(o:ah ax)(q:Om):Prop:=∃y,o=some y/\q=some ((),(y,()))/\dU y/\eV y=true
def Vy(j:ax):ah ax:=(GB j.queue true).bind λT=>(GA j.drain T).bind λL=>(AT (oV j j.box j.shares L j.bf j.cH)).bind λU=>(GC j.bf U).bind λO=>(MR j.box ((j.queue.length:Int)==(0:Int))).bind λC=>bif C.2 then (AO C.1.bH.weights).bind λY=>(uy j.config.az).bind λE=>(yB j.cH E).bind λD=>Vs (oV j C.1 Y.1 ⟨false,C.1.bH.low,C.1.bH.high⟩ O D.1) D.2 else (uy j.config.az).bind λE=>(yB j.cH E).bind λD=>Vs (oV j C.1 j.shares L O D.1) D.2
def acN{x:ax}(C:dU x)(D:eV x=true):Jn (Vr x) (Vv x):=by
 have h:=Pq.of C D;have same:Jn (some x) (some ((),(x,()))):=⟨x,rfl,rfl,C,D⟩
 unfold Vr Vv uB;rw[aI2 h,ak,Hw x C,ak,D,bA,aq,aI5 h];show Jn ((bif decide ((x.trace.length:Int) >= 2000)then some (rX,-1)else some (Bu x)).bind _) _;rw[show (bif decide ((x.trace.length:Int) >= 2000)then some (rX,-1)else some (Bu x))=some (bif decide ((x.trace.length:Int) >= 2000)then (rX,-1)else Bu x) by cases decide ((x.trace.length:Int) >= 2000)<;>rfl,ak];dsimp only;generalize (bif decide ((x.trace.length:Int) >= 2000)then (rX,-1)else Bu x:aG×Int)=p;obtain⟨cmd,i⟩:=p;dsimp only;cases cmd.kind != (0:Int)with
 |false=>exact same
 | true=>
  rw[au,au,aIo h,ak,aIp C h];cases hm:wT x cmd i with
  |false=>exact same
  | true=>
   obtain⟨hb,E,L,O⟩:=aoI C h hm;rw[au,au,aIe hb E L (λr O=>acr h O),aId hb E L];exact⟨za x cmd i,rfl,rfl,aIl C hb O E L,(Ck.iss C (Ck.of D) hm).ok⟩
def apd{x:ax}(U:dU x)(h:eV x=true){n:Int}(hn:n<fy x.config.az):Jn (Vs x n) (Vw x n):=by
 unfold Vs Vw;by_cases L:n >= 0
 ·have C:=Ck.of h;have O:=eA.qO C.ar;have Y:=(Bc C.rk).1;have hl:=O.cells;have hb:=oF x.config.az;obtain⟨j,rfl⟩:=fL L;have T:j<x.array.cells.length:=by omega
  have D:=O.syms _ (cT T);have Z:=Vc D;have E:eA x.config.az 100000 ⟨x.array.cells.set j (pY x.array.cells[j]),x.array.bx,x.array.bw⟩:=O.D7 _ (acm D);have p:=gF.of C.pa;have iR:=(Ek.of C.er).l;rw[aS L,au,au,aoq T D,ak,aop T D,ak];dsimp only;rw[aow (c:=rR x j (pY x.array.cells[j])) C.er ⟨by omega,by omega⟩ Z,ak,aov (c:=rR x j (pY x.array.cells[j])) C.er ⟨by omega,by omega⟩ Z,ak];dsimp only;obtain⟨z1,z2,z3,z5,z6,z7,z8,z9,gy,iE,iK,jj,jk,kZ⟩:=U;have YH:dU (rR x j (pY x.array.cells[j])):=⟨z1,z2,z3,wS E,z6,z7,z8,z9,gy,iE,iK,jj,jk,kZ⟩
  have hc1:Ck (rR x j (pY x.array.cells[j])):=⟨C.f1,C.f2,C.nw,C.rk,C.rd,zb Y E,C.sp,C.se,C.rf,(show gF (rR x j (pY x.array.cells[j]))from ⟨p.dl,p.tl,p.gl,p.t,p.g,p.pd,p.u⟩).ok,C.qu,C.sh,C.sl,C.dr,C.pw,C.ps,C.si,C.s1,C.s2,C.s3,C.er,C.tr,C.rp⟩
  unfold El;by_cases e:kK x.array.cells[j]=0
  ·rw[e];exact acN YH hc1.ok
  ·rw[ga e,au];have he:=aoR (l:=x.errors) C.er (n:=(j:Int)) ⟨by omega,by omega⟩ (code:=kK x.array.cells[j]) (by omega);have hle:=aoF (l:=x.errors) (j:Int) (kK x.array.cells[j]);exact acN (x:=Oi (rR x j (pY x.array.cells[j])) (rU x.errors (j:Int) (kK x.array.cells[j]))) ⟨z1,z2,z3,wS E,z6,z7,z8,z9,gy,iE,iK,by show (rU x.errors (j:Int) (kK x.array.cells[j])).length<=_;omega,jk,kZ⟩ (Ck.ok ⟨C.f1,C.f2,C.nw,C.rk,C.rd,zb Y E,C.sp,C.se,C.rf,(show gF (Oi (rR x j (pY x.array.cells[j])) (rU x.errors (j:Int) (kK x.array.cells[j])))from ⟨p.dl,p.tl,p.gl,p.t,p.g,p.pd,p.u⟩).ok,C.qu,C.sh,C.sl,C.dr,C.pw,C.ps,C.si,C.s1,C.s2,C.s3,he,C.tr,C.rp⟩)
 ·rw[aT L,aq,aq];exact acN U h
def ape{c:ax}(Y:dU c)(Z:eV c=true):Jn (Vy c) (Vx c):=by
 have h:=Ck.of Z;obtain⟨C,z2,z3,z5,z6,z7,z8,z9,gy,iE,iK,jj,jk,kZ⟩:=Y;have p:=gF.of h.pa;have hb:=oF c.config.az;have hLp:1<=fy c.config.az:=by
  have:=bF.1 h.s3;rw[aR (n:=fy c.config.az-1)]at this;omega
 have w2:c.box.next.weights.length<=1048576:=C.2
 obtain⟨n,d1,e1⟩:=aJm c.queue true (by omega);obtain⟨d,d2,e2,D⟩:=aJn h.dr n;have e3:C8 (oV c c.box c.shares d c.bf c.cH)=some (wM (oV c c.box c.shares d c.bf c.cH)):=anY (c:=oV c c.box c.shares d c.bf c.cH) h.rf;have d3:AT (oV c c.box c.shares d c.bf c.cH)=some (wM (oV c c.box c.shares d c.bf c.cH)):=anX (c:=oV c c.box c.shares d c.bf c.cH) h.rf;obtain⟨pw,d4,e4,Qh,Ct,hp3⟩:=aJo h.pw (wM (oV c c.box c.shares d c.bf c.cH));obtain⟨t,d5,e5⟩:=aJp c.box C ((c.queue.length:Int)==(0:Int));obtain⟨u,m,O,T,Wp,q8,hu3,U⟩:=aJr h.s1 h.s2 h.s3 ⟨hLp,by omega⟩;have key:∀ (b:fM) (s:aa bY) (d:gP),wG b->oQ c.config b.bH=true->oQ c.config b.next=true->ji s=true->(s.length:Int)=4->pT d=true->dU (oV c b s d pw u)/\eV (oV c b s d pw u)=true:=λb s d tJ gZ hb3 Wi hs2 D=>
  ⟨⟨tJ,z2,z3,z5,z6,z7,z8,z9,gy,iE,by show s.length<=_;omega,jj,jk,kZ⟩,Ck.ok ⟨gZ,hb3,h.nw,h.rk,h.rd,h.ar,h.sp,h.se,h.rf,(show gF (oV c b s d pw u)from ⟨p.dl,p.tl,p.gl,p.t,p.g,p.pd,p.u⟩).ok,h.qu,Wi,hs2,D,Qh,Ct.trans h.ps,by show pw.since<=c.now;rw[hp3];exact h.si,Wp,q8,hu3,h.er,h.tr,h.rp⟩⟩
 unfold Vy Vx;rw[d1,ak,d2,ak,d3,ak,d4,ak,d5,ak,e1,ak,e2,ak,e3,ak,e4,ak,e5,ak];dsimp only;cases t with
 | false=>
  rw[aq,aq,aq,G6,ak,T,ak,G5,ak,O,ak];obtain⟨E,L⟩:=key c.box c.shares d C h.f1 h.f2 h.sh h.sl D;exact apd E L U
 | true=>
  obtain⟨l,t2,d7,e7,q5,lG,Vk⟩:=aJq (p:=c.box.next) (by omega) h.f2;rw[au,au,au];dsimp only;rw[e7,ak,G6,ak,T,ak,d7,ak,G5,ak,O,ak];obtain⟨E,L⟩:=key ⟨c.box.next,c.box.next,false⟩ l ⟨false,c.box.next.low,c.box.next.high⟩ ⟨C.2,C.2⟩ h.f2 h.f2 q5 lG Vk;exact apd E L U
def aJs{c:ax}(C:dU c)(D:eV c=true):Jn (GW c) (L5 c):=by
 have h:=Ck.of D;have p:=gF.of h.pa;have hnw:=bF.1 h.nw;have w1:c.box.bH.weights.length<=1048576:=C.1.1;have hi:=aJf (p:=c.box.bH) (by omega) h.f1;unfold GW L5;rw[Hx c C,ak,Hw c C,ak,D,bA,aq];by_cases Z:c.now=1000000
 ·rw[aS (show c.now >= 1000000 by omega),au,Z];exact⟨c,rfl,rfl,C,D⟩
 rw[kG Z,aq,aT (show ¬ c.now >= 1000000 by omega),aq];have e1:W6 (c.now+1)=c.now+1:=aR;show Jn (bif (c.br.bf != (2:Int))then (MN c.aV c.config.interval).bind λE=>(Gz c.config.az c.array (1:Int)).bind λL=>Vy (cM (qN (vr c (W6 (c.now+1))) E) L)else Vy (vr c (W6 (c.now+1)))) (bif (c.br.bf != (2:Int))then (L2 (vr c (W6 (c.now+1))) c.config.interval).bind λE=>(L4 E.2.1 (1:Int)).bind λL=>Vx L.2.1 else Vx (vr c (W6 (c.now+1))));rw[e1];obtain⟨z1,z2,z3,z5,z6,z7,z8,z9,gy,iE,iK,jj,jk,kZ⟩:=C;have key:∀ (r:cS) (a:cV),fe r=true->r.aI.length=c.aV.aI.length->lN c.config.az a=true->dU (cM (qN (vr c (c.now+1)) r) a)/\eV (cM (qN (vr c (c.now+1)) r) a)=true:=λr a O T ha=>by
  refine⟨⟨z1,z2,z3,wS (eA.qO ha),z6,by have:=z7;unfold uU at this ⊢;show r.aI.length<=_;omega,z8,z9,gy,iE,iK,jj,jk,kZ⟩,Ck.ok ⟨h.f1,h.f2,bF.2 ⟨by show 0<=c.now+1;omega,by show c.now+1<=_;omega⟩,h.rk,h.rd,ha,h.sp,h.se,O,(show gF (cM (qN (vr c (c.now+1)) r) a)from ⟨by show (r.aI.length:Int)=_;rw[T];exact p.dl,p.tl,p.gl,p.t,p.g,p.pd,p.u⟩).ok,h.qu,h.sh,h.sl,h.dr,h.pw,h.ps,by show c.bf.since<=c.now+1;have:=h.si;omega,h.s1,h.s2,h.s3,h.er,h.tr,h.rp⟩⟩
 cases c.br.bf != (2:Int)with
 | true=>
  obtain⟨O,T⟩:=aJg h.rf hi;obtain⟨U,Y⟩:=key _ _ O T (aJj h.ar);rw[au,au,aJh h.rf hi,ak,aJk h.ar,ak,aJi (c:=vr c (c.now+1)) h.rf hi,ak];dsimp only;rw[aJl (c:=qN (vr c (c.now+1)) (Bv (vr c (c.now+1)).aV c.config.interval)) h.ar,ak];exact ape U Y
 | false=>
  obtain⟨U,Y⟩:=key c.aV c.array h.rf rfl h.ar;exact ape (c:=vr c (c.now+1)) U Y
def acO{c:ax}(D:dU c)(E:eV c=true):GW c=some (jm c)/\L5 c=some ((),(jm c,()))/\dU (jm c)/\eV (jm c)=true:=by
 obtain⟨y,C,L,O,T⟩:=aJs D E;have U:jm c=y:=by unfold jm;rw[C];rfl
 rw[U];exact⟨C,L,O,T⟩
def acP{c:ax}(D:dU c)(E:eV c=true)(n:Nat):dU (ze c n)/\eV (ze c n)=true:=by
 induction n with
 |zero=>exact⟨D,E⟩
 | succ n C=>
  obtain⟨_,_,L,O⟩:=acO C.1 C.2;exact⟨L,O⟩
def aJt{c:ax}(C:dU c)(D:eV c=true){n:Nat}(U:n<=5000):TZ c (n:Int)=some (ze c n):=by
 have E:aN (n:Int) 0 5000=true:=bF.2 ⟨by omega,by omega⟩;unfold TZ bk;rw[Hx c C,ak];generalize (⟨⟨⟨(0:Int),(0:Int),(0:Int),(0:Int)⟩,⟨(0:Int),(0:Int),(0:Int),(0:Int),(0:Int),(0:Int),(0:Int),(0:Int),(0:Int),(0:Int),(0:Int),(0:Int),(0:Int),(0:Int),(0:Int),(0:Int),(0:Int)⟩,⟨(0:Int),false⟩,(0:Int),(0:Int),(0:Int),⟨(0:Int),(0:Int)⟩⟩,_,_,_,_,_,_,_,_,_,_,_,_,_,_,_,_,_,_⟩:ax)=Z;have e:=cB (step:=Nr) n (λi=>(((n:Int),(),(),(i:Int),()),(Z,ze c i,()))) (.inl (((),(),()),(Z,ze c n,()))) aX (λk Y=>by
  obtain⟨L,O⟩:=acP C D k;obtain⟨T,_⟩:=acO L O;unfold Nr av xG;dsimp only;rw[aS (show (k:Int)<(n:Int) by omega),au,dx,ak,E,au,T,ak,bD];rfl) (by
  unfold Nr av xG;dsimp only;rw[aT (show ¬ (n:Int)<(n:Int) by omega),aq]) (bN)
 rw[cr]at e;exact(aZ (λo=>Option.bind o _) e).trans rfl
def apf{g:aM}{s:cQ}{D R:Nat}(h:Sp g s D R)(b r:Int):∃ y,DG g s b r=some y/\yl g s b r=some y/\(dA (eF g s) ⟨b,r,0⟩=true->0<=y/\y<g.rows):=by
 unfold DG xI;rw[D0,ak,acK,ak];cases E:dA (eF g s) ⟨b,r,0⟩with
 |false=>exact⟨-1,rfl,apc h E,λh=>by cases h⟩
 | true=>
  obtain⟨⟨O,a2⟩,T,a4⟩:=(h.ex b r).1 E;obtain⟨b,rfl⟩:=fL O;obtain⟨r,rfl⟩:=fL T;have hb:b<D:=by omega
  have C:r<R:=by omega
  obtain⟨U,apa,Y,Z,n2⟩:=h.lens hb;obtain⟨hg,tC,eg,eb,h8,qz,lI,hc,Hj,_⟩:=h.wU;have L:((s.map.take ((b+1)*R)).drop (b*R))=fI s.map R b:=rfl;have hgy:(fI s.map R b)[r]'(by omega)=s.map.getD (b*R+r) 0:=by
   have:=bZ (l:=fI s.map R b) (i:=r) (by omega);rw[HL C U]at this;injection this with this;exact this.symm
  rw[bA,aq,Uv h.hR qz h8 hb h.hl,ak];dsimp only;rw[Z,n2,cw,au,aA ⟨by omega,by rw[L,Y,bz];exact C⟩];simp only[bz,L,hgy];exact⟨_,rfl,apb h hb C,λ_=>h.bound hb C⟩
def wV(m:aa Int)(R b:Nat)(x:Int):Bool:=!(fI m R b).any λe=>e==x
def acQ{g:aM}{s:cQ}{D R:Nat}(h:Sp g s D R){b:Nat}(hb:b<D)(x:Int):wV s.map R b x=true ↔ ∀ k,k<R->s.map.getD (b*R+k) 0≠x:=by
 obtain⟨E,_,O,_⟩:=h.lens hb;unfold wV;rw[gV,List.any_eq_false];constructor
 ·intro h k C e;exact h _ (List.mem_iff_getElem?.2 ⟨k,HL C E⟩) (by rw[e];exact dM _)
 ·intro h y L;obtain⟨k,C⟩:=List.mem_iff_getElem?.1 L;have T:=(dV.1 C).1;rw[HL (by omega) E]at C;injection C with C;rw[<-C]
  simpa using h k (by omega)
def aJu{g:aM}{s:cQ}{O R:Nat}(h:Sp g s O R){b:Nat}(hb:b<O){x:Int}(E:0<=x):∃ y,SV g s (b:Int) x=some y/\decide (y<0)=wV s.map R b x:=by
 have qz:=h.wU.2.2.2.2.2.1;unfold SV bE;obtain⟨z,e,Y⟩:=amb (step:=Ma) 16 (λk t=>t=(((b:Int),x,(),(),(k:Int),()),((g.cu,g.aC,g.rows,g.aO,()),(s.bQ,s.map,()),()))/\∀ j,j<k->j<R->s.map.getD (b*R+j) 0≠x)
  (λz=>(∃r:Nat,(r<R/\s.map.getD (b*R+r) 0=x)/\z = .inl (((r:Int),()),()))\/(z = .inr (.inl ((),()))/\∀j,j<R->s.map.getD (b*R+j) 0≠x)) aX (x:=(((b:Int),x,(),(),(0:Int),()),((g.cu,g.aC,g.rows,g.aO,()),(s.bQ,s.map,()),()))) ⟨rfl,λj D=>by omega⟩ (by
  rintro k hk t ⟨rfl,C⟩;unfold Ma av aQ xG;dsimp only;rw[nW,show (⟨s.bQ,s.map⟩:cQ)=s from rfl,aS (show (k:Int)<16 by omega),au,aS (show x >= 0 from E),au];by_cases T:k<R
  ·rw[apb h hb T,ak];by_cases e:s.map.getD (b*R+k) 0=x
   ·rw[e,dM,au];exact .inr ⟨_,rfl,.inl ⟨k,⟨T,e⟩,rfl⟩⟩
   ·rw[kG e,aq,bD]
    refine .inl ⟨_,rfl,rfl,λj D L=>?_⟩
    by_cases Z:j=k
    ·subst Z;exact e
    ·exact C j (by omega) L
  ·have ha:dA (eF g s) ⟨(b:Int),(k:Int),0⟩=false:=by
    cases E:dA (eF g s) ⟨(b:Int),(k:Int),0⟩with
    |false=>rfl
    |true=>have:=((h.ex (b:Int) (k:Int)).1 E).2;omega
   rw[apc h ha,ak,kG (show ¬ (-1:Int)=x by omega),aq,bD];exact .inl ⟨_,rfl,rfl,λj D L=>C j (by omega) L⟩) (by
  rintro t ⟨rfl,C⟩;unfold Ma av aQ xG;dsimp only;rw[aT,aq];exact⟨_,rfl,.inr ⟨rfl,λj D=>C j (by omega) D⟩⟩) (bN)
 rw[e,ak];rcases Y with ⟨r,U,rfl⟩|⟨rfl,C⟩
 ·refine⟨(r:Int),rfl,?_⟩;rw[aT];cases hf:wV s.map R b x with
  |false=>rfl
  |true=>exact absurd U.2 ((acQ h hb x).1 hf r U.1)
 ·refine⟨-1,rfl,?_⟩;rw[(acQ h hb x).2 C];rfl
def aJv{g:aM}{s:cQ}{D R:Nat}(h:Sp g s D R)(b r:Int):∃ y t,T6 g s b r=some (y,t)/\SW g s b r=some (y,t)/\Sp g y D R/\y.bQ=s.bQ/\(t=true->dA (eF g s) ⟨b,r,0⟩=true):=by
 obtain⟨hg,tC,T,eb,U,Y,lI,hc,Hj,O0⟩:=h.wU;have hm:s.map.length<=128:=by
  rw[h.hl];exact Nat.mul_le_mul U Y
 have hR:=h.hR;have Z:W6 (g.rows-s.bQ)=(R:Int):=by rw[h.hR];exact aR
 unfold T6 SW KG xA bE xZ;rw[cX (by simp;omega),au,au,lT,D0,ak,acK,ak,ak,acL h,ak];cases ha:dA (eF g s) ⟨b,r,0⟩with
 |false=>exact⟨s,false,rfl,rfl,h,rfl,λh=>by cases h⟩
 | true=>
  obtain⟨⟨a1,a2⟩,a3,a4⟩:=(h.ex b r).1 ha;obtain⟨b,rfl⟩:=fL a1;obtain⟨r,rfl⟩:=fL a3;have hb:b<D:=by omega
  have hr:r<R:=by omega
  obtain⟨hle,apa,lH,n1,n2⟩:=h.lens hb;have hp:b*R+r<s.map.length:=by
   rw[iN]at hle;omega
  have hw1:W6 ((b:Int)*(R:Int))=((b*R:Nat):Int):=by rw[<-Int.natCast_mul];exact aR
  have hw2:W6 (((b*R:Nat):Int)+(r:Int))=((b*R+r:Nat):Int):=by rw[<-Int.natCast_add];exact aR
  have e0:(b:Int)*(R:Int)+(r:Int)=((b*R+r:Nat):Int):=by rw[Int.natCast_add,Int.natCast_mul]
  rw[bA,aq,T,au,e0,aT (show ¬ ((b*R+r:Nat):Int)<0 by omega),aq,Z];dsimp only;obtain⟨n,hn⟩:=fL (show 0<=g.rows-(R:Int) by omega);have E:=rO (step:=Nw) (List.range n) (λk=>wV s.map R b ((R:Int)+(k:Int))) (λk=>(((b:Int),(r:Int),(),(),(),(),(),(R:Int)+(k:Int),()),((g.cu,g.aC,g.rows,g.aO,()),(s.bQ,s.map,()),((0:Int),(),()),(s.bQ,(),()),(g.cu,g.aC,(R:Int),g.aO,()),([]:aa Int),s.map,()))) (λk=>.inl (((),true,()),((s.bQ,(),()),s.map.set (b*R+r) ((R:Int)+(k:Int)),()))) (.inr (.inl (((),(),()),(((0:Int),(),()),(s.bQ,(),()),([]:aa Int),s.map,())))) aX (λk C=>by
   rw[cU]at C;rw[iY];unfold Nw av aQ xG xL;dsimp only;rw[nW,aS (show (R:Int)+(k:Int)<g.rows by omega),au,show (⟨s.bQ,s.map⟩:cQ)=s from rfl,aI8 h hb,ak,(aci (λe=>e==(R:Int)+(k:Int)) (fI s.map R b)).1];show (bif wV s.map R b ((R:Int)+(k:Int))then _ else _)=_;cases wV s.map R b ((R:Int)+(k:Int))with
   | true=>
    rw[au,au,hw1,hw2,aA ⟨by omega,by omega⟩,aA];simp only[bz]
   | false=>
    rw[aq,aq,aR (n:=(R:Int)+(k:Int)+1),show ((k+1:Nat):Int)=(k:Int)+1 from Int.natCast_succ k,<-Int.add_assoc]) (by
   rw[cU];unfold Nw av aQ xG xL;dsimp only;rw[aT (show ¬ (R:Int)+(n:Int)<g.rows by omega),aq]) (bN (by rw[cU];omega))
  have L:=rO (step:=Mb) (List.range n) (λk=>wV s.map R b ((R:Int)+(k:Int))) (λk=>(((b:Int),(),(),(),(),((b*R+r:Nat):Int),(R:Int)+(k:Int),()),((g.cu,g.aC,g.rows,g.aO,()),(s.bQ,s.map,()),((0:Int),(),()),(s.bQ,(),()),([]:aa Int),s.map,()))) (λk=>.inl (((),true,()),((s.bQ,(),()),s.map.set (b*R+r) ((R:Int)+(k:Int)),()))) (.inr (.inl (((),(),()),(((0:Int),(),()),(s.bQ,(),()),([]:aa Int),s.map,())))) aX (λk C=>by
   rw[cU]at C;rw[iY];obtain⟨y,ey,hy⟩:=aJu h hb (x:=(R:Int)+(k:Int)) (by omega);unfold Mb av aQ xG xL;dsimp only;rw[nW,aS (show (R:Int)+(k:Int)<g.rows by omega),au,show (⟨s.bQ,s.map⟩:cQ)=s from rfl,ey,ak,hy];cases wV s.map R b ((R:Int)+(k:Int))with
   | true=>
    rw[au,au,aA ⟨by omega,by omega⟩,aA];simp only[bz]
   | false=>
    rw[aq,aq,aR (n:=(R:Int)+(k:Int)+1),show ((k+1:Nat):Int)=(k:Int)+1 from Int.natCast_succ k,<-Int.add_assoc]) (by
   rw[cU];unfold Mb av aQ xG xL;dsimp only;rw[aT (show ¬ (R:Int)+(n:Int)<g.rows by omega),aq]) (bN (by rw[cU];omega))
  rw[cr,Int.add_zero]at E L;rw[E,L];cases hf:(List.range n).findIdx? (λk:Nat=>wV s.map R b ((R:Int)+(k:Int)))with
  |none=>exact⟨_,false,rfl,rfl,h,rfl,λh=>by cases h⟩
  | some k=>
   obtain⟨C,O,_⟩:=mI.1 hf;rw[cU]at C;rw[iY]at O;exact⟨_,true,rfl,rfl,h.set hb hr (by omega) (by omega) ((acQ h hb _).1 O),rfl,λ_=>rfl⟩
def kN(g:aM)(b f q:Int)(a:cV):Nat->cV
 |0=>a
 |k+1=>⟨(kN g b f q a k).cells.set (gp g ⟨b,q,(k:Int)⟩) ((kN g b f q a k).cells.getD (gp g ⟨b,f,(k:Int)⟩) ⟨[],false⟩),(kN g b f q a k).bx,(kN g b f q a k).bw⟩
def aJw{c:ax}(hz:dU c)(D:eV c=true)(t:aJ):∃ v y,T7 c t.ay t.row=some (v,(y,()))/\SX c t=some (v,(y,()))/\dU y/\eV y=true/\(v=false->y=c):=by
 have h:=Ck.of D;obtain⟨bn,R,L⟩:=Sp.of h.sp;obtain⟨hg,tC,eg,eb,h8,qz,lI,hc,Hj,O0⟩:=L.wU;obtain⟨f,d1,e1,hf⟩:=apf L t.ay t.row;obtain⟨y,v,d2,e2,hy,zE,ht⟩:=aJv L t.ay t.row;unfold T7 SX bk xL;rw[d1,ak,d2,ak,e1,ak,e2,ak];cases v with
 |false=>exact⟨false,c,rfl,rfl,hz,D,λ_=>rfl⟩
 | true=>
  have ha:=ht rfl;obtain⟨⟨a1,a2⟩,a3,a4⟩:=(L.ex t.ay t.row).1 ha;have lH:=(Bc h.rk).2.1;have NI:=L.hb;have hR:=L.hR;obtain⟨f1,f2⟩:=hf ha;have egy:eF c.config.az y=eF c.config.az c.spare:=by
   unfold eF;rw[hy.ok,h.sp,zE]
  obtain⟨q,d3,e3,O⟩:=apf hy t.ay t.row;have O:=O (by rw[egy];exact ha);have Vz:0<=t.ay/\t.ay.toNat<c.br.aC.length:=⟨a1,by omega⟩
  rw[bA,aq,aq,aA Vz,aA Vz.2,aA Vz,aA Vz.2];dsimp only;cases c.br.aC[t.ay.toNat].open_ with
  |true=>exact⟨false,c,rfl,rfl,hz,D,λ_=>rfl⟩
  | false=>
   rw[aq,aq,d3,ak,e3,ak];obtain⟨n,hn⟩:=fL (show 0<=c.config.az.aO by omega);have gb:=fG hg;have T:∀(row:Int) (k:Nat),0<=row->row<c.config.az.rows->k<n->dA c.config.az ⟨t.ay,row,(k:Int)⟩=true:=λrow k r1 r2 D=>yH hg a1 (by rw[NI];exact a2) r1 r2 (by dsimp only;omega) (by dsimp only;omega)
   have mv:∀ k,k<=n->eA c.config.az 100000 (kN c.config.az t.ay f q c.array k):=λk=>by
    induction k with
    |zero=>exact λ_=>eA.qO h.ar
    | succ k ih=>
     intro hkn;have C:=ih (by omega);have l2:=C.lt (T f k f1 f2 (by omega));unfold kN;rw[lu _ l2];exact C.D7 _ (C.syms _ (cT l2))
   have e4:=cB (step:=G0) n (λk=>(((),t.ay,(),f,(),q,(k:Int),()),(cM c (kN c.config.az t.ay f q c.array k),(c.config.az.cu,c.config.az.aC,c.config.az.rows,c.config.az.aO,()),(y.bQ,(),()),y.map,()))) (.inl (((),(),()),(cM c (kN c.config.az t.ay f q c.array n),(y.bQ,(),()),y.map,()))) aX (λk D=>by
    have C:=mv k (by omega);have U:=T q k O.1 O.2 D;have Y:=T f k f1 f2 D;obtain⟨i1,_⟩:=Be U;obtain⟨i2,_⟩:=Be Y;have l1:=C.lt U;have l2:=C.lt Y;have Z:=C.syms _ (cT l2);show G0 _=some (.inl (((),t.ay,(),f,(),q,((k+1:Nat):Int),()),(cM c ⟨(kN c.config.az t.ay f q c.array k).cells.set (gp c.config.az ⟨t.ay,q,(k:Int)⟩) ((kN c.config.az t.ay f q c.array k).cells.getD (gp c.config.az ⟨t.ay,f,(k:Int)⟩) ⟨[],false⟩),(kN c.config.az t.ay f q c.array k).bx,(kN c.config.az t.ay f q c.array k).bw⟩,_,_,_,())));rw[lu _ l2];generalize kN c.config.az t.ay f q c.array k=a at C l1 l2 Z ⊢;unfold G0 av xG xL xM;dsimp only;rw[nW,aS (show (k:Int)<c.config.az.aO by omega),au,G7,ak,G7,ak,i1,i2];have E:0<=(gp c.config.az ⟨t.ay,f,(k:Int)⟩:Int)/\(gp c.config.az ⟨t.ay,f,(k:Int)⟩:Int).toNat<(cM c a).array.cells.length:=⟨by omega,by simpa [cM]using l2⟩
    have c2:0<=(gp c.config.az ⟨t.ay,q,(k:Int)⟩:Int)/\(gp c.config.az ⟨t.ay,q,(k:Int)⟩)<(cM c a).array.cells.length:=⟨by omega,by simpa [cM]using l1⟩
    rw[aA E,aA E.2,aA E.2];simp only[bz];rw[amr _ (by simp only[cM];rw[Z.1];omega),ak,aA c2,aA c2.2,bD];rfl) (by
    unfold G0 av xG xL xM;dsimp only;rw[aT (show ¬ (n:Int)<c.config.az.aO by omega),aq]) (bN)
   have e5:=cB (step:=Gb) n (λk=>(((),(),(),f,(),q,(k:Int),()),(cM c (kN c.config.az t.ay f q c.array k),(t.ay,t.row,t.bT,()),(c.config.az.cu,c.config.az.aC,c.config.az.rows,c.config.az.aO,()),(y.bQ,(),()),y.map,()))) (.inl (((),(),()),(cM c (kN c.config.az t.ay f q c.array n),(y.bQ,(),()),y.map,()))) aX (λk D=>by
    have C:=mv k (by omega);have U:=T q k O.1 O.2 D;have Y:=T f k f1 f2 D;obtain⟨i1,_⟩:=Be U;obtain⟨i2,_⟩:=Be Y;have l1:=C.lt U;have l2:=C.lt Y;have Z:=C.syms _ (cT l2);show Gb _=some (.inl (((),(),(),f,(),q,((k+1:Nat):Int),()),(cM c ⟨(kN c.config.az t.ay f q c.array k).cells.set (gp c.config.az ⟨t.ay,q,(k:Int)⟩) ((kN c.config.az t.ay f q c.array k).cells.getD (gp c.config.az ⟨t.ay,f,(k:Int)⟩) ⟨[],false⟩),(kN c.config.az t.ay f q c.array k).bx,(kN c.config.az t.ay f q c.array k).bw⟩,_,_,_,_,())));rw[lu _ l2];generalize kN c.config.az t.ay f q c.array k=a at C l1 l2 Z ⊢;unfold Gb av xG xL xM;dsimp only;rw[nW,aS (show (k:Int)<c.config.az.aO by omega),au,Uc,ak,Uc,ak,i1,i2];have E:0<=(gp c.config.az ⟨t.ay,f,(k:Int)⟩:Int)/\(gp c.config.az ⟨t.ay,f,(k:Int)⟩:Int).toNat<(cM c a).array.cells.length:=⟨by omega,by simpa [cM]using l2⟩
    have c2:0<=(gp c.config.az ⟨t.ay,q,(k:Int)⟩:Int)/\(gp c.config.az ⟨t.ay,q,(k:Int)⟩)<(cM c a).array.cells.length:=⟨by omega,by simpa [cM]using l1⟩
    rw[aA E,aA E.2,aA E.2];simp only[bz];rw[ams _ (by simp only[cM];rw[Z.1];omega),ak,aA c2,aA c2.2,bD];rfl) (by
    unfold Gb av xG xL xM;dsimp only;rw[aT (show ¬ (n:Int)<c.config.az.aO by omega),aq]) (bN)
   rw[cr]at e4 e5;have C:=mv n (dQ _)
   refine⟨true,⟨c.config,c.box,c.now,c.br,c.ready,kN c.config.az t.ay f q c.array n,y,c.aV,c.bJ,c.guard,c.pending,c.queue,c.shares,c.drain,c.bf,c.cH,c.errors,c.trace,c.cy⟩,(aZ (λo=>Option.bind o _) e4).trans rfl,(aZ (λo=>Option.bind o _) e5).trans rfl,?_⟩
   generalize kN c.config.az t.ay f q c.array n=a at C ⊢;have p:=gF.of h.pa;obtain⟨z1,z2,z3,z5,z6,z7,z8,z9,gy,iE,iK,jj,jk,kZ⟩:=hz;have hml:y.map.length<=128:=by
    rw[hy.hl];exact Nat.mul_le_mul h8 qz
   refine⟨⟨z1,z2,z3,wS C,by show y.map.length<=1048576;omega,z7,z8,z9,gy,iE,iK,jj,jk,kZ⟩,Ck.ok ⟨h.f1,h.f2,h.nw,h.rk,h.rd,zb hg C,hy.ok,zE.trans h.se,h.rf,(show gF ⟨c.config,c.box,c.now,c.br,c.ready,a,y,c.aV,c.bJ,c.guard,c.pending,c.queue,c.shares,c.drain,c.bf,c.cH,c.errors,c.trace,c.cy⟩from ⟨p.dl,p.tl,p.gl,p.t,p.g,p.pd,p.u⟩).ok,?_,h.sh,h.sl,h.dr,h.pw,h.ps,h.si,h.s1,h.s2,h.s3,h.er,h.tr,h.rp⟩,λh=>by cases h⟩
   show hJ (fy (eF c.config.az y)) c.queue=true;rw[egy];exact h.qu
def aJx{r:cS}(h:fe r=true)(x:Bool):∃ y,T3 r x=some y/\SS r x=some y/\fe y=true/\y.aI.length=r.aI.length:=by
 have hl:=nc h;have C:=h;simp only[fe,aU,bF]at h;have mk:∀ (w:Int) (b:Bool),1<=w/\w<=10000->fe ⟨r.aI,w,b⟩=true:=λw b D=>by
  simp only[fe,aU,bF];exact⟨h.1,h.2.1,D⟩
 have E:W6 ((W6 (r.wait+1)).tdiv 2)=(r.wait+1) / 2:=by
  rw[aR (n:=r.wait+1),qR (by omega)];exact aR
 have L:W6 (W6 (2*r.wait)-1)=2*r.wait-1:=by
  rw[aR (n:=2*r.wait)];exact aR
 unfold T3 SS ym C0 xA xZ;rw[cX (by simp;omega),au,lT,ak,G9 _ (by omega),ak,NK _ (by omega),C];simp only[ak,bA,aq];rw[E,L];cases x with
 | true=>
  cases r.dD with
  |false=>exact⟨_,rfl,rfl,mk _ _ (by omega),rfl⟩
  |true=>exact⟨_,rfl,rfl,mk _ _ h.2.2,rfl⟩
 | false=>
  cases r.dD with
  |false=>exact⟨_,rfl,rfl,mk _ _ h.2.2,rfl⟩
  |true=>exact⟨_,rfl,rfl,mk _ _ (by split<;>omega),rfl⟩
def aJy{c:ax}(C:eV c=true)(r:aK):(Ea c r).1=(sZ c r).2:=by
 unfold Ea sZ;rw[C,bA,Bool.false_or];cases (c.cy.any λx=>x.id==r.id)with
 |true=>rw[Bool.or_true];rfl
 |false=>cases (lQ c r).2<;>rfl
def aJz{c:ax}(hz:dU c)(C:eV c=true)(a:lC)(Y:a.gY.weights.length<=1048576):∃ y t,DP c a=some (y,t)/\SY c a=some (t,(y,()))/\dU y/\eV y=true/\(t=false->y=c):=by
 have h:=Ck.of C;have p:=gF.of h.pa;have D:=hz;obtain⟨U,Z,z3,z5,z6,z7,z8,z9,gy,iE,iK,jj,jk,kZ⟩:=hz;have no:∃y t',some (c,false)=some (y,t')/\some (false,(c,()))=some (t',(y,()))/\dU y/\eV y=true/\(t'=false->y=c):=⟨c,false,rfl,rfl,D,C,λ_=>rfl⟩
 unfold DP SY xC bk xL xM;rw[Hx c D,ak,Hw c D,ak,C,bA,aq];cases a.kind==(1:Int)with
 | true=>
  obtain⟨q1,q2⟩:=aJb C a.request;rw[au,au,aGu c a.request D,ak,aGy c a.request D C,ak];dsimp only;rw[aJd C,aJy C];exact⟨_,_,rfl,rfl,aGx c a.request D,q1,q2⟩
 |false=>
 rw[aq,aq];cases a.kind==(2:Int)with
 | true=>
  rw[au,au,dx,ak,ei,ak];cases hn:aN a.n 0 500 with
  |false=>exact no
  | true=>
   have hb:=bF.1 hn;obtain⟨m,hm⟩:=fL hb.1;obtain⟨E,L⟩:=acP D C m;rw[au,bA,aq,hm,aJt D C (by omega),ak]
   refine⟨ze c m,true,rfl,?_,E,L,λh=>by cases h⟩
   have e:=cB (step:=Mc) m (λk=>(((),(),(k:Int),()),(ze c k,a,()))) (.inl ((),(ze c m,()))) aX (λk Yp=>by
    obtain⟨E,L⟩:=acP D C k;obtain⟨_,e',_⟩:=acO E L;unfold Mc av xG;dsimp only;rw[hm,aS (show (k:Int)<(m:Int) by omega),au,e',ak,bD];rfl) (by
    unfold Mc av xG;dsimp only;rw[hm,aT (show ¬ (m:Int)<(m:Int) by omega),aq]) (bN)
   rw[cr]at e;exact(aZ (λo=>Option.bind o _) e).trans rfl
 |false=>
 rw[aq,aq];cases a.kind==(3:Int)with
 | true=>
  have hg:=(Bc h.rk).1;have ha:=eA.qO h.ar;obtain⟨x,e,hx,hno⟩:=aI9 h.ar a.addr a.oX a.n;rw[au,au,DR,ak,Ub,ak];cases T:dA c.config.az a.addr with
  | false=>
   rw[aq,e,ak,hno (by rw[T];rfl)];exact no
  |true=>
  rw[au,bA,aq,dx,ak,ei,ak];cases c2:aN a.oX 0 10 with
  | false=>
   rw[aq,e,ak,hno (by rw[T,c2];rfl)];exact no
  |true=>
  unfold sR yf;rw[au,bA,aq,dx,ak,ak,e,ak,ei];cases c3:aN a.n 0 15 with
  | false=>
   rw[hno (by rw[T,c2,c3];rfl)];exact no
  | true=>
   have b2:=bF.1 c2;have b3:=bF.1 c3;obtain⟨k,hkc⟩:=fL b2.1;have hl:=ha.lt T;obtain⟨i1,i2⟩:=Be T;have hs:=ha.syms _ (cT hl);have hkl:k<c.array.cells[gp c.config.az a.addr].symbols.length:=by rw[hs.1];omega
   have O:=ani ha (Int.le_refl _) T hl (show k<11 by omega) hkl b3;rw[<-hkc,e]at O;injection O with O
   refine⟨cM c x,true,rfl,?_,⟨U,Z,z3,wS (eA.qO hx),z6,z7,z8,z9,gy,iE,iK,jj,jk,kZ⟩,Ck.ok ⟨h.f1,h.f2,h.nw,h.rk,h.rd,hx,h.sp,h.se,h.rf,(show gF (cM c x)from ⟨p.dl,p.tl,p.gl,p.t,p.g,p.pd,p.u⟩).ok,h.qu,h.sh,h.sl,h.dr,h.pw,h.ps,h.si,h.s1,h.s2,h.s3,h.er,h.tr,h.rp⟩,λh=>by cases h⟩
   rw[O];simp[Uc,i1,hl,hkc,hkl,cM]
 |false=>
 rw[aq,aq];cases a.kind==(4:Int)with
 | true=>
  rw[au,au,dx,ak,ei,ak];cases hn:aN a.n 0 1 with
  |false=>exact no
  | true=>
   obtain⟨y,e,e2,E,L⟩:=aJx h.rf (a.n==(1:Int));rw[au,bA,aq,e,ak,e2,ak];exact⟨qN c y,true,rfl,rfl,⟨U,Z,z3,z5,z6,by unfold uU at z7 ⊢;show y.aI.length<=_;omega,z8,z9,gy,iE,iK,jj,jk,kZ⟩,Ck.ok ⟨h.f1,h.f2,h.nw,h.rk,h.rd,h.ar,h.sp,h.se,E,(show gF (qN c y)from ⟨by show (y.aI.length:Int)=_;rw[L];exact p.dl,p.tl,p.gl,p.t,p.g,p.pd,p.u⟩).ok,h.qu,h.sh,h.sl,h.dr,h.pw,h.ps,h.si,h.s1,h.s2,h.s3,h.er,h.tr,h.rp⟩,λh=>by cases h⟩
 |false=>
 rw[aq,aq];cases a.kind==(5:Int)with
 | true=>
  rw[au,au,N1 _ _ (by omega),ak,abF _ _ (by omega),ak];cases O:oQ c.config a.gY with
  |false=>exact no
  | true=>
   have hp:=(Ee (by omega) O).2;rw[au,bA,aq,aJa c.box U a.gY Y,ak,aJc c.box U a.gY Y,ak,hp,au];exact⟨⟨c.config,⟨c.box.bH,a.gY,true⟩,c.now,c.br,c.ready,c.array,c.spare,c.aV,c.bJ,c.guard,c.pending,c.queue,c.shares,c.drain,c.bf,c.cH,c.errors,c.trace,c.cy⟩,true,rfl,rfl,⟨⟨U.1,Y⟩,Z,z3,z5,z6,z7,z8,z9,gy,iE,iK,jj,jk,kZ⟩,Ck.ok ⟨h.f1,O,h.nw,h.rk,h.rd,h.ar,h.sp,h.se,h.rf,(show gF ⟨c.config,⟨c.box.bH,a.gY,true⟩,c.now,c.br,c.ready,c.array,c.spare,c.aV,c.bJ,c.guard,c.pending,c.queue,c.shares,c.drain,c.bf,c.cH,c.errors,c.trace,c.cy⟩from ⟨p.dl,p.tl,p.gl,p.t,p.g,p.pd,p.u⟩).ok,h.qu,h.sh,h.sl,h.dr,h.pw,h.ps,h.si,h.s1,h.s2,h.s3,h.er,h.tr,h.rp⟩,λh=>by cases h⟩
 |false=>
 rw[aq,aq];cases a.kind==(6:Int)with
 | true=>
  obtain⟨v,y,e1,e2,E,L,y3⟩:=aJw D C a.addr;rw[au,au,e1,ak,e2,ak];exact⟨y,v,rfl,rfl,E,L,y3⟩
 |false=>exact no
def aJA{c:ax}(C:dU c)(a:lC)(L:a.gY.weights.length<=1048576):∃ y t,DP c a=some (y,t)/\Md c a=some (y,t)/\dU y:=by
 cases D:eV c with
 | false=>
  refine⟨c,false,?_,?_,C⟩
  ·unfold DP;rw[Hx c C,ak,Hw c C,ak,D];rfl
  ·unfold Md;rw[abM c C,ak,anC c C,ak,D];rfl
 | true=>
  obtain⟨y,t,O,T,E,_,U⟩:=aJz C D a L;refine⟨y,t,O,?_,E⟩;unfold Md;rw[abM c C,ak,anC c C,ak,D,bA,aq,T,ak];dsimp only;cases t with
  |false=>rw[U rfl];rfl
  | true=>
   rw[abM y E];rfl
def aJB(c:ax)(a:lC)(Y:NX c)(Z:NV a):aaC c a=some true:=by
 unfold aaC;obtain⟨y,e,h|⟨h1,h2,C⟩⟩:=aGa c Y (n:=1048576) (by omega) (by omega)
 ·rw[e,ak,aS h];rfl
 obtain⟨y',E,h' |⟨VN,h2',D⟩⟩:=aD9 a Z (n:=y) (by omega) (by omega)
 ·rw[e,ak,aT,aq,E,ak,aS h'];rfl
 ·have L:a.gY.weights.length<=1048576:=D;obtain⟨d,t,e1,e2,O⟩:=aJA C a L;rw[e,ak,aT,aq,E,ak,aT,aq];simp only[aGb c C,aEa a D,e1,e2,anB c C,anB _ O,aEb a D,ak,dM,bA,aq]
  refine anO c C _ _ λr0 r1 r2 r3 r4 r5 r6 r7 r8 r9 uM uN uO uP uQ uR uS T hk U=>?_
  obtain⟨m,l',em,_,d1,d2⟩:=wK a.gY.weights L T.1 (by omega) (by omega);rw[em,ak];dsimp only;rw[aT,aq]
  refine anO d O _ _ λr0 r1 r2 r3 r4 r5 r6 r7 r8 r9 uM uN uO uP uQ uR uS T hk U=>?_
  rw[U];simp only[ak];rw[aT,aq,dY,aq];rfl
def aJC(C D:Value)(w:World)(L:JB .cN NX w C)(O:JB .Act NV w D):Calls Tryz.prog 7 #[C,D] w λe w'=>e = .returned (.bool true)/\Below w.heap.size w w':=by
 obtain⟨x,T,us,rfl,U⟩:=L;obtain⟨E,Y,us1,rfl,Z⟩:=O;exact atG aCK (atH (ai:=[(true,.cN),(true,.Act)]) (x:=(x,E,())) (by kernel_rfl) (aJB x E T Y)) (aGW U Z)
end Go.Proofs.YtnilicojgkhpnaaGreat
