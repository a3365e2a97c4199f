/-
  Plain laws. Nothing here is a claim.
-/
import Derived.Test.YtnilicojgkhpnaaGreatPYExactDrained
namespace Go.Proofs.YtnilicojgkhpnaaGreat
set_option linter.defProp false
open Go.RowKit
set_option linter.unusedVariables false
set_option linter.unusedSimpArgs false
set_option maxRecDepth 100000
def alJ{x:Int}(h:0<=x/\x<=100000):(if (100000:Int)<W6 (x+1)then (100000:Int)else W6 (x+1))=mA 1 x:=by
 rw[aO (n:=x+1)];rfl
def Tl(C:ax)(O D T:Int)(E:aa Int):ah (af×(ax×af)):=bif (decide (O<(W6 (T-(1:Int)))))then if Z:0<=(W6 (D+(1:Int)))/\(W6 (D+(1:Int))).toNat<E.length then if U:(W6 (D+(1:Int))).toNat<E.length then (let L:=E[(W6 (D+(1:Int))).toNat]'U;if h61:0<=(W6 (D+(1:Int)))/\(W6 (D+(1:Int))).toNat<E.length then if Y:(W6 (D+(1:Int))).toNat<E.length then (let e63:=E[(W6 (D+(1:Int))).toNat]'Y;some ((),((⟨C.config,C.box,C.now,C.bq,C.ready,⟨C.array.cells,(C.array.bz.set D.toNat (0:Int)),(E.set (W6 (D+(1:Int))).toNat (if (100000:Int)<(W6 (L+(1:Int)))then (100000:Int)else (W6 (L+(1:Int)))))⟩,C.spare,C.aP,C.bH,C.guard,C.pending,C.queue,C.shares,C.drain,C.aZ,C.cK,C.errors,C.trace,C.cT⟩:ax),())))else none else none)else none else none else some ((),((⟨C.config,C.box,C.now,C.bq,C.ready,⟨C.array.cells,(C.array.bz.set D.toNat (0:Int)),E⟩,C.spare,C.aP,C.bH,C.guard,C.pending,C.queue,C.shares,C.drain,C.aZ,C.cK,C.errors,C.trace,C.cT⟩:ax),()))
def Tn(D:ax)(E C L:Int):ah (af×(ax×af)):=if h45:0<=C/\C.toNat<D.array.bz.length then if T:C.toNat<D.array.bz.length then (let e47:=D.array.bz[C.toNat]'T;if h48:0<=C/\C.toNat<D.array.bu.length then if U:C.toNat<D.array.bu.length then (let e50:=D.array.bu[C.toNat]'U;(bif (decide (E > (0:Int)))then if h51:0<=(W6 (C-(1:Int)))/\(W6 (C-(1:Int))).toNat<(D.array.bu.set C.toNat (0:Int)).length then if Y:(W6 (C-(1:Int))).toNat<(D.array.bu.set C.toNat (0:Int)).length then (let O:=(D.array.bu.set C.toNat (0:Int))[(W6 (C-(1:Int))).toNat]'Y;if h54:0<=(W6 (C-(1:Int)))/\(W6 (C-(1:Int))).toNat<(D.array.bu.set C.toNat (0:Int)).length then if Z:(W6 (C-(1:Int))).toNat<(D.array.bu.set C.toNat (0:Int)).length then (let Yo:=(D.array.bu.set C.toNat (0:Int))[(W6 (C-(1:Int))).toNat]'Z;(Tl D E C L ((D.array.bu.set C.toNat (0:Int)).set (W6 (C-(1:Int))).toNat (if (100000:Int)<(W6 (O+(1:Int)))then (100000:Int)else (W6 (O+(1:Int)))))))else none else none)else none else none else (Tl D E C L (D.array.bu.set C.toNat (0:Int)))))else none else none)else none else none
def alK{d:ax}{R r:Int}{i:Nat}{H:aa Int}(T:H.length<1000000)(D:r<R-1->i+1<H.length)(E:W6 (R-1)=R-1)(L:∀ x∈H,0<=x/\x<=100000)(hi:i<1000000):Tl d r (i:Int) R H=some ((),(dm d ⟨d.array.cells,d.array.bz.set i 0,bif decide (r<R-1)then oZ (i+1) H else H⟩,())):=by
 have O:W6 ((i:Int)+1)=((i+1:Nat):Int):=bD;unfold Tl dm;rw[E,O];simp only[bC];by_cases C:r<R-1
 ·have q:i+1<H.length:=D C;rw[aW C,au,au,az ⟨by omega,q⟩,az q,az ⟨by omega,q⟩,az q,alJ (L _ (cV q)),Zj q]
 ·rw[aV C,aq,aq]
def alL{d:ax}{R r:Int}{i:Nat}(E:i<d.array.bz.length)(L:i<d.array.bu.length)(hl:d.array.bu.length<1000000)(Y:0<r->1<=i)(O:r<R-1->i+1<d.array.bu.length)(T:W6 (R-1)=R-1)(Z:∀ x∈d.array.bu,0<=x/\x<=100000):Tn d r (i:Int) R=some ((),(dm d ⟨d.array.cells,d.array.bz.set i 0,vX R r i d.array.bu⟩,())):=by
 have C:=Mo Z (k:=i) (v:=0) ⟨by omega,by omega⟩;have hL:(d.array.bu.set i 0).length=d.array.bu.length:=by simp
 unfold Tn vX AD;simp only[bC];rw[az ⟨by omega,E⟩,az E,az ⟨by omega,L⟩,az L];obtain⟨H,U⟩:∃H,d.array.bu.set i 0=H:=⟨_,rfl⟩
 rw[U]at C hL;simp only[U];by_cases D:0<r
 ·have p1':=Y D;have w1:W6 ((i:Int)-1)=((i-1:Nat):Int):=by rw[aO];omega
  have q:i-1<H.length:=by omega
  simp only[w1,bC];rw[aW D,au,au,az ⟨by omega,q⟩,az q,az ⟨by omega,q⟩,az q,alJ (C _ (cV q)),<-Zj q];exact alK (by rw[Mp];omega) (λh=>by rw[Mp];have:=O h;omega) T (SN C) (by omega)
 ·rw[aV D,aq,aq];exact alK (by omega) (λh=>by have:=O h;omega) T C (by omega)
def alM{g:aU}(E:cI g=true)(l:iY){B:Int}(c:ax)(C:eX g B c.array){b r:Int}(L:0<=b)(O:b<bf g)(Z:0<=r)(h4:r<g.rows):KU g l c b r=some ((),(dm c (uJ g l c.array b r),())):=by
 obtain⟨_,_,_,_,g5,g6,g7,g8⟩:=fF E;have b2:=qg g;have er:bf g*g.rows=gu g:=by simp[gu,E]
 obtain⟨r0,r1,r2⟩:=vU L O Z h4;rw[er]at r2;have T:r<g.rows-1->b*g.rows+r+1<gu g:=λh=>by
  have:=(vU L O (show 0<=r+1 by omega) (show r+1<g.rows by omega)).2.2;omega
 have U:0<r->1<=b*g.rows+r:=λh=>by omega
 have a1:=C.bz;have a2:=C.bu;have e1:W6 (b*g.rows)=b*g.rows:=aO;have e2:W6 (b*g.rows+r)=b*g.rows+r:=aO;have w3:W6 (g.rows-1)=g.rows-1:=aO;have Y:=aEB E c C.cells C.syms L O Z h4;unfold uJ;generalize jY ((b*g.rows+r)*g.aT).toNat g.aT.toNat c.array.cells=cs at Y;have hx:KU g l c b r=(Fc g l c.array (W6 (W6 (b*g.rows)+r))).bind λy1=>bif y1 then (iter Ai aS (((),r,(),W6 (W6 (b*g.rows)+r),(0:Int),()),(c,(g.cF,g.aB,g.rows,g.aT,()),()))).bind (Sum.elim (λD=>Tn D.2.1 D.1.2.1 D.1.2.2.2.1 D.2.2.1.2.2.1) (λz=>nomatch z))else Tn c r (W6 (W6 (b*g.rows)+r)) g.rows:=rfl
 rw[hx,e1,e2];obtain⟨i,hi⟩:=iw r1;rw[hi]at Y U T r2 ⊢;rw[bC,aAP g l c.array i (by omega) (by omega),ak];cases ye l c.array i with
 |false=>exact alL (d:=c) (r:=r) (R:=g.rows) (i:=i) (by omega) (by omega) (by omega) (λh=>by have:=U h;omega) (λh=>by have:=T h;omega) w3 C.iO
 | true=>
  rw[au,Y,ak];exact alL (d:=dm c ⟨cs,c.array.bz,c.array.bu⟩) (r:=r) (R:=g.rows) (i:=i) (by show i<c.array.bz.length;omega) (by show i<c.array.bu.length;omega) (by show c.array.bu.length<_;omega) (λh=>by have:=U h;omega) (λh=>by show _<c.array.bu.length;have:=T h;omega) w3 C.iO
def aEC{c:ia}{p:fz}(C:p.weights.length<1073741823)(h:pg c p=true):iP c.ck=true:=by
 have⟨b,e,D⟩:=Zt c p C;have E:b=true:=by
  rw[Td c p C]at e;simp_all
 have:=D E;simp[og,aN]at this;simp_all
def jr(i:Nat):aG:=⟨(i:Int) % 9+1,if (i:Int) % 9+1<=5 then (i:Int) / 9 else 0,0,0⟩
def ym(n m:Int):Int:=if n > m then n else m
def To(g:aU)(t:c9)(l:aa Int)(c:aG)(m:Int)(i:Nat):Int:=match l[i]? with
 |some n=>bif decide (n<0)then m else ym (n+vZ g t (jr i) c) m
 |none=>m
def uK(g:aU)(t:c9)(l:aa Int)(c:aG)(k:Nat):Int:=(List.range k).foldl (To g t l c) 0
def yo(g:aU)(t:c9)(r:dn)(c:aG):Int:=
 bif c.kind==1&&(r.bx.length:Int)==4 then ym (r.bx.getD 0 0+t.jH) (uK g t r.last c r.last.length)else uK g t r.last c r.last.length
def aaq(g:aU)(t:c9)(l:aa Int)(c:aG)(k:Nat):uK g t l c (k+1)=To g t l c (uK g t l c k) k:=by
 unfold uK;rw[List.range_succ,List.foldl_append];rfl
def aar{g:aU}{t:c9}{l:aa Int}{c:aG}{m:Int}{i:Nat}(h:i<l.length):To g t l c m i=bif decide (l[i]<0)then m else ym (l[i]+vZ g t (jr i) c) m:=by
 unfold To;rw[bZ h]
def aED{a b C:Int}(D:a<=C)(E:0<=b/\b<=C):0<=ym a b/\ym a b<=C:=by
 unfold ym;split<;>omega
structure Gn (g:aU) (t:c9) (r:dn):Prop where
 sJ:cI g=true
 Dw:iP t=true
 len:r.last.length<1000
 last:∀(i:Nat) (h:i<r.last.length),(-1<=r.last[i]/\r.last[i]<=1000000)/\(r.last[i] = -1\/om g i=true)
 a4:r.bx.length<=4
 act:∀x∈r.bx,0<=x/\x<=1000000
def aEE{g:aU}{t:c9}{r:dn}(E:iP t=true)(h:kW g r=true):Gn g t r:=by
 have Y:=fG g;simp only[kW,aN,cw,gk]at h;have⟨L,C,D,O,T⟩:=h;have C:(r.last.length:Int)=9*(bf g+1):=by simpa using C
 have D:¬ (r.bx.length:Int) > 4:=by simpa using D
 refine⟨L,E,by omega,λi hi=>?_,by omega,λx U=>?_⟩
 ·have e:=O i hi;rw[My hi]at e;simp only[aN,eB]at e;refine⟨bJ.1 e.1,?_⟩
  grind
 ·obtain⟨i,hi,rfl⟩:=jh.1 U;have e:=T i hi;cases i with
  |zero=>rw[Mz hi]at e;exact bJ.1 e
  |succ i=>rw[Gb hi]at e;simp at e;exact bJ.1 e.1
def alN(i:Nat):1<=(jr i).kind/\(jr i).kind<=9:=by
 unfold jr;dsimp only;omega
def aEF{g:aU}{i:Nat}(C:om g i=true):(jr i).kind <= 5 -> 0 <= (jr i).ay/\(jr i).ay<bf g:=by
 unfold om at C;unfold jr
 grind
def aEG{g:aU}{i:Nat}(hi:i<1000)(C:om g i=true):∃ b,CT g (i:Int)=some (jr i,b):=by
 have E:=C;unfold om at C;unfold CT jr;rw[oa,ak,rH (by omega),rI (by omega),aO,aO,Mx,ak];cases D:decide ((i:Int) / 9<bf g)with
 |true =>simp_all
 | false=>
  rw[D]at C;have L:¬ (i:Int) % 9+1 <= 5:=by
   simp_all
  simp[*]
def Tp{g:aU}{t:c9}{r:dn}(h:Gn g t r)(c:aG):∀ k,k <= r.last.length -> 0 <= uK g t r.last c k/\uK g t r.last c k <= 1000128
 |0,_=>⟨Int.le_refl _,by show 0 <= _;omega⟩
 | k+1,D=>by
  have C:=Tp h c k (by omega);rw[aaq,aar (by omega)];have E:=ZK h.Dw g (jr k) c;have L:=(h.last k (by omega)).1;cases decide (r.last[k]<0)with
  |true=>exact C
  |false=>exact aED (by omega) C
def aEH{g:aU}{t:c9}{r:dn}{c:aG}(h:Gn g t r)(T:dL g c=true):QU g t r c=some (yo g t r c):=by
 have U:=λk E=>Tp h c k E
 have Z:1<=c.kind/\c.kind<=9:=by
  simp only[dL,aN]at T;exact bJ.1 T.2.1
 have e:=cH (step:=Kr) r.last.length (λi=>(((),(),(),(),uK g t r.last c i,(i:Int),()),((g.cF,g.aB,g.rows,g.aT,()),t,(r.last,r.bx,()),(c.kind,c.ay,c.row,c.bR,()),()))) (.inl (((),(),(),uK g t r.last c r.last.length,()),(t,(r.last,r.bx,()),(c.kind,c.ay,c.row,c.bR,()),()))) aS (λk E=>by
  have h1:=h.len;have h2:=(h.last k E).1;have h3:=U k (by omega);have D:=ZK h.Dw g (jr k) c;unfold Kr av xG xI;dsimp only;rw[aW,au,az ⟨by omega,by omega⟩,bD];simp only[bC];rw[aaq,aar E];cases hd:decide (r.last[k]<0)with
  |true=>rfl
  | false=>
   have L:Ae g t (jr k) c=some (vZ g t (jr k) c):=aBD h.sJ h.Dw (alN k) Z;have e1:W6 ((k:Int).tmod 9+1)=(k:Int) % 9+1:=by rw[rI (by omega),aO]
   have e2:W6 ((k:Int).tdiv 9)=(k:Int) / 9:=by rw[rH (by omega),aO]
   unfold jr at L;rw[aq,aq,e1,e2];by_cases C:(k:Int) % 9+1<=5
   ·rw[bL C]at L;rw[aW C,au,az ⟨by omega,E⟩,sF];show Option.bind (Ae g t _ c) _=_;rw[L,ak,aO (n:=r.last[k]+_) (by unfold jr at D;rw[bL C]at D;omega) (by unfold jr at D;rw[bL C]at D;omega)];unfold jr ym;rw[bL C]
   ·rw[bX C]at L;rw[aV C,aq,az ⟨by omega,E⟩,sF];show Option.bind (Ae g t _ c) _=_;rw[L,ak,aO (n:=r.last[k]+_) (by unfold jr at D;rw[bX C]at D;omega) (by unfold jr at D;rw[bX C]at D;omega)];unfold jr ym;rw[bX C]) (by
  unfold Kr av xG xI;dsimp only;rw[aV,aq]) (bP (by have:=h.len;omega))
 rw[cv]at e;unfold QU yo xI bk
 refine(aY (λo=>Option.bind o _) e).trans ?_
 rw[ak];simp only[eH];have hL:=U r.last.length (dM _);have hf:=ak7 h.Dw;cases c.kind==(1:Int)with
 |false=>rfl
 | true=>
  cases Y:(r.bx.length:Int)==(4:Int)with
  |false=>rfl
  | true=>
   have Y:(r.bx.length:Int)=4:=by simpa using Y
   have O:0<r.bx.length:=by omega
   have ha:=h.act _ (cV O);rw[au,au,az ⟨by omega,O⟩];show some (if W6 (r.bx[0]+t.jH) > _ then W6 (r.bx[0]+t.jH)else _)=_;rw[aO,eY,bZ O];rfl
def aEI{g:aU}{t:c9}{r:dn}(h:Gn g t r)(c:aG):0 <= yo g t r c:=by
 have C:=Tp h c _ (dM _);unfold yo ym
 grind
def aEJ{g:aU}{t:c9}{r:dn}{c:aG}(h:Gn g t r)(hr:kW g r=true)(C:dL g c=true):R3 g t r c=some (bif decide (yo g t r c > 1000000)then -1 else yo g t r c):=by
 have T:=λk D=>Tp h c k D
 have U:(1<=c.kind/\c.kind<=9)/\(c.kind<=5->0<=c.ay/\c.ay<bf g):=by
  simp only[dL,aN]at C
  refine⟨bJ.1 C.2.1,λh5=>?_⟩
  have E:=C.2.2.1;rw[MF (bJ.1 C.2.1),aW h5]at E;have:=bJ.1 E;omega
 have e:=cH (step:=LR) r.last.length (λi=>(((),(),(),(),uK g t r.last c i,r.last,(r.last.length:Int),(i:Int),()),((g.cF,g.aB,g.rows,g.aT,()),t,(r.last,r.bx,()),(c.kind,c.ay,c.row,c.bR,()),()))) (.inl (((),(),(),uK g t r.last c r.last.length,()),(t,(r.last,r.bx,()),(c.kind,c.ay,c.row,c.bR,()),()))) aS (λk D=>by
  have E:=h.len;have h2:=(h.last k D).1;have h3:=T k (by omega);have hg:=ZK h.Dw g (jr k) c;unfold LR av xG xI;dsimp only;rw[aW,au,az ⟨by omega,by omega⟩,bD];simp only[bC];rw[aaq,aar D];cases hd:decide (r.last[k]<0)with
  |true=>rfl
  | false=>
   have aHj:¬ r.last[k]<0:=by simpa using hd
   have Y:om g k=true:=by
    rcases(h.last k D).2 with h9|h9
    ·omega
    ·exact h9
   obtain⟨b,eb⟩:=aEG (g:=g) (i:=k) (by omega) Y;rw[aq,aq,sF,eb,ak];show Option.bind (LQ g t (jr k) c) _=_;rw[aBC t h.sJ (alN k) U.1 (aEF Y) U.2,ak,aO (n:=r.last[k]+_)];rfl) (by
  unfold LR av xG xI;dsimp only;rw[aV,aq]) (bP (by have:=h.len;omega))
 rw[cv]at e;unfold R3 yo xI bk;rw[Mr,ak,h.Dw,bB,aq,Zy,ak,hr,bB,aq,ZD,ak,C,bB,aq]
 refine(aY (λo=>Option.bind o _) e).trans ?_
 rw[ak];simp only[eH];have hL:=T r.last.length (dM _);have hf:=ak7 h.Dw;have L:∀m:Int,(bif decide (m > 1000000)then some (-1:Int)else some m)=some (bif decide (m > 1000000)then -1 else m):=λm=>by cases decide (m > 1000000)<;>rfl
 cases c.kind==(1:Int)with
 |false=>exact L _
 | true=>
  cases Z:(r.bx.length:Int)==(4:Int)with
  |false=>exact L _
  | true=>
   have Z:(r.bx.length:Int)=4:=by simpa using Z
   have O:0<r.bx.length:=by omega
   have ha:=h.act _ (cV O);rw[au,au,az ⟨by omega,O⟩];show (bif decide ((if W6 (r.bx[0]+t.jH) > _ then W6 (r.bx[0]+t.jH)else _) > 1000000)then _ else some (if W6 (r.bx[0]+t.jH) > _ then W6 (r.bx[0]+t.jH)else _))=_;rw[aO,eY,bZ O];exact L _
def dy(c:ax)(x:aG):Bool:=o9 c.bq x&&(decide (yo c.config.aE c.config.ck c.ready x<=1000000)&&decide (yo c.config.aE c.config.ck c.ready x<=c.now))
structure Pk (c:ax):Prop where
 z:eK c
 ok:hG c=true
 rk:lP c.config.aE c.bq=true
 rdy:kW c.config.aE c.ready=true
 R:Gn c.config.aE c.config.ck c.ready
 bl:(c.bq.aB.length:Int)=bf c.config.aE
def Pk.of{c:ax}(C:eK c)(h:hG c=true):Pk c:=by
 have U:c.box.bI.weights.length <= 1048576:=C.1.1;have L:=h;simp[hG,aN]at h;have⟨O,Y,Z,D,E,h6,h7,h8,h9,Gd,AI,tG,uf,AJ,AK,zO,Dq,Gq,Gr,MQ,xU,MR⟩:=h;have T:c.bq.aB.length=bf c.config.aE:=by
  simp[lP,aN]at D;simp_all
 exact⟨C,L,D,E,aEE (aEC (by omega) O) E,T⟩
def aEK{g:aU}{x:aG}(C:dL g x=true):(1 <= x.kind/\x.kind <= 9)/\(x.kind <= 5 -> 0 <= x.ay/\x.ay<bf g):=by
 simp[dL,aN]at C
 refine⟨bJ.1 C.2.1,λE=>?_⟩
 have D:=C.2.2.1;rw[MF (bJ.1 C.2.1),aW E]at D;have:=bJ.1 D;omega
def Tq{c:ax}(h:Pk c){x:aG}(C:dL c.config.aE x=true):CK c x=some (dy c x):=by
 have⟨L,D⟩:=aEK C;have O:=fG c.config.aE;have T:=h.bl;unfold CK dy;rw[aBy L (λE=>⟨(D E).1,by have:=D E;omega⟩) (by omega),ak,aEH h.R C,ak]
 grind
def yp{c:ax}(h:Pk c){x:aG}(C:dL c.config.aE x=true):iN c x=some (dy c x):=by
 have D:=aEI h.R x;unfold iN dy;rw[ZE,ak,h.rk,C,cu,cu,aEJ h.R h.rdy C,ak]
 grind
def cB(i:Nat):aa Int->aa Int
 |[]=>[]
 |d::l=>bif decide (d >= 4)then (i:Int)::cB (i+1) l else cB (i+1) l
def aEL(i:Nat)(a b:aa Int):cB i (a++b)=cB i a++cB (i+a.length) b:=by
 induction a generalizing i with
 |nil=>rfl
 | cons d a C=>
  rw[List.cons_append,cB,cB,C,show i+1+a.length=i+(a.length+1) by omega]
  grind
def Dx(i:Nat)(l:aa Int):(cB i l).length <= l.length:=by
 induction l generalizing i with
 |nil=>exact dM _
 | cons d l C=>
  have:=C (i+1);unfold cB
  grind
def aas{l:aa Int}{i:Nat}(h:i<l.length):cB 0 (l.take (i+1))=bif decide (l[i] >= 4)then cB 0 (l.take i)++[(i:Int)]else cB 0 (l.take i):=by
 rw[qZ h,aEL,fJ,Nat.min_eq_left (by omega),fk];show _++(bif decide _ then _::cB _ []else cB _ [])=_;cases decide (l[i] >= 4)with
 |true=>rfl
 |false=>exact List.append_nil _
def alO{l:aa Int}{i:Nat}{b:Int}(h:b∈cB i l):∃ j:Nat,b=((i+j:Nat):Int)/\j<l.length/\l.getD j 0 >= 4:=by
 induction l generalizing i with
 |nil=>cases h
 | cons d l D=>
  unfold cB at h;have tl:b∈cB (i+1) l -> ∃ j:Nat,b=((i+j):Int)/\j<(d :: l).length/\(d :: l).getD j 0 >= 4:=λh=>by
   have⟨j,E,L,O⟩:=D h;exact⟨j+1,by rw[E];omega,by simpa using L,by simpa using O⟩
  cases C:decide (d >= 4)with
  | true=>
   rw[C]at h;rcases gW.1 h with rfl|h
   ·exact⟨0,rfl,by simp,by simpa using C⟩
   ·exact tl h
  |false =>grind
def nB{r:de}(h:fB r=true):r.aH.length<=8/\1<=r.aH.length:=by
 simp only[fB,aN]at h;have:=bJ.1 h.2.1;omega
def aat{r:de}(C:fB r=true):FJ r=some (cB 0 r.aH):=by
 have E:=nB C;unfold FJ bk;rw[Mv _ (by omega),ak,C,bB,aq];have e:=cH (step:=LF) r.aH.length (λi=>(((),r.aH,(r.aH.length:Int),(i:Int),()),(cB 0 (r.aH.take i),()))) (.inl (((),()),(cB 0 r.aH,()))) aS (λi h=>by
  have D:=Dx 0 (r.aH.take i);rw[fJ]at D;unfold LF av xG xI;dsimp only;rw[aW,au,az ⟨by omega,by omega⟩,bD,aas h];simp only[bC];cases decide (r.aH[i] >= 4)with
  |true=>rw[au,au,lT,di,au]
  |false=>rfl) (by
  unfold LF av xG xI;dsimp only;rw[aV,aq,iW]) (bP)
 rw[cv]at e
 refine(aY (λo=>Option.bind o _) e).trans ?_
 rfl
def alP{r:de}(C:fB r=true):Kg r=some (cB 0 r.aH):=by
 have E:=nB C;unfold Kg bk;have e:=cH (step:=Kf) r.aH.length (λi=>(((),(),(i:Int),()),((r.aH,r.wait,r.dS,()),cB 0 (r.aH.take i),()))) (.inl (((),()),(cB 0 r.aH,()))) aS (λi h=>by
  have D:=Dx 0 (r.aH.take i);rw[fJ]at D;unfold Kf av xG xI;dsimp only;rw[aW,au,show (⟨r.aH,r.wait,r.dS⟩:de)=r from rfl,SU _ (by omega),ak,C,au,az ⟨by omega,by omega⟩,bD,aas h];simp only[bC];cases decide (r.aH[i] >= 4)with
  |true=>rw[au,au,lT,di,au]
  |false=>rfl) (by
  unfold Kf av xG xI;dsimp only;rw[aV,aq,iW]) (bP)
 rw[cv,List.take_zero]at e
 refine(aY (λo=>Option.bind o _) e).trans ?_
 rfl
def wo(c:ax):Bool:=decide ((c.queue.length:Int) > 0) ||(decide ((c.pending.length:Int) > 0) ||decide (((cB 0 c.aP.aH).length:Int) > 0))
def alQ{c:ax}(C:fB c.aP=true):At c=some (wo c):=by
 unfold At wo;rw[aat C]
 grind
def alR{c:ax}(C:fB c.aP=true):CC c=some (wo c):=by
 unfold CC wo;rw[alP C]
 grind
def uL(r:kL)(p:eC)(b:Bool):Int:=
 bif b then (bif p.state==1 then 7 else bif p.state==2 then 9 else 0)else bif p.state==0&&decide (p.idle >= r.sleep)then 8 else bif p.state==0&&decide (p.idle >= r.down)then 6 else bif p.state==1&&decide (p.idle >= r.sleep)then 7 else 0
def aEM(r:kL)(p:eC)(b:Bool)(C:AF r=true)(D:jX p=true):R4 r p b=some (uL r p b):=by
 unfold R4 uL;rw[akC,ak,C,bB,SW,ak,D,bB]
 grind
def aEN(r:kL)(p:eC)(b:Bool)(C:AF r=true)(D:jX p=true):QO r p b=some (uL r p b):=by
 unfold QO uL;simp[akD,SX,C,D,aq]
 grind
def aEO(r:kL)(p:eC)(b:Bool):uL r p b=0 \/ 6 <= uL r p b/\uL r p b <= 9:=by
 unfold uL
 grind
def AP(D:Nat->Bool)(v:Nat->Int)(C:Int)(i:Nat):Int:=bif D i&&(decide (C<0) ||decide (v i > v C.toNat))then (i:Int)else C
def kJ(C:Nat->Bool)(v:Nat->Int)(k:Nat):Int:=(List.range k).foldl (AP C v) (-1)
def Gs(C:Nat->Bool)(v:Nat->Int)(k:Nat):kJ C v (k+1)=AP C v (kJ C v k) k:=by
 unfold kJ;rw[List.range_succ,List.foldl_append];rfl
def wq(C:Nat -> Bool)(v:Nat -> Int):∀ k,-1 <= kJ C v k/\kJ C v k<k
 |0=>⟨Int.le_refl _,by show (-1)<0;omega⟩
 | k+1=>by
  have D:=wq C v k;rw[Gs];unfold AP
  grind
def aau(C:Nat -> Bool)(v:Nat -> Int):∀ k,kJ C v k = -1 \/ C (kJ C v k).toNat=true
 |0=>.inl rfl
 | k+1=>by
  have D:=aau C v k;rw[Gs];unfold AP
  grind
def aav{C:Nat -> Bool}(v:Nat -> Int){i:Nat}(h:C i=true):∀ k,i<k -> 0 <= kJ C v k
 |0,D=>by omega
 | k+1,D=>by
  have E:=wq C v k;rw[Gs];unfold AP;by_cases L:i=k
  ·grind
  ·have O:=aav v h k (by omega)
   grind
def uM(l:aa bV)(w:aa Bool):Int:=kJ (λi=>w.getD i false) (λi=>(l.getD i ⟨0,0⟩).eP) (min l.length w.length)
def MS(l:aa bV)(w:aa Bool)(U:l.length<1073741824):FQ l w=some (uM l w):=by
 unfold FQ uM bk;generalize Y:min l.length w.length=n;have e:=cH (step:=LV) n (λi=>((l,w,kJ (λi=>w.getD i false) (λi=>(l.getD i ⟨0,0⟩).eP) i,(i:Int),()),())) (.inl ((kJ (λi=>w.getD i false) (λi=>(l.getD i ⟨0,0⟩).eP) n,()),())) aS (λi h=>by
  have C:i<l.length:=by omega
  have O:i<w.length:=by omega
  have T:=wq (λi=>w.getD i false) (λi=>(l.getD i ⟨0,0⟩).eP) i;rw[Gs];generalize kJ (λi=>w.getD i false) (λi=>(l.getD i ⟨0,0⟩).eP) i=D at T;unfold LV AP av xG xI;dsimp only;rw[aW,au,aW,au,az ⟨by omega,by omega⟩,bD];simp only[bC,eY,bZ O,bZ C,Option.getD_some];cases w[i]with
  |false=>rfl
  | true=>
   rw[au,cu];by_cases E:D<0
   ·rw[aW E];rfl
   ·have L:D.toNat<l.length:=by omega
    rw[aV E,az ⟨by omega,C⟩,az ⟨by omega,L⟩,bZ L,Option.getD_some];cases decide (l[i].eP > l[D.toNat].eP)<;>rfl) (by
  unfold LV av xG xI;dsimp only;by_cases C:n<l.length
  ·rw[aW,au,aV,aq]
  ·rw[aV,aq]) (bP)
 rw[cv]at e
 refine(aY (λo=>Option.bind o _) e).trans ?_
 rfl
def aEP:Q4=FQ:=rfl
def sK(s:bV):bV:=⟨s.weight,s.weight⟩
def iR(l:aa bV):aa bV:=l.map sK
def aaw(l:aa bV)(w:aa Bool)(C:l.length<1073741824):iter FR aS ((w,(),(l.length:Int),(0:Int),()),(l,()))=some (.inl ((w,(),()),(iR l,()))):=by
 have e:=cH (step:=FR) _ (λi=>((w,(),l.length,i,()),(upto sK l i,()))) (.inl ((w,(),()),(iR l,()))) aS (λi h=>by
  have hlen:=Az sK l i;unfold FR av xG xL;dsimp only;rw[aW,au,az ⟨by omega,by omega⟩,az,az ⟨by omega,by omega⟩,az,bD];simp only[bC];rw[F5 sK l i h,<- F6 sK l i h];rfl) (by
  unfold FR av xG xL;dsimp only;rw[aV,aq,F4];rfl) (bP C)
 exact e
def aEQ(l:aa bV)(w:aa Bool)(C:l.length<1073741824):iter Fa aS ((w,(),(0:Int),()),(l,()))=some (.inl ((w,(),()),(iR l,()))):=by
 have e:=cH (step:=Fa) _ (λi=>((w,(),i,()),(upto sK l i,()))) (.inl ((w,(),()),(iR l,()))) aS (λi h=>by
  have hlen:=Az sK l i;unfold Fa av xG xL;dsimp only;rw[aW,au,az ⟨by omega,by omega⟩,az,az ⟨by omega,by omega⟩,az,bD];simp only[bC];rw[F5 sK l i h,<- F6 sK l i h];rfl) (by
  have hlen:=Az sK l l.length;unfold Fa av xG xL;dsimp only;rw[aV,aq,F4];rfl) (bP C)
 exact e
def alS(l:aa bV)(w:aa Bool)(C:l.length<1073741823):KF l w=qf l w:=by
 unfold KF qf xA xC bk xL xZ;rw[List.nil_append,aEP,MS l w (by omega),Mt _ (by omega),Zq _ (by omega),ak];rw[aaw l w (by omega),aEQ l w (by omega)];rfl
def aax{l:aa bV}(w:aa Bool)(U:l.length<1073741823)(D:iQ l=true)(Y:l.length=w.length):∃ y t,qf l w=some (y,t)/\y.length=l.length:=by
 unfold qf xA xC bk xL xZ;have Z:=wq (λi=>w.getD i false) (λi=>(l.getD i ⟨0,0⟩).eP) (min l.length w.length);have E:(iR l).length=l.length:=by simp[iR]
 have L:=wq (λi=>w.getD i false) (λi=>((iR l).getD i ⟨0,0⟩).eP) (min (iR l).length w.length);have O:=aau (λi=>w.getD i false) (λi=>(l.getD i ⟨0,0⟩).eP) (min l.length w.length);rw[List.nil_append,MS l w (by omega),ak,Mt _ (by omega),ak,D,bB,aq,List.length_nil,fk,di,au];unfold uM;generalize hr:kJ (λi=>w.getD i false) (λi=>(l.getD i ⟨0,0⟩).eP) (min l.length w.length)=b at *
 by_cases T:b<0
 ·simp_all
 ·have C:b.toNat<l.length:=by omega
  rw[aV T,aq,az ⟨by omega,C⟩,az C];dsimp only;cases l[b.toNat].eP==0 with
  |false =>simp_all
  | true=>
   rw[au,aaw l w (by omega),ak];simp only[eH];rw[MS _ w (by omega),ak];have hp:0 <= uM (iR l) w:=aav _ (i:=b.toNat) (by rcases O with h|h;exact absurd h (by omega);exact h) _ (by rw[E];omega);have hq:uM (iR l) w<((min (iR l).length w.length:Nat):Int):=L.2;simp_all
def AQ(m:jE)(n:Int)(a:aI):aI:=bif m.hash then ⟨(a.ay+a.row) % n,a.row,a.bR⟩else a
def yu(g:aU)(m:jE)(l:Int):aI:=AQ m (bf g)
 (bif m.order==0 then ⟨l / g.aT % bf g,l / g.aT / bf g,l % g.aT⟩else bif m.order==1 then ⟨l % bf g,l / bf g / g.aT,l / bf g % g.aT⟩else ⟨l / g.aT / g.rows,l / g.aT % g.rows,l % g.aT⟩)
def Gt{l a b:Int}(C:0<=l)(D:0<b)(h:l<a*b):0<=l / b/\l / b<a/\l / b<=l:=by
 refine⟨Int.ediv_nonneg C (by omega),Int.ediv_lt_of_lt_mul D h,?_⟩;exact Int.ediv_le_self _ C
def AR{l b:Int}(C:0<b):0<=l % b/\l % b<b:=⟨Int.emod_nonneg _ (by omega),Int.emod_lt_of_pos _ C⟩
def aay{m:jE}{n:Int}{a:aI}(C:0<n)(D:0 <= a.ay/\a.ay<n):0 <= (AQ m n a).ay/\(AQ m n a).ay<n/\(AQ m n a).row=a.row/\(AQ m n a).bR=a.bR:=by
 unfold AQ;cases m.hash with
 |false=>simp_all
 |true=>exact⟨(AR C).1,(AR C).2,rfl,rfl⟩
def aaz{m:jE}{n b r c:Int}(C:0<n)(D:n<=8)(E:0<=b/\b<=100000)(L:0<=r/\r<=100000):(bif m.hash then if n=0 then none else some ((⟨(W6 (b+r)).tmod n,r,c⟩:aI),true)else some ((⟨b,r,c⟩:aI),true))=some (AQ m n ⟨b,r,c⟩,true):=by
 unfold AQ;cases m.hash with
 |false=>rfl
 |true=>rw[au,bX,aO,rI (by omega),au]
def alT{g:aU}{m:jE}{l:Int}(T:cI g=true)(hm:aL m.order 0 2=true)(D:0<=l)(hl:l<fH g):∀ (f:ah (aI×Bool)),f=(bif (m.order==(0:Int))then if g.aT=0 then none else if g.aT=0 then none else if bf g=0 then none else if g.aT=0 then none else if bf g=0 then none else bif m.hash then if bf g=0 then none else some ((⟨((W6 (((W6 (l.tdiv g.aT)).tmod (bf g))+(W6 ((W6 (l.tdiv g.aT)).tdiv (bf g))))).tmod (bf g)),(W6 ((W6 (l.tdiv g.aT)).tdiv (bf g))),(l.tmod g.aT)⟩:aI),true)else some ((⟨((W6 (l.tdiv g.aT)).tmod (bf g)),(W6 ((W6 (l.tdiv g.aT)).tdiv (bf g))),(l.tmod g.aT)⟩:aI),true)else bif (m.order==(1:Int))then if bf g=0 then none else if bf g=0 then none else if g.aT=0 then none else if bf g=0 then none else if g.aT=0 then none else bif m.hash then if bf g=0 then none else some ((⟨((W6 ((l.tmod (bf g))+(W6 ((W6 (l.tdiv (bf g))).tdiv g.aT)))).tmod (bf g)),(W6 ((W6 (l.tdiv (bf g))).tdiv g.aT)),((W6 (l.tdiv (bf g))).tmod g.aT)⟩:aI),true)else some ((⟨(l.tmod (bf g)),(W6 ((W6 (l.tdiv (bf g))).tdiv g.aT)),((W6 (l.tdiv (bf g))).tmod g.aT)⟩:aI),true)else if g.aT=0 then none else if g.aT=0 then none else if g.rows=0 then none else if g.aT=0 then none else if g.rows=0 then none else bif m.hash then if bf g=0 then none else some ((⟨((W6 ((W6 ((W6 (l.tdiv g.aT)).tdiv g.rows))+((W6 (l.tdiv g.aT)).tmod g.rows))).tmod (bf g)),((W6 (l.tdiv g.aT)).tmod g.rows),(l.tmod g.aT)⟩:aI),true)else some ((⟨(W6 ((W6 (l.tdiv g.aT)).tdiv g.rows)),((W6 (l.tdiv g.aT)).tmod g.rows),(l.tmod g.aT)⟩:aI),true))->f=some (yu g m l,true)/\fj g (yu g m l)=true:=by
 have hb:=fG g;have hp:=akc T;have hL:=oc g;have gb:=fF T;have eL:fH g=bf g*g.rows*g.aT:=by simp[fH,T]
 have wP:aL l 0 (W6 (fH g-1))=true:=by rw[aO];exact bJ.2 ⟨D,by omega⟩
 have ho:=bJ.1 hm;rw[eL]at hl;have Ts:¬ bf g=0:=by omega
 have xb:¬ g.aT=0:=by omega
 have iB:¬ g.rows=0:=by omega
 rintro f rfl;simp only[bX Ts,bX xb,bX iB];unfold yu;by_cases o0:m.order=0
 ·have C:=Gt (a:=bf g*g.rows) D (show 0<g.aT by omega) hl;have E:=Gt (l:=l / g.aT) (a:=g.rows) (b:=bf g) C.1 (by omega) (by rw[Int.mul_comm];exact C.2.1);have U:=AR (l:=l / g.aT) (b:=bf g) (by omega);have a4:=AR (l:=l) (b:=g.aT) (by omega);rw[o0,dR,au,au,rH D,rI D,aO (n:=l / g.aT),rH C.1,rI C.1,aO (n:=l / g.aT / bf g)];obtain⟨Y,Z,L,O⟩:=aay (m:=m) (n:=bf g) (a:=⟨l / g.aT % bf g,l / g.aT / bf g,l % g.aT⟩) (by omega) U;refine⟨?_,Dc T Y Z (by rw[L];exact E.1) (by rw[L];exact E.2.1) (by rw[O];exact a4.1) (by rw[O];exact a4.2)⟩;refine Eq.trans ?_ (aaz (by omega) (by omega) (by omega) (by omega));rw[bX Ts]
 ·rw[kU o0,aq,aq];by_cases o1:m.order=1
  ·have C:=Gt (a:=g.rows*g.aT) D (show 0<bf g by omega) (by rw[Int.mul_comm,<-Int.mul_assoc];exact hl);have E:=Gt (l:=l / bf g) (a:=g.rows) (b:=g.aT) C.1 (by omega) C.2.1;have U:=AR (l:=l) (b:=bf g) (by omega);have a4:=AR (l:=l / bf g) (b:=g.aT) (by omega);rw[o1,dR,au,au,rH D,rI D,aO (n:=l / bf g),rH C.1,rI C.1,aO (n:=l / bf g / g.aT)];obtain⟨Y,Z,L,O⟩:=aay (m:=m) (n:=bf g) (a:=⟨l % bf g,l / bf g / g.aT,l / bf g % g.aT⟩) (by omega) U;refine⟨?_,Dc T Y Z (by rw[L];exact E.1) (by rw[L];exact E.2.1) (by rw[O];exact a4.1) (by rw[O];exact a4.2)⟩;refine Eq.trans ?_ (aaz (by omega) (by omega) (by omega) (by omega));rw[bX Ts]
  ·have C:=Gt (a:=bf g*g.rows) D (show 0<g.aT by omega) hl;have E:=Gt (l:=l / g.aT) (a:=bf g) (b:=g.rows) C.1 (by omega) C.2.1;have U:=AR (l:=l / g.aT) (b:=g.rows) (by omega);have a4:=AR (l:=l) (b:=g.aT) (by omega);rw[kU o1,aq,aq,rH D,rI D,aO (n:=l / g.aT),rH C.1,rI C.1,aO (n:=l / g.aT / g.rows)];obtain⟨Y,Z,L,O⟩:=aay (m:=m) (n:=bf g) (a:=⟨l / g.aT / g.rows,l / g.aT % g.rows,l % g.aT⟩) (by omega) ⟨E.1,E.2.1⟩;refine⟨?_,Dc T Y Z (by rw[L];exact U.1) (by rw[L];exact U.2) (by rw[O];exact a4.1) (by rw[O];exact a4.2)⟩;refine Eq.trans ?_ (aaz (by omega) (by omega) (by omega) (by omega));rw[bX Ts]
def alU{g:aU}{m:jE}{l:Int}(C:cI g=true)(D:aL m.order 0 2=true)(E:0<=l)(L:l<fH g):R6 g m l=some (yu g m l,true)/\fj g (yu g m l)=true:=by
 have T:=oc g;have O:aL l 0 (W6 (fH g-1))=true:=by rw[aO];exact bJ.2 ⟨E,by omega⟩
 refine alT C D E L _ ?_;unfold R6;rw[yd,ak,C,bB,aq,Zn,ak,D,bB,aq,Mh,ak,dK,ak,O,bB,aq,oa,ak]
def aER{g:aU}{m:jE}{l:Int}(E:cI g=true)(C:aL m.order 0 2=true)(D:0<=l)(L:l<fH g):QY g m l=some (yu g m l,true):=by
 have T:=oc g;have O:aL l 0 (W6 (fH g-1))=true:=by rw[aO];exact bJ.2 ⟨D,by omega⟩
 refine(alT E C D L _ ?_).1;unfold QY;rw[show EP m=some (aL m.order 0 2)from Zn m,ak,C,bB,aq,Mi,ak,eJ,ak,O,bB,aq,sB,ak]
def gE(c:ax)(l:Int):aI:=
 let a:=yu (jq c.config.aE c.spare) c.config.mapping l
 ⟨a.ay,c.spare.map.getD (a.ay*(c.config.aE.rows-c.spare.cr)+a.row).toNat 0,a.bR⟩
def aaA{g:aU}{s:eZ}(h:nt g s=true):jq g s=⟨g.cF,g.aB,g.rows-s.cr,g.aT⟩/\cI g=true/\cI (jq g s)=true/\bf (jq g s)=bf g/\0 <= s.cr/\s.cr <= 2/\2 <= g.rows-s.cr/\g.rows <= 16:=by
 have D:=h;simp[nt,aN]at h;have⟨C,E,L,O,T⟩:=SP h.1;have Y:=fF C;have e:jq g s=⟨g.cF,g.aB,g.rows-s.cr,g.aT⟩:=by
  unfold jq;rw[D,au,aO]
 have U:cI (jq g s)=true:=by
  rw[e];unfold cI;simp[aN,bJ];omega
 refine⟨e,C,U,?_,E,L,O,T⟩;unfold bf;simp_all
def alV{g:aU}{s:eZ}(h:nt g s=true){b r:Int}(O:0 <= b/\b<bf g)(T:0 <= r/\r<g.rows-s.cr):(b*(g.rows-s.cr)+r).toNat<s.map.length/\0 <= s.map.getD (b*(g.rows-s.cr)+r).toNat 0/\s.map.getD (b*(g.rows-s.cr)+r).toNat 0<g.rows:=by
 have⟨_,hg,_,_,h1,h2,h3,h4⟩:=aaA h;have U:=fG g;simp only[nt,aN,gA,cw,gk]at h;have⟨_,C,Y⟩:=h;obtain⟨b,rfl⟩:=iw O.1;obtain⟨r,rfl⟩:=iw T.1;have⟨R,D⟩:=iw (show 0 <= g.rows-s.cr by omega);have⟨E,Z⟩:=iw U.1;rw[D,Z,bC,bC]at C;have C:s.map.length=E*R:=by exact_mod_cast C
 have DU:b<E:=by omega
 have L:r<R:=by omega
 have e:((b:Int)*(g.rows-s.cr)+(r:Int)).toNat=b*R+r:=by rw[D,<- Int.natCast_mul,<- Int.natCast_add,bC]
 have dA:=Dl (R:=R) DU (show r+1 <= R from L);have hi:b*R+r<s.map.length:=by omega
 have h5:=Y b (by omega) r (by omega);rw[e];refine⟨hi,?_⟩;rw[eY,bZ hi,Option.getD_some];have yN:(jA s.map R b)[r]?=some s.map[b*R+r]:=by rw[MA,List.getElem?_take_of_lt L,List.getElem?_drop,bZ hi]
 rw[D,bC]at h5;unfold rj at h5;rw[yN]at h5;simp only[eB,aN,gA,bJ]at h5;rcases h5 with h5|h5
 ·omega
 ·grind
def aES{c:ax}(h:Pk c)(E:nt c.config.aE c.spare=true)(he:c.spare.cr=c.config.cr)(hm:aL c.config.mapping.order 0 2=true){l:Int}(h0:0 <= l)(hl:l<fH (jq c.config.aE c.spare)):vT c l=some (gE c l,true)/\fj c.config.aE (gE c l)=true:=by
 have⟨e1,hg,yS,eb,s1,s2,s3,s4⟩:=aaA E;have⟨m1,m3⟩:=alU yS hm h0 hl;have⟨_,C,D,L,O,b5,b6⟩:=sC m3;rw[eb]at D;have gb:=fF hg;have U:=fG c.config.aE;have er:(jq c.config.aE c.spare).rows=c.config.aE.rows-c.spare.cr:=by rw[e1]
 have ec:(jq c.config.aE c.spare).aT=c.config.aE.aT:=by rw[e1]
 rw[er]at O;rw[ec]at b6;have⟨k1,k2,k3⟩:=alV E ⟨C,D⟩ ⟨L,O⟩;have hmul:=vU C D L O;have hM:=SI (a:=bf c.config.aE) (b:=c.config.aE.rows-c.spare.cr) (A:=8) (B:=16) U.1 U.2 (by omega) (by omega);unfold gE;generalize hA:yu (jq c.config.aE c.spare) c.config.mapping l=A at *
 dsimp only;refine⟨?_,Dc hg C D k2 k3 b5 b6⟩;unfold vT;rw[ZA,ak,m1,ak];dsimp only;rw[bB,aq];unfold YU xI;have hx:R5 (jq c.config.aE c.spare) A.ay A.row=some true:=by
  unfold R5;rw[Y9,ak,Dc (a:=⟨A.ay,A.row,0⟩) yS C (by rw[eb];exact D) L (by rw[er];exact O) (Int.le_refl 0) (by rw[ec];show 0<_;omega)]
 have⟨b,hbN⟩:=iw C;have⟨r,hrN⟩:=iw L;have⟨R,hR⟩:=iw (show 0 <= c.config.aE.rows-c.spare.cr by omega);have⟨bn,hn⟩:=iw U.1;have Y:c.spare.map.length=bn*R:=by
  simp only[nt,aN,gA]at E;have:=E.2.1
  grind
 have T:b<bn:=by omega
 have Z:r<R:=by omega
 have dA:=Dl (R:=R) T (show r+1 <= R from Z);have aET:=Dl (R:=R) T (dM R);have hi:b*R+r<c.spare.map.length:=by omega
 rw[ZA,ak,hx,ak,bB,aq,hbN,akO hR (by omega) (by omega) T Y,ak];have ht:((c.spare.map.take ((b+1)*R)).drop (b*R))=jA c.spare.map R b:=rfl;have lX:(jA c.spare.map R b).length=R:=Zz (by rw[Y];exact jD R T);have hgx:(jA c.spare.map R b)[r]?=some c.spare.map[b*R+r]:=by rw[MA,List.getElem?_take_of_lt Z,List.getElem?_drop,bZ hi]
 have hgy:(jA c.spare.map R b)[r]'(by omega)=c.spare.map[b*R+r]:=by
  grind
 dsimp only;rw[js (by rw[Nat.succ_mul];omega),js (by rw[Nat.succ_mul,Y];omega),cu,au,hrN,az ⟨by omega,by rw[ht,lX,bC];exact Z⟩];simp only[bC,ht,hgy,ak];rw[hR,<- Int.natCast_mul,<- Int.natCast_add,bC,eY,bZ hi,Option.getD_some]
def aEU{c:ax}(h:Pk c)(L:nt c.config.aE c.spare=true)(he:c.spare.cr=c.config.cr)(O:aL c.config.mapping.order 0 2=true){l:Int}(T:0<=l)(U:l<fH (jq c.config.aE c.spare)):xT c l=some (gE c l):=by
 obtain⟨C,hg,Y,eb,s1,s2,s3,s4⟩:=aaA L;obtain⟨m1,m3⟩:=alU Y O T U;have m2:=aER Y O T U;obtain⟨_,Z,D,b3,E,b5,b6⟩:=sC m3;rw[eb]at D;have gb:=fF hg;have hb:=fG c.config.aE;have er:(jq c.config.aE c.spare).rows=c.config.aE.rows-c.spare.cr:=by rw[C]
 have ec:(jq c.config.aE c.spare).aT=c.config.aE.aT:=by rw[C]
 rw[er]at E;rw[ec]at b6;obtain⟨k1,k2,k3⟩:=alV L ⟨Z,D⟩ ⟨b3,E⟩;have hmul:=vU Z D b3 E;have hM:=SI (a:=bf c.config.aE) (b:=c.config.aE.rows-c.spare.cr) (A:=8) (B:=16) hb.1 hb.2 (by omega) (by omega);unfold gE;generalize hA:yu (jq c.config.aE c.spare) c.config.mapping l=A at *
 dsimp only;unfold xT xI;have hw:W6 (c.config.aE.rows-c.config.cr)=c.config.aE.rows-c.spare.cr:=by rw[<-he];exact aO
 have hw1:W6 (A.ay*(c.config.aE.rows-c.spare.cr))=A.ay*(c.config.aE.rows-c.spare.cr):=aO;have hw2:W6 (A.ay*(c.config.aE.rows-c.spare.cr)+A.row)=A.ay*(c.config.aE.rows-c.spare.cr)+A.row:=aO;simp only[hw];rw[<-C,m2,ak];simp only[hw1,hw2];rw[az ⟨hmul.2.1,k1⟩,eY,bZ k1,Option.getD_some]
def Gu{c:ia}{p:fz}(C:p.weights.length<1073741823)(h:pg c p=true):og c=true/\vY p=true:=by
 have⟨b,e,E⟩:=Zt c p C;have L:b=true:=by
  rw[Td c p C]at e;simp_all
 subst L;have D:=E rfl;refine⟨D,?_⟩;unfold vQ at e;have⟨y,O⟩:=Zs p.fD;simp[Zo,Zr _ C,D]at e
 grind
structure Pq (c:ax):Prop where
 p:Pk c
 sp:nt c.config.aE c.spare=true
 se:c.spare.cr=c.config.cr
 mo:aL c.config.mapping.order 0 2=true
 q:∀r∈c.queue,(0<=r.line/\r.line<fH (jq c.config.aE c.spare))/\(0<=r.dN/\r.dN<=3)/\(0<=r.at_/\r.at_<=1000000)
 ql:c.queue.length<=12
 pe:∀a∈c.pending,fj c.config.aE a=true
 pl:c.pending.length<=128
 rf:fB c.aP=true
 dl:(c.aP.aH.length:Int)=bf c.config.aE
 sh:iQ c.shares=true
 shl:c.shares.length=4
 dr:o6 c.drain=true
 pw:jX c.aZ=true
 ps:c.aZ.state=c.bq.aZ
 nw:0<=c.now/\c.now<=1000000
 cap:0<=c.box.bI.cap/\c.box.bI.cap<=100000
 eI:AF c.box.bI.eI=true
def Pq.of{c:ax}(E:eK c)(h:hG c=true):Pq c:=by
 have O:=Pk.of E h;have z1:c.box.bI.weights.length <= 1048576:=E.1.1;simp only[hG,aN]at h;have⟨T,h2,U,h4,h5,h6,Y,Z,D,L,AI,tG,uf,AJ,AK,zO,Dq,Gq,Gr,MQ,xU,MR⟩:=h;have⟨f1,f2⟩:=Gu (by omega) T;simp only[og,aN]at f1;simp only[vY,aN]at f2;have⟨f3,f4,f5,f6,f7,f8,f9⟩:=f2;simp only[sH,aN,gA,hU,qw,cw,gk]at D;have⟨D,g1,g2,g3,g4,g5,g6⟩:=D;simp only[o8,aN,cw,gk,iV]at L;have⟨q1,q2⟩:=L;have ni:c.shares.length=4:=by
  grind
 refine⟨O,Y,by simpa using Z,f1.2.2.1,λr hr=>?_,by omega,λa ha=>?_,by omega,D,g1,AI,ni,uf,AJ,by simpa using AK,bJ.1 U,bJ.1 f4,f9⟩
 ·obtain⟨i,hi,rfl⟩:=jh.1 hr;have C:=q1 i hi;unfold ri at C;rw[bZ hi]at C;simp[o7,aN,iV]at C;have⟨⟨k1,k2,k3,k4,k5,k6,k7⟩,_⟩:=C;exact⟨⟨k3,k4⟩,bJ.1 k2,bJ.1 k7⟩
 ·obtain⟨i,hi,rfl⟩:=jh.1 ha;have C:=g6 i hi;unfold ue at C;simp_all
def wu(r:cy)(a:aI):Bool:=(jf r a.ay).open_&&((jf r a.ay).row==a.row)
def Dy(r:cy)(a:aI)(w:Bool):aG:=
 bif !(jf r a.ay).open_ then ⟨1,a.ay,a.row,0⟩else bif (jf r a.ay).row != a.row then ⟨4,a.ay,0,0⟩else bif w then ⟨3,a.ay,0,a.bR⟩else ⟨2,a.ay,0,a.bR⟩
def AS{r:cy}{b:Int}(h:b.toNat<r.aB.length):jf r b=r.aB[b.toNat]:=by
 unfold jf;rw[eY,bZ h];rfl
def MT{b:Int}{n:Nat}(C:0<=b)(h:b.toNat<n)(D:n<=1048576):aL b 0 (W6 ((n:Int)-1))=true:=by
 rw[aO];exact bJ.2 ⟨C,by omega⟩
def Tt{r:cy}{a:aI}(w:Bool)(C:0 <= a.ay)(h:a.ay.toNat<r.aB.length)(D:r.aB.length <= 1048576):ya r a w=some (Dy r a w):=by
 unfold ya Dy xI;rw[dK,ak,MT C h D,bB,az ⟨C,h⟩,AS h]
 grind
def alW:Af=ya:=rfl
def alX{r:cy}{b:Int}(C:0 <= b)(h:b.toNat<r.aB.length)(D:r.aB.length <= 1048576):LU r b=some (bif (jf r b).open_ then (jf r b).row else -1):=by
 unfold LU xI;rw[dK,ak,MT C h D,bB,az ⟨C,h⟩,AS h]
 grind
def aEV:Q2=LU:=rfl
def aEW{r:cy}{a:aI}(E:0 <= a.row)(C:0 <= a.ay)(h:a.ay.toNat<r.aB.length)(D:r.aB.length <= 1048576):FP r a=some (wu r a):=by
 unfold FP wu;rw[fO (by omega:¬ a.row = -1),alX C h D,ak];cases (jf r _).open_ with
 |false=>rw[aq,kU (by omega:¬ (-1)=a.row)];rfl
 |true=>rfl
def alY{r:cy}{a:aI}(E:0 <= a.row)(C:0 <= a.ay)(h:a.ay.toNat<r.aB.length)(D:r.aB.length <= 1048576):KA r a=some (wu r a):=by
 unfold KA wu;rw[aEV,alX C h D,ak,ak];cases (jf r _).open_ with
 |false=>simp_all
 | true=>
  rw[au,cu];by_cases e:(jf r a.ay).row=a.row
  ·rw[e,dR,au,fO (by omega:¬ a.row = -1)]
  ·grind
def aEX{g:aU}{r:cy}{a:aI}(w:Bool)(h:fj g a=true):dL g (Dy r a w)=true:=by
 have⟨D,E,Y,L,Z,O,b6⟩:=sC h;have T:aL _ 0 (bf g-1)=true:=bJ.2 ⟨E,by omega⟩;have C:aL a.row 0 (g.rows-1)=true:=bJ.2 ⟨L,by omega⟩;have U:aL a.bR 0 (g.aT-1)=true:=bJ.2 ⟨O,by omega⟩;unfold Dy dL sI;cases (jf r _).open_<;>cases (jf r _).row != a.row<;>cases w<;>simp[D,aL,C]<;>simp[aL,iV]at T C U<;>omega
def AT{g:aU}{k b:Int}(C:cI g=true)(D:k=4 \/ k=5)(E:0 <= b/\b<bf g):dL g ⟨k,b,0,0⟩=true:=by
 have L:aL b 0 (bf g-1)=true:=bJ.2 ⟨E.1,by omega⟩;unfold dL sI;rcases D with rfl|rfl<;>simp[C,aL]<;>simp[aL,iV]at L<;>omega
def aEY{g:aU}{a:aI}(h:fj g a=true):dL g ⟨1,a.ay,a.row,0⟩=true:=by
 have⟨C,D,E,L,O,T,U⟩:=sC h;unfold dL sI;simp[C,aL];omega
def Tu{g:aU}{k:Int}(C:cI g=true)(D:6<=k/\k<=9):dL g ⟨k,0,0,0⟩=true:=by
 obtain⟨n,rfl⟩:=iw (show 0<=k by omega);have:n=6\/n=7\/n=8\/n=9:=by omega
 unfold dL;rw[C];rcases this with rfl|rfl|rfl|rfl<;>rfl
def aaB(l:aa aI)(b:Int)(E:l.length<=1048576):C3 l b=some (l.any λa=>a.ay==b):=by
 have L:=we (λa:aI=>a.ay==b) l;unfold C3 YS YR;rw[Tf];have e:=cH (step:=FN) (dx (λa:aI=>a.ay==b) l) (λi=>((l,b,(l.length:Int),(i:Int),()),())) (if dx (λa:aI=>a.ay==b) l<l.length then .inl ((((dx (λa:aI=>a.ay==b) l:Nat):Int),()),())else .inr (.inl ((),()))) aS (λk h=>by
  have D:=nA h (by omega);unfold FN av aQ xG xI;dsimp only;rw[aW,au,az ⟨by omega,by omega⟩];simp only[bC];rw[D,aq,bD]) (by
  by_cases C:dx (λa:aI=>a.ay==b) l<l.length
  ·have D:=rq C;unfold FN av aQ xG xI;dsimp only;rw[aW,au,az ⟨by omega,by omega⟩];simp only[bC];rw[D,au,bL C]
  ·unfold FN av aQ xG xI;dsimp only;rw[aV,aq,bX C]) (bP)
 rw[cv]at e;rw[e];by_cases C:dx (λa:aI=>a.ay==b) l<l.length
 ·rw[bL C,aW C];simp
 ·rw[bX C,aV C];rfl
def pq(t:bQ)(row:Int):ah Nat:=match t.rows.findIdx? (λe=>e==row)with
 |some i=>some i
 |none=>t.counts.findIdx? (λe=>e==t.cY)
def jZ(t:bQ)(row:Int):bQ:=match t.rows.findIdx? (λe=>e==row)with
 |some i=>⟨t.rows,t.counts.set i (t.counts.getD i 0+1),t.cY⟩
 | none=>match t.counts.findIdx? (λe=>e==t.cY)with
  |some i=>⟨t.rows.set i row,t.counts.set i (t.cY+1),t.cY⟩
  |none=>⟨t.rows,t.counts,t.cY+1⟩
def uN(t:bQ)(row dz:Int):bQ×Bool:=bif kI t&&(aL row 0 15&&aL dz 2 1000)then (bif kI (jZ t row)then (jZ t row,match pq t row with
    |some i=>((jZ t row).counts.getD i 0).tmod dz==0
    |none=>false)else (t,false))else (t,false)
structure Tk (t:bQ):Prop where
 rl:t.rows.length<=16
 cl:t.counts.length=t.rows.length
 sp:0<=t.cY/\t.cY<=100000
 cs:∀i (h:i<t.counts.length),0<=t.counts[i]/\t.counts[i]<=100000
def Tk.of{t:bQ}(h:kI t=true):Tk t:=by
 simp[kI,aN,gA,cw,gk]at h;have⟨D,O,C,L⟩:=h;have D:=bJ.1 D;have C:=bJ.1 C
 refine⟨by omega,by omega,C,λi hi=>?_⟩
 have E:=L i (by omega);rw[S0 (by omega) hi,aN,aN]at E;have:=bJ.1 E.2.1;omega
def MU{T:Type}{p:T -> Bool}{l:aa T}{i:Nat}(h:l.findIdx? p=some i):∃ hi:i<l.length,p l[i]=true:=by
 have⟨hi,C,_⟩:=pG.1 h;simp_all
def aEZ{t:bQ}(h:Tk t)(row:Int):Rg t row=some ((match pq t row with | some i=>(i:Int) | none=>-1),(jZ t row,())):=by
 have T:=h.rl;have U:=h.cl;have E:=sG (step:=KR) t.rows (λe=>e==row) (λi=>(((),row,(i:Int),()),(((),(),t.cY,()),t.rows,t.counts,()))) (λi=>.inl (((i:Int),()),(((),(),t.cY,()),t.rows,t.counts.set i (t.counts.getD i 0+1),()))) (.inr (.inl (((),row,()),(((),(),t.cY,()),t.rows,t.counts,())))) aS (λk D=>by
  have C:k<t.counts.length:=by omega
  have L:=h.cs k C;unfold KR av aQ xG xL;dsimp only;rw[aW,au,az ⟨by omega,by omega⟩,az];simp only[bC];cases t.rows[k]==row with
  |false=>rw[aq,aq,bD]
  | true=>
   rw[ az ⟨by omega,C⟩,az C,az ⟨by omega,C⟩,az C,aO (n:=t.counts[k]+1),eY,bZ C];rfl) (by
  unfold KR av aQ xG xL;dsimp only;rw[aV,aq]) (bP)
 have O:=sG (step:=KS) t.counts (λe=>e==t.cY) (λi=>(((),row,(i:Int),()),(((),(),t.cY,()),t.rows,t.counts,()))) (λi=>.inl (((i:Int),()),(((),(),t.cY,()),t.rows.set i row,t.counts.set i (t.cY+1),()))) (.inr (.inl (((),()),(((),(),t.cY,()),t.rows,t.counts,())))) aS (λk D=>by
  have C:k<t.rows.length:=by omega
  have L:=h.sp;unfold KS av aQ xG xL;dsimp only;rw[aW,au,az ⟨by omega,by omega⟩,az];simp only[bC];cases t.counts[k]==t.cY with
  |false=>rw[aq,aq,bD]
  |true=>rw[au,au,az ⟨by omega,C⟩,az C,az ⟨by omega,D⟩,az D,aO]) (by
  unfold KS av aQ xG xL;dsimp only;rw[aV,aq]) (bP)
 have Y:=h.sp;unfold Rg pq jZ bE
 refine(aY (λo=>Option.bind o _) E).trans ?_
 rw[ak];cases Z:t.rows.findIdx? (λe=>e==row)with
 |some i=>rfl
 | none=>
  simp only[eH,Sum.elim_inr]
  refine(aY (λo=>Option.bind o _) O).trans ?_
  rw[ak];cases h2:t.counts.findIdx? (λe=>e==t.cY)with
  |some i=>rfl
  | none=>
   simp;rw[aO]
def aaC{t:bQ}(row:Int):(jZ t row).rows.length=t.rows.length/\(jZ t row).counts.length=t.counts.length:=by
 unfold jZ
 grind
def alZ{t:bQ}(h:Tk t){row:Int}{i:Nat}(hi:pq t row=some i):i<t.counts.length:=by
 have:=h.cl;unfold pq at hi;split at hi
 next j C=>cases hi;have⟨D,_⟩:=MU C;omega
 ·exact(MU hi).1
def al0(t:bQ)(D:hD t)(row dz:Int):KT t row dz=some (uN t row dz):=by
 unfold KT uN xL;rw[alA t D,ak,Zx,ak];cases E:kI t with
 |false=>rfl
 | true=>
  have C:=Tk.of E;rw[bB,aq,eJ,ak,cu];cases T:aL row 0 15 with
  |false=>rfl
  | true=>
   rw[bB,aq,eJ,ak,cu];cases L:aL dz 2 1000 with
   |false=>rfl
   | true=>
    have U:=bJ.1 L;rw[bB,aq,au,aEZ C,ak,Zx,ak];dsimp only;cases Y:kI (jZ t row)with
    |false =>simp_all
    | true=>
     rw[bB,aq,au];cases O:pq t row with
     |none=>rfl
     | some i=>
      have hi:i<(jZ t row).counts.length:=by rw[(aaC row).2];exact alZ C O
      grind
def aE0(t:bQ)(hz:hD t)(row dz:Int):Sl t row dz=some (uN t row dz):=by
 have sw:∀x:Int,(λe:Int=>x==e)=λe=>e==x:=λx=>funext λe=>by rw[Bool.eq_iff_iff,gA,gA];exact eq_comm
 unfold Sl uN xL;rw[aab t hz,ak,Zw,ak];dsimp only;cases ht:kI t with
 |false=>rfl
 | true=>
  have T:=Tk.of ht;have r1:=T.rl;have r2:=T.cl;have uZ:=T.sp;rw[bB,aq,dK,ak,cu];cases h1:aL row 0 15 with
  |false=>rfl
  | true=>
   rw[bB,aq,dK,ak,cu];cases h2:aL dz 2 1000 with
   |false=>rfl
   | true=>
    have hl:=bJ.1 h2;rw[bB,aq,au,SZ _ _ (by omega),ak,sw row];have aaD:∀ (E:Int) (D:bQ),D=jZ t row->(E=match pq t row with | some i=>(i:Int) | none=>-1)->
      ((As D).bind λjV=>bif (!jV)then ((some t).bind λqY=>some (qY,false))else (bif (decide (E >= (0:Int)))then if Q5:0<=E/\E.toNat<D.counts.length then if h25:E.toNat<D.counts.length then (if dz=0 then none else some (D,(D.counts[E.toNat]'h25).tmod dz==(0:Int)))else none else none else some (D,false)))=some (bif kI (jZ t row)then (jZ t row,match pq t row with
        |some i=>((jZ t row).counts.getD i 0).tmod dz==0
        |none=>false)else (t,false)):=by
     intro E D U e2;subst U;rw[Zw,ak];cases h3:kI (jZ t row)with
     |false=>rfl
     | true=>
      rw[bB,aq,au,e2];cases h4:pq t row with
      |none=>rfl
      | some i=>
       have hi:i<(jZ t row).counts.length:=by rw[(aaC row).2];exact alZ T h4
       simp only[bC];rw[aW,au,az ⟨by omega,hi⟩,az hi,bX,eY,bZ hi];rfl
    cases C:t.rows.findIdx? (λe=>e==row)with
    | some i=>
     obtain⟨hi,_⟩:=MU C;have O:i<t.counts.length:=by omega
     have hc:=T.cs i O;have Y:pq t row=some i:=by unfold pq;rw[C]
     have Z:jZ t row=⟨t.rows,t.counts.set i (t.counts[i]+1),t.cY⟩:=by unfold jZ;simp only[C];rw[eY,bZ O];rfl
     have U:gw (λe=>e==row) t.rows=(i:Int):=by unfold gw;rw[C]
     rw[U,aV,aq];simp only[bC];rw[aW,au,az ⟨by omega,O⟩,az O,az ⟨by omega,O⟩,az O];have hw:W6 (t.counts[i]+1)=t.counts[i]+1:=aO;simp only[hw];exact aaD (i:Int) ⟨t.rows,t.counts.set i (t.counts[i]+1),t.cY⟩ Z.symm (by rw[Y])
    | none=>
     have U:gw (λe=>e==row) t.rows = -1:=by unfold gw;rw[C]
     rw[U,aW,au,SZ _ _ (by omega),ak,sw t.cY];cases L:t.counts.findIdx? (λe=>e==t.cY)with
     | some i=>
      obtain⟨hi,hp⟩:=MU L;have hir:i<t.rows.length:=by omega
      have hp:t.counts[i]=t.cY:=by simpa using hp
      have Y:pq t row=some i:=by unfold pq;rw[C];exact L
      have Z:jZ t row=⟨t.rows.set i row,t.counts.set i (t.cY+1),t.cY⟩:=by unfold jZ;rw[C];simp only[L]
      have e3:gw (λe=>e==t.cY) t.counts=(i:Int):=by unfold gw;rw[L]
      rw[e3];simp only[bC];rw[aW,au,az ⟨by omega,hir⟩,az hir,au,az ⟨by omega,hi⟩,az hi,az ⟨by omega,hi⟩,az hi];have hw:W6 (t.cY+1)=t.cY+1:=aO;simp only[hp,hw];exact aaD (i:Int) ⟨t.rows.set i row,t.counts.set i (t.cY+1),t.cY⟩ Z.symm (by rw[Y])
     | none=>
      have Y:pq t row=none:=by unfold pq;rw[C];exact L
      have Z:jZ t row=⟨t.rows,t.counts,t.cY+1⟩:=by unfold jZ;rw[C];simp only[L]
      have e3:gw (λe=>e==t.cY) t.counts = -1:=by unfold gw;rw[L]
      have hw:W6 (t.cY+1)=t.cY+1:=aO;rw[e3,aV,aq,aq];simp only[hw];exact aaD (-1) ⟨t.rows,t.counts,t.cY+1⟩ Z.symm (by rw[Y])
def yw(k:Int):bQ:=⟨List.replicate k.toNat (-1),List.replicate k.toNat 0,0⟩
def aE1{k:Int}(h:aL k 1 16=true):Sr k=some (yw k,true):=by
 have C:=bJ.1 h;unfold Sr;have e:Cd ([(-1:Int)]) k=some (List.replicate k.toNat (-1)):=by
  unfold Cd;simp_all
 rw[dK,ak,h,bB,e,ak,bL ⟨by omega,Int.le_refl _,by omega⟩];rfl
def aE2{k:Int}(h:aL k 1 16=true):Rj k=some (yw k,true):=by
 have C:=bJ.1 h;obtain⟨n,rfl⟩:=iw (show 0 <= k by omega);unfold Rj;rw[eJ,ak,h,bB,aBN n (by omega),ak,bL ⟨by omega,Int.le_refl _,by omega⟩];rfl
def wz(r:de)(b:Int):de:=bif decide (r.aH.getD b.toNat 0 = -2)then r else ⟨r.aH.set b.toNat (r.aH.getD b.toNat 0-1),r.wait,r.dS⟩
def Gw{r:de}(h:fB r=true):∀ x∈r.aH,-2 <= x/\x <= 5:=by
 simp[fB,aN,cw]at h;exact λx C=>bJ.1 (h.1 x C)
def aE3{α β:Type}{o:ah (α×β)}{a:α}(h:o.map Prod.fst=some a):∃b,o=some (a,b):=by simp_all
def aE4{r:de}(h:fB r=true){b:Int}(D:0 <= b)(C:b.toNat<r.aH.length):∃ y,Rk r b=some (wz r b,y):=by
 have O:=nB h;have T:=Gw h _ (cV C);have E:r.aH.getD b.toNat 0=r.aH[b.toNat]:=by rw[eY,bZ C];rfl
 unfold Rk JI wz xI xL xA xZ;rw[di (by simp;omega),au,ak,SU _ (by omega),ak,h,bB,aq,eJ,ak,MT D C (by omega),bB,aq,az ⟨D,C⟩,E];dsimp only;by_cases L:r.aH[b.toNat] = -2
 ·simp_all
 ·rw[aV (show ¬ r.aH[b.toNat] <= -2 by omega),aV L,List.nil_append,az ⟨D,C⟩,az ⟨D,C⟩,az C,aO];simp_all
def aE5{r:de}(h:fB r=true){b:Int}(D:0 <= b)(C:b.toNat<r.aH.length):∃ y,Ss r b=some (wz r b,y):=by
 have O:=nB h;have T:=Gw h _ (cV C);have L:r.aH.getD b.toNat 0=r.aH[b.toNat]:=by rw[eY,bZ C];rfl
 unfold Ss CR wz xI xL xA xZ;rw[di (by simp;omega),au,ak,Mv _ (by omega),ak,h,bB,aq,dK,ak,MT D C (by omega),bB,aq,az ⟨D,C⟩,L];dsimp only;by_cases E:r.aH[b.toNat] = -2
 ·simp_all
 ·rw[kU E,aV E,List.nil_append,az ⟨D,C⟩,az C,az ⟨D,C⟩,az C,aO];simp_all
def yx(p:eC)(k now:Int):eC:=bif jX p&&aL now p.since 1000000 then
 (bif (k==6)&&(p.state==0)then ⟨1,now,p.idle⟩else bif (k==8)&&(p.state==0)then ⟨2,now,p.idle⟩else bif (k==7)&&(p.state==1)then ⟨0,now,p.idle⟩else bif (k==9)&&(p.state==2)then ⟨0,now,p.idle⟩else p)else p
def Tv(p:eC){k:Int}(C:6 <= k/\k <= 9)(now:Int):∃ y,Sx p k now=some (yx p k now,y):=by
 refine aE3 ?_;unfold Sx yx;rw[SW,ak];cases jX p with
 |false=>rfl
 | true=>
  rw[bB,aq,dK,ak];cases aL now p.since 1000000 with
  |false=>rfl
  | true=>
   have:k=6 \/ k=7 \/ k=8 \/ k=9:=by omega
   grind
def Tw(p:eC){k:Int}(C:6 <= k/\k <= 9)(now:Int):∃ y,Rr p k now=some (yx p k now,y):=by
 unfold Rr yx;simp[SX,eJ];have:k=6 \/ k=7 \/ k=8 \/ k=9:=by omega
 rcases this with rfl|rfl|rfl|rfl
 ·grind
 ·grind
 ·grind
 ·grind
def al1{α β T:Type}{step:α -> ah (α⊕β)}(p:T -> Bool)(S:Nat -> Nat -> aa T -> α)(Z:Nat -> aa T -> β)
  (hs:∀i j s (E:j<s.length),i <= j -> j<1073741824 -> step (S i j s)=some (.inl (bif p s[j]then S i (j+1) s else S (i+1) (j+1) (s.set i s[j]))))
  (hz:∀i s,i <= s.length -> step (S i s.length s)=some (.inr (Z i s))):
  ∀(n i j fuel:Nat) (s:aa T),j+n=s.length -> i <= j -> s.length<1073741824 -> n<fuel -> ∃C D,iter step fuel (S i j s)=some (Z D C)/\C.length=s.length/\D <= s.length/\C.take D=s.take i++(s.drop j).filter (λx=>!p x):=by
 intro n
 induction n with
 | zero=>
  intro i j fuel s hn hi L hf;obtain⟨f,rfl⟩:∃f,fuel=f+1:=⟨fuel-1,by omega⟩
  have ej:j=s.length:=by omega
  subst ej;refine⟨s,i,?_,rfl,hi,by simp⟩;unfold iter;simp_all
 | succ n O=>
  intro i j fuel s hn hi L hf;obtain⟨f,rfl⟩:∃f,fuel=f+1:=⟨fuel-1,by omega⟩
  have E:j<s.length:=by omega
  unfold iter;rw[hs i j s E hi (by omega)];have hd:=List.drop_eq_getElem_cons E;cases hp:p s[j]with
  | true=>
   have⟨C,D,U,Y,h3,h4⟩:=O i (j+1) f s (by omega) (by omega) L (by omega)
   grind
  | false=>
   have⟨C,D,U,Y,h3,h4⟩:=O (i+1) (j+1) f (s.set i s[j]) (by simp;omega) (by omega) (by simp;omega) (by omega);refine⟨C,D,U,by simpa using Y,by simpa using h3,?_⟩;rw[h4,hd,List.filter_cons_of_pos (by simp[hp]),List.drop_set_of_lt (by omega),List.take_add_one,List.getElem?_set_self (by omega),List.take_set_of_le (by omega)];simp
def aaE{T:Type}{p:T -> Bool}{l:aa T}{k:Nat}(h:l.findIdx? p=some k):l.filter (λx=>!p x)=l.take k++(l.drop (k+1)).filter (λx=>!p x):=by
 have⟨D,E,L⟩:=pG.1 h;have e:l=l.take k++l[k] :: l.drop (k+1):=by
  simp[*]
 have O:(l.take k).filter (λx=>!p x)=l.take k:=by
  rw[List.filter_eq_self];intro a C;obtain⟨i,hi,rfl⟩:=jh.1 C
  grind
 grind
def aaF{T:Type}(s r:aa T)(i:Nat)(h:i <= s.length):(splice s i r).take i=s.take i:=by
 unfold splice;simp_all
def aE6(l:aa aI)(a:aI)(C:l.length<1073741824):Sn l a=some (gw (gx a) l):=by
 unfold Sn gw;have e:=sG (step:=L4) l (gx a) (λi=>((l,a,(l.length:Int),(i:Int),()),())) (λi=>.inl (((i:Int),()),())) (.inr (.inl ((),()))) aS (λk h=>by
  unfold L4 gx av aQ xG xI;dsimp only;rw[aW,au,az ⟨by omega,by omega⟩];simp only[bC];rw[bD];cases (l[k].ay==a.ay&&(l[k].row==a.row&&(l[k].bR==a.bR&&true)))<;>rfl) (by
  unfold L4 av aQ xG xI;dsimp only;rw[aV,aq]) (bP C)
 rw[cv]at e;rw[e];cases l.findIdx? (gx a)<;>rfl
def aE7(l:aa aI)(x:aG)(C:l.length<1073741824):SA l x=some (gw (λa=>a.ay==x.ay) l):=by
 unfold SA gw;have e:=sG (step:=Ma) l (λa=>a.ay==x.ay) (λi=>((l,x,(l.length:Int),(i:Int),()),())) (λi=>.inl (((i:Int),()),())) (.inr (.inl ((),()))) aS (λk h=>by
  unfold Ma av aQ xG xI;dsimp only;rw[aW,au,az ⟨by omega,by omega⟩];simp only[bC];rw[bD];cases (l[k].ay==x.ay)<;>rfl) (by
  unfold Ma av aQ xG xI;dsimp only;rw[aV,aq]) (bP C)
 rw[cv]at e;rw[e];cases l.findIdx? (λa=>a.ay==x.ay)<;>rfl
def aE8(l:aa aI)(a:aI)(O:l.length<1000000):So l a=some (l.filter (λx=>!gx a x),([],())):=by
 unfold So;rw[aE6 l a (by omega),ak];unfold gw;cases C:l.findIdx? (gx a)with
 | none=>
  have e:l.filter (λx=>!gx a x)=l:=by
   rw[List.filter_eq_self];intro x D;have:=List.findIdx?_eq_none_iff.1 C x D;simp[this]
  rw[e];rfl
 | some k=>
  obtain⟨T,U,Y⟩:=pG.1 C;rw[aaE C];simp only;rw[kU (show ¬ (k:Int) = -1 by omega),aq,bD];obtain⟨Z,i',E,h2,h3,L⟩:=al1 (step:=L5) (gx a) (λi j s=>(((),a,(i:Int),(j:Int),()),(s,()))) (λi s=>.inl (((),(i:Int),()),(s,()))) (λi j s hj hi hb=>by
   unfold L5 gx av xG xL;dsimp only;rw[aW,au,az ⟨by omega,by omega⟩,az];simp only[bC];rw[bD,bD,az ⟨by omega,by omega⟩,az];cases (s[j].ay==a.ay&&(s[j].row==a.row&&(s[j].bR==a.bR&&true)))<;>rfl) (λi s hi=>by
   unfold L5 av xG xL;dsimp only;rw[aV,aq]) (l.length-(k+1)) k (k+1) aS l (by omega) (by omega) (by omega) (by unfold aS;omega)
  rw[E,ak,eH];dsimp only;rw[bL ⟨by omega,by omega,by omega⟩,bL ⟨by omega,by omega⟩,bL ⟨by omega,by omega,by
   rw[sU _ _ _ (by simp;omega)];omega⟩]
  rw[aaF _ _ _ (by omega),bC,L]
def aE9(l:aa aI)(c:aG)(O:l.length<1000000):SB l c=some (l.filter (λx=>!(x.ay==c.ay)),([],())):=by
 unfold SB;rw[aE7 l c (by omega),ak];unfold gw;cases C:l.findIdx? (λa=>a.ay==c.ay)with
 | none=>
  have e:l.filter (λx=>!(x.ay==c.ay))=l:=by
   rw[List.filter_eq_self];intro x D;have:=List.findIdx?_eq_none_iff.1 C x D;simp[this]
  rw[e];rfl
 | some k=>
  obtain⟨T,U,Y⟩:=pG.1 C;rw[aaE C];simp only;rw[kU (show ¬ (k:Int) = -1 by omega),aq,bD];obtain⟨Z,i',E,h2,h3,L⟩:=al1 (step:=Mb) (λx=>x.ay==c.ay) (λi j s=>(((),c,(i:Int),(j:Int),()),(s,()))) (λi s=>.inl (((),(i:Int),()),(s,()))) (λi j s hj hi hb=>by
   unfold Mb av xG xL;dsimp only;rw[aW,au,az ⟨by omega,by omega⟩,az];simp only[bC];rw[bD,bD,az ⟨by omega,by omega⟩,az];cases (s[j].ay==c.ay)<;>rfl) (λi s hi=>by
   unfold Mb av xG xL;dsimp only;rw[aV,aq]) (l.length-(k+1)) k (k+1) aS l (by omega) (by omega) (by omega) (by unfold aS;omega)
  rw[E,ak,eH];dsimp only;rw[bL ⟨by omega,by omega,by omega⟩,bL ⟨by omega,by omega⟩,bL ⟨by omega,by omega,by
   rw[sU _ _ _ (by simp;omega)];omega⟩]
  rw[aaF _ _ _ (by omega),bC,L]
def mD(b:Int)(pd:aa aI)(n:Int):aa aI:=bif pd.any (gx ⟨b,n,0⟩)then pd else pd++[⟨b,n,0⟩]
def qj(c:ax)(t:aa bQ)(C:aa Int)(pd:aa aI):ax:=⟨c.config,c.box,c.now,c.bq,c.ready,c.array,c.spare,c.aP,t,C,pd,c.queue,c.shares,c.drain,c.aZ,c.cK,c.errors,c.trace,c.cT⟩
def al2{T:Type}(p:T -> Bool)(l:aa T):decide (gw p l<0) = !l.any p/\decide (gw p l >= 0)=l.any p:=by
 unfold gw
 grind
def Tx(b:Int):∀ (ns:aa Int) (pd:aa aI),(ns.foldl (mD b) pd).length <= pd.length+ns.length
 |[],pd=>dM _
 | n :: ns,pd=>by
  have:=Tx b ns (mD b pd n);have C:(mD b pd n).length <= pd.length+1:=by
   unfold mD
   grind
  grind
def al3{T U:Type}(f:U->T->U)(l:aa T)(u:U){k:Nat}(h:k<l.length):(l.take (k+1)).foldl f u=f ((l.take k).foldl f u) l[k]:=by
 rw[List.take_add_one,bZ h,List.foldl_append];rfl
def aFa(c:ax)(x:aG)(ns:aa Int)(D:ns.length <= 1000)(E:c.pending.length <= 1000):iter FZ aS (((),(),(),(ns.length:Int),(0:Int),()),(c,(x.kind,x.ay,x.row,x.bR,()),ns,()))=some (.inl ((),(qj c c.bH c.guard (ns.foldl (mD x.ay) c.pending),()))):=by
 have e:=cH (step:=FZ) _ (λi=>(((),(),(),ns.length,i,()),(qj c c.bH c.guard ((ns.take i).foldl _ _),(x.kind,x.ay,x.row,x.bR,()),ns,()))) _ aS (λk h=>by
  have C:=Tx x.ay (ns.take k) c.pending;rw[fJ]at C;rw[al3 _ _ _ h];generalize (ns.take k).foldl (mD x.ay) c.pending=pd at C;unfold FZ mD qj Y3 av xG xL;dsimp only;rw[aW,au,az ⟨by omega,by omega⟩,az];simp only[bC];rw[akR _ _ (by omega),ak,ak,(al2 _ _).2,bD,di (by simp;omega)];cases pd.any (gx ⟨x.ay,ns[k],0⟩)<;>rfl) (by
  unfold FZ qj av xG xL;dsimp only;rw[aV,aq]) (bP)
 rw[ iW]at e;exact e
def aFb(c:ax)(x:aG)(ns:aa Int)(D:ns.length <= 1000)(E:c.pending.length <= 1000):iter tY aS (((),(),true,(),(0:Int),()),(c,(x.kind,x.ay,x.row,x.bR,()),ns,()))=some (.inl ((),(qj c c.bH c.guard (ns.foldl (mD x.ay) c.pending),()))):=by
 have e:=cH (step:=tY) _ (λi=>(((),(),true,(),i,()),(qj c c.bH c.guard ((ns.take i).foldl _ _),(x.kind,x.ay,x.row,x.bR,()),ns,()))) _ aS (λk h=>by
  have C:=Tx x.ay (ns.take k) c.pending;rw[fJ]at C;rw[al3 _ _ _ h];generalize (ns.take k).foldl (mD x.ay) c.pending=pd at C;unfold tY mD qj av xG xL;dsimp only;rw[aW,au,au,az ⟨by omega,by omega⟩,az];simp only[bC];rw[ZB _ _ (by omega),ak,(al2 _ _).1,bD,di (by simp;omega)];cases pd.any (gx ⟨x.ay,ns[k],0⟩)<;>rfl) (by
  unfold tY qj av xG xL;dsimp only;rw[aV,aq]) (bP)
 rw[ iW]at e;exact e
def aFc(c:ax)(x:aG)(ns:aa Int):iter tY aS (((),(),false,(),(0:Int),()),(c,(x.kind,x.ay,x.row,x.bR,()),ns,()))=some (.inl ((),(c,()))):=by
 have e:=cH (step:=tY) 0 (λi=>(((),(),false,(),i,()),(c,(x.kind,x.ay,x.row,x.bR,()),ns,()))) _ aS (λk h=>by omega) (by
  unfold tY av xG xL;cases decide ((0:Int)<ns.length)<;>rfl) (bP)
 simp_all
def zT:bQ:=⟨[],[],0⟩
def sL(c:ax)(x:aG):bQ×Bool:=uN (c.bH.getD x.ay.toNat zT) x.row (c.guard.getD x.ay.toNat 0)
def ov(c:ax)(x:aG):aa aI:=c.pending.filter (λa=>!gx ⟨x.ay,x.row,0⟩ a)
def uO(c:ax)(x:aG):ax:=
 qj (dm c (uJ c.config.aE c.config.dO c.array x.ay x.row)) (c.bH.set x.ay.toNat (sL c x).1) c.guard (bif (sL c x).2 then (lQ c.config.aE.rows x.row).foldl (mD x.ay) (ov c x)else ov c x)
def nD{T:Type}{l:aa T}{i:Nat}(d:T)(h:i<l.length):l.getD i d=l[i]:=by
 rw[eY,bZ h];rfl
def aaG(R r:Int):(lQ R r).length <= 2:=by
 unfold lQ
 grind
def aaH{T:Type}(p:T->Bool)(l:aa T):(l.filter p).length<=l.length:=List.length_filter_le p l
def aFd{B:Int}(c:ax)(x:aG)(L:cI c.config.aE=true)(Y:eX c.config.aE B c.array)(hp:c.pending.length <= 200)(Z:∀ t∈c.bH,hD t)(D:0 <= x.ay)(h2:x.ay<bf c.config.aE)(O:0 <= x.row)(T:x.row<c.config.aE.rows)(C:x.ay.toNat<c.bH.length)(E:x.ay.toNat<c.guard.length):Sp c x=some ((),(uO c x,())):=by
 have⟨_,_,_,_,g5,g6,g7,g8⟩:=fF L;have U:=alI L c.config.dO c Y D h2 O T;have e2:=aE8 c.pending ⟨x.ay,x.row,0⟩ (by omega);have hf:(ov c x).length <= c.pending.length:=List.length_filter_le _ _;have qG:=aaG c.config.aE.rows x.row;simp only[dm]at U;unfold Sp bk xL xM
 refine(aY (λo=>Option.bind o _) U).trans ?_
 rw[ak];dsimp only
 refine(aY (λo=>Option.bind o _) e2).trans ?_
 rw[ak];dsimp only;rw[az ⟨D,C⟩,az C,az ⟨D,E⟩,az E,az C,az C];rw[aE0 _ (Z _ (cV C)),ak,az ⟨D,C⟩,az C];unfold uO sL;rw[nD _ C,nD _ E];cases (uN (c.bH[x.ay.toNat]'C) x.row (c.guard[x.ay.toNat]'E)).2 with
 |false=>rfl
 | true=>
  rw[bB,aq,ZO (by omega) (by omega) O T,ak]
  refine(aY (λo=>Option.bind o _) (aFa (qj (dm c (uJ _ _ c.array x.ay x.row)) _ c.guard (ov c x)) x _ (by omega) (by unfold qj;dsimp only;omega))).trans ?_
  rfl
def wA(l:aa aI):Prop:=∀i (h:i<l.length),(l.take i).any (gx l[i])=false
def MV{a b:aI}:gx a b=true ↔ a=b:=by
 have⟨C,D,E⟩:=a;have⟨L,O,T⟩:=b;simp[gx,aN,gA,and_true,aI.mk.injEq]
 grind
def wA.cut{l:aa aI}(h:wA l){a:aI}{k:Nat}(C:l.findIdx? (gx a)=some k):l.take k++l.drop (k+1)=l.filter (λx=>!gx a x):=by
 have⟨O,D,T⟩:=pG.1 C;rw[aaE C];congr 1;symm;rw[List.filter_eq_self];intro x E;obtain⟨i,hi,rfl⟩:=jh.1 E;rw[List.length_drop]at hi;rw[List.getElem_drop];cases L:gx a _ with
 |false=>rfl
 | true=>
  have U:=MV.1 L;have Y:=MV.1 D;have:=List.any_eq_false.1 (h (k+1+i) (by omega)) l[k] (jh.2 ⟨k,by rw[fJ];omega,by rw[List.getElem_take]⟩);simp_all
def aFe{B:Int}(c:ax)(x:aG)(L:cI c.config.aE=true)(ha:eX c.config.aE B c.array)(hp:c.pending.length <= 200)(hu:wA c.pending)(O:∀ t∈c.bH,hD t)(D:0 <= x.ay)(h2:x.ay<bf c.config.aE)(T:0 <= x.row)(U:x.row<c.config.aE.rows)(C:x.ay.toNat<c.bH.length)(E:x.ay.toNat<c.guard.length):Rh c x=some ((),(uO c x,())):=by
 have⟨_,_,_,_,g5,g6,g7,g8⟩:=fF L;have Y:=alM L c.config.dO c ha D h2 T U;have e2:=ZB c.pending ⟨x.ay,x.row,0⟩ (by omega);have hf:(ov c x).length <= c.pending.length:=List.length_filter_le _ _;have qG:=aaG c.config.aE.rows x.row;have Z:Yn c.config.aE.rows x.row=some (lQ c.config.aE.rows x.row):=ZO (by omega) (by omega) T U;simp only[dm]at Y;unfold Rh xA bk xL xM xZ
 refine(aY (λo=>Option.bind o _) Y).trans ?_
 rw[ak];dsimp only
 refine(aY (λo=>Option.bind o _) e2).trans ?_
 rw[ak];have BG:∀ pd:aa aI,pd=ov c x -> ∀ t:bQ×Bool,t=sL c x -> (iter tY aS (((),(),t.2,(),(0:Int),()),((⟨c.config,c.box,c.now,c.bq,c.ready,uJ c.config.aE c.config.dO c.array x.ay x.row,c.spare,c.aP,(c.bH.set x.ay.toNat t.1),c.guard,pd,c.queue,c.shares,c.drain,c.aZ,c.cK,c.errors,c.trace,c.cT⟩:ax),(x.kind,x.ay,x.row,x.bR,()),lQ c.config.aE.rows x.row,()))).bind (Sum.elim (λKV=>some ((),(KV.2.1,()))) (λz=>nomatch z))=some ((),(uO c x,())):=by
  rintro pd rfl ⟨t1,t2⟩ C;unfold uO;rw[<- C];cases t2 with
  | false=>
   refine(aY (λo=>Option.bind o _) (aFc _ x _)).trans ?_
   rfl
  | true=>
   refine(aY (λo=>Option.bind o _) (aFb _ x _ (by omega) (by dsimp only;omega))).trans ?_
   rfl
 have hT:sL c x=uN (c.bH[x.ay.toNat]'C) x.row (c.guard[x.ay.toNat]'E):=by
  unfold sL;simp[*]
 unfold gw;cases hi:c.pending.findIdx? (gx ⟨x.ay,x.row,0⟩)with
 | none=>
  have e:ov c x=c.pending:=by
   unfold ov;rw[List.filter_eq_self];simp_all
  dsimp only;rw[aV,aq,az ⟨D,C⟩,az C,az ⟨D,E⟩,az E,az C,az C];rw[al0 _ (O _ (cV C)),ak,az ⟨D,C⟩,az C,Z,ak];exact BG _ e.symm _ hT.symm
 | some k=>
  have⟨k1,OP,hq⟩:=pG.1 hi;have e:=hu.cut hi;dsimp only;rw[aW,au,bD,bL ⟨by omega,by omega,by omega⟩,bL ⟨by omega,by omega,by omega⟩];simp only[bC,Int.toNat_zero,List.drop_zero,List.nil_append,iW];rw[di (by simp;omega),au,di (by simp;omega),au,az ⟨D,C⟩,az C,az ⟨D,E⟩,az E,az C,az C];rw[al0 _ (O _ (cV C)),ak,az ⟨D,C⟩,az C,Z,ak];exact BG _ e _ hT.symm
def yz{U:Type}(f:U->Nat->U)(u:U)(k:Nat):(List.range (k+1)).foldl f u=f ((List.range k).foldl f u) k:=by
 rw[List.range_succ,List.foldl_append];rfl
def qk(g:aU)(l:iY)(a:cZ)(b:Int)(n:Nat):cZ:=(List.range n).foldl (λa (r:Nat)=>uJ g l a b (r:Int)) a
def Gx{g:aU}(C:cI g=true)(l:iY){B:Int}(hB:0<=B){a:cZ}(D:eX g B a){b:Int}(E:0<=b)(L:b<bf g):∀ n:Nat,(n:Int)<=g.rows->eX g B (qk g l a b n)
 |0,_=>D
 | n+1,h=>by
  unfold qk;rw[yz];exact aao C l hB (Gx C l hB D E L n (by omega)) E L (by omega) (by omega)
def al4{B:Int}(hB:0 <= B)(c:ax)(C:cI c.config.aE=true)(O:eX c.config.aE B c.array){b:Int}(D:0 <= b)(E:b<bf c.config.aE):Sq c b=some ((),(dm c (qk c.config.aE c.config.dO c.array b c.config.aE.rows.toNat),())):=by
 have⟨_,_,_,_,T,U,Y,Z⟩:=fF C;have e:=cH (step:=L6) c.config.aE.rows.toNat (λi=>(((),b,i,()),(dm c (qk _ _ _ b i),()))) _ aS (λk h=>by
  have L:=alI C c.config.dO (dm c (qk c.config.aE c.config.dO c.array b k)) (Gx C c.config.dO hB O D E k (by omega)) D E (show 0 <= (k:Int) by omega) (by omega);simp only[dm]at L;unfold L6 dm av xG;dsimp only;rw[aW,au,L,ak,bD];dsimp only;unfold qk;rw[yz]) (by
  unfold L6 dm av xG;dsimp only;rw[aV,aq]) (bP)
 refine(aY (λo=>Option.bind o _) e).trans ?_
 rfl
def aFf{B:Int}(hB:0 <= B)(c:ax)(C:cI c.config.aE=true)(O:eX c.config.aE B c.array){b:Int}(D:0 <= b)(E:b<bf c.config.aE):Yq c.config.aE c.config.dO c b=some ((),(dm c (qk c.config.aE c.config.dO c.array b c.config.aE.rows.toNat),())):=by
 have⟨_,_,_,_,T,U,Y,Z⟩:=fF C;have e:=cH (step:=KZ) c.config.aE.rows.toNat (λi=>(((),b,(),(),i,()),(dm c _,(c.config.aE.cF,c.config.aE.aB,c.config.aE.rows,c.config.aE.aT,()),(c.config.dO.bz,c.config.dO.bu,()),()))) _ aS (λk h=>by
  have L:=alM C c.config.dO (dm c (qk c.config.aE c.config.dO c.array b k)) (Gx C c.config.dO hB O D E k (by omega)) D E (show 0 <= (k:Int) by omega) (by omega);simp only[dm]at L;unfold KZ dm av xG;dsimp only;rw[aW,au,L,ak,bD];dsimp only;unfold qk;rw[yz]) (by
  unfold KZ dm av xG;dsimp only;rw[aV,aq]) (bP)
 refine(aY (λo=>Option.bind o _) e).trans ?_
 rfl
def MW(c:ax)(b:Int)(pd:aa aI):ax:=
 qj (dm c (qk c.config.aE c.config.dO c.array b c.config.aE.rows.toNat)) (c.bH.set b.toNat (yw c.config.iz)) (c.guard.set b.toNat c.box.bI.fD) pd
def al5(c:ax)(L:aL c.config.iz 1 16=true){b:Int}(C:0<=b)(D:b.toNat<c.bH.length)(E:b.toNat<c.guard.length):L7 c b=some ((),(qj c (c.bH.set b.toNat (yw c.config.iz)) (c.guard.set b.toNat c.box.bI.fD) c.pending,())):=by
 unfold L7 xL;rw[aE1 L,ak,az ⟨C,D⟩,az D,az ⟨C,E⟩,az E];rfl
def aFg(c:ax)(b:Int)(L:c.pending.length <= 1000):iter Ff aS (((),b,(),(0:Int),()),(c,([]:aa aI),()))=some (.inl (((),(),()),(c,c.pending.filter (λa=>!(a.ay==b)),()))):=by
 have e:=cH (step:=Ff) c.pending.length (λi=>(((),b,(),(i:Int),()),(c,(c.pending.take i).filter (λa=>!(a.ay==b)),()))) (.inl (((),(),()),(c,(c.pending.take c.pending.length).filter (λa=>!(a.ay==b)),()))) aS (λk h=>by
  have C:=aaH (λa:aI=>!(a.ay==b)) (c.pending.take k);rw[fJ]at C;have E:c.pending.take (k+1)=c.pending.take k++[c.pending[k]]:=by rw[List.take_add_one,bZ h];rfl
  rw[E,List.filter_append];generalize (c.pending.take k).filter (λa=>!(a.ay==b))=ls at C;unfold Ff av xG xL;dsimp only;rw[aW,au,az ⟨by omega,by omega⟩,az];simp only[bC];rw[bD,bne];cases D:c.pending[k].ay==b with
  |true=>rw[List.filter_cons_of_neg (by simp[D])];simp
  | false=>
   rw[iX,az ⟨by omega,by omega⟩,az,di (by simp;omega),List.filter_cons_of_pos (by simp[D])];rfl) (by
  unfold Ff av xG xL;dsimp only;rw[aV,aq]) (bP)
 rw[cv,iW]at e;exact e
def al6{B:Int}(hB:0 <= B)(c:ax)(O:cI c.config.aE=true)(T:eX c.config.aE B c.array)(U:aL c.config.iz 1 16=true)(Z:c.pending.length <= 200){b:Int}(C:0 <= b)(Y:b<bf c.config.aE)(D:b.toNat<c.bH.length)(E:b.toNat<c.guard.length):K0 c b=some ((),(MW c b (c.pending.filter (λa=>!(a.ay==b))),())):=by
 have L:=aFf hB c O T C Y;simp only[dm]at L;unfold K0 bk xL
 refine(aY (λo=>Option.bind o _) L).trans ?_
 rw[ak];rw[aE2 U,ak,az ⟨C,D⟩,az D,az ⟨C,E⟩,az E]
 refine(aY (λo=>Option.bind o _) (aFg _ b (by dsimp only;omega))).trans ?_
 rfl
def gy(c:ax)(k:Nat)(pd:aa aI):ax:=
 ⟨c.config,c.box,c.now,c.bq,c.ready,(List.range k).foldl (λa (b:Nat)=>qk c.config.aE c.config.dO a (b:Int) c.config.aE.rows.toNat) c.array,c.spare,⟨(List.range k).foldl (λd b=>d.set b 0) c.aP.aH,c.aP.wait,c.aP.dS⟩,(List.range k).foldl (λd b=>d.set b (yw c.config.iz)) c.bH,(List.range k).foldl (λd b=>d.set b c.box.bI.fD) c.guard,pd,c.queue,c.shares,c.drain,c.aZ,c.cK,c.errors,c.trace,c.cT⟩
def yA{T:Type}(x:T)(l:aa T):∀ k:Nat,((List.range k).foldl (λd b=>d.set b x) l).length=l.length
 |0=>rfl
 |k+1=>by rw[yz,gz,yA x l k]
def Ty{g:aU}(C:cI g=true)(l:iY){B:Int}(hB:0 <= B){a:cZ}(D:eX g B a):∀ k:Nat,(k:Int) <= bf g -> eX g B ((List.range k).foldl (λa (b:Nat)=>qk g l a (b:Int) g.rows.toNat) a)
 |0,_=>D
 | k+1,h=>by
  have⟨_,_,_,_,E,L,O,T⟩:=fF C;rw[yz];exact Gx C l hB (Ty C l hB D k (by omega)) (by omega) (by omega) _ (by omega)
structure uP (B:Int) (c:ax):Prop where
 hB:0<=B
 g:cI c.config.aE=true
 a:eX c.config.aE B c.array
 k:aL c.config.iz 1 16=true
 p:c.pending.length<=200
 t:(c.bH.length:Int)=bf c.config.aE
 d:(c.guard.length:Int)=bf c.config.aE
 r:(c.aP.aH.length:Int)=bf c.config.aE
def uP.Tz{B:Int}{c:ax}(h:uP B c)(k:Nat)(C:(k:Int)<=bf c.config.aE)(pd:aa aI)(D:pd.length<=200):uP B (gy c k pd):=
 ⟨h.hB,h.g,Ty h.g c.config.dO h.hB h.a k C,h.k,D,(aY (λn:Nat=>(n:Int)) (yA _ _ k)).trans h.t,(aY (λn:Nat=>(n:Int)) (yA _ _ k)).trans h.d,(aY (λn:Nat=>(n:Int)) (yA _ _ k)).trans h.r⟩
def al7(c:ax)(k:Nat)(pd C:aa aI):gy c (k+1) C=⟨c.config,c.box,c.now,c.bq,c.ready,(MW (gy c k pd) (k:Int) C).array,c.spare,⟨(gy c k pd).aP.aH.set k 0,c.aP.wait,c.aP.dS⟩,(MW (gy c k pd) (k:Int) C).bH,(MW (gy c k pd) (k:Int) C).guard,C,c.queue,c.shares,c.drain,c.aZ,c.cK,c.errors,c.trace,c.cT⟩:=by
 unfold gy;simp only[yz];rfl
def aFh{B:Int}{c:ax}(h:uP B c):iter yc aS (((),(c.bH.length:Int),(0:Int),()),(gy c 0 [],()))=some (.inl ((),(gy c c.bH.length [],()))):=by
 have U:=fG c.config.aE;have Y:=h.t;have e:=cH (step:=yc) c.bH.length (λi=>(((),c.bH.length,i,()),(gy c i [],()))) _ aS (λk Z=>by
  have C:=h.Tz k (by omega) [] (by simp);have w1:=C.t;have E:=C.d;have L:=C.r;have D:bf (gy c k []).config.aE=bf c.config.aE:=rfl;rw[D]at w1 E L;have O:=al4 C.hB _ C.g C.a (b:=(k:Int)) (by omega) (by rw[D];omega);have T:=al5 (dm (gy c k []) (qk (gy c k []).config.aE (gy c k []).config.dO (gy c k []).array (k:Int) (gy c k []).config.aE.rows.toNat)) C.k (b:=(k:Int)) (by omega) (by show (k:Int).toNat<(gy c k []).bH.length;omega) (by show (k:Int).toNat<(gy c k []).guard.length;omega);rw[al7 c k [] []];unfold yc av xG xL;dsimp only;rw[aW,au,O,ak,T,ak,bD];have w4:k<(gy c k []).aP.aH.length:=by omega
  rw[az ⟨by omega,by show (k:Int).toNat<(gy c k []).aP.aH.length;omega⟩,az (by show (k:Int).toNat<(gy c k []).aP.aH.length;omega)];rfl) (by
  unfold yc av xG xL;dsimp only;rw[aV,aq]) (bP)
 simp_all
def qm(pd:aa aI):Nat->aa aI
 |0=>pd
 |k+1=>(qm pd k).filter (λa=>!(a.ay==(k:Int)))
def al8(pd:aa aI):∀ k,(qm pd k).length<=pd.length
 |0=>dM _
 |k+1=>Nat.le_trans (aaH _ _) (al8 pd k)
def al9(pd:aa aI){a:aI}:∀ k,a∈qm pd k -> a∈pd /\ ∀ b:Nat,b<k -> a.ay≠(b:Int)
 |0,h=>⟨h,λb D=>by omega⟩
 | k+1,h=>by
  have⟨C,E⟩:=List.mem_filter.1 h;have⟨L,O⟩:=al9 pd k C
  grind
def aFi{pd:aa aI}{k:Nat}(h:∀ a∈pd,0 <= a.ay/\a.ay<(k:Int)):qm pd k=[]:=by
 rw[List.eq_nil_iff_forall_not_mem];intro a C;have⟨D,E⟩:=al9 pd k C;have:=h a D;exact E a.ay.toNat (by omega) (by omega)
def aFj{B:Int}{c:ax}(h:uP B c)(hr:c.bq.aB.length=c.bH.length)(E:∀ a∈c.pending,0<=a.ay/\a.ay<bf c.config.aE):iter CP aS (((),(0:Int),()),(c,()))=some (.inl ((),(gy c c.bH.length [],()))):=by
 have b1:=fG c.config.aE;have htr:=h.t;have e:=cH (step:=CP) c.bH.length (λi=>(((),(i:Int),()),(gy c i (qm c.pending i),()))) (.inl ((),(gy c c.bH.length (qm c.pending c.bH.length),()))) aS (λk hk=>by
  have C:=h.Tz k (by omega) (qm c.pending k) (Nat.le_trans (al8 _ _) h.p);have w1:=C.t;have L:=C.d;have O:=C.r;have D:bf (gy c k (qm c.pending k)).config.aE=bf c.config.aE:=rfl;rw[D]at w1 L O;have T:=al6 C.hB _ C.g C.a C.k C.p (b:=(k:Int)) (by omega) (by rw[D];omega) (by omega) (by omega);rw[al7 c k (qm c.pending k) (qm c.pending (k+1))];unfold CP av xG xL;dsimp only;rw[aW (by show (k:Int)<((c.bq.aB.length:Nat):Int);omega),au,T,ak,bD];rw[az ⟨by omega,by show (k:Int).toNat<(gy c k (qm c.pending k)).aP.aH.length;omega⟩,az (by show (k:Int).toNat<(gy c k (qm c.pending k)).aP.aH.length;omega)];rfl) (by
  unfold CP av xG xL;dsimp only;rw[aV (by show ¬ ((c.bH.length:Nat):Int)<((c.bq.aB.length:Nat):Int);omega),aq]) (bP)
 have U:qm c.pending c.bH.length=[]:=aFi (λa Y=>by have:=E a Y;omega);have Z:gy c 0 (qm c.pending 0)=c:=rfl;rw[cv,U,Z]at e;exact e
def wv(l:aa Int):Nat->Int
 |0=>0
 |i+1=>bits .or .i64 (wv l i) (W6 (l.getD i 0*2 ^ (min (4*(i:Int)).toNat IntKind.i64.bits)))
def ama{l:aa Int}(h:l.length=8)(C:∀ s∈l,0 <= s/\s <= 15):q7 l 8=true:=by
 simp[q7,aN,cw,vW,bJ];simp_all
def aFk{l:aa Int}(h:l.length=8)(D:∀ s∈l,0<=s/\s<=15):RS l=some (wv l 8,true):=by
 unfold RS bk;rw[akq _ _ (by omega),ama h D,ak];have e:=cH (step:=LK) 8 (λi=>((wv l i,l,(l.length:Int),(i:Int),()),())) (.inl ((wv l 8,()),())) aS (λi hi=>by
  have C:i<l.length:=by omega
  have E:W6 (4*(i:Int))=4*(i:Int):=aO;have L:¬ 4*(i:Int)<0:=by omega
  have O:l.getD i 0=l[i]:=by rw[eY,bZ C];rfl
  have T:wv l (i+1)=bits .or .i64 (wv l i) (W6 (l.getD i 0*2 ^ (min (4*(i:Int)).toNat IntKind.i64.bits))):=rfl;unfold LK av xG xI;rw[T,O];simp (disch:=omega) [C,E,L,bD]) (by unfold LK av xG xI;simp[h]) (bP)
 rw[cv]at e;simp only[bB,aq];have U:wv l 0=0:=rfl;rw[U]at e;rw[e];rfl
def aFl{l:aa Int}(h:l.length=8)(D:∀ s∈l,0<=s/\s<=15):QJ l=some (wv l 8,true):=by
 unfold QJ bk;rw[Mm _ _ (by omega),ama h D,ak];have e:=cH (step:=Kk) 8 (λi=>((l,wv l i,(i:Int),()),())) (.inl ((wv l 8,()),())) aS (λi hi=>by
  have C:i<l.length:=by omega
  have E:W6 (4*(i:Int))=4*(i:Int):=aO;have L:IntKind.u64.wrap (4*(i:Int))=4*(i:Int):=ali (by omega) (by omega);have O:¬ 4*(i:Int)<0:=by omega
  have T:l.getD i 0=l[i]:=by rw[eY,bZ C];rfl
  have U:wv l (i+1)=bits .or .i64 (wv l i) (W6 (l.getD i 0*2 ^ (min (4*(i:Int)).toNat IntKind.i64.bits))):=rfl;unfold Kk av xG xI;rw[U,T];simp (disch:=omega) [C,E,L,O,bD]) (by unfold Kk av xG xI;simp[h]) (bP)
 rw[cv]at e;simp only[bB,aq];have Y:wv l 0=0:=rfl;rw[Y]at e;rw[e];rfl
def aFm{w:aa Nat}(E:dJ w)(C:w.length=11):QK (bw w)=some (bw (w.drop 3)):=by
 have L:=(Mn E C).ok;have hlen:(bw w).length=11:=by rw[gT,C]
 have D:(bw w).drop 3=bw (w.drop 3):=by simp
 unfold QK xA xZ;rw[Mm _ _ (by rw[gT];omega),L];generalize bw w=W at hlen D ⊢;rw[<- D];have O:W.take 11=W:=by rw[<- hlen,iW]
 simp[hlen,bO,O]
def amb{w:aa Nat}(D:dJ w)(E:w.length=11):(bw (w.drop 3)).length=8 /\ ∀ s∈bw (w.drop 3),0 <= s/\s <= 15:=by
 refine⟨by rw[gT];simp[E],λs C=>?_⟩
 simp only[ List.mem_map]at C;obtain⟨x,L,rfl⟩:=C;have:=D x (List.mem_of_mem_drop L);omega
def AU(w:aa Nat):Int:=bif (ga w).2.1==2 then 0 else wv (bw ((ga w).1.drop 3)) 8
def aFn{w:aa Nat}(C:dJ w)(D:w.length=11):RU (bw w)=some (AU w,(ga w).2.1,(ga w).2.2):=by
 have⟨E,L,_⟩:=Dt C D;have⟨d1,d2⟩:=amb L E;unfold RU AU;rw[alm C D,ak];cases h:(ga w).2.1==2 with
 |true=>simp
 | false=>
  rw[ aCk L E,ak,aFk d1 d2];rfl
def aFo{w:aa Nat}(C:dJ w)(D:w.length=11):QL (bw w)=some (AU w,(ga w).2.1,(ga w).2.2):=by
 have⟨E,L,_⟩:=Dt C D;have⟨d1,d2⟩:=amb L E;unfold QL AU;rw[aCd C D,ak];cases h:(ga w).2.1==2 with
 |true=>simp
 | false=>
  rw[ aFm L E,ak,aFl d1 d2];rfl
def nw(c:bK):aa Nat:=c.symbols.map Int.toNat
def TA{c:bK}(h:Sy c.symbols):bw (nw c)=c.symbols/\dJ (nw c)/\(nw c).length=11:=by
 have⟨C,D⟩:=Zi _ h.2;exact⟨C,D,by simp[nw,h.1]⟩
def ke(c:bK):Int:=bif c.iy then 2 else (ga (nw c)).2.1
def pz(c:bK):bK:=bif c.iy then c else bif (ga (nw c)).2.1==1 then ⟨bw (ga (nw c)).1,c.iy⟩else bif (ga (nw c)).2.1==2 then ⟨c.symbols,true⟩else c
def aFp{l:aa bK}{j:Nat}(h:j<l.length):l.set j l[j]=l:=List.set_getElem_self h
def aaI{c:bK}(h:Sy c.symbols):Sy (pz c).symbols:=by
 have⟨O,C,D⟩:=TA h;have⟨E,L,_⟩:=Dt C D;unfold pz;cases c.iy with
 |true=>exact h
 | false=>
  cases (ga _).2.1==1 with
  |true=>exact Mn L E
  |false=>grind
def Gy(x:Int)(k:Nat):Int:=bits .and .i64 (x.fdiv (2 ^ (min (4*(k:Int)).toNat IntKind.i64.bits))) 15
def kf(x:Int):Nat->aa Int
 |0=>[]
 |k+1=>kf x k++[Gy x k]
def MX(x:Int):∀ k,(kf x k).length=k
 |0=>rfl
 |k+1=>by simp[kf,MX x k]
def aaJ(x:Int):∀ k,∀ s∈kf x k,0<=s/\s<=15
 |0,s,h=>by cases h
 | k+1,s,h=>by
  rcases List.mem_append.1 h with h|h
  ·exact aaJ x k s h
  ·rw[List.mem_singleton.1 h];exact aB5 _
def aFq{x:Int}(Y:0<=x)(Z:x<=4294967295):QM x=some (kf x 8):=by
 have C:aL x 0 4294967295=true:=by rw[bJ];omega
 unfold QM bk;have e:=cH (step:=Km) 8 (λk=>((x,(),(k:Int),()),(kf x k,()))) (.inl (((),()),(kf x 8,()))) aS (λk hk=>by
  have D:(k:Int)<8:=by omega
  have E:bO ((kf x k).length+1)=true:=di (by rw[MX];omega);have L:W6 (4*(k:Int))=4*(k:Int):=aO;have O:IntKind.u64.wrap (4*(k:Int))=4*(k:Int):=ali (by omega) (by omega);have T:¬ 4*(k:Int)<0:=by omega
  unfold Km J3 av xG;simp (disch:=omega) [D,eJ,C,L,O,T,E,bD,kf,Gy]) (by
  unfold Km av xG;simp) (bP)
 rw[cv]at e;have U:kf x 0=[]:=rfl;rw[U]at e;rw[e];rfl
def aFr{x:Int}(U:0<=x)(Y:x<=4294967295):Su x=some (kf x 8):=by
 have C:aL x 0 4294967295=true:=by rw[bJ];omega
 unfold Su CX bk;rw[dK,ak,ak,C,bB,aq];have e:=cH (step:=L9) 8 (λk=>((x,(),(k:Int),()),(kf x k,()))) (.inl (((),()),(kf x 8,()))) aS (λk Z=>by
  have D:(k:Int)<8:=by omega
  have E:bO ((kf x k).length+1)=true:=di (by rw[MX];omega);have L:W6 (4*(k:Int))=4*(k:Int):=aO;have O:¬ 4*(k:Int)<0:=by omega
  unfold L9 av xG;simp (disch:=omega) [D,L,O,E,bD,kf,Gy]) (by
  unfold L9 av xG;simp) (bP)
 rw[cv]at e;have T:kf x 0=[]:=rfl;rw[T]at e;rw[e];rfl
def amc:(je λx=>je λy=>je λz=>(λC D E=>Nat.beq (gm (gm 2 (C ^^^ D) ^^^ gm 5 (C ^^^ E)) 13) y&&(Nat.beq (gm (gm 3 (C ^^^ E) ^^^ gm 5 (C ^^^ D)) 13) z&&Nat.beq (C ^^^ (y ^^^ z)) x)) (gm x (pw 0) ^^^ (gm y (pw 0) ^^^ gm z (pw 0))) (gm x (pw 0) ^^^ (gm y (pw 1) ^^^ gm z (pw 2))) (gm x (pw 0) ^^^ (gm y (pw 2) ^^^ gm z (pw 4))))=true:=by kernel_rfl
def aFs{x y z:Nat}{d:aa Nat}(j:Nat):bW (x :: y :: z :: d) j 11=(gm x (pw (0*j)) ^^^ (gm y (pw (1*j)) ^^^ gm z (pw (2*j)))) ^^^ bW (0 :: 0 :: 0 :: d) j 11:=by
 simp[bW,List.getD_cons_zero,List.getD_cons_succ,Nat.xor_assoc,Nat.zero_xor,SL (ua _)]
def Gz{a b:Nat}(h:a ^^^ b=0):a=b:=by
 have C:(a ^^^ b) ^^^ b=0 ^^^ b:=by rw[h]
 grind
def amd{w v:aa Nat}(L:dJ w)(O:dJ v)(lw:w.length=11)(lv:v.length=11)(T:w.drop 3=v.drop 3)(zw:nu w=true)(zv:nu v=true):w=v:=by
 obtain⟨x,y,z,d,rfl⟩:∃ x y z d,w=x :: y :: z :: d:=by
  match w,lw with
  |x::y::z::d,_=>simp_all
 obtain⟨C,D,E,d',rfl⟩:∃ x y z d,v=x :: y :: z :: d:=by
  match v,lv with
  |x::y::z::d,_=>simp_all
 have T:d=d':=T;subst T;simp only[nu,aN]at zw zv;have⟨w0,w1,U⟩:=zw;have⟨Y,Z,v2⟩:=zv;rw[aFs]at w0 w1 U Y Z v2;have w0:gm x (pw 0) ^^^ (gm y (pw 0) ^^^ gm z (pw 0))=bW (0::0::0::d) 0 11:=Gz (cD w0);have w1:gm x (pw 0) ^^^ (gm y (pw 1) ^^^ gm z (pw 2))=bW (0::0::0::d) 1 11:=Gz (cD w1);have U:gm x (pw 0) ^^^ (gm y (pw 2) ^^^ gm z (pw 4))=bW (0::0::0::d) 2 11:=Gz (cD U);have Y:gm C (pw 0) ^^^ (gm D (pw 0) ^^^ gm E (pw 0))=bW (0::0::0::d) 0 11:=Gz (cD Y);have Z:gm C (pw 0) ^^^ (gm D (pw 1) ^^^ gm E (pw 2))=bW (0::0::0::d) 1 11:=Gz (cD Z);have v2:gm C (pw 0) ^^^ (gm D (pw 2) ^^^ gm E (pw 4))=bW (0::0::0::d) 2 11:=Gz (cD v2);have m:∀{l:aa Nat} {n:Nat},dJ l -> n∈l -> n<16:=λh hn=>h _ hn
 have k1:=gv (gv (gv amc (m L (n:=x) (by simp))) (m L (n:=y) (by simp))) (m L (n:=z) (by simp));have k2:=gv (gv (gv amc (m O (n:=C) (by simp))) (m O (n:=D) (by simp))) (m O (n:=E) (by simp));simp_all
def ame(w r:aa Nat):∀ k,k<=3->(qi w r k).drop 3=w.drop 3
 |0,_=>rfl
 | k+1,h=>by
  show (List.set _ _ _).drop 3=_;rw[List.drop_set_of_lt (by omega),ame w r k (by omega)]
def aaK{a b:aa Nat}(h:bw a=bw b):a=b:=(List.map_inj_right (λx y h=>by
 omega)).1 h
def aFt{d:aa Nat}(E:dJ d)(D:d.length=8):∃ w,Ab (bw d)=some (bw w)/\w.length=11/\dJ w/\w.drop 3=d/\nu w=true:=by
 have L:dJ (0 :: 0 :: 0 :: d):=by
  intro x hx;simp only[gW]at hx;rcases hx with rfl|rfl|rfl|hx
  ·decide
  ·decide
  ·decide
  ·exact E x hx
 have C:(0::0::0::d).length=11:=by simp[D]
 obtain⟨w,e,O,T,U,Y,Z⟩:=aAL E D;refine⟨w,e,O,T,?_,by simp[nu,U,Y,Z]⟩;have e1:Ab (bw d)=some (bw (qi (0 :: 0 :: 0 :: d) (out (0 :: 0 :: 0 :: d) 8) 3)):=by
  unfold Ab xA bk xZ;have c0:((d.length:Int)==(8:Int))=true:=by rw[D];rfl
  have c1:bO ((List.replicate (3:Int).toNat (0:Int)).length+(bw d).length)=true:=by
   rw[gT,D];rfl
  have c2:bO (([]:aa Int).length+(bw (0 :: 0 :: 0 :: d)).length)=true:=by
   rw[gT,C];rfl
  have c3:W6 (((bw (0 :: 0 :: 0 :: d)).length:Int)-(1:Int))=10:=by
   rw[gT,C];rfl
  have eW:List.replicate (3:Int).toNat (0:Int)++bw d=bw (0::0::0::d):=rfl;rw[aki E (by omega),ak,c0,show (!true)=false from rfl,aq,bL (by decide),c1,au,eW,akh,ak,eH];dsimp only;rw[List.nil_append,c2,au,c3,akj L C,ak,eH];dsimp only;rw[akp C (by rw[De,C]),ak,eH]
 rw[e1]at e;injection e with e;rw[<-aaK e,ame _ _ 3 (dM _)];rfl
def Dz(x:Int):aa Int:=(F0 x).getD []
def MY{x:Int}(E:0 <= x)(L:x <= 4294967295):F0 x=some (Dz x)/\Sy (Dz x) /\ ∃ w,Dz x=bw w/\w.length=11/\dJ w/\bw (w.drop 3)=kf x 8/\nu w=true:=by
 have O:aL x 0 4294967295=true:=by rw[bJ];omega
 have⟨t1,t2⟩:=Zi _ (aaJ x 8);have tl:((kf x 8).map Int.toNat).length=8:=by rw[eG,MX]
 have⟨w,C,l1,d1,T,U,Y,Z⟩:=aAB t2 tl;have z1:nu w=true:=by simp[nu,U,Y,Z]
 rw[t1]at C;have D:F0 x=some (bw w):=by
  unfold F0 CX;rw[dK,ak,ak,O,bB,aq,aFr E L,ak,C,ak]
 have ee:Dz x=bw w:=by unfold Dz;rw[D];rfl
 rw[ee];exact⟨D,Mn d1 l1,w,rfl,l1,d1,by rw[T,t1],z1⟩
def amf{x:Int}(C:0 <= x)(D:x <= 4294967295):E2 x=some (Dz x):=by
 have⟨t1,t2⟩:=Zi _ (aaJ x 8);have tl:((kf x 8).map Int.toNat).length=8:=by rw[eG,MX]
 have⟨_,_,w,L,l1,d1,O,T⟩:=MY C D;have⟨v,E,l2,d2,U,Y⟩:=aFt t2 tl;have Z:=amd d1 d2 l1 l2 (by rw[U];exact aaK (by rw[O,t1])) T Y;subst Z;rw[t1]at E;unfold E2;rw[aFq C D,ak,E,ak,L]
def aFu{a b:Nat}(E:a<9223372036854775808)(L:b<9223372036854775808):bits .or .i64 (a:Int) (b:Int)=((a ||| b:Nat):Int):=by
 have e:bits .or .i64 (a:Int) (b:Int)=W6 ((BitVec.ofInt 64 (a:Int) |||BitVec.ofInt 64 (b:Int)).toNat:Int):=rfl;have h:a |||b<2 ^ 63:=Nat.or_lt_two_pow (by omega) (by omega);have C:BitVec.ofInt 64 (a:Int)=BitVec.ofNat 64 a:=BitVec.ofInt_natCast 64 a;have D:BitVec.ofInt 64 (b:Int)=BitVec.ofNat 64 b:=BitVec.ofInt_natCast 64 b;rw[e,C,D,BitVec.toNat_or,BitVec.toNat_ofNat,BitVec.toNat_ofNat,Nat.mod_eq_of_lt (by omega),Nat.mod_eq_of_lt (by omega),aO]
def aFv(a:Nat)(L:a<9223372036854775808):bits .and .i64 (a:Int) 15=((a % 16:Nat):Int):=by
 have e:bits .and .i64 (a:Int) 15=W6 ((BitVec.ofInt 64 (a:Int) &&& BitVec.ofInt 64 15).toNat:Int):=rfl;have C:BitVec.ofInt 64 (a:Int)=BitVec.ofNat 64 a:=BitVec.ofInt_natCast 64 a;have D:(BitVec.ofInt 64 15).toNat=15:=rfl;have E:a &&& 15=a % 16:=Nat.and_two_pow_sub_one_eq_mod a 4;rw[e,C,BitVec.toNat_and,BitVec.toNat_ofNat,Nat.mod_eq_of_lt (by omega),D,E,aO]
def nv(d:aa Nat):Nat->Nat
 |0=>0
 |k+1=>nv d k+d.getD k 0*16 ^ k
def MZ{d:aa Nat}(C:dJ d):∀ k,nv d k<16 ^ k
 |0=>Nat.one_pos
 | k+1=>by
  have D:=MZ C k;have E:=C.get k;have L:d.getD k 0*16 ^ k <= 15*16 ^ k:=jD _ (by omega);show nv d k+d.getD k 0*16 ^ k<16 ^ (k+1)
  grind
def amg(k:Nat)(C:k<8):(min (4*(k:Int)).toNat IntKind.i64.bits)=4*k:=by
 have:IntKind.i64.bits=64:=rfl;rw[this];omega
def aaL{d:aa Nat}(C:dJ d)(E:d.length=8):∀ k,k<=8->wv (bw d) k=(nv d k:Int)
 |0,_=>rfl
 | k+1,h=>by
  have L:=MZ C k;have U:=C.get k;have Y:(16:Nat) ^ k<=16 ^ 7:=Nat.pow_le_pow_right (by decide) (by omega);have D:(2:Nat) ^ (4*k)=16 ^ k:=by rw[Nat.pow_mul]
  have Z:d.getD k 0*16 ^ k<=15*16 ^ k:=jD _ (by omega);have O:(bw d).getD k 0=((d.getD k 0:Nat):Int):=by
   rw[eY,bZ (by rw[gT];omega)];exact uc (by rw[gT];omega)
  have T:((d.getD k 0:Nat):Int)*2 ^ (4*k)=((d.getD k 0*16 ^ k:Nat):Int):=by
   rw[<-D]
   push_cast
   rfl
  show bits .or .i64 (wv (bw d) k) (W6 ((bw d).getD k 0*2 ^ (min (4*(k:Int)).toNat IntKind.i64.bits)))=((nv d k+d.getD k 0*16 ^ k:Nat):Int)
  rw[aaL C E k (by omega),amg k (by omega),O,T,aO,aFu (by omega) (by omega)];congr 1;have:=Nat.two_pow_add_eq_or_of_lt (i:=4*k) (b:=nv d k) (by rw[D];exact L) (d.getD k 0);rw[D,Nat.mul_comm]at this;rw[Nat.or_comm,<-this];omega
def amh{d:aa Nat}(C:dJ d):∀ n k,k<n -> nv d n / 16 ^ k % 16=d.getD k 0
 |0,k,h=>by omega
 | n+1,k,h=>by
  have D:=MZ C n;have L:=C.get n;show (nv d n+d.getD n 0*16 ^ n) / 16 ^ k % 16=_;by_cases e:k=n
  ·subst e;rw[Nat.add_mul_div_right _ _ (Nat.pow_pos (by decide)),Nat.div_eq_of_lt D,fk];omega
  ·have O:n=(n-k-1)+1+k:=by omega
   have E:d.getD n 0*16 ^ n=(d.getD n 0*16 ^ (n-k-1)*16)*16 ^ k:=by
    grind
   rw[E,Nat.add_mul_div_right _ _ (Nat.pow_pos (by decide)),Nat.add_mul_mod_self_right,amh C n k (by omega)]
def aFw{d:aa Nat}(C:dJ d)(D:d.length=8):kf (wv (bw d) 8) 8=bw d:=by
 have T:nv d 8<16 ^ 8:=MZ C 8;rw[aaL C D 8 (dM _)];have key:∀ k,k <= 8 -> kf (nv d 8:Int) k=bw (d.take k):=by
  intro k
  induction k with
  |zero=>intro _;rfl
  | succ k E=>
   intro U;have Y:(2:Nat) ^ (4*k)=16 ^ k:=by rw[Nat.pow_mul]
   have L:(nv d 8:Int).fdiv (2 ^ (4*k))=((nv d 8 / 16 ^ k:Nat):Int):=by
    grind
   have O:Gy (nv d 8:Int) k=((d.getD k 0:Nat):Int):=by
    unfold Gy;rw[amg k (by omega),L,aFv _ (Nat.lt_of_le_of_lt (Nat.div_le_self _ _) (by omega)),amh C 8 k (by omega)]
   show kf (nv d 8:Int) k++[Gy (nv d 8:Int) k]=_;rw[E (by omega),O,List.take_add_one,bZ (by omega),eY,bZ (by omega)];exact(List.map_append (f:=λn:Nat=>(n:Int)) (l₁:=d.take k) (l₂:=[d[k]])).symm
 rw[key 8 (dM _),<- D,iW]
def aFx{d:aa Nat}(C:dJ d)(D:d.length=8):0 <= wv (bw d) 8/\wv (bw d) 8 <= 4294967295:=by
 have E:=MZ C 8;rw[aaL C D 8 (dM _)];omega
def aFy{w:aa Nat}(C:dJ w)(D:w.length=11)(h:(ga w).2.1=1):E2 (AU w)=some (bw (ga w).1):=by
 have⟨E,L,_⟩:=Dt C D;have hz:=aCj C D (by omega);have O:dJ ((ga w).1.drop 3):=λx hx=>L x (List.mem_of_mem_drop hx)
 have T:((ga w).1.drop 3).length=8:=by rw[List.length_drop,E]
 have he:AU w=wv (bw ((ga w).1.drop 3)) 8:=by
  unfold AU;simp_all
 have⟨U,Y⟩:=aFx O T;have e2:=amf U Y;have⟨_,_,v,ev,vl,v16,Z,vz⟩:=MY U Y;rw[aFw O T]at Z;have:=amd v16 L vl E (aaK Z) vz hz;simp_all
def M0(d:bK):Int:=bif d.iy then 0 else AU (nw d)
def ru(c:ax)(j:Nat)(d:bK):ax:=dm c ⟨c.array.cells.set j d,c.array.bz,c.array.bu⟩
def ami{c:ax}{j:Nat}(h:j<c.array.cells.length):ru c j c.array.cells[j]=c:=by
 unfold ru dm;rw[aFp h]
def amj{c:ax}{j:Nat}(C:j<c.array.cells.length)(T:Sy c.array.cells[j].symbols):yb c (j:Int)=some ((M0 c.array.cells[j],ke c.array.cells[j]),(ru c j (pz c.array.cells[j]),())):=by
 have⟨U,D,E⟩:=TA T;have L:=alm D E;have O:=aFn D E;rw[U]at L O;have Z:=ami C;unfold yb ke pz M0 xL xM;rw[az ⟨by omega,by omega⟩,az];simp only[bC];cases Y:c.array.cells[j].iy with
 |true =>simp_all
 | false=>
  rw[aq,aq,aq,aq,az C,az C,L,ak,az C,az C,O,ak];dsimp only;rcases(Dt D E).2.2 with q|q|q
  ·grind
  ·rw[q,dR,az C,Y];rfl
  ·rw[q,kU (by omega),aq,dR,az C];rfl
def amk{c:ax}{j:Nat}(C:j<c.array.cells.length)(O:Sy c.array.cells[j].symbols):CO c (j:Int)=some ((M0 c.array.cells[j],ke c.array.cells[j]),(ru c j (pz c.array.cells[j]),())):=by
 have⟨T,D,E⟩:=TA O;have L:=aFo D E;rw[T]at L;have Y:=ami C;unfold CO ke pz M0 xL xM;rw[az ⟨by omega,by omega⟩,az];simp only[bC];cases U:c.array.cells[j].iy with
 |true =>simp_all
 | false=>
  rw[aq,aq,aq,aq,az C,L,ak];dsimp only;rcases(Dt D E).2.2 with q|q|q
  ·grind
  ·rw[q,dR,aFy D E q,ak,az ⟨by omega,C⟩,az C,kU (by omega),aq,U];rfl
  ·rw[q,kU (by omega),dR,aq,az ⟨by omega,C⟩,az C];rfl
def uQ(q:aa bA)(i:Nat):Bool:=match q[i]? with
 |some r=>(q.take i).any λx=>x.line==r.line
 |none=>false
def aml{q:aa bA}{i:Nat}(h:i<q.length):uQ q i=(q.take i).any λx=>x.line==q[i].line:=by
 unfold uQ;rw[bZ h]
def aFz{α:Type}(p:α -> Bool)(q:aa α)(i:Nat)(hi:i <= q.length):dx p (q.take i)=min (dx p q) i:=by
 have O:=we p q;have D:=we p (q.take i);rw[fJ,Nat.min_eq_left hi]at D;rcases Nat.lt_or_ge (dx p (q.take i)) i with h|h
 ·have E:dx p (q.take i)<(q.take i).length:=by rw[fJ,Nat.min_eq_left hi];exact h
  have L:=rq E;rw[List.getElem_take]at L;rcases Nat.lt_or_ge (dx p q) (dx p (q.take i))with h5|h5
  ·have h6:=rq (p:=p) (q:=q) (by omega);have C:=nA h5 (by rw[fJ];omega);simp_all
  ·rcases Nat.lt_or_ge (dx p (q.take i)) (dx p q)with h6 | h6
   ·have C:=nA h6 (by omega);simp_all
   ·omega
 ·have e:dx p (q.take i)=i:=by omega
  rw[e];rcases Nat.lt_or_ge (dx p q) i with h5|h5
  ·have h6:=rq (p:=p) (q:=q) (by omega);have C:=nA (p:=p) (q:=q.take i) (i:=dx p q) (by omega) (by rw[fJ];omega);simp_all
  ·omega
def aFA{q:aa bA}{i:Nat}(h:i<q.length)(L:q.length <= 1000):R8 q (i:Int)=some (uQ q i):=by
 have O:=we (λx:bA=>x.line==q[i].line) (q.take i);have hlen:(q.take i).length=i:=by rw[fJ];omega
 unfold R8 bE;rw[dK,ak,MT (by omega) (by omega) (by omega),bB,aq,bL ⟨by omega,by omega,by omega⟩,aml h,Tf];simp only[bC,Int.toNat_zero,List.drop_zero];generalize T:q.take i=t at *
 have e:=cH (step:=FO) (dx (λx:bA=>x.line==q[i].line) t) (λj=>((q,(i:Int),t,(t.length:Int),(j:Int),()),())) (if dx (λx:bA=>x.line==q[i].line) t<t.length then .inl ((true,()),())else .inr (.inl ((),()))) aS (λk E=>by
  have D:=nA E (by omega);unfold FO av aQ xG xI;dsimp only;rw[aW,au,az ⟨by omega,by omega⟩,az ⟨by omega,by omega⟩];simp only[bC];rw[D,aq,bD]) (by
  by_cases C:dx (λx:bA=>x.line==q[i].line) t<t.length
  ·have D:=rq C;unfold FO av aQ xG xI;dsimp only;rw[aW,au,az ⟨by omega,by omega⟩,az ⟨by omega,by omega⟩]
   grind
  ·unfold FO av aQ xG xI;dsimp only;rw[aV,aq,bX C]) (bP)
 rw[cv]at e
 refine(aY (λo=>Option.bind o _) e).trans ?_
 by_cases C:dx (λx:bA=>x.line==q[i].line) t<t.length
 ·rw[bL C,aW C];rfl
 ·rw[bX C,aV C];rfl
def amm{q:aa bA}{i:Nat}(h:i<q.length)(E:q.length <= 1000):Kx q (i:Int)=some (uQ q i):=by
 have L:=aFz (λx:bA=>x.line==q[i].line) q i (by omega);have O:=we (λx:bA=>x.line==q[i].line) (q.take i);have hlen:(q.take i).length=i:=by rw[fJ];omega
 unfold Kx bE;rw[aml h,Tf,hlen];generalize T:dx (λx:bA=>x.line==q[i].line) (q.take i)=n at *
 have e:=cH (step:=E8) n (λj=>((q,(i:Int),(j:Int),()),())) (if n<i then .inl ((true,()),())else .inr (.inl ((),()))) aS (λk U=>by
  have D:=nA (p:=λx:bA=>x.line==q[i].line) (q:=q) (i:=k) (by omega) (by omega);unfold E8 av aQ xG xI;dsimp only;rw[aW,au,aW,au,az ⟨by omega,by omega⟩,az ⟨by omega,by omega⟩];simp only[bC];rw[D,aq,bD]) (by
  by_cases C:n<i
  ·have D:((q[n]'(by omega)).line==q[i].line)=true:=by
    have Y:dx (λx:bA=>x.line==q[i].line) q=n:=by omega
    have:=rq (p:=λx:bA=>x.line==q[i].line) (q:=q) (by omega)
    grind
   unfold E8 av aQ xG xI;dsimp only;rw[aW,au,aW,au,az ⟨by omega,by omega⟩,az ⟨by omega,by omega⟩]
   grind
  ·unfold E8 av aQ xG xI;dsimp only;rw[aV,aq,bX C]) (bP)
 rw[cv]at e
 refine(aY (λo=>Option.bind o _) e).trans ?_
 by_cases C:n<i
 ·rw[bL C,aW C];rfl
 ·rw[bX C,aV C];rfl
def AV(d:gB)(n:Int)(w:Bool):Bool:=bif w then d.on ||decide (n<1)else !d.on
def aFB{d:gB}(n:Int)(w:Bool)(h:o6 d=true):R9 d n w=some (AV d n w):=by
 unfold R9 AV;rw[SR,h]
 grind
def aFC{d:gB}(n:Int)(w:Bool)(h:o6 d=true):Q0 d n w=some (AV d n w):=by
 unfold Q0 AV;rw[SS,h]
 grind
def AX(p:Nat->Bool)(k:Nat):Int:=((List.range k).countP p:Nat)
def TB(p:Nat -> Bool)(k:Nat):AX p (k+1)=AX p k+(bif p k then 1 else 0):=by
 unfold AX;rw[List.range_succ,List.countP_append,List.countP_singleton]
 grind
def TD(p:Nat -> Bool)(k:Nat):0 <= AX p k/\AX p k <= k:=by
 unfold AX;have:=List.countP_le_length (p:=p) (l:=List.range k);simp_all
def rz(f:Nat->Bool)(n k:Nat):aa Bool:=(List.range k).map f++List.replicate (n-k) false
def TE{f:Nat->Bool}{n k:Nat}(h:k<=n):(rz f n k).length=n:=by unfold rz;simp;omega
def TF{f:Nat -> Bool}{n k:Nat}(h:k<n):(rz f n k).set k (f k)=rz f n (k+1):=by
 unfold rz;rw[List.set_append_right _ _ (by simp),eG,cO,Nat.sub_self,show n-k=(n-(k+1))+1 by omega,List.replicate_succ,List.range_succ,List.map_append,List.append_assoc];rfl
def aaM(f:Nat->Bool)(n:Nat):rz f n 0=List.replicate n false:=rfl
def TG(f:Nat->Bool)(n:Nat):rz f n n=(List.range n).map f:=by unfold rz;simp
def yB{f:Nat->Bool}{n k:Nat}(h:k<n)(C:k<((List.range n).map f).length):((List.range n).map f)[k]=f k:=by simp
def qp(q:aa bA)(i:Nat):Bool:=match q[i]? with
 |some r=>r.write
 |none=>false
def DA{q:aa bA}{i:Nat}(h:i<q.length):qp q i=q[i].write:=by
 unfold qp;rw[bZ h]
def kg(q:aa bA)(i:Nat):Bool:=!uQ q i
def qq(q:aa bA)(k:Nat):Int:=AX (λi=>kg q i && !qp q i) k
def rA(q:aa bA)(k:Nat):Int:=AX (λi=>kg q i&&qp q i) k
def gU(c:ax)(i:Nat):Bool:=kg c.queue i&&(AV c.drain (qq c.queue c.queue.length) (qp c.queue i) ||(!qp c.queue i&&rA c.queue c.queue.length==0))
def aFD{c:ax}(h:Pq c):Q1 c=some ((List.range c.queue.length).map (gU c)):=by
 have O:=h.ql;have e:=cH (step:=Ky) c.queue.length (λi=>((c,qq c.queue i,rA c.queue i,(i:Int),()),())) (.inl ((c,qq c.queue c.queue.length,rA c.queue c.queue.length,()),())) aS (λk C=>by
  have T:=TD (λi=>kg c.queue i && !qp c.queue i) k;have U:=TD (λi=>kg c.queue i&&qp c.queue i) k;unfold Ky av xG xI;dsimp only;rw[aW,au,amm C (by omega),ak,bD];unfold qq rA at *
  have E:kg c.queue k = !uQ c.queue k:=rfl;rw[TB,TB];simp only[E,DA C];cases uQ c.queue k with
  |true=>simp
  | false=>
   rw[aq,az ⟨by omega,by omega⟩];simp only[bC];cases c.queue[k].write with
   |true=>rw[au,aO];simp[kg]
   |false=>rw[aq,aO];simp[kg]) (by
  unfold Ky av xG xI;dsimp only;rw[aV,aq]) (bP)
 have D:=cH (step:=Kz) c.queue.length (λi=>((c,qq c.queue c.queue.length,rA c.queue c.queue.length,(),(i:Int),()),((List.range i).map (gU c),()))) (.inl (((),()),((List.range c.queue.length).map (gU c),()))) aS (λk C=>by
  have L:((List.range k).map (gU c)).length=k:=by simp
  unfold Kz av xG xI;dsimp only;rw[aW,au,az ⟨by omega,by omega⟩,amm C (by omega),ak,bD,List.range_succ,List.map_append,L,List.map_singleton];simp only[bC,lT,di (show k+1<1073741824 by omega),au,aFC _ _ h.dr,ak];unfold gU kg;rw[DA C];cases uQ c.queue k<;>cases c.queue[k].write<;>cases AV c.drain (qq c.queue c.queue.length) _<;>first|rfl|simp) (by
  unfold Kz av xG xI;dsimp only;rw[aV,aq]) (bP)
 rw[cv]at e D;unfold Q1 bk
 refine(aY (λo=>Option.bind o _) e).trans ?_
 rw[ak]
 refine(aY (λo=>Option.bind o _) D).trans ?_
 rfl
def fy(c:ax):aa aI:=c.queue.map λr=>gE c r.line
def uR(c:ax):(fy c).length=c.queue.length:=by unfold fy;rw[eG]
def aFE{c:ax}{i:Nat}(h:i<c.queue.length)(C:i<(fy c).length):(fy c)[i]=gE c c.queue[i].line:=by simp only[fy,List.getElem_map]
def TH{c:ax}(h:Pq c){r:bA}(C:r∈c.queue):vT c r.line=some (gE c r.line,true)/\fj c.config.aE (gE c r.line)=true:=
 aES h.p h.sp h.se h.mo (h.q r C).1.1 (h.q r C).1.2
def aaN{c:ax}(h:Pq c){r:bA}(C:r∈c.queue):xT c r.line=some (gE c r.line):=
 aEU h.p h.sp h.se h.mo (h.q r C).1.1 (h.q r C).1.2
def aFF{c:ax}(h:Pq c):R7 c=some (fy c):=by
 have E:=h.ql;have e:=cH (step:=LS) c.queue.length (λi=>(((),(),c.queue,c.queue.length,i,()),(c,(c.queue.take i).map _,()))) (.inl (((),()),(fy c,()))) aS (λk C=>by
  have D:((c.queue.take k).map (λr=>gE c r.line)).length=k:=by simp;omega
  unfold LS av xG xI;dsimp only;rw[aW,au,az ⟨by omega,by omega⟩];simp only[bC];rw[(TH h (cV C)).1,ak,bD,D,lT,di,au,qZ C,List.map_append];rfl) (by
  unfold LS av xG xI;dsimp only;rw[aV,aq,iW];rfl) (bP)
 unfold R7 bk;simp_all
def amn{c:ax}(h:Pq c):Kw c=some (fy c):=by
 have E:=h.ql;have e:=cH (step:=Kv) c.queue.length (λi=>((c,(),i,()),((c.queue.take i).map _,()))) (.inl (((),()),(fy c,()))) aS (λk C=>by
  have D:((c.queue.take k).map (λr=>gE c r.line)).length=k:=by simp;omega
  unfold Kv av xG xI;dsimp only;rw[aW,au,az ⟨by omega,by omega⟩];simp only[bC];rw[aaN h (cV C),ak,bD,D,lT,di,au,qZ C,List.map_append];rfl) (by
  unfold Kv av xG xI;dsimp only;rw[aV,aq,iW];rfl) (bP)
 unfold Kw bk;simp_all
def zA:aI:=⟨0,0,0⟩
def zQ:bA:=⟨0,0,0,false,0,0⟩
def fC(c:ax)(i:Nat):aI:=(fy c).getD i zA
def kX(c:ax)(i:Nat):bA:=c.queue.getD i zQ
def DB{c:ax}{i:Nat}(h:i<(fy c).length):(fy c)[i]=fC c i:=by
 unfold fC;rw[eY,bZ h];rfl
def pE{c:ax}{i:Nat}(h:i<c.queue.length):c.queue[i]=kX c i:=by
 unfold kX;rw[eY,bZ h];rfl
def DC{c:ax}(h:Pq c){i:Nat}(hi:i<c.queue.length):fj c.config.aE (fC c i)=true/\0 <= (fC c i).ay/\(fC c i).ay.toNat<c.bq.aB.length/\(fC c i).ay.toNat<c.aP.aH.length/\(fC c i).ay<bf c.config.aE/\0 <= (fC c i).row:=by
 have e:=aFE hi (by rw[uR];exact hi);rw[DB]at e;have C:=(TH h (cV hi)).2;rw[<- e]at C;have⟨_,D,E,L,O,T,U⟩:=sC C;have:=h.p.bl;have:=h.dl;simp_all
def wB{c:ax}(h:Pq c):c.bq.aB.length<=1048576:=by
 have:=h.p.bl;have:=fG c.config.aE;omega
def dZ(c:ax)(i:Nat):Bool:=wu c.bq (fC c i)
def aFG{c:ax}(h:Pq c)(C:aa Int)(D:aa aI)(Z:Int×Int×Int×Int×af)(P:Int×Int×Int×Int×Int×(aa Int)×Int×Int×af):iter FT aS ((C,D,(),(),(),(),(0:Int),(0:Int),c.queue,(c.queue.length:Int),(0:Int),()),(c,Z,P,List.replicate c.queue.length false,()))=some (.inl ((C,D,(),(),(),(),qq c.queue c.queue.length,rA c.queue c.queue.length,()),(c,Z,P,(List.range c.queue.length).map (kg c.queue),()))):=by
 have T:=h.ql;have e:=cH (step:=FT) c.queue.length (λi=>((C,D,(),(),(),(),qq c.queue i,rA c.queue i,c.queue,(c.queue.length:Int),(i:Int),()),(c,Z,P,rz (kg c.queue) c.queue.length i,()))) (.inl ((C,D,(),(),(),(),qq c.queue c.queue.length,rA c.queue c.queue.length,()),(c,Z,P,(List.range c.queue.length).map (kg c.queue),()))) aS (λk E=>by
  have U:=TD (λi=>kg c.queue i && !qp c.queue i) k;have Y:=TD (λi=>kg c.queue i&&qp c.queue i) k;have L:kg c.queue k = !uQ c.queue k:=rfl;have O:=TE (f:=kg c.queue) (n:=c.queue.length) (k:=k) (by omega);have ku:((rz (kg c.queue) c.queue.length k).set k (!uQ c.queue k)).length=c.queue.length:=by rw[gz,O]
  rw[<- TF E];unfold FT av xG xI xL;dsimp only;rw[aW,au,az ⟨by omega,by omega⟩,aFA E (by omega),ak,az ⟨by omega,by omega⟩,az,az ⟨by omega,by simp only[bC];omega⟩,az (by simp only[bC];omega),bD];simp only[bC,mH];unfold qq rA at *
  rw[TB,TB];simp only[L,DA E];cases uQ c.queue k with
  | true=>
   simp[*]
  | false=>
   rw[iX,au];cases c.queue[k].write with
   |true=>rw[ aO];simp
   | false=>
    rw[aq,az ⟨by omega,by rw[gz];omega⟩,az (by rw[gz];omega),aO];simp) (by
  unfold FT av xG xI xL;dsimp only;rw[aV,aq,TG]) (bP)
 rw[cv,aaM]at e;exact e
def sM(c:ax):Nat->aa (Int×Bool)
 |0=>[]
 |k+1=>bif gU c k&&dZ c k then mY (sM c k) (fC c k).ay true else sM c k
def yC(c:ax)(k:Nat)(b:Int):Bool:=(List.range k).any λi=>gU c i&&dZ c i&&b==(fC c i).ay
def amo(c:ax)(b:Int):∀ k,mc (sM c k) b=yC c k b
 |0=>rfl
 | k+1=>by
  have C:=amo c b k;have e:yC c (k+1) b=(yC c k b || (gU c k&&dZ c k&&b==(fC c k).ay)):=by
   unfold yC
   grind
  rw[e,<- C];show mc (bif gU c k&&dZ c k then mY _ (fC c k).ay true else sM c k) b=_;cases gU c k&&dZ c k with
  |false=>simp
  |true=>rw[au,aBZ,cu,Bool.or_comm]
def aFH{c:ax}(h:Pq c)(D:aa Int)(Z:Int×Int×Int×Int×af)(P:Int×Int×Int×Int×Int×(aa Int)×Int×Int×af):iter FU aS ((D,fy c,(),(),(),(),qq c.queue c.queue.length,rA c.queue c.queue.length,(),(),(),c.queue,(c.queue.length:Int),(0:Int),()),(c,Z,P,(List.range c.queue.length).map (kg c.queue),List.replicate c.queue.length false,List.replicate c.queue.length false,([]:aa (Int×Bool)),()))=some (.inl ((D,fy c,(),(),(),(),(),(),()),(c,Z,P,(List.range c.queue.length).map (gU c),(List.range c.queue.length).map (dZ c),sM c c.queue.length,()))):=by
 have hq:=h.ql;have E:=wB h;have e:=cH (step:=FU) c.queue.length (λi=>((D,fy c,(),(),(),(),qq c.queue c.queue.length,rA c.queue c.queue.length,(),(),(),c.queue,(c.queue.length:Int),(i:Int),()),(c,Z,P,(List.range c.queue.length).map (kg c.queue),rz (gU c) c.queue.length i,rz (dZ c) c.queue.length i,sM c i,()))) (.inl ((D,fy c,(),(),(),(),(),(),()),(c,Z,P,(List.range c.queue.length).map (gU c),(List.range c.queue.length).map (dZ c),sM c c.queue.length,()))) aS (λk C=>by
  have L:=TE (f:=gU c) (n:=c.queue.length) (k:=k) (by omega);have O:=TE (f:=dZ c) (n:=c.queue.length) (k:=k) (by omega);have T:=uR c;have hl4:((List.range c.queue.length).map (kg c.queue)).length=c.queue.length:=by simp
  obtain⟨ho,U,Y,o3,o4,o5⟩:=DC h C;have hh:=aEW (r:=c.bq) (a:=fC c k) o5 U Y E;have hd:gU c k=(kg c.queue k&&(AV c.drain (qq c.queue c.queue.length) c.queue[k].write ||(!c.queue[k].write&&rA c.queue c.queue.length==0))):=by unfold gU;rw[DA C]
  have hhb:sM c (k+1)=bif gU c k&&dZ c k then mY (sM c k) (fC c k).ay true else sM c k:=rfl;have iO:dZ c k=wu c.bq (fC c k):=rfl;rw[<-TF C,<-TF C,hhb];unfold FU av xG xI xL;dsimp only;rw[aW,au,az ⟨by omega,by omega⟩,az ⟨by omega,by omega⟩,az];simp only[bC,yB C,aFB _ _ h.dr,ak,DB,hh,bD (show k<4611686018427387904 by omega),mH,gz,L,O,T];rw[hd,iO];cases kg c.queue k<;>cases AV c.drain (qq c.queue c.queue.length) c.queue[k].write<;>cases c.queue[k].write<;>cases wu c.bq (fC c k)<;>cases rA c.queue c.queue.length==0<;>simp[C]) (by
  unfold FU av xG xI xL;dsimp only;rw[aV,aq,TG,TG]) (bP)
 rw[cv,aaM,aaM]at e;exact e
def TI(e:bU):bU:=⟨e.line,e.code,(if (999:Int)<(W6 (e.times+(1:Int)))then (999:Int)else (W6 (e.times+(1:Int))))⟩
def zEE:bU:=⟨0,0,0⟩
def rB(l:aa bU)(line code:Int):aa bU:=match l.findIdx? (kV ⟨line,code,1⟩)with
 |some i=>l.set i (TI (l.getD i zEE))
 |none=>bif ((l.length:Int)==(6:Int))then l.drop 1++[⟨line,code,1⟩]else l++[⟨line,code,1⟩]
def aFI{l:aa bU}(h:kH l=true){line code:Int}(D:0<=line/\line<=1023)(E:code=1\/code=2):RX l line code=some (rB l line code,true):=by
 have U:l.length<=6:=by
  simp only[kH,aN,iV]at h;omega
 have L:aL line 0 1023=true:=bJ.2 D;unfold RX LL rB bE xA xZ;rw[di (by simp;omega),au,ak,akJ _ (by omega),ak,h,bB,aq,dK,ak,L,bB,aq,List.nil_append];have e:=sG (step:=LM) l (kV ⟨line,code,1⟩) (λk=>((line,code,(),(),(l.length:Int),(k:Int),()),(l,()))) (λi=>.inl (((),true,()),(l.set i (TI (l.getD i zEE)),()))) (.inr (.inl ((line,code,(),()),(l,())))) aS (λk O=>by
  unfold LM kV av aQ xG xL;dsimp only;rw[aW,au,az ⟨by omega,by omega⟩,az];simp only[bC];rw[az ⟨by omega,by omega⟩,az,bD,nD _ O];cases l[k].line==line<;>cases l[k].code==code<;>rfl) (by
  unfold LM av aQ xG xL;dsimp only;rw[aV,aq]) (bP)
 rw[cv]at e;have T:iter YM aS ((line,code,(),(),(l.length:Int),(0:Int),()),(l,()))=_:=e;rcases E with rfl|rfl
 ·rw[dV,aq,T];cases l.findIdx? (kV ⟨line,1,1⟩)with
  |some i=>rfl
  | none=>
   rw[ak,Sum.elim_inr,eH];dsimp only;cases C:(l.length:Int)==(6:Int)with
   |false=>rw[aq,aq,di (by simp;omega)];rfl
   | true=>
    have C:=eq_of_beq C;rw[au,au,bL ⟨by omega,by omega,by omega⟩,di (by simp;omega),au,ak,di (by simp;omega),au];simp
 ·rw[fO (by omega),au,dV,aq,e];cases l.findIdx? (kV ⟨line,2,1⟩)with
  |some i=>rfl
  | none=>
   rw[ak,Sum.elim_inr,eH];dsimp only;cases C:(l.length:Int)==(6:Int)with
   |false=>rw[aq,aq,di (by simp;omega)];rfl
   | true=>
    have C:=eq_of_beq C;rw[au,au,bL ⟨by omega,by omega,by omega⟩,di (by simp;omega),au,ak,di (by simp;omega),au];simp
def aFJ{l:aa bU}(h:kH l=true){line code:Int}(D:0 <= line/\line <= 1023)(Y:code=1 \/ code=2):QN l line code=some (rB l line code,true):=by
 have Z:l.length <= 6:=by
  simp only[kH,aN,iV]at h;omega
 have E:aL line 0 1023=true:=bJ.2 D;have L:aL 1 1 999=true:=rfl;have O:EV ⟨line,code,1⟩=some true:=by
  unfold EV;rw[eJ,ak,E,eJ,L]
  grind
 unfold QN rB xA xC xZ;rw[di (by simp;omega),au,akI,ak,h,bB,aq,O,ak,bB,aq];have C:=akH l ⟨line,code,1⟩ (by omega);dsimp only at C;rw[C,ak,List.nil_append];unfold gw;cases hi:l.findIdx? (kV ⟨line,code,1⟩)with
 | some i=>
  have⟨T,hp,hq⟩:=pG.1 hi;dsimp only;rw[aW,au,az ⟨by omega,by omega⟩,az,az ⟨by omega,by omega⟩,az];rw[nD _ T];rfl
 | none=>
  dsimp only;rw[aV,aq];by_cases U:l.length=6
  ·rw[aW,show ((l.length:Int)==6)=true by rw[U];rfl,bL ⟨by omega,by omega,by omega⟩,di (by simp;omega),di (by simp;omega)];simp
  ·rw[aV,aq,kU (by omega),aq,di (by simp;omega),au]
def M1(c:ax)(l:aa bU):ax:=⟨c.config,c.box,c.now,c.bq,c.ready,c.array,c.spare,c.aP,c.bH,c.guard,c.pending,c.queue,c.shares,c.drain,c.aZ,c.cK,l,c.trace,c.cT⟩
def DD(c:ax)(n code:Int):ax:=bif code != 0 then M1 c (rB c.errors n code)else c
def amp{c:ax}(h:kH c.errors=true){n code:Int}(C:0<=n/\n<=1023)(h2:code=0\/code=1\/code=2):x7 c n code=some ((),(DD c n code,())):=by
 unfold x7 DD;rcases h2 with rfl|h2
 ·rfl
 ·rw[aFI h C h2,fO (by omega)];rfl
def amq{c:ax}(h:kH c.errors=true){n code:Int}(C:0<=n/\n<=1023)(h2:code=0\/code=1\/code=2):CG c n code=some ((),(DD c n code,())):=by
 unfold CG DD;rcases h2 with rfl|h2
 ·rfl
 ·rw[aFJ h C h2,fO (by omega)];rfl
def amr(q:aa bA):Prop:=∀i (h:i<q.length),(q.take i).any (λx=>x.id==q[i].id)=false
def aFK{q:aa bA}{i:Nat}(h:i<q.length)(E:q.length<=12):Sv q (i:Int) (W6 ((i:Int)+1))=some (q.take i++q.drop (i+1),([],())):=by
 have C:(splice q i ((q.take ((q.length:Int).toNat)).drop (i+1))).length=q.length:=by
  rw[sU _ _ _ (by simp;omega)]
 have L:((q.take ((q.length:Int).toNat)).drop (i+1))=q.drop (i+1):=by rw[bC,iW]
 unfold Sv;rw[bD,bL ⟨by omega,by omega,by omega,by omega⟩,kU (by omega),aq,bL ⟨by omega,by omega,by omega⟩,bL ⟨by omega,by omega,by omega⟩];simp only[bC]at C ⊢;rw[bL ⟨by omega,by omega,by omega,by omega⟩,bL ⟨by omega,by omega,by omega⟩,bL ⟨by omega,by omega⟩];have D:i+(q.length-(i+1))-0=i+(q.length-(i+1)):=by omega
 rw[D,aaF _ _ _ (by omega)];unfold splice;rw[iW,List.take_append_of_le_length (by simp;omega),List.take_of_length_le (by simp;omega)]
def aFL{q:aa bA}(C:amr q){i:Nat}(h:i<q.length)(E:q.length <= 12):Rp q q[i].id=some (q.take i++q.drop (i+1),true):=by
 have D:q.findIdx? (λr=>r.id==q[i].id)=some i:=by
  rw[pG]
  refine⟨h,by simp,λj L=>?_⟩
  have:=List.any_eq_false.1 (C i h) q[j] (jh.2 ⟨j,by rw[fJ];omega,by rw[List.getElem_take]⟩);simp_all
 unfold Rp xA xZ;rw[Zu _ _ (by omega),ak];unfold gw;rw[D];dsimp only;rw[aV,aq,bL ⟨by omega,by omega,by omega⟩,di (by simp;omega),au,bD,bL ⟨by omega,by omega,by omega⟩,di (by simp;omega),au];simp_all
def yD:bA:=⟨0,0,0,false,0,0⟩
def AY(s:aa bV)(t:Int):aa bV:=match qf s ((List.replicate 4 false).set t.toNat true)with
 |some (l,_)=>l
 |none=>[]
def pF(c:ax)(i:Nat)(a:cZ)(e:aa bU)(x:cX):ax:=
 ⟨c.config,c.box,c.now,c.bq,c.ready,a,c.spare,c.aP,c.bH,c.guard,c.pending,c.queue.take i++c.queue.drop (i+1),AY c.shares (c.queue.getD i yD).dN,c.drain,c.aZ,c.cK,e,c.trace,c.cT++[x]⟩
def yE(c:ax)(i:Nat):ax:=
 let r:=c.queue.getD i yD
 let n:=rm c.config.aE (gE c r.line)
 bif r.write then pF c i ⟨c.array.cells.set n ⟨Dz r.data,false⟩,c.array.bz,c.array.bu⟩ c.errors ⟨r.id,c.now,0,0⟩
 else pF c i ⟨c.array.cells.set n (pz (c.array.cells.getD n wm)),c.array.bz,c.array.bu⟩ (bif ke (c.array.cells.getD n wm) != 0 then rB c.errors (n:Int) (ke (c.array.cells.getD n wm))else c.errors) ⟨r.id,c.now,M0 (c.array.cells.getD n wm),ke (c.array.cells.getD n wm)⟩
def TJ{d:bK}(h:Sy d.symbols):ke d=0 \/ ke d=1 \/ ke d=2:=by
 have⟨E,C,D⟩:=TA h;unfold ke;cases d.iy with
 |true=>simp_all
 |false=>exact(Dt C D).2.2
structure ow (c:ax) (i:Nat) (B:Int):Prop where
 ad:∀r∈c.queue,vT c r.line=some (gE c r.line,true)/\fj c.config.aE (gE c r.line)=true
 tn:∀r∈c.queue,0<=r.dN/\r.dN<=3
 ql:c.queue.length<=12
 sh:iQ c.shares=true
 shl:c.shares.length=4
 u:amr c.queue
 i:i<c.queue.length
 d:∀r∈c.queue,0<=r.data/\r.data<=4294967295
 a:eX c.config.aE B c.array
 e:kH c.errors=true
 r:c.cT.length<=1000
def ow.facts{c:ax}{i:Nat}{B:Int}(h:ow c i B){r:bA}(C:r∈c.queue):vT c r.line=some (gE c r.line,true)/\qh c.config.aE (gE c r.line)=(rm c.config.aE (gE c r.line):Int)/\rm c.config.aE (gE c r.line)<c.array.cells.length/\(rm c.config.aE (gE c r.line):Int) <= 1023/\qf c.shares ((List.replicate 4 false).set r.dN.toNat true)=some (AY c.shares r.dN,(qf c.shares ((List.replicate 4 false).set r.dN.toNat true)).get!.2)/\0 <= r.dN/\r.dN.toNat<4:=by
 obtain⟨D,E⟩:=h.ad _ C;have L:=h.tn _ C;obtain⟨O,T⟩:=aB1 E;have U:=h.a.cells;have Y:=oc c.config.aE;obtain⟨y,t,e,_⟩:=aax ((List.replicate 4 false).set _ true) (by have:=h.shl;omega) h.sh (by simp[h.shl]);refine⟨D,O,by omega,by omega,?_,L.1,by omega⟩;unfold AY;rw[e];rfl
def ams{c:ax}{i:Nat}{B:Int}(h:ow c i B):Sw c (i:Int)=some ((),(yE c i,())):=by
 have hi:=h.i;have⟨f1,f3,f4,f5,f6,f7,f8⟩:=h.facts (cV hi);have C:=h.d _ (cV hi);have D:=h.a.syms _ (cV f4);have E:c.queue.getD i yD=c.queue[i]:=nD _ hi;have O:=h.r;unfold Sw xL;rw[az ⟨by omega,by omega⟩,az];simp only[bC];rw[f1,ak,aFK hi h.ql,ak,bL (by decide)];have L:(4:Int).toNat=4:=rfl;rw[L,az ⟨f7,by simpa using f8⟩,az (by simpa using f8)];dsimp only;rw[f6,ak];dsimp only;unfold yE;rw[E];dsimp only;cases hw:c.queue[i].write with
 | true=>
  rw[ Zc,ak,(MY C.1 C.2).1,ak,az ⟨by omega,by omega⟩,az,di (by simp;omega)];unfold pF;simp_all
 | false=>
  rw[aq,aq,Zc,ak,f3,nD _ f4]
  refine(aY (λo=>Option.bind o _) (amj (c:=⟨c.config,c.box,c.now,c.bq,c.ready,c.array,c.spare,c.aP,c.bH,c.guard,c.pending,c.queue.take i++c.queue.drop (i+1),AY c.shares c.queue[i].dN,c.drain,c.aZ,c.cK,c.errors,c.trace,c.cT⟩) f4 D)).trans ?_
  rw[ak];unfold ru dm;dsimp only;rw[di (by simp;omega),au,ak]
  refine(aY (λo=>Option.bind o _) (amp (by exact h.e) ⟨by omega,f5⟩ (TJ D))).trans ?_
  rw[ak];unfold DD pF M1;rw[E];dsimp only;cases ke c.array.cells[rm c.config.aE (gE c c.queue[i].line)] != 0<;>rfl
def amt{c:ax}{i:Nat}{B:Int}(h:ow c i B)(L:∀ r∈c.queue,xT c r.line=some (gE c r.line)):Rq c (i:Int)=some ((),(yE c i,())):=by
 have hi:=h.i;have⟨f1,f3,f4,f5,f6,f7,f8⟩:=h.facts (cV hi);have f2:=L _ (cV hi);have C:=h.d _ (cV hi);have D:=h.a.syms _ (cV f4);have E:c.queue.getD i yD=c.queue[i]:=nD _ hi;have T:=h.r;unfold Rq xL;rw[az ⟨by omega,by omega⟩,az];simp only[bC];rw[f2,ak,aAn,ak,f3,aFL h.u hi h.ql,ak,bL (by decide)];have O:(4:Int).toNat=4:=rfl;rw[O,az ⟨f7,by simpa using f8⟩,az (by simpa using f8)];dsimp only;rw[alS _ _ (by have:=h.shl;omega),f6,ak];dsimp only;unfold yE;rw[E];dsimp only;cases hw:c.queue[i].write with
 | true=>
  rw[ amf C.1 C.2,ak,az ⟨by omega,by omega⟩,az,di (by simp;omega)];unfold pF;simp_all
 | false=>
  rw[aq,aq,nD _ f4]
  refine(aY (λo=>Option.bind o _) (amk (c:=⟨c.config,c.box,c.now,c.bq,c.ready,c.array,c.spare,c.aP,c.bH,c.guard,c.pending,c.queue.take i++c.queue.drop (i+1),AY c.shares c.queue[i].dN,c.drain,c.aZ,c.cK,c.errors,c.trace,c.cT⟩) f4 D)).trans ?_
  rw[ak];dsimp only
  refine(aY (λo=>Option.bind o _) (amq (by exact h.e) ⟨by omega,f5⟩ (TJ D))).trans ?_
  rw[ak];unfold DD pF M1 ru dm;rw[E];dsimp only;cases ke c.array.cells[rm c.config.aE (gE c c.queue[i].line)] != 0 with
  | true=>
   rw[au];rw[di (by simp;omega)];rfl
  | false=>
   rw[aq];rw[di (by simp;omega)];rfl
def dW(c:ax)(x:aG):ax:=⟨c.config,c.box,c.now,fU c.bq x,ug c.config.aE c.ready ⟨c.now,x⟩,c.array,c.spare,c.aP,c.bH,c.guard,c.pending,c.queue,c.shares,c.drain,c.aZ,c.cK,c.errors,c.trace++[⟨c.now,x⟩],c.cT⟩
def amu(c:ax)(p:eC):ax:=⟨c.config,c.box,c.now,c.bq,c.ready,c.array,c.spare,c.aP,c.bH,c.guard,c.pending,c.queue,c.shares,c.drain,p,c.cK,c.errors,c.trace,c.cT⟩
def sN(c:ax)(r:de):ax:=⟨c.config,c.box,c.now,c.bq,c.ready,c.array,c.spare,r,c.bH,c.guard,c.pending,c.queue,c.shares,c.drain,c.aZ,c.cK,c.errors,c.trace,c.cT⟩
def amv(c:ax)(r:cy):ax:=⟨c.config,c.box,c.now,r,c.ready,c.array,c.spare,c.aP,c.bH,c.guard,c.pending,c.queue,c.shares,c.drain,c.aZ,c.cK,c.errors,c.trace,c.cT⟩
def DE(c:ax)(k:Int):ax:=amu c (yx c.aZ k c.now)
def TK(c:ax)(b:Int):ax:=sN (MW c b (c.pending.filter (λa=>!(a.ay==b)))) (wz c.aP b)
def yF(c:ax)(x:aG)(i:Int):ax:=
 bif x.kind==1 then uO (dW c x) x else
 bif x.kind==5 then TK (dW c x) x.ay else
 bif x.kind==2 ||x.kind==3 then yE (dW c x) i.toNat else
 bif x.kind==4 then dW c x else
 bif x.kind==9 then gy (DE (dW c x) 9) c.bH.length []else DE (dW c x) x.kind
structure Bs (c:ax):Prop where
 w:uP 100000 c
 u:wA c.pending
 pk:∀a∈c.pending,0<=a.ay/\a.ay<bf c.config.aE
 zt:∀t∈c.bH,hD t
 rf:fB c.aP=true
 bl:(c.bq.aB.length:Int)=bf c.config.aE
 l1:c.ready.last.length<1073741824
 l2:c.ready.bx.length<1073741824
 tl:c.trace.length<10000
def Bs.dW{c:ax}(h:Bs c)(x:aG):uP 100000 (dW c x):=⟨h.w.hB,h.w.g,h.w.a,h.w.k,h.w.p,h.w.t,h.w.d,h.w.r⟩
def ow.dW{c:ax}{n:Nat}{B:Int}(h:ow c n B)(x:aG):ow (dW c x) n B:=⟨h.ad,h.tn,h.ql,h.sh,h.shl,h.u,h.i,h.d,h.a,h.e,h.r⟩
def aFM{c:ax}(h:uP 100000 c):iter yc aS (((),(c.bH.length:Int),(0:Int),()),((⟨c.config,c.box,c.now,c.bq,c.ready,c.array,c.spare,c.aP,c.bH,c.guard,([]:aa aI),c.queue,c.shares,c.drain,c.aZ,c.cK,c.errors,c.trace,c.cT⟩:ax),()))=some (.inl ((),(gy c c.bH.length [],()))):=aFh h
def aFN{c:ax}{x:aG}(D:1 <= x.kind/\x.kind <= 9)(C:x.kind <= 5 -> 0 <= x.ay/\x.ay.toNat<c.bq.aB.length):Rs c x=some ((),(amv c (fU c.bq x),())):=by
 unfold Rs fU amv xL;rcases kinds D with h|h|h|h|h|h|h|h|h<;>(try (have C:=C _))<;>simp[h,C]
def TL{g:aU}{x:aG}(h:dL g x=true)(C:x.kind=1):0 <= x.row/\x.row<g.rows:=by
 simp[dL,aN]at h;have D:=h.2.2.2.1;rw[sI,C,show ((1:Int)==1)=true from rfl,au,bJ]at D;omega
def aFO{c:ax}(h:Bs c){x:aG}(E:mB c.config.aE c.bq x=true){i:Int}(L:x.kind=2 \/ x.kind=3 -> ow c i.toNat 100000/\0 <= i):Mc c x i=some ((),(yF c x i,())):=by
 have⟨hg,hlen,T,O⟩:=MD E;have U:dL c.config.aE x=true:=by
  simp only[mB,aN]at E
  grind
 have b1:=fG c.config.aE;have w:=h.dW x;have ht:=h.w.t;have hd:=h.w.d;have hr:=h.w.r;have TM:=h.tl;have er:L1 c.config.aE c.bq x=some (fU c.bq x,true):=by
  rw[aBA _ _ _ (by omega)];unfold ZF;simp_all
 unfold Mc yF bk;rw[di (by simp;omega),au,aBH _ _ _ h.l1 h.l2,ak,er,ak];rcases kinds T with q|q|q|q|q|q|q|q|q<;>rw[q]<;>simp only[Int.reduceBEq,Int.reduceBNe,au,aq,Bool.or_true,Bool.or_false,Bool.true_or,Bool.false_or,Bool.or_self]
 ·have⟨C,Y⟩:=O (by omega);have⟨Z,r1⟩:=TL U q
  refine(aY (λo=>Option.bind o _) (aFd (c:=dW c x) x w.g w.a w.p h.zt C (by show x.ay<bf c.config.aE;omega) Z r1 (by show x.ay.toNat<c.bH.length;omega) (by show x.ay.toNat<c.guard.length;omega))).trans ?_
  rfl
 ·have⟨s,D⟩:=L (.inl q);have e:=ams (s.dW x);rw[Int.toNat_of_nonneg D]at e
  refine(aY (λo=>Option.bind o _) e).trans ?_
  rfl
 ·have⟨s,D⟩:=L (.inr q);have e:=ams (s.dW x);rw[Int.toNat_of_nonneg D]at e
  refine(aY (λo=>Option.bind o _) e).trans ?_
  rfl
 ·rfl
 ·have⟨C,Y⟩:=O (by omega);have⟨y,e4⟩:=aE5 h.rf (b:=x.ay) C (by omega)
  refine(aY (λo=>Option.bind o _) (al4 w.hB (dW c x) w.g w.a C (by show x.ay<bf c.config.aE;omega))).trans ?_
  rw[ak];unfold dm;dsimp only;rw[aE9 _ _ (by show c.pending.length<1000000;have:=h.w.p;omega),ak];dsimp only
  refine(aY (λo=>Option.bind o _) (al5 _ (by exact w.k) C (by show x.ay.toNat<c.bH.length;omega) (by show x.ay.toNat<c.guard.length;omega))).trans ?_
  rw[ak];unfold qj;dsimp only
  refine(aY (λo=>Option.bind o _) e4).trans ?_
  rfl
 ·have⟨y,e⟩:=Tv c.aZ (k:=6) (by omega) c.now;rw[e,ak];rfl
 ·have⟨y,e⟩:=Tv c.aZ (k:=7) (by omega) c.now;rw[e,ak];rfl
 ·have⟨y,e⟩:=Tv c.aZ (k:=8) (by omega) c.now;rw[e,ak];rfl
 ·have⟨y,e⟩:=Tv c.aZ (k:=9) (by omega) c.now;rw[e,ak]
  refine(aY (λo=>Option.bind o _) (aFM (c:=DE (dW c x) 9) ⟨w.hB,w.g,w.a,w.k,w.p,w.t,w.d,w.r⟩)).trans ?_
  rfl
def aFP{c:ax}(h:Bs c){x:aG}(L:mB c.config.aE c.bq x=true){i:Int}(O:x.kind=2 \/ x.kind=3 -> ow c i.toNat 100000/\0 <= i)(T:∀ r∈c.queue,xT c r.line=some (gE c r.line)):Ak c x i=some ((),(yF c x i,())):=by
 have⟨hg,hlen,U,D⟩:=MD L;have Y:dL c.config.aE x=true:=by
  simp[mB,aN]at L;simp_all
 have b1:=fG c.config.aE;have w:=h.dW x;have ht:=h.w.t;have hd:=h.w.d;have hr:=h.w.r;have TM:=h.tl;unfold Ak yF bk;rw[di (by simp;omega),au,aBI _ _ _ h.l1 h.l2,ak]
 refine(aY (λo=>Option.bind o _) (aFN U (λZ=>by have:=D Z;exact⟨this.1,this.2⟩))).trans ?_
 rw[ak];rcases kinds U with q|q|q|q|q|q|q|q|q<;>rw[q]<;>simp only[Int.reduceBEq,Int.reduceBNe,au,aq,Bool.or_true,Bool.or_false,Bool.true_or,Bool.false_or,Bool.or_self]
 ·have⟨C,oN⟩:=D (by omega);have⟨r0,r1⟩:=TL Y q
  refine(aY (λo=>Option.bind o _) (aFe (c:=dW c x) x w.g w.a w.p h.u h.zt C (by show x.ay<bf c.config.aE;omega) r0 r1 (by show x.ay.toNat<c.bH.length;omega) (by show x.ay.toNat<c.guard.length;omega))).trans ?_
  rfl
 ·have⟨s,E⟩:=O (.inl q);have e:=amt (s.dW x) T;rw[Int.toNat_of_nonneg E]at e
  refine(aY (λo=>Option.bind o _) e).trans ?_
  rfl
 ·have⟨s,E⟩:=O (.inr q);have e:=amt (s.dW x) T;rw[Int.toNat_of_nonneg E]at e
  refine(aY (λo=>Option.bind o _) e).trans ?_
  rfl
 ·rfl
 ·have⟨C,oN⟩:=D (by omega);have⟨y,e4⟩:=aE4 h.rf (b:=x.ay) C (by omega)
  refine(aY (λo=>Option.bind o _) (al6 w.hB (dW c x) w.g w.a w.k w.p C (by show x.ay<bf c.config.aE;omega) (by show x.ay.toNat<c.bH.length;omega) (by show x.ay.toNat<c.guard.length;omega))).trans ?_
  rw[ak]
  refine(aY (λo=>Option.bind o _) e4).trans ?_
  rfl
 ·have⟨y,e⟩:=Tw c.aZ (k:=6) (by omega) c.now
  refine(aY (λo=>Option.bind o _) e).trans ?_
  rfl
 ·have⟨y,e⟩:=Tw c.aZ (k:=7) (by omega) c.now
  refine(aY (λo=>Option.bind o _) e).trans ?_
  rfl
 ·have⟨y,e⟩:=Tw c.aZ (k:=8) (by omega) c.now
  refine(aY (λo=>Option.bind o _) e).trans ?_
  rfl
 ·have⟨y,e⟩:=Tw c.aZ (k:=9) (by omega) c.now
  refine(aY (λo=>Option.bind o _) e).trans ?_
  rw[ak]
  refine(aY (λo=>Option.bind o _) (aFj (c:=DE (dW c x) 9) ⟨w.hB,w.g,w.a,w.k,w.p,w.t,w.d,w.r⟩ (by show (fU c.bq x).aB.length=c.bH.length;rw[ak0];omega) h.pk)).trans ?_
  rfl
def aFQ{l m:aa Int}(h:l.length=m.length)(D:(l.zip m).all sE=true):(∀ x∈l,0 <= x/\x <= 100000) /\ ∀ x∈m,0 <= x/\x <= 100000:=by
 rw[cw]at D;have key:∀ i _ (E:i<m.length),(0 <= l[i]/\l[i] <= 100000)/\(0 <= m[i]/\m[i] <= 100000):=λi O E=>by
  have L:i<(l.zip m).length:=by rw[List.length_zip];omega
  have:=D _ (cV L);rw[List.getElem_zip]at this;simp[sE,aN,bJ]at this;exact this
 constructor
 ·intro x C;obtain⟨i,hi,rfl⟩:=jh.1 C
  grind
 ·intro x C;obtain⟨i,hi,rfl⟩:=jh.1 C;simp_all
def eX.wC{g:aU}{a:cZ}(h:mz g a=true):eX g 100000 a:=by
 simp only[mz,aN,iV]at h;have⟨Z,C,D,E,L,O⟩:=h;have⟨T,U⟩:=aFQ (by omega) O
 refine⟨C,λc Y=>?_,D,E,T,U⟩
 exact Sy.of (cw.1 L c Y)
def Bs.of{c:ax}(D:eK c)(h:hG c=true)(L:c.trace.length<10000):Bs c:=by
 have E:=Pq.of D h;have z1:c.box.bI.weights.length <= 1048576:=D.1.1;have h0:=h;simp only[hG,aN]at h;have⟨O,h2,h3,h4,T,U,h7,h8,C,Gd,AI,tG,uf,AJ,AK,zO,Dq,Gq,Gr,MQ,xU,MR⟩:=h;have⟨f1,f2⟩:=Gu (by omega) O;simp only[og,aN]at f1;simp only[sH,aN,gA,hU,qw,cw,gk]at C;have⟨C,Y,Z,g3,g4,g5,g6⟩:=C;have rL:=E.pl;have⟨hg,rl,ra⟩:=S3 T;have b1:=fG c.config.aE
 refine⟨⟨by decide,hg,eX.wC U,f1.2.2.2.2.2.1,by omega,Z,g3,Y⟩,λi hi=>?_,λa ha=>?_,D.2.2.2.2.2.2.1.2,C,E.p.bl,by omega,by omega,L⟩
 ·have hb:=g6 i hi;unfold ue at hb
  grind
 ·have⟨_,k1,k2,_⟩:=sC (E.pe a ha);simp_all
def ow.of{c:ax}(T:eK c)(h:hG c=true){n:Nat}(U:n<c.queue.length)(C:c.cT.length <= 1000):ow c n 100000:=by
 have D:=Pq.of T h;simp[hG,aN]at h;have⟨h1,h2,h3,h4,h5,Y,h7,h8,h9,L,AI,tG,uf,AJ,AK,zO,Dq,Gq,Gr,Z,xU,MR⟩:=h;simp[o8,aN,cw,gk]at L;have⟨O,q2⟩:=L
 refine⟨λr C=>TH D C,λr C=>(D.q r C).2.1,D.ql,D.sh,D.shl,λi hi=>?_,U,λr C=>?_,eX.wC Y,Z,C⟩
 ·cases i with
  |zero=>simp
  | succ i=>
   have E:=O _ hi;rw[Mw hi]at E;simp_all
 ·obtain⟨i,hi,rfl⟩:=jh.1 C;have E:=O i hi;unfold ri at E;rw[bZ hi]at E;simp[o7,SV,aN,bJ]at E;simp_all
def AZ{g:aU}{B:Int}{a:cZ}(h:eX g B a):Du a:=by
 have D:=h.cells;have E:=h.bz;have L:=h.bu;have O:=oc g;have T:=qg g;exact⟨⟨by omega,λc C=>by unfold uB;rw[(h.syms c C).1];omega⟩,by omega,by omega⟩
def aaO{l:aa bQ}(h:l.length <= 1048576 /\ ∀y∈l,hD y){t:bQ}(C:hD t)(i:Nat):(l.set i t).length <= 1048576 /\ ∀y∈l.set i t,hD y:=by grind
def amw{k:Int}(h:aL k 1 16=true):hD (yw k):=by
 have:=bJ.1 h;unfold yw hD
 grind
def aFR{t:bQ}(h:hD t)(row dz:Int):hD (uN t row dz).1:=by
 have C:=aaC (t:=t) row;unfold hD at h ⊢;unfold uN
 grind
def aFS{c:ax}(E:eK c)(L:c.ready.bx.length <= 4)(ht:c.trace.length <= 10000)(x:aG):eK (dW c x):=by
 have⟨O,C,⟨T,z4⟩,U,Y,Z,z8,z9,jd,lR,mC,ou,ny,pn⟩:=E;have D:=aBO c.config.aE c.ready ⟨c.now,x⟩;refine⟨O,by unfold MK at C ⊢;show (fU _ x).aB.length <= _;rw[ak0];exact C,⟨by show (ug _ _ _).last.length <= _;rw[D.1];exact T,Nat.le_trans (D.2 L) (by decide)⟩,U,Y,Z,z8,z9,jd,lR,mC,ou,by simp[dW];omega,pn⟩
def TN{c:ax}(D:eK c){a:cZ}(E:Du a){r:de}(L:v9 r){t:aa bQ}(O:t.length <= 1048576 /\ ∀ y∈t,hD y){C:aa Int}(T:C.length <= 1048576){pd:aa aI}(U:pd.length <= 1048576)(pw:eC):eK ⟨c.config,c.box,c.now,c.bq,c.ready,a,c.spare,r,t,C,pd,c.queue,c.shares,c.drain,pw,c.cK,c.errors,c.trace,c.cT⟩:=by
 have⟨Y,Z,z3,z5,z6,z7,z8,z9,jd,lR,mC,ou,ny,pn⟩:=D;exact⟨Y,Z,z3,E,z6,L,O,T,U,lR,mC,ou,ny,pn⟩
def aFT{c:ax}(C:eK c)(h:uP 100000 c)(x:aG)(D:0 <= x.ay)(E:x.ay<bf c.config.aE)(L:0 <= x.row)(O:x.row<c.config.aE.rows):eK (uO c x):=by
 have zt:=C.2.2.2.2.2.2.1;have T:x.ay.toNat<c.bH.length:=by have:=h.t;omega
 have U:=h.p;refine TN C (AZ (aao h.g _ h.hB h.a D E L O)) C.2.2.2.2.2.1 (aaO zt ?_ _) C.2.2.2.2.2.2.2.1 ?_ _
 ·unfold sL;rw[nD];exact aFR (zt.2 _ (cV T)) _ _
 ·have Y:(ov c x).length <= c.pending.length:=List.length_filter_le _ _;have Z:=aaG c.config.aE.rows x.row;have ha:=Tx x.ay (lQ c.config.aE.rows x.row) (ov c x)
  grind
def amx(r:de)(b:Int):(wz r b).aH.length=r.aH.length:=by
 unfold wz;cases decide (r.aH.getD b.toNat 0 = -2)<;>simp
def aFU{c:ax}(C:eK c)(h:uP 100000 c){b:Int}(D:0 <= b)(E:b<bf c.config.aE):eK (TK c b):=by
 have⟨_,_,_,_,L,O,T,U⟩:=fF h.g;have zt:=C.2.2.2.2.2.2.1;have Y:=h.p;have Z:=aaH (λa:aI=>!(a.ay==b)) c.pending;exact TN C (AZ (Gx h.g _ h.hB h.a D E _ (by omega))) (by unfold v9;rw[amx];exact C.2.2.2.2.2.1) (aaO zt (amw h.k) _) (by show (c.guard.set _ _).length <= _;rw[gz];exact C.2.2.2.2.2.2.2.1) (by show (c.pending.filter _).length <= _;omega) _
def amy{l:aa bQ}(h:l.length<=1048576/\∀ y∈l,hD y){t:bQ}(C:hD t):∀ k:Nat,((List.range k).foldl (λd b=>d.set b t) l).length<=1048576/\∀ y∈(List.range k).foldl (λd b=>d.set b t) l,hD y
 |0=>h
 |k+1=>by rw[yz];exact aaO (amy h C k) C k
def aFV{c:ax}(C:eK c)(h:uP 100000 c)(k:Nat)(D:(k:Int)<=bf c.config.aE):eK (gy c k []):=
 TN C (AZ (Ty h.g c.config.dO h.hB h.a k D)) (by unfold v9;rw[yA];exact C.2.2.2.2.2.1) (amy C.2.2.2.2.2.2.1 (amw h.k) k) (by rw[yA];exact C.2.2.2.2.2.2.2.1) (by simp) c.aZ
def amz{l:aa bU}(n code:Int):(rB l n code).length <= l.length+1:=by
 unfold rB
 grind
def amA{c:ax}(L:eK c){i:Nat}(h:ow c i 100000):eK (yE c i):=by
 have⟨O,T,U,z5,Y,Z,z8,z9,jd,lR,mC,ou,ny,pn⟩:=L;have hi:=h.i;have hql:=h.ql;have hr:=h.r;have⟨f1,f3,f4,f5,f6,f7,f8⟩:=h.facts (cV hi);have C:c.queue.getD i yD=c.queue[i]:=nD _ hi;have D:=h.d _ (cV hi);have Xb:(AY c.shares c.queue[i].dN).length <= 1048576:=by
  have⟨y,t,e,hl⟩:=aax ((List.replicate 4 false).set c.queue[i].dN.toNat true) (by have:=h.shl;omega) h.sh (by simp[h.shl])
  grind
 have iA:c.errors.length <= 6:=by
  have E:=h.e;simp only[kH,aN,iV]at E;omega
 have key:∀ (a:cZ) (e:aa bU) (x:cX),Du a -> e.length <= 100 -> eK (pF c i a e x):=λa e x ha E=>
  ⟨O,T,U,ha,Y,Z,z8,z9,jd,by simp[pF];omega,by unfold pF;rw[C];exact Xb,by show e.length <= _;omega,ny,by simp[pF];omega⟩
 unfold yE;rw[C];dsimp only;cases c.queue[i].write with
 |true=>exact key _ _ _ (AZ (h.a.MG _ (c:=⟨_,false⟩) (MY D.1 D.2).2.1)) (by omega)
 | false=>
  rw[aq,nD _ f4];refine key _ _ _ (AZ (h.a.MG _ (aaI (h.a.syms _ (cV f4))))) ?_;have:=amz (l:=c.errors) (rm c.config.aE (gE c c.queue[i].line):Int) (ke c.array.cells[rm c.config.aE (gE c c.queue[i].line)]);cases ke c.array.cells[rm c.config.aE (gE c c.queue[i].line)] != 0 with
  |true=>grind
  |false=>grind
def aFW{c:ax}(T:eK c)(h:Bs c)(U:c.ready.bx.length <= 4){x:aG}(E:mB c.config.aE c.bq x=true){i:Int}(L:x.kind=2 \/ x.kind=3 -> ow c i.toNat 100000/\0 <= i):eK (yF c x i):=by
 have⟨hg,hlen,Y,O⟩:=MD E;have Z:dL c.config.aE x=true:=by
  simp[mB,aN]at E;simp_all
 have w:=h.dW x;have ht:=h.w.t;have TM:=h.tl;have z:=aFS T U (by omega) x;have C:∀k,eK (DE (dW c x) k):=λk=>TN z z.2.2.2.1 z.2.2.2.2.2.1 z.2.2.2.2.2.2.1 z.2.2.2.2.2.2.2.1 z.2.2.2.2.2.2.2.2.1 _
 unfold yF;rcases kinds Y with q|q|q|q|q|q|q|q|q<;>rw[q]<;>simp
 ·have⟨D,oN⟩:=O (by omega);have⟨r0,r1⟩:=TL Z q;exact aFT z w x D (by show _<bf c.config.aE;omega) r0 r1
 ·exact amA z ((L (.inl q)).1.dW x)
 ·exact amA z ((L (.inr q)).1.dW x)
 ·exact z
 ·have⟨D,oN⟩:=O (by omega);exact aFU z w D (by show x.ay<bf c.config.aE;omega)
 ·exact C 6
 ·exact C 7
 ·exact C 8
 ·exact aFV (C 9) ⟨w.hB,w.g,w.a,w.k,w.p,w.t,w.d,w.r⟩ _ (by show (c.bH.length:Int) <= bf c.config.aE;omega)
def nE(c:ax)(b:Int):Bool:=decide (c.aP.aH.getD b.toNat 0 >= 4)
def M3(c:ax)(b:Int):Bool:=c.pending.any λa=>a.ay==b
def mE(c:ax)(i:Nat):aG:=Dy c.bq (fC c i) (qp c.queue i)
def TO(c:ax)(i:Nat):Bool:=decide (c.now-(kX c i).at_<c.box.bI.cap)
def kK(c:ax)(i:Nat):Bool:=
 gU c i&&(!nE c (fC c i).ay&&(dy c (mE c i)&&(!(((mE c i).kind==1 ||(mE c i).kind==4)&&M3 c (fC c i).ay) && !((mE c i).kind==4&&(yC c c.queue.length (fC c i).ay&&TO c i)))))
def aFX{l:aa Int}{b:Int}(C:0 <= b)(h:b.toNat<l.length):∀ i:Nat,(((i:Int)+b)∈cB i l) ↔ l.getD b.toNat 0 >= 4:=by
 obtain⟨n,rfl⟩:=iw C;rw[bC]at *
 clear C
 induction l generalizing n with
 |nil=>simp at h
 | cons d l E=>
  intro i;have L:∀ x∈cB (i+1) l,(i:Int)+1 <= x:=λx D=>by
   have⟨j,O,_,_⟩:=alO D;omega
  have e:cB i (d::l)=bif decide (d >= 4)then (i:Int)::cB (i+1) l else cB (i+1) l:=rfl
  grind
def aaP{c:ax}{b:Int}(E:c.aP.aH.length <= 8)(C:0 <= b)(h:b.toNat<c.aP.aH.length):vS (cB 0 c.aP.aH) b=some (nE c b):=by
 have L:=Dx 0 c.aP.aH;have D:=aFX C h 0;rw[cv,Int.zero_add]at D;unfold vS;rw[SZ _ _ (by omega),ak];congr 1;unfold nE gw
 grind
def TP{c:ax}{b:Int}(C:c.aP.aH.length <= 8)(D:0 <= b)(h:b.toNat<c.aP.aH.length):CM c b=some (nE c b):=by
 unfold CM nE xI;simp_all
def amB{c:ax}(h:Pq c){i:Nat}(hi:i<c.queue.length):dL c.config.aE (mE c i)=true:=aEX _ (DC h hi).1
def rC(c:ax):Nat->aa Bool
 |0=>List.replicate 4 false
 |k+1=>bif kK c k then (rC c k).set (kX c k).dN.toNat true else rC c k
def TQ(c:ax):∀ k,(rC c k).length=4
 |0=>rfl
 | k+1=>by
  have C:=TQ c k;show (bif kK c k then _ else _:aa Bool).length=4
  grind
def aFY{c:ax}{Y:aa Int}{U:aa aI}{Z:Int×Int×Int×Int×af}{P:Int×Int×Int×Int×Int×(aa Int)×Int×Int×af}{L iO aaQ wait:aa Bool}{T:aa (Int×Bool)}{aaR:aa aG}{k:Nat}{r:bA}{a:aI}{nd:aG}{ct rd ib:Bool}(hq:c.queue.length<=12)(hk:k<c.queue.length)(hr:c.queue[k]=r)(h2:k<U.length)(ha:U[k]=a)(h3:k<L.length)(C:k<aaQ.length)(h5:aaR.length=k)(D:0<=r.dN)(E:r.dN.toNat<wait.length)(e1:ya c.bq a r.write=some nd)(e2:vS Y a.ay=some ct)(e3:iN c nd=some rd)(e4:C3 c.pending a.ay=some ib)(b1:0<=r.at_/\r.at_<=1000000)(b2:0<=c.now/\c.now<=1000000):
  C5 ((Y,U,(),(),(),(),(),(),(),(),(),c.queue,(c.queue.length:Int),(k:Int),()),(c,Z,P,L,iO,T,aaR,aaQ,wait,()))=some (.inl ((Y,U,(),(),(),(),(),(),(),(),(),c.queue,(c.queue.length:Int),((k+1:Nat):Int),()),(c,Z,P,L,iO,T,aaR++[nd],aaQ.set k (L[k]&&(!ct&&(rd&&(!((nd.kind==1 ||nd.kind==4)&&ib) && !(nd.kind==4&&(mc T a.ay&&decide (c.now-r.at_<P.2.1))))))),(bif (L[k]&&(!ct&&(rd&&(!((nd.kind==1 ||nd.kind==4)&&ib) && !(nd.kind==4&&(mc T a.ay&&decide (c.now-r.at_<P.2.1)))))))then wait.set r.dN.toNat true else wait),()))):=by
 have hw:W6 (c.now-r.at_)=c.now-r.at_:=aO;unfold C5 av xG xI xL;dsimp only;rw[aW,au,az ⟨by omega,by omega⟩,az ⟨by omega,by omega⟩,az ⟨by omega,by omega⟩];simp only[bC,hr,ha,e1,ak,h5,lT,di (show k+1<1073741824 by omega),au,e2,e3,e4,hw,bD (show k<4611686018427387904 by omega)];by_cases O:nd.kind=1
 ·have k4:(nd.kind==(4:Int))=false:=by rw[O];rfl
  have O:(nd.kind==(1:Int))=true:=by rw[O];rfl
  simp only[O,k4,au,aq,Bool.true_or,cu,Bool.false_and,iX,Bool.and_true];rw[az ⟨by omega,by omega⟩,az];cases L[k]<;>cases ct<;>cases rd<;>cases ib<;>simp[C,D,E]
 ·have O:(nd.kind==(1:Int))=false:=by simpa using O
  simp only[O,aq,Bool.false_or];rw[az ⟨by omega,by omega⟩,az];cases nd.kind==(4:Int)with
  |false=>cases L[k]<;>cases ct<;>cases rd<;>cases ib<;>simp[C,D,E]
  | true=>
   cases L[k]with
   |false=>simp[C,D,E]
   | true=>
    cases ct with
    |true=>simp[C,D,E]
    | false=>
     cases rd with
     |false=>simp[C,D,E]
     | true=>
      cases ib with
      |true=>simp[C,D,E]
      | false=>
       cases mc T a.ay with
       |false=>simp[C,D,E]
       | true=>
        by_cases hc:c.now-r.at_<P.2.1
        ·simp[C,D,E,hc]
        ·simp[C,D,E,hc]
def aaS(y x:aG):Bool:=(y.kind==x.kind)&&((y.ay==x.ay)&&((y.row==x.row)&&((y.bR==x.bR)&&true)))
def M4(c:ax)(x:aG)(i:Int):Bool:=aL i 0 ((c.queue.length:Int)-1)&&(decide ((c.cT.length:Int)<400)&&aaS (Dy c.bq (gE c (c.queue.getD i.toNat yD).line) (c.queue.getD i.toNat yD).write) x)
def wD(c:ax)(x:aG)(i:Int):Bool:=dL c.config.aE x&&(dy c x&&(!decide ((c.trace.length:Int) >= 2000)&&bif x.kind==2 ||x.kind==3 then M4 c x i else i == -1 ||aL i 0 ((c.queue.length:Int)-1)))
def aaT{c:ax}(h:Pq c){i:Int}(hi:aL i 0 ((c.queue.length:Int)-1)=true):∃ C:i.toNat<c.queue.length,0 <= i/\c.queue.getD i.toNat yD=c.queue[i.toNat]/\vT c c.queue[i.toNat].line=some (gE c c.queue[i.toNat].line,true)/\ya c.bq (gE c c.queue[i.toNat].line) c.queue[i.toNat].write=some (Dy c.bq (gE c c.queue[i.toNat].line) c.queue[i.toNat].write):=by
 have D:=bJ.1 hi;have C:i.toNat<c.queue.length:=by omega
 have⟨E,L⟩:=TH h (cV C);have⟨_,O,T,_⟩:=sC L;have U:=h.p.bl;have Y:=fG c.config.aE;exact⟨C,D.1,nD _ C,E,Tt _ O (by omega) (by omega)⟩
def aFZ{c:ax}(h:Pq c)(x:aG)(i:Int):Ah c x i=some (wD c x i):=by
 have U:=h.ql;unfold Ah wD;rw[akW,ak];cases O:dL c.config.aE x with
 |false=>rfl
 |true=>
 rw[bB,aq,Tq h.p O,ak];cases dy c x with
 |false=>rfl
 |true=>
 rw[bB,aq];cases decide ((c.trace.length:Int) >= 2000)with
 |true=>rfl
 |false=>
 rw[aq,cu,cu,iX,cu,eJ,aO (n:=(c.queue.length:Int)-1),ak];unfold M4;have nd:Af=ya:=rfl;cases hi:aL i 0 ((c.queue.length:Int)-1)with
 | true=>
  have⟨D,E,T,f1,f3⟩:=aaT h hi;have f2:=aaN h (cV D);rw[fO (show ¬ i = -1 by omega),au,bB,aq,aW (show i >= 0 from E),cu,Bool.or_true,T];by_cases C:x.kind=2
  ·rw[show (x.kind != 2)=false by rw[C];rfl,show (x.kind==2)=true by rw[C];rfl,aq,au,Bool.true_or,au];cases decide ((c.cT.length:Int)<400)with
   |false=>rfl
   | true=>
    rw[ az ⟨E,D⟩,az ⟨E,D⟩];rw[f2,ak,nd,f3];rfl
  ·rw[fO C,kU C,au,Bool.false_or];by_cases L:x.kind=3
   ·rw[show (x.kind != 3)=false by rw[L];rfl,show (x.kind==3)=true by rw[L];rfl,aq,au,au];cases decide ((c.cT.length:Int)<400)with
    |false=>rfl
    | true=>
     rw[ az ⟨E,D⟩,az ⟨E,D⟩];rw[f2,ak,nd,f3];rfl
   ·grind
 | false=>
  rw[Bool.false_and,iX,au,Bool.or_false];by_cases e:i = -1
  ·subst e;rw[dV,aq,dR,show decide ((-1:Int) >= 0)=false from rfl,aq];by_cases C:x.kind=2
   ·simp_all
   ·rw[fO C,kU C,au,Bool.false_or];by_cases L:x.kind=3
    ·simp_all
    ·grind
  ·grind
def aF0{c:ax}(T:eK c)(h:Pq c)(x:aG)(i:Int):sA c x i=bif wD c x i then (Mc c x i).bind (λy=>some (y.2.1,true))else some (c,false):=by
 have Z:=h.ql;unfold sA wD xI;rw[aad c T,ak,Te c T,ak,h.p.ok,bB,aq];cases U:dL c.config.aE x with
 | false=>
  have e:iN c x=some false:=by
   unfold iN;rw[ZE,U,Bool.false_and,Bool.and_false];rfl
  rw[e];rfl
 |true=>
 rw[yp h.p U,ak];cases dy c x with
 |false=>rfl
 |true=>
 rw[bB,aq];cases decide ((c.trace.length:Int) >= 2000)with
 |true=>rfl
 |false=>
 rw[aq,cu,cu,iX,cu,dK,aO (n:=(c.queue.length:Int)-1),ak];unfold M4;cases hi:aL i 0 ((c.queue.length:Int)-1)with
 | true=>
  have⟨C,D,Y,f1,f3⟩:=aaT h hi;rw[fO (show ¬ i = -1 by omega),bB,aq,au,aq,cu,Bool.or_true,Y];by_cases E:x.kind=2
  ·rw[show (x.kind==2)=true by rw[E];rfl,au,Bool.true_or,au];by_cases L:(c.cT.length:Int)<400
   ·rw[aW L,aV (show ¬ (c.cT.length:Int) >= 400 by omega),aq,az ⟨D,C⟩];dsimp only;rw[f1,ak,az ⟨D,C⟩,f3,ak];unfold aaS
    grind
   ·grind
  ·rw[kU E,aq,Bool.false_or];by_cases O:x.kind=3
   ·rw[show (x.kind==3)=true by rw[O];rfl,au,au];by_cases L:(c.cT.length:Int)<400
    ·rw[aW L,aV (show ¬ (c.cT.length:Int) >= 400 by omega),aq,az ⟨D,C⟩];dsimp only;rw[f1,ak,az ⟨D,C⟩,f3,ak];unfold aaS
     grind
    ·grind
   ·grind
 | false=>
  rw[Bool.false_and,iX,au,Bool.or_false];by_cases E:x.kind=2
  ·simp_all
  ·rw[kU E,aq,Bool.false_or];by_cases O:x.kind=3
   ·simp_all
   ·rw[kU O,aq,aq];by_cases e:i = -1
    ·simp_all
    ·grind
def amC{c:ax}(D:eK c)(h:Pq c){x:aG}{i:Int}(E:wD c x i=true):Bs c/\mB c.config.aE c.bq x=true/\(x.kind=2 \/ x.kind=3 -> ow c i.toNat 100000/\0 <= i)/\c.ready.bx.length <= 4:=by
 simp only[wD,aN,hU,qw]at E;have⟨O,L,Z,C⟩:=E;simp[dy,aN]at L
 refine⟨Bs.of D h.p.ok (by omega),?_,λT=>?_,(S3 h.p.rdy).2.2⟩
 ·unfold mB;rw[h.p.rk,O,L.1];rfl
 ·have e:(x.kind==2 || x.kind==3)=true:=by rcases T with q | q <;>rw[q] <;>rfl
  rw[e,au]at C;simp[M4,aN,iV]at C;have⟨U,Y,_⟩:=aaT h C.1;exact⟨ow.of D h.p.ok U (by omega),Y⟩
structure Ck (c:ax):Prop where
 f1:pg c.config c.box.bI=true
 f2:pg c.config c.box.next=true
 nw:aL c.now 0 1000000=true
 rk:lP c.config.aE c.bq=true
 rd:kW c.config.aE c.ready=true
 ar:mz c.config.aE c.array=true
 sp:nt c.config.aE c.spare=true
 se:c.spare.cr=c.config.cr
 rf:fB c.aP=true
 pa:sH c=true
 qu:o8 (fH (jq c.config.aE c.spare)) c.queue=true
 sh:iQ c.shares=true
 sl:(c.shares.length:Int)=4
 dr:o6 c.drain=true
 pw:jX c.aZ=true
 ps:c.aZ.state=c.bq.aZ
 si:c.aZ.since<=c.now
 s1:aL c.cK.every 1 100000=true
 s2:aL c.cK.wait 1 c.cK.every=true
 s3:aL c.cK.next 0 (W6 (fH c.config.aE-1))=true
 er:kH c.errors=true
 tr:c.trace.length<=2000
 rp:c.cT.length<=400
def Ck.of{c:ax}(h:hG c=true):Ck c:=by
 simp[hG,aN,gA,iV,hU,qw]at h;have⟨C,D,E,L,O,T,U,Y,⟨Z,h9'⟩,Gd,AI,tG,uf,AJ,AK,zO,Dq,Gq,Gr,MQ,xU,MR⟩:=h;exact⟨C,D,E,L,O,T,U,Y,Z,h9',Gd,AI,tG,uf,AJ,AK,by omega,Dq,Gq,Gr,MQ,by omega,by omega⟩
def Ck.ok{c:ax}(h:Ck c):hG c=true:=by
 have⟨C,D,E,L,O,T,U,Y,Z,h9',Gd,AI,tG,uf,AJ,AK,zO,Dq,Gq,Gr,MQ,xU,MR⟩:=h;simp[hG,aN,gA,iV,hU,qw]
 grind
def amD:∀ (l:aa Nat) (a:Nat),l.Pairwise (λx y=>x≠y) -> l.length <= (l.filter (λx=>decide (x≠a))).length+1
 |[],a,_=>by simp
 | x :: l,a,h=>by
  have⟨C,D⟩:=List.pairwise_cons.1 h;by_cases e:x=a
  ·subst e;have:(x :: l).filter (λy=>decide (y≠x))=l:=by
    rw[List.filter_cons_of_neg (by simp)];exact List.filter_eq_self.2 λy E=>by simpa using (C y E).symm
   grind
  ·rw[List.filter_cons_of_pos (by simpa using e)];have:=amD l a D;simp only[List.length_cons];omega
def pig:∀ (n:Nat) (l:aa Nat),(∀ x∈l,x<n)->l.Pairwise (λx y=>x≠y)->l.length<=n
 | 0,l,h,_=>by
  cases l with
  |nil=>simp
  |cons x l=>exact absurd (h x (.head _)) (by omega)
 | n+1,l,h,C=>by
  have E:=amD l n C;have L:=pig n (l.filter (λx=>decide (x≠n))) (λx D=>by
   have:=List.mem_filter.1 D;have O:=h x this.1;have T:x≠n:=by simpa using this.2
   omega) (C.filter _)
  omega
def wA.pw{l:aa aI}(h:wA l):l.Pairwise (λx y=>x≠y):=by
 rw[List.pairwise_iff_getElem];intro i j hi D L e;have C:=h j D;rw[List.any_eq_false]at C;have E:l[i]∈l.take j:=by
  rw[List.mem_take_iff_getElem]
  grind
 exact C _ E (MV.2 e.symm)
def wA.mk{l:aa aI}(h:l.Pairwise (λx y=>x≠y)):wA l:=by
 rw[List.pairwise_iff_getElem]at h;intro j C;rw[List.any_eq_false];intro x D e;obtain⟨i,hi,rfl⟩:=List.mem_take_iff_getElem.1 D;exact h i j _ C (by omega) (MV.1 e).symm
structure iS (c:ax):Prop where
 dl:(c.aP.aH.length:Int)=bf c.config.aE
 tl:(c.bH.length:Int)=bf c.config.aE
 gl:(c.guard.length:Int)=bf c.config.aE
 t:∀x∈c.bH,kI x=true
 g:∀x∈c.guard,3<=x/\x<=1000
 pd:∀a∈c.pending,fj c.config.aE a=true/\a.bR=0
 u:c.pending.Pairwise (λx y=>x≠y)
def iS.of{c:ax}(h:sH c=true):iS c:=by
 simp[sH,aN,gA,cw,gk]at h;have⟨E,L,O,g4,T,U⟩:=h;have key:=λi C Y=>by
  have:=T i C;unfold partAt at this;rw[bZ C,bZ Y,aN,bJ]at this;exact this
 have Z:∀ i _,fj _ c.pending[i]=true/\c.pending[i].bR=0/\(c.pending.take i).any _=false:=λi C=>by
  have:=U i C;unfold ue at this;rw[bZ C]at this
  simpa [aN]using this
 refine⟨E,L,O,λx D=>?_,λx D=>?_,λa ha=>?_,wA.pw λi hi=>(Z i hi).2.2⟩
 ·obtain⟨i,hi,rfl⟩:=jh.1 D
  grind
 ·obtain⟨i,hi,rfl⟩:=jh.1 D
  grind
 ·obtain⟨i,hi,rfl⟩:=jh.1 ha;simp[*]
def aF1{g:aU}{l:aa aI}(D:∀ a∈l,fj g a=true/\a.bR=0)(T:l.Pairwise (λx y=>x≠y)):l.length <= 128:=by
 have E:∀ a∈l,0 <= a.ay/\a.ay<8/\0 <= a.row/\a.row<16:=λa C=>by
  have⟨L,Z,h3,h4,h5,_⟩:=sC (D a C).1;have b1:=fG g;have b2:=fF L;omega
 have L:=pig 128 (l.map λa=>(a.ay*16+a.row).toNat) (λx U=>by
  obtain⟨a,C,rfl⟩:=List.mem_map.1 U;have:=E a C;omega) (by
  rw[List.pairwise_map]
  refine T.imp_of_mem λ{a b} C O Y e=>Y ?_
  have r1:=E a C;have r2:=E b O;have c1:=(D a C).2;have c2:=(D b O).2;cases a;cases b;simp only at *
  congr 1<;>omega)
 simp_all
def iS.ok{c:ax}(h:iS c):sH c=true:=by
 have⟨E,L,O,Y,Z,C,D⟩:=h;have hl:=aF1 C D;have T:=wA.mk D;simp[sH,aN,gA,hU,qw,cw,gk]
 refine⟨E,L,O,by omega,λi hi=>?_,λi hi=>?_⟩
 ·have U:i<c.guard.length:=by omega
  unfold partAt;rw[bZ hi,bZ U,aN,bJ];simp_all
 ·unfold ue;rw[bZ hi];simp only[aN,gA,hU];exact⟨(C _ (cV hi)).1,(C _ (cV hi)).2,T i hi⟩
def aF2{g:aU}{b n:Int}{l:aa aI}(L:fj g ⟨b,n,0⟩=true)(O:∀ a∈l,fj g a=true/\a.bR=0)(C:l.Pairwise (λx y=>x≠y)):(∀ a∈mD b l n,fj g a=true/\a.bR=0)/\(mD b l n).Pairwise (λx y=>x≠y):=by
 unfold mD;cases h:l.any _ with
 |true=>simp_all
 | false=>
  rw[aq];rw[List.any_eq_false]at h
  refine⟨λa T=>?_,?_⟩
  ·grind
  ·rw[List.pairwise_append]
   refine⟨C,List.pairwise_singleton _ _,λx D y E e=>?_⟩
   rw[List.mem_singleton.1 E]at e;exact h x D (MV.2 e.symm)
def amE{g:aU}{b:Int}:∀ (ns:aa Int) {l:aa aI},(∀ n∈ns,fj g ⟨b,n,0⟩=true) -> (∀ a∈l,fj g a=true/\a.bR=0) -> l.Pairwise (λx y=>x≠y) -> (∀ a∈ns.foldl (mD b) l,fj g a=true/\a.bR=0)/\(ns.foldl (mD b) l).Pairwise (λx y=>x≠y)
 |[],l,_,C,D=>⟨C,D⟩
 | n :: ns,l,E,C,D=>by
  have⟨L,O⟩:=aF2 (E n (.head _)) C D;exact amE ns (λm T=>E m (.tail _ T)) L O
def GA{T:Type}{p:T -> Prop}{l:aa T}{i:Nat}{x:T}(h:∀y∈l,p y)(C:p x):∀y∈l.set i x,p y:=by grind
def aF3{t:bQ}(h:kI t=true)(row dz:Int):kI (uN t row dz).1=true:=by
 unfold uN
 grind
def amF{k:Int}(h:aL k 1 16=true):kI (yw k)=true:=by
 have C:=bJ.1 h;simp only[kI,yw,aN,gA,cw,List.length_replicate,bJ]
 refine⟨by omega,trivial,by omega,λi hi=>?_⟩
 rw[S0 (by simpa using hi) (by simpa using hi)];simp[aL]
def amG{c:ia}{p:fz}(C:p.weights.length<1073741823)(h:pg c p=true):3 <= p.fD/\p.fD <= 1000:=by
 have⟨_,f2⟩:=Gu C h;simp[vY,aN,bJ]at f2;simp_all
def DF{g:aU}{a:cZ}(C:cI g=true)(h:eX g 100000 a):mz g a=true:=by
 simp only[mz,aN,iV,cw]
 refine⟨C,h.cells,h.bz,h.bu,λc D=>Sy.ok (h.syms c D),λp E=>?_⟩
 have⟨x,y⟩:=p;have⟨L,O⟩:=List.of_mem_zip E;simp[sE,aN,bJ];exact⟨h.Dg x L,h.iO y O⟩
def aF4{g:aU}{c:aG}(h:dL g c=true):om g (jg g c).toNat=true:=by
 have⟨E,D,L,_⟩:=Dm h;have⟨O,T⟩:=ZJ h;unfold om;unfold jg at *
 cases C:aL _ 1 5 with
 | true=>
  have C:=bJ.1 C
  grind
 | false=>
  have U:¬ c.kind <= 5:=λh=>by rw[bJ.2 ⟨D.1,h⟩]at C;cases C
  grind
def amH{l:aa Int}(h:∀ i,i<l.length -> oq l i=true){i:Nat}(hi:i<l.length):aL l[i] 0 1000000=true:=by
 have:=h i hi;cases i with
 |zero=>rw[Mz]at this;exact this
 |succ i=>rw[Gb,aN]at this;exact this.1
def amI{l:aa Int}(h:∀ i,i<l.length -> oq l i=true){i:Nat}(hi:i+1<l.length):l[i]<l[i+1]:=by
 have:=h _ hi;rw[Gb hi,aN,hU,qw]at this;omega
def amJ{l:aa Int}(C:∀ i (hi:i<l.length),aL l[i] 0 1000000=true)(D:∀ i (hi:i+1<l.length),l[i]<l[i+1]):∀ i,i<l.length -> oq l i=true:=λi hi=>by
 cases i with
 |zero=>rw[Mz];exact C 0 hi
 | succ i=>
  have:=D i hi;rw[Gb hi,aN,hU,qw];simp_all
def aF5{l:aa Int}(h:∀ i,i<l.length -> oq l i=true){x:Int}(O:aL x 0 1000000=true)(D:Dr ⟨[],l⟩ x=false):∀ i,i<(l++[x]).length -> oq (l++[x]) i=true:=by
 refine amJ (λi hi=>?_) λi hi=>?_
 ·by_cases C:i<l.length
  ·rw[List.getElem_append_left];exact amH h C
  ·grind
 ·have E:i<l.length:=by simp at hi;omega
  by_cases C:i+1<l.length
  ·rw[List.getElem_append_left C,List.getElem_append_left];exact amI h C
  ·have e:i+1=l.length:=by omega
   have L:(l++[x])[i+1]=x:=by simp[e]
   rw[L,List.getElem_append_left E];unfold Dr at D
   grind
def aF6{l:aa Int}(h:∀ i,i<l.length -> oq l i=true)(k:Nat):∀ i,i<(l.drop k).length -> oq (l.drop k) i=true:=by
 refine amJ (λi hi=>?_) λi hi=>?_
 ·rw[List.getElem_drop];exact amH h _
 ·rw[List.getElem_drop,List.getElem_drop];rw[List.length_drop]at hi;exact amI h _
def amK{g:aU}{r:dn}(e:cP)(h:kW g r=true):kW g (ug g r e)=true:=by
 unfold ug;cases C:kW g r&&(dL g e.cmd&&(aL e.at_ 0 1000000 && !(e.cmd.kind==1&&Dr r e.at_)))with
 |false=>exact h
 | true=>
  rw[au];simp only[aN,hU]at C;have⟨_,O,D,E⟩:=C;simp only[kW,aN,gA,hU,qw,cw,gk]at h ⊢;have⟨T,U,Y,Z,L⟩:=h
  refine⟨T,by rw[gz];exact U,?_,λi hi=>?_,?_⟩
  ·cases e.cmd.kind==1 with
   |false=>exact Y
   | true=>
    rw[au];unfold Ds
    grind
  ·rw[gz]at hi;have hb:=Z i hi;rw[My hi]at hb;rw[My (by rw[gz];exact hi)];by_cases e':(jg g e.cmd).toNat=i
   ·subst e';rw[mH,aF4 O];have:=bJ.1 D;rw[bJ.2 ⟨by omega,by omega⟩];rfl
   ·simp_all
  ·cases hk:e.cmd.kind==1 with
   |false=>exact L
   | true=>
    rw[hk]at E;exact aF6 (aF5 L D E) _
structure Qk (n:Int) (q:List bA):Prop where
 r:∀x∈q,o7 n x=true
 b:q.Pairwise λx y=>q9 x y=true
 i:q.Pairwise λx y=>x.id≠y.id
 l:q.length<=12
def aF7{x y z:bA}(C:q9 x y=true)(D:q9 y z=true):q9 x z=true:=by
 simp only[q9,eB,aN,iV,gA]at *
 omega
def Qk.of{n:Int}{q:aa bA}(h:o8 n q=true):Qk n q:=by
 have L:=h;simp only[o8,aN,cw,gk,iV]at h;have⟨E,Y⟩:=h;have O:∀ x∈q,o7 n x=true:=λx T=>by
  obtain⟨i,hi,rfl⟩:=jh.1 T;have:=E i hi;unfold ri at this;simp_all
 have Z:∀ j i (D:i<j) (C:j<q.length),q9 q[i] q[j]=true:=by
  intro j
  induction j with
  |zero=>simp_all
  | succ j U=>
   intro i D C;have:=E (j+1) C;rw[Mw C,aN,aN]at this;by_cases e:i=j
   ·simp_all
   ·exact aF7 (U i (by omega) _) this.2.1
 refine⟨O,?_,?_,by omega⟩
 ·rw[List.pairwise_iff_getElem]
  grind
 ·rw[List.pairwise_iff_getElem];intro i j hi C D e;have:=aD0 L D C;simp_all
def Qk.ok{n:Int}{q:aa bA}(h:Qk n q):o8 n q=true:=by
 have⟨C,D,E,O⟩:=h;rw[List.pairwise_iff_getElem]at D E;simp[o8,aN,cw,gk,iV]
 refine⟨λi hi=>?_,by omega⟩
 cases i with
 |zero=>rw[Zv hi];exact C _ (cV hi)
 | succ i=>
  rw[Mw hi,aN,aN,hU];refine⟨C _ (cV hi),D i (i+1) (by omega) hi (by omega),?_⟩;rw[List.any_eq_false];intro x L e;obtain⟨k,T,rfl⟩:=List.mem_take_iff_getElem.1 L
  grind
def Qk.sub{n:Int}{q s:aa bA}(h:Qk n q)(C:s.Sublist q):Qk n s:=
 ⟨λx D=>h.r x (C.subset D),h.b.sublist C,h.i.sublist C,Nat.le_trans C.length_le h.l⟩
def aF8{T:Type}(l:aa T)(i:Nat):(l.take i++l.drop (i+1)).Sublist l:=by
 rw[<-List.eraseIdx_eq_take_drop_succ];exact List.eraseIdx_sublist l i
def aF9(e x:bU):Prop:=¬ (e.line=x.line/\e.code=x.code)
structure Ek (l:List bU):Prop where
 e:∀x∈l,yg x=true
 k:l.Pairwise aF9
 l:l.length<=6
def aaU{e x:bU}:kV e x=true ↔ x.line=e.line/\x.code=e.code:=by
 simp only[kV,aN,gA]
def Ek.of{l:aa bU}(h:kH l=true):Ek l:=by
 simp[kH,aN,cw,gk,iV]at h;have⟨D,O⟩:=h;have key:=λi hi=>by
  have:=D i hi
  rwa [SY hi,aN,hU]at this
 refine⟨λx E=>?_,?_,by omega⟩
 ·obtain⟨i,hi,rfl⟩:=jh.1 E
  grind
 ·rw[List.pairwise_iff_getElem];intro i j hi L T e;have C:=(key j L).2;rw[List.any_eq_false]at C;exact C l[i] (List.mem_take_iff_getElem.2 ⟨i,by omega,rfl⟩) (aaU.2 e)
def Ek.ok{l:aa bU}(h:Ek l):kH l=true:=by
 have⟨D,C,L⟩:=h;rw[List.pairwise_iff_getElem]at C;simp only[kH,aN,cw,gk,iV]
 refine⟨λi hi=>?_,by omega⟩
 rw[SY hi,aN,hU];refine⟨D _ (cV hi),?_⟩;rw[List.any_eq_false];intro x E e;obtain⟨k,O,rfl⟩:=List.mem_take_iff_getElem.1 E;exact C k i (by omega) hi (by omega) (aaU.1 e)
def amL{l:aa bU}(h:kH l=true){n code:Int}(h1:0 <= n/\n <= 1023)(h2:code=1 \/ code=2):kH (rB l n code)=true:=by
 have C:=Ek.of h;have Y:=C.l;have sZ:yg ⟨n,code,1⟩=true:=by
  simp[yg,aN,eB,gA,bJ];omega
 refine Ek.ok ?_;unfold rB;cases D:l.findIdx? (kV ⟨n,code,1⟩)with
 | some i=>
  have⟨hi,hp⟩:=MU D;dsimp only;rw[nD _ hi];have Z:=C.e _ (cV hi);have hu:yg (TI l[i])=true:=by
   simp only[yg,aN,bJ]at Z ⊢;unfold TI;dsimp only;rw[aO]
   grind
  refine⟨GA C.e hu,?_,by rw[gz];exact Y⟩;have E:=C.k;rw[List.pairwise_iff_getElem]at E ⊢;intro a b L O hab;rw[gz]at L O;have:=E a b L O hab;rw[List.getElem_set,List.getElem_set];by_cases T:i=a
  ·subst T
   rwa [bL rfl,bX]
  ·rw[bX T];by_cases e2:i=b
   ·subst e2
    rwa [bL rfl]
   ·simp[*]
 | none=>
  have hn:∀ x∈l,¬ (x.line=n/\x.code=code):=λx hx e=>by
   have:=List.findIdx?_eq_none_iff.1 D x hx;rw[aaU.2 e]at this;cases this
  have app:∀ m:aa bU,m.Sublist l -> m.length <= 5 -> Ek (m++[⟨n,code,1⟩]):=λm U hml=>by
   refine⟨λx hx=>?_,?_,by rw[List.length_append,lT];omega⟩
   ·rcases List.mem_append.1 hx with hx | hx
    ·exact C.e x (U.subset hx)
    ·rwa [List.mem_singleton.1 hx]
   ·rw[List.pairwise_append]
    refine⟨C.k.sublist U,List.pairwise_singleton _ _,λx hx y hy e=>?_⟩
    rw[List.mem_singleton.1 hy]at e
    grind
  dsimp only;by_cases e6:l.length=6
  ·grind
  ·rw[kU (show ¬ (l.length:Int)=6 by omega),aq]
   grind
def amM{l:aa bV}(h:∀ s∈l,nq s=true){k:Nat}(C:k<l.length)(E:1<=l[k].eP):∀ s∈l.set k ⟨l[k].weight,W6 (l[k].eP-1)⟩,nq s=true:=by
 have D:=h _ (cV C);simp only[nq,aN,bJ]at D;rw[aO (n:=l[k].eP-1)];refine GA h ?_;simp only[nq,aN,bJ];omega
def aGa{l:aa bV}(w:aa Bool)(hl:l.length<1073741823)(D:iQ l=true)(hw:l.length=w.length):∃ y t,qf l w=some (y,t)/\y.length=l.length/\iQ y=true:=by
 have mk:∀ y:aa bV,y.length=l.length -> (∀ s∈y,nq s=true) -> y.length=l.length/\iQ y=true:=λy C h2=>by
  refine⟨C,?_⟩;simp[iQ,aN,cw]at D ⊢;exact⟨h2,by rw[C];exact D.2⟩
 have E:∀ s∈l,nq s=true:=by
  simp only[iQ,aN,cw]at D;exact D.1
 unfold qf xA xC bk xL xZ;have hb:=wq (λi=>w.getD i false) (λi=>(l.getD i ⟨0,0⟩).eP) (min l.length w.length);have T:(iR l).length=l.length:=by simp[iR]
 have gJ:=wq (λi=>w.getD i false) (λi=>((iR l).getD i ⟨0,0⟩).eP) (min (iR l).length w.length);have hm:=aau (λi=>w.getD i false) (λi=>(l.getD i ⟨0,0⟩).eP) (min l.length w.length);rw[List.nil_append,MS l w (by omega),ak,Mt _ (by omega),ak,D,bB,aq,List.length_nil,fk,di,au];unfold uM;generalize hr:kJ (λi=>w.getD i false) (λi=>(l.getD i ⟨0,0⟩).eP) (min l.length w.length)=b at *
 by_cases U:b<0
 ·rw[aW U];exact⟨_,_,rfl,mk _ rfl E⟩
 ·have C:b.toNat<l.length:=by omega
  rw[aV U,aq,az ⟨by omega,C⟩,az C];dsimp only;have hsb:=E _ (cV C);simp only[nq,aN,bJ]at hsb;cases Y:l[b.toNat].eP==0 with
  | false=>
   have Y:¬ l[b.toNat].eP=0:=by simpa using Y
   rw[ az ⟨by omega,C⟩,az C,az ⟨by omega,C⟩,az C];exact⟨_,_,rfl,mk _ (by simp) (amM E C (by omega))⟩
  | true=>
   have aGb:∀ s∈iR l,nq s=true:=λs D=>by
    obtain⟨x,O,rfl⟩:=List.mem_map.1 D;have:=E x O;simp[nq,aN,bJ,sK]at this ⊢;omega
   rw[au,aaw l w (by omega),ak];simp only[eH];rw[MS _ w (by omega),ak];have Z:0 <= uM (iR l) w:=aav _ (i:=b.toNat) (by rcases hm with h|h;exact absurd h (by omega);exact h) _ (by rw[T];omega);have hq:uM (iR l) w<((min (iR l).length w.length:Nat):Int):=gJ.2;have L:(uM (iR l) w).toNat<(iR l).length:=by omega
   have h4:1 <= (iR l)[(uM (iR l) w).toNat].eP:=by
    have dA:(uM (iR l) w).toNat<l.length:=by omega
    have O:=E _ (cV dA);simp only[nq,aN,bJ]at O;simp only[iR,List.getElem_map,sK];simp only[iR]at O;omega
   rw[az ⟨Z,L⟩,az L,az ⟨Z,L⟩,az L];exact⟨_,_,rfl,mk _ (by simp[T]) (amM aGb L h4)⟩
def amN{r:de}(h:fB r=true)(k:Nat){d:Int}(C:-2 <= d/\d <= 5):fB ⟨r.aH.set k d,r.wait,r.dS⟩=true:=by
 simp only[fB,aN]at h ⊢;refine⟨ZL h.1 ?_,by rw[gz];exact h.2.1,h.2.2⟩;exact bJ.2 C
def aGc{r:de}(h:fB r=true){b:Int}(C:b.toNat<r.aH.length):fB (wz r b)=true:=by
 have D:=Gw h _ (cV C);unfold wz;rw[nD _ C];by_cases e:r.aH[b.toNat] = -2
 ·simp_all
 ·rw[aV e];exact amN h _ (by omega)
def aGd{r:cy}{p:eC}{x:aG}{now:Int}(E:jX p=true)(C:p.state=r.aZ)(L:p.since <= now)(O:now <= 1000000)(U:6 <= x.kind/\x.kind <= 9)(D:o9 r x=true):jX (yx p x.kind now)=true/\(yx p x.kind now).state=(fU r x).aZ/\(yx p x.kind now).since <= now:=by
 have Y:0 <= p.since:=by
  simp[jX,aN,bJ]at E;omega
 have hi:0 <= p.idle/\p.idle <= 1000000:=by
  simp[jX,aN,bJ]at E;omega
 have T:=bJ.2 ⟨L,O⟩;unfold yx;rw[E,T,Bool.and_self];have mk:∀ s:Int,0 <= s/\s <= 2 -> jX ⟨s,now,p.idle⟩=true:=λs C=>by
  simp[jX,aN,bJ];omega
 have:x.kind=6 \/ x.kind=7 \/ x.kind=8 \/ x.kind=9:=by omega
 rcases this with h|h|h|h
 ·have e:r.aZ=0:=by simpa [o9,h]using D
  simp[fU,h,C,e,mk]
 ·have e:r.aZ=1:=by simpa [o9,h]using D
  simp[fU,h,C,e,mk]
 ·have e:r.aZ=0:=by have:=D;simp[o9,h]at this;exact this.1
  simp[fU,h,C,e,mk]
 ·have e:r.aZ=2:=by simpa [o9,h]using D
  simp[fU,h,C,e,mk]
def aGe{c:ax}(h:Pq c)(Z:Int×Int×Int×Int×af)(P:Int×Int×Int×Int×Int×(aa Int)×Int×Int×af)(L:P.2.1=c.box.bI.cap):iter C5 aS ((cB 0 c.aP.aH,fy c,(),(),(),(),(),(),(),(),(),c.queue,(c.queue.length:Int),(0:Int),()),(c,Z,P,(List.range c.queue.length).map (gU c),(List.range c.queue.length).map (dZ c),sM c c.queue.length,([]:aa aG),List.replicate c.queue.length false,List.replicate 4 false,()))=some (.inl (((),(),(),(),(),(),(),()),(c,Z,P,(List.range c.queue.length).map (dZ c),(List.range c.queue.length).map (mE c),(List.range c.queue.length).map (kK c),rC c c.queue.length,()))):=by
 have O:=h.ql;have rL:=h.pl;have T:=nB h.rf;have U:=wB h;have e:=cH (step:=C5) c.queue.length (λi=>((cB 0 _,fy c,(),(),(),(),(),(),(),(),(),c.queue,c.queue.length,i,()),(c,Z,P,(List.range _).map (gU c),(List.range c.queue.length).map (dZ c),sM c _,(List.range i).map (mE c),rz (kK c) c.queue.length i,rC c i,()))) _ aS (λk C=>by
  have hl:=TE (f:=kK c) (n:=c.queue.length) (k:=k) (by omega);have TR:=uR c;have hwl:=TQ c k;have⟨ho,D,Y,o3,o4,o5⟩:=DC h C;have⟨q1,q2,E⟩:=h.q _ (cV C);rw[pE C]at q1 q2 E;have Cc:(kX c k).write=qp c.queue k:=by rw[DA C,pE C]
  refine(aFY (r:=kX c k) (a:=fC c k) (nd:=mE c k) (ct:=nE c (fC c k).ay) (rd:=dy c (mE c k)) (ib:=M3 c (fC c k).ay) O C (pE C) (by omega) (DB _) (by simp;exact C) (by omega) (by simp) (by omega) (by omega) (by rw[Cc];exact Tt _ D Y U) (aaP T.1 D o3) (yp h.p (amB h C)) (aaB _ _ (by omega)) E h.nw).trans ?_;rw[yB C,amo,L,<- TF C,List.range_succ,List.map_append];rfl) (by
  unfold C5 av xG xI xL;dsimp only;rw[aV,aq,TG]) (bP)
 exact e
def sO(f g:Nat->Bool)(n k:Nat):aa Bool:=(List.range n).map λi=>bif Nat.blt i k then f i else g i
def amO(f g:Nat->Bool)(n:Nat):sO f g n 0=(List.range n).map g:=rfl
def amP(f g:Nat -> Bool)(n:Nat):sO f g n n=(List.range n).map f:=by
 refine List.map_congr_left λi hi=>?_
 have hi:=gk.1 hi;rw[show Nat.blt i n=true from js hi];rfl
def TS(f g:Nat->Bool)(n k:Nat):(sO f g n k).length=n:=by unfold sO;simp
def aGf(k:Nat):Nat.blt k k=false:=by
 cases h:Nat.blt k k with
 |false=>rfl
 |true=>simp_all
def amQ{f g:Nat->Bool}{n k:Nat}(C:k<(sO f g n k).length):(sO f g n k)[k]=g k:=by
 simp only[sO,List.getElem_map,iU,aGf,aq]
def amR{f g:Nat -> Bool}{n k:Nat}(h:k<n):(sO f g n k).set k (f k)=sO f g n (k+1):=by
 apply List.ext_getElem
 ·rw[gz,TS,TS]
 ·intro i L O;rw[List.getElem_set];simp only[sO,List.getElem_map,iU];by_cases e:k=i
  ·subst e;rw[bL rfl,show Nat.blt k _=true from js (dM _)];rfl
  ·rw[bX e];rcases Nat.lt_or_gt_of_ne e with h3 | h3
   ·have D:Nat.blt i k=false:=by
     cases C:Nat.blt i k with
     |false=>rfl
     |true=>have:=cQ C;omega
    have E:Nat.blt i (k+1)=false:=by
     cases C:Nat.blt i (k+1)with
     |false=>rfl
     |true=>have:=cQ C;omega
    rw[D,E]
   ·rw[show Nat.blt i k=true from js h3,show Nat.blt i _=true from js (by omega)]
def rD(c:ax)(t:Int)(i:Nat):Bool:=kK c i&&(kX c i).dN==t
def aGg{c:ax}(L:c.queue.length <= 12)(t:Int)(Z:Int×Int×Int×Int×af)(P:Int×Int×Int×Int×Int×(aa Int)×Int×Int×af)(iO:aa Bool)(C:aa aG):iter FW aS (((),(),(),(),(),(),t,c.queue,(c.queue.length:Int),(0:Int),()),(c,Z,P,iO,C,(List.range c.queue.length).map (kK c),()))=some (.inl (((),(),(),(),(),(),()),(c,Z,P,iO,C,(List.range c.queue.length).map (rD c t),()))):=by
 have e:=cH (step:=FW) c.queue.length (λi=>(((),(),(),(),(),(),t,c.queue,(c.queue.length:Int),(i:Int),()),(c,Z,P,iO,C,sO (rD c t) (kK c) c.queue.length i,()))) _ aS (λk D=>by
  have O:=TS (rD c t) (kK c) c.queue.length k;rw[<- amR D];unfold FW av xG xI xL;dsimp only;rw[aW,au,az ⟨by omega,by omega⟩,az ⟨by omega,by omega⟩,az,bD];simp only[bC,amQ,pE];have E:rD c t k=(kK c k&&(kX c k).dN==t):=rfl;rw[E];cases kK c k with
  |false=>rw[aq,az ⟨by omega,by omega⟩,az];rfl
  |true=>rw[ az ⟨by omega,by omega⟩,az];rfl) (by
  unfold FW av xG xI xL;dsimp only;rw[aV,aq,amP]) (bP)
 rw[cv,amO]at e;exact e
def fI(p:Nat->Bool):Nat->Int
 |0=>-1
 |k+1=>bif decide (fI p k<0)&&p k then (k:Int)else fI p k
def DG(p:Nat->Bool)(k:Nat):fI p (k+1)=bif decide (fI p k<0)&&p k then (k:Int)else fI p k:=rfl
def uS(p:Nat -> Bool):∀ n,(fI p n = -1 /\ ∀ k,k<n -> p k=false) \/ ∃ j:Nat,j<n/\fI p n=(j:Int)/\p j=true /\ ∀ k,k<j -> p k=false
 |0=>.inl ⟨rfl,λk C=>absurd C (Nat.not_lt_zero k)⟩
 | n+1=>by
  rw[DG];rcases uS p n with ⟨D,E⟩|⟨j,D,E,L,O⟩
  ·grind
  ·grind
def uT(D iO C:Nat->Bool)(n:Nat):Int:=
 bif decide (fI (λi=>C i&&D i) n<0)then (bif decide (fI (λi=>C i&&iO i) n<0)then fI C n else fI (λi=>C i&&iO i) n)else fI (λi=>C i&&D i) n
def nG(c:ax)(i:Nat):Bool:=decide ((kX c i).at_<=c.now-c.box.bI.cap)
def aGh{c:ax}(h:Pq c)(C:Nat->Bool):Sa c.queue ((List.range c.queue.length).map C) ((List.range c.queue.length).map (dZ c)) c.box.bI.cap c.now=some (uT (nG c) (dZ c) C c.queue.length):=by
 have hq:=h.ql;have hnw:=h.nw;have hcp:=h.cap;have Y:W6 (c.now-c.box.bI.cap)=c.now-c.box.bI.cap:=aO;have iT:∀ (k:Nat),k<c.queue.length->(C k&&nG c k)=false->Aw (((List.range c.queue.length).map C,(List.range c.queue.length).map (dZ c),c.box.bI.cap,c.now,fI C k,fI (λi=>C i&&dZ c i) k,c.queue,(c.queue.length:Int),(k:Int),()),())=some (.inl (((List.range c.queue.length).map C,(List.range c.queue.length).map (dZ c),c.box.bI.cap,c.now,fI C (k+1),fI (λi=>C i&&dZ c i) (k+1),c.queue,(c.queue.length:Int),((k+1:Nat):Int),()),())):=by
  intro k D E;rw[DG,DG];unfold Aw av aQ xG xI;dsimp only;rw[aW,au,az ⟨by omega,by omega⟩];simp only[eG,cO];rw[aV,aq,az ⟨by omega,by omega⟩];simp only[bC,yB D,Y,pE];rw[bD];cases L:C k with
  |false=>simp[L]
  | true=>
   rw[L,cu]at E;unfold nG at E;rw[E,aW (by omega:(k:Int)<(c.queue.length:Int)),az ⟨by omega,by omega⟩];simp only[bB,aq,au,L,cu];cases dZ c k<;>cases decide (fI C k<0)<;>cases decide (fI (λi=>C i&&dZ c i) k<0)<;>simp
 unfold Sa uT bE;rw[dK,ak,bJ.2 ⟨hcp.1,by omega⟩,bB,aq,dK,ak,bJ.2 hnw,bB,aq];rcases uS (λi=>C i&&nG c i) c.queue.length with ⟨O,T⟩|⟨j,O,T,U,h4⟩
 ·have e:=cH (step:=Aw) c.queue.length (λk=>(((List.range c.queue.length).map C,(List.range c.queue.length).map (dZ c),c.box.bI.cap,c.now,fI C k,fI (λi=>C i&&dZ c i) k,c.queue,(c.queue.length:Int),(k:Int),()),())) (.inr (.inl ((fI C c.queue.length,fI (λi=>C i&&dZ c i) c.queue.length,()),()))) aS (λk D=>iT k D (T k D)) (by
   unfold Aw av aQ xG xI;dsimp only;rw[aV,aq]) (bP)
  rw[cv]at e
  refine(aY (λo=>Option.bind o _) e).trans ?_
  rw[ak,O];simp only[Sum.elim_inr,eH];by_cases Z:fI (λi=>C i&&dZ c i) c.queue.length<0
  ·rw[aV (by omega:¬ fI (λi=>C i&&dZ c i) c.queue.length >= 0),aW Z];rfl
  ·rw[aW (by omega:fI (λi=>C i&&dZ c i) c.queue.length >= 0),aV Z];rfl
 ·have e:=cH (step:=Aw) j (λk=>(((List.range c.queue.length).map C,(List.range c.queue.length).map (dZ c),c.box.bI.cap,c.now,fI C k,fI (λi=>C i&&dZ c i) k,c.queue,(c.queue.length:Int),(k:Int),()),())) (.inl (((j:Int),()),())) aS (λk D=>iT k (by omega) (h4 k D)) (by
   rw[aN]at U;have h5:=U.2;unfold nG at h5;unfold Aw av aQ xG xI;dsimp only;rw[aW,au,az ⟨by omega,by omega⟩];simp only[eG,cO];rw[aV,aq,az ⟨by omega,by omega⟩];simp only[bC,yB O,Y,pE,U.1,h5,bB,aq,au]) (bP)
  rw[cv]at e
  refine(aY (λo=>Option.bind o _) e).trans ?_
  rw[ak,T,aV];rfl
def rkN(D iO C:Nat->Bool)(n:Nat):Int:=
 bif decide (fI (λi=>C i&&D i) n<0)then (bif decide (fI (λi=>C i&&iO i) n<0)then (bif decide (fI C n<0)then 0 else 1)else 2)else 3
def aGi{c:ax}(h:Pq c)(C:Nat->Bool):Q6 c.queue ((List.range c.queue.length).map C) ((List.range c.queue.length).map (dZ c)) c.box.bI.cap c.now=some (uT (nG c) (dZ c) C c.queue.length):=by
 have U:=h.ql;have E:=h.nw;have L:=h.cap;have O:W6 (c.now-c.box.bI.cap)=c.now-c.box.bI.cap:=aO;unfold Q6 bk;rw[eJ,ak,bJ.2 ⟨L.1,by omega⟩,bB,aq,eJ,ak,bJ.2 E,bB,aq];have e:=cH (step:=KH) c.queue.length (λk=>((c.queue,(List.range c.queue.length).map C,(List.range c.queue.length).map (dZ c),c.box.bI.cap,c.now,uT (nG c) (dZ c) C k,rkN (nG c) (dZ c) C k,(k:Int),()),())) (.inl ((uT (nG c) (dZ c) C c.queue.length,()),())) aS (λk D=>by
  have Y:=uS C k;have Z:=uS (λi=>C i&&dZ c i) k;have ho:=uS (λi=>C i&&nG c i) k;unfold KH av xG xI;dsimp only;simp only[eG,cO];rw[aW,au,au,az ⟨by omega,by omega⟩];simp only[bC,yB D,O,pE];rw[bD];unfold uT rkN;rw[DG,DG,DG];have hold:decide ((kX c k).at_<=c.now-c.box.bI.cap)=nG c k:=rfl;rw[hold];cases T:C k with
  |false=>simp[T]
  | true=>
   simp only[bB,aq,cu];rw[az ⟨by omega,by omega⟩,az ⟨by omega,by omega⟩];generalize fI (λi=>C i&&nG c i) k=o at *
   generalize fI (λi=>C i&&dZ c i) k=u at *
   generalize fI C k=a at *
   have ao:a<0\/0<=a:=by omega
   have uo:u<0\/0<=u:=by omega
   have oo:o<0\/0<=o:=by omega
   have kn:¬ (k:Int)<0:=by omega
   rcases ao with ao|ao<;>rcases uo with uo|uo<;>rcases oo with oo|oo<;>cases dZ c k<;>cases nG c k<;>simp[D,ao,uo,oo,kn,Int.not_lt.2 ao,Int.not_lt.2 uo,Int.not_lt.2 oo]) (by
  unfold KH av xG xI;dsimp only;rw[aV,aq]) (bP)
 rw[cv]at e
 refine(aY (λo=>Option.bind o _) e).trans ?_
 rfl
def rE:aG:=⟨0,0,0,0⟩
def rF(c:ax):Int:=match qf c.shares (rC c c.queue.length)with
 |some y=>y.2
 |none=>0
def ox(c:ax):Int:=uT (nG c) (dZ c) (rD c (rF c)) c.queue.length
def A0(c:ax):aG×Int:=bif decide (ox c<0)then (rE,-1)else (mE c (ox c).toNat,ox c)
def amS{c:ax}(h:Pq c):∃ l,qf c.shares (rC c c.queue.length)=some (l,rF c):=by
 have⟨y,t,e,_⟩:=aax (rC c c.queue.length) (by have:=h.shl;omega) h.sh (by rw[TQ,h.shl]);refine⟨y,?_⟩;unfold rF;rw[e]
def amT(c:ax):-1 <= ox c/\ox c<c.queue.length:=by
 unfold ox uT;rcases uS _ _ with ⟨C,_⟩|⟨j,C,L,_⟩
 ·rw[C,aW,au];rcases uS _ _ with ⟨D,_⟩ | ⟨j,D,O,_⟩
  ·rw[D,aW,au];rcases uS (rD c (rF c)) c.queue.length with ⟨E,_⟩|⟨j,E,T,_⟩<;>omega
  ·grind
 ·grind
def aGj{c:ax}(h:Pq c):Sg c (cB 0 c.aP.aH) (fy c)=some (A0 c):=by
 have E:=h.ql;have⟨l,L⟩:=amS h;have T:=amT c;unfold Sg bk xL;rw[bL ⟨by omega,by omega,by omega⟩,bC,aFG h,ak];simp only[eH];rw[bL ⟨by omega,by omega,by omega⟩,bL ⟨by omega,by omega,by omega⟩,bC,aFH h,ak];simp only[eH];rw[bL ⟨by omega,by omega,by omega⟩,bL (by decide),bC,show (4:Int).toNat=4 from rfl,aGe h _ _ rfl,ak];simp only[eH];rw[L,ak];dsimp only;rw[aGg E,ak];simp only[eH];rw[aGh h,ak];show (bif decide (ox c<0)then _ else _)=_;unfold A0;by_cases C:ox c<0
 ·rw[aW C];rfl
 ·have O:(ox c).toNat<c.queue.length:=by omega
  rw[aV C,aq,aq];have U:¬ uT (nG c) (dZ c) (rD c (rF c)) c.queue.length<0:=C;have D:=O;rw[az ⟨by omega,by simp only[eG,cO];exact D⟩,az (by simp only[eG,cO];exact D)];simp only[List.getElem_map,iU];rfl
def aaV(l:aa aI)(b:Int)(E:l.length <= 1048576):E7 l b=some (l.any λa=>a.ay==b):=by
 have L:=we (λa:aI=>a.ay==b) l;unfold E7 bE;rw[Tf];have e:=cH (step:=E6) (dx (λa:aI=>a.ay==b) l) (λi=>((l,b,(i:Int),()),())) (if dx (λa:aI=>a.ay==b) l<l.length then .inl ((true,()),())else .inr (.inl ((),()))) aS (λk h=>by
  have D:=nA h (by omega);unfold E6 av aQ xG xI;dsimp only;rw[aW,au,az ⟨by omega,by omega⟩];simp only[bC];rw[D,aq,bD]) (by
  by_cases C:dx (λa:aI=>a.ay==b) l<l.length
  ·have D:=rq C;unfold E6 av aQ xG xI;dsimp only;simp[*]
  ·unfold E6 av aQ xG xI;dsimp only;rw[aV,aq,bX C]) (bP)
 rw[cv]at e
 refine(aY (λo=>Option.bind o _) e).trans ?_
 by_cases C:dx (λa:aI=>a.ay==b) l<l.length
 ·rw[bL C,aW C];rfl
 ·rw[bX C,aV C];rfl
def amU{c:ax}(h:Pq c)(a:aI):(iter E9 aS ((c,fy c,(List.range c.queue.length).map (gU c),(),(0:Int),()),((a.ay,a.row,a.bR,()),()))).bind (Sum.elim (λD=>some D.1.1) (Sum.elim (λz28=>some true) (λz=>nomatch z)))=some (!yC c c.queue.length a.ay):=by
 have hq:=h.ql;have E:=wB h;have e:=fT (step:=E9) (List.range c.queue.length) (λi=>!(gU c i&&dZ c i&&a.ay==(fC c i).ay)) (λi=>((c,fy c,(List.range c.queue.length).map (gU c),(),(i:Int),()),((a.ay,a.row,a.bR,()),()))) (.inl ((false,()),())) (.inr (.inl ((),()))) aS (λk C=>by
  rw[cO]at C;have L:=uR c;have hl4:((List.range c.queue.length).map (gU c)).length=c.queue.length:=by simp
  have⟨ho,O,T,o3,o4,U⟩:=DC h C;have Y:=alY (r:=c.bq) (a:=fC c k) U O T E;rw[iU];unfold E9 av aQ xG xI;dsimp only;rw[aW,au,az ⟨by omega,by omega⟩];simp only[bC,yB C];rw[bD];cases gU c k with
  |false=>rfl
  | true=>
   rw[au,az ⟨by omega,by omega⟩];simp only[DB];rw[az ⟨by omega,by omega⟩,Y,ak,Bool.beq_comm];have iO:dZ c k=wu c.bq (fC c k):=rfl;rw[iO];cases a.ay==(fC c k).ay<;>cases wu c.bq (fC c k)<;>rfl) (by
  rw[cO];have L:=uR c;unfold E9 av aQ xG xI;dsimp only;rw[aV,aq]) (by rw[cO];exact bP)
 rw[cv]at e;rw[e,ak];have Z:(List.range c.queue.length).all (λi=>!(gU c i&&dZ c i&&a.ay==(fC c i).ay)) = !yC c c.queue.length a.ay:=by
  unfold yC;rw[List.any_eq_not_all_not,Bool.not_not]
 rw[Z];cases yC c c.queue.length a.ay<;>rfl
def aGk{c:ax}(h:Pq c){k:Nat}(C:k<c.queue.length):Q3 c (fy c) ((List.range c.queue.length).map (gU c)) (k:Int)=some (kK c k):=by
 have hq:=h.ql;have rL:=h.pl;have O:=nB h.rf;have T:=wB h;have TR:=uR c;have hl4:((List.range c.queue.length).map (gU c)).length=c.queue.length:=by simp
 obtain⟨ho,E,U,Y,o4,o5⟩:=DC h C;obtain⟨q1,q2,Z⟩:=h.q _ (cV C);rw[pE C]at Z;have hnw:=h.nw;have Cc:(kX c k).write=qp c.queue k:=by rw[DA C,pE C]
 have hnd:Af c.bq (fC c k) (kX c k).write=some (mE c k):=by rw[Cc,alW];exact Tt _ E U T
 have hw:W6 (c.now-(kX c k).at_)=c.now-(kX c k).at_:=aO;unfold Q3 xI bE;rw[az ⟨by omega,by omega⟩];simp only[bC,DB];rw[az ⟨by omega,by omega⟩];simp only[yB C,(TP O.1 E Y),ak,pE];unfold kK;cases gU c k with
 |false=>rfl
 | true=>
  simp only[bB,aq,cu];cases nE c (fC c k).ay with
  |true=>rfl
  | false=>
   rw[aq,az ⟨by omega,by omega⟩,hnd,ak,Tq h.p (amB h C),ak];cases dy c (mE c k)with
   |false=>rfl
   | true=>
    simp only[bB,iX,aq,cu,aaV _ _ (show c.pending.length<=1048576 by omega),ak,amU h,hw];have B0:(c.pending.any λa=>a.ay==(fC c k).ay)=M3 c (fC c k).ay:=rfl;have hyg:decide (c.now-(kX c k).at_ >= c.box.bI.cap) = !TO c k:=by
     unfold TO;by_cases L:c.now-(kX c k).at_<c.box.bI.cap
     ·rw[aW L,aV];rfl
     ·rw[aV L,aW];rfl
    rw[B0,hyg];by_cases D:(mE c k).kind=1
    ·have k4:((mE c k).kind==(4:Int))=false:=by rw[D];rfl
     have k4':((mE c k).kind != (4:Int))=true:=by rw[D];rfl
     have D:((mE c k).kind==(1:Int))=true:=by rw[D];rfl
     rw[D,k4,k4'];cases M3 c (fC c k).ay<;>rfl
    ·have D:((mE c k).kind==(1:Int))=false:=by simpa using D
     rw[D,bne];cases (mE c k).kind==(4:Int)with
     |false=>rfl
     | true=>
      cases M3 c (fC c k).ay with
      |true=>rfl
      | false=>
       simp only[Bool.false_or,bB,au,aq,cu,iX];refine(az (⟨by omega,C⟩:0<=(k:Int)/\k<c.queue.length)).trans ?_;cases TO c k with
       |false=>rw[Bool.and_false];rfl
       |true=>rw[Bool.and_true];exact amU h _
def aGl{c:ax}(h:Pq c):Q7 c=some (A0 c):=by
 have hq:=h.ql;have U:=wB h;have TR:=uR c;have⟨l,Z⟩:=amS h;have hb:=amT c;have e:=cH (step:=KI) c.queue.length (λi=>((c,(),(),(),(),(),(),(i:Int),()),(((0:Int),(0:Int),(0:Int),(0:Int),()),fy c,(List.range c.queue.length).map (gU c),(List.range i).map (kK c),(List.range i).map (dZ c),rC c i,()))) (.inl ((c,(),(),(),(),(),()),(((0:Int),(0:Int),(0:Int),(0:Int),()),fy c,(List.range c.queue.length).map (kK c),(List.range c.queue.length).map (dZ c),rC c c.queue.length,()))) aS (λk C=>by
  have⟨ho,E,L,o3,o4,Y⟩:=DC h C;have⟨q1,q2,q3⟩:=h.q _ (cV C);rw[pE C]at q2;have hwl:=TQ c k;have hh:=alY (r:=c.bq) (a:=fC c k) Y E L U;have iO:dZ c k=wu c.bq (fC c k):=rfl;have hwt:rC c (k+1)=bif kK c k then (rC c k).set (kX c k).dN.toNat true else rC c k:=rfl;unfold KI av xG xI xL;dsimp only;simp only[eG,cO,lT];rw[aW,au,aGk h C,ak,di,au,az ⟨by omega,by omega⟩,az];simp only[bC,DB];rw[hh,ak,au,bD,List.range_succ,List.map_append,List.map_append,List.map_singleton,List.map_singleton,iO,hwt];cases kK c k with
  |false=>rfl
  | true=>
   rw[ az ⟨by omega,by omega⟩];simp only[pE];rw[az ⟨by omega,by omega⟩,az];rfl) (by
  unfold KI av xG xI xL;dsimp only;rw[aV,aq]) (bP)
 have O:=cH (step:=KJ) c.queue.length (λi=>((c,(),(),(),(),rF c,(i:Int),()),(((0:Int),(0:Int),(0:Int),(0:Int),()),fy c,sO (rD c (rF c)) (kK c) c.queue.length i,(List.range c.queue.length).map (dZ c),()))) (.inl ((c,(),(),(),(),()),(((0:Int),(0:Int),(0:Int),(0:Int),()),fy c,(List.range c.queue.length).map (rD c (rF c)),(List.range c.queue.length).map (dZ c),()))) aS (λk C=>by
  have D:=TS (rD c (rF c)) (kK c) c.queue.length k;have ht:rD c (rF c) k=(kK c k&&(kX c k).dN==rF c):=rfl;rw[<- amR C,ht];unfold KJ av xG xI xL;dsimp only;rw[aW,au,az ⟨by omega,by omega⟩,az,bD];simp only[bC,amQ];cases kK c k with
  |false=>rw[aq,az ⟨by omega,by omega⟩,az];rfl
  | true=>
   rw[ az ⟨by omega,by omega⟩];simp only[pE];rw[az ⟨by omega,by omega⟩,az];rfl) (by
  unfold KJ av xG xI xL;dsimp only;rw[aV,aq,amP]) (bP)
 rw[cv]at e O;rw[amO]at O;unfold Q7 xI bk xL;rw[amn h,ak,aFD h,ak,bL (by decide)]
 refine(aY (λo=>Option.bind o _) e).trans ?_
 rw[ak];simp only[eH];rw[alS _ _ (by have:=h.shl;omega),Z,ak]
 refine(aY (λo=>Option.bind o _) O).trans ?_
 rw[ak];simp only[eH];rw[aGi h,ak];show (bif decide (ox c<0)then _ else _)=_;unfold A0;by_cases T:ox c<0
 ·rw[aW T];rfl
 ·have D:(ox c).toNat<c.queue.length:=by omega
  have⟨ho,E,L,o3,o4,Y⟩:=DC h D;rw[aV T,aq,aq];have pI:¬ uT (nG c) (dZ c) (rD c (rF c)) c.queue.length<0:=T;have aET:(uT (nG c) (dZ c) (rD c (rF c)) c.queue.length).toNat<c.queue.length:=D;rw[az ⟨by omega,by omega⟩,az];simp only[DB];rw[az ⟨by omega,by omega⟩];simp only[pE];have Cc:(kX c (ox c).toNat).write=qp c.queue (ox c).toNat:=by rw[DA D,pE D]
  show (Af c.bq (fC c (ox c).toNat) (kX c (ox c).toNat).write).bind _=_;rw[Cc,alW,Tt _ E L U,ak];rfl
def TT{α:Type}(p:α -> Bool)(l:aa α):(dx p l=l.length/\l.find? p=none) \/ ∃ h:dx p l<l.length,l.find? p=some l[dx p l]:=by
 have E:=we p l;rcases Nat.lt_or_ge _ _ with h|h
 ·refine .inr ⟨h,?_⟩;rw[List.find?_eq_some_iff_getElem]
  refine⟨rq h,_,h,rfl,λj C=>?_⟩
  rw[nA C];rfl
 ·refine .inl ⟨by omega,?_⟩;rw[List.find?_eq_none];intro x D;obtain⟨j,C,rfl⟩:=jh.1 D;rw[nA (p:=p) (by omega) C];simp
def M5(c:ax)(l:aa aG):aG×Bool:=match l.find? (dy c)with
 |some x=>(x,true)
 |none=>(rE,false)
def amV{c:ax}(h:Pq c){l:aa aG}(O:l.length <= 1000)(L:∀ x∈l,dL c.config.aE x=true):Ks c l=some (M5 c l):=by
 have hi:=we (dy c) l;have iT:∀ (k:Nat) (C:k<l.length),CL ((c,l,(),(k:Int),()),(((0:Int),(0:Int),(0:Int),(0:Int),()),()))=some (bif dy c l[k]then .inr (.inl (((),true,()),((l[k].kind,l[k].ay,l[k].row,l[k].bR,()),())))else .inl ((c,l,(),((k+1:Nat):Int),()),(((0:Int),(0:Int),(0:Int),(0:Int),()),()))):=by
  intro k C;unfold CL av aQ xG xI;dsimp only;rw[aW,au,az ⟨by omega,by omega⟩];simp only[bC];rw[Tq h.p (L _ (cV C)),ak];cases dy c l[k]with
  |false=>rw[aq,bD];rfl
  |true=>simp_all
 unfold Ks M5 bE;rcases TT (dy c) l with ⟨D,E⟩|⟨D,E⟩
 ·have e:=cH (step:=CL) l.length _ _ aS (λk C=>by
   rw[iT k C,nA (p:=dy c) (i:=k) (by omega) C];rfl) (by
   unfold CL av aQ xG xI;dsimp only;rw[aV,aq]) (bP)
  rw[cv]at e
  refine(aY (λo=>Option.bind o _) e).trans ?_
  rw[E];rfl
 ·have e:=cH (step:=CL) (dx (dy c) l) (λk=>((c,l,(),(k:Int),()),(((0:Int),(0:Int),(0:Int),(0:Int),()),()))) (.inl (((),true,()),((l[dx (dy c) l].kind,l[dx (dy c) l].ay,l[dx (dy c) l].row,l[dx (dy c) l].bR,()),()))) aS (λk C=>by
   rw[iT k (by omega),nA (p:=dy c) (i:=k) C (by omega)];rfl) (by
   rw[iT _ D,rq D];rfl) (bP)
  rw[cv]at e
  refine(aY (λo=>Option.bind o _) e).trans ?_
  rw[E];rfl
def A1(c:ax)(b:Int)(x:aG):aG:=bif (jf c.bq b).open_ then ⟨4,b,0,0⟩else x
def aaW{c:ax}{b:Int}(x:aG)(C:0 <= b)(h:b.toNat<c.bq.aB.length):Av c b x=some (A1 c b x):=by
 unfold Av A1 xI;rw[az ⟨C,h⟩,AS h]
 grind
def aaX{c:ax}(x:aG)(C:0 <= x.ay)(h:x.ay.toNat<c.bq.aB.length):E5 c x=some (A1 c x.ay x):=by
 unfold E5 A1 xI;rw[az ⟨C,h⟩,AS h]
 grind
def TU{c:ax}{b:Int}{x:aG}(h:Pq c)(C:0 <= b/\b<bf c.config.aE)(D:dL c.config.aE x=true):dL c.config.aE (A1 c b x)=true:=by
 unfold A1;cases (jf _ b).open_ with
 |false=>exact D
 |true=>exact AT h.p.R.sJ (.inl rfl) C
def gV(c:ax)(b:Int):aG:=A1 c b ⟨5,b,0,0⟩
def mF(c:ax)(i:Nat):aI:=c.pending.getD i zA
def aaY{c:ax}{i:Nat}(h:i<c.pending.length):c.pending[i]=mF c i:=by
 unfold mF;rw[eY,bZ h];rfl
def qt(c:ax)(i:Nat):Bool:=!nE c (mF c i).ay && !((c.pending.take i).any λa=>a.ay==(mF c i).ay)
def jB(c:ax)(i:Nat):aG:=A1 c (mF c i).ay ⟨1,(mF c i).ay,(mF c i).row,0⟩
def qv(c:ax):aa aG:=(cB 0 c.aP.aH).map (gV c)
def rG(c:ax)(k:Nat):aa aG:=((List.range k).filter (qt c)).map (jB c)
def aaZ{c:ax}(h:Pq c){i:Nat}(hi:i<c.pending.length):fj c.config.aE (mF c i)=true/\0 <= (mF c i).ay/\(mF c i).ay.toNat<c.bq.aB.length/\(mF c i).ay.toNat<c.aP.aH.length/\(mF c i).ay<bf c.config.aE:=by
 have C:=h.pe _ (cV hi);rw[aaY]at C;have⟨_,D,E,L,O,T,U⟩:=sC C;have:=h.p.bl;have:=h.dl;simp_all
def amW{c:ax}(h:Pq c){b:Int}(C:b∈cB 0 c.aP.aH):(0 <= b/\b<bf c.config.aE)/\dL c.config.aE (gV c b)=true:=by
 obtain⟨j,rfl,D,_⟩:=alO C;have:=h.dl;have C:0 <= ((0+j):Int)/\((0+j):Int)<bf c.config.aE:=by omega
 exact⟨C,TU h C (AT h.p.R.sJ (.inr rfl) C)⟩
def amX{c:ax}(h:Pq c){i:Nat}(hi:i<c.pending.length):dL c.config.aE (jB c i)=true:=by
 have⟨C,D,L,O,E⟩:=aaZ h hi;exact TU h ⟨D,E⟩ (aEY C)
def amY(c:ax)(k:Nat):(rG c k).length <= k:=by
 unfold rG
 grind
def aGm{c:ax}(h:Pq c):QX c=some (qv c++rG c c.pending.length):=by
 have E:=nB h.rf;have rL:=h.pl;have hdn:=h.dl;have Zl:=h.p.bl;have ul:=Dx 0 c.aP.aH;have e:=cH (step:=Kt) c.aP.aH.length (λi=>((c,(),(i:Int),()),((cB 0 (c.aP.aH.take i)).map (gV c),()))) (.inl ((c,(),()),(qv c,()))) aS (λk C=>by
  have O:=Dx 0 (c.aP.aH.take k);rw[fJ]at O;have T:=(TP (c:=c) (b:=(k:Int)) E.1 (by omega) (by omega))
  have U:nE c (k:Int)=decide (c.aP.aH[k] >= 4):=by
   unfold nE;rw[bC,eY,bZ C];rfl
  unfold Kt av xG;dsimp only;rw[aW,au,T,ak,bD,aas C,U];cases decide (c.aP.aH[k] >= 4)with
  |false=>rfl
  | true=>
   rw[au,au,aaX _ (by show 0 <= (k:Int);omega) (by show (k:Int).toNat<_;omega),ak,eG,lT,di,List.map_append];rfl) (by
  unfold Kt av xG;dsimp only;rw[aV,aq,iW];rfl) (bP)
 have D:=cH (step:=Ku) c.pending.length (λi=>((c,(),(i:Int),()),(qv c++rG c i,()))) (.inl (((),()),(qv c++rG c c.pending.length,()))) aS (λk C=>by
  have⟨ho,L,Y,Z,o4⟩:=aaZ h C;have hpk:=amY c k;have hul:(qv c).length <= 8:=by unfold qv;rw[eG];omega
  have e3:rG c (k+1)=rG c k++(bif qt c k then [jB c k]else []):=by
   unfold rG;rw[List.range_succ,List.filter_append];cases hp:qt c k<;>simp[hp]
  rw[e3];unfold Ku av xG xI;dsimp only;rw[aW,au,az ⟨by omega,by omega⟩,bD];simp only[bC,aaY,(TP E.1 L Z),ak,Int.toNat_zero,List.drop_zero];unfold qt;cases nE c (mF c k).ay with
  |true=>rw[bB,aq,Bool.false_and,aq,List.append_nil]
  | false=>
   rw[iX,au,bL ⟨by omega,by omega,by omega⟩,aaV _ _ (by rw[fJ];omega),ak,cu];cases (c.pending.take k).any λa=>a.ay==(mF c k).ay with
   |true=>rw[bB,aq,aq,List.append_nil]
   | false=>
    rw[iX,aaX _ L Y,ak,List.length_append,lT,di,List.append_assoc];rfl) (by
  unfold Ku av xG xI;dsimp only;rw[aV,aq]) (bP)
 rw[cv]at e D;unfold QX bk
 refine(aY (λo=>Option.bind o _) e).trans ?_
 rw[ak];have e0:qv c++rG c 0=qv c:=List.append_nil _;rw[e0]at D
 refine(aY (λo=>Option.bind o _) D).trans ?_
 rfl
def uU(u:Bool)(l:aa Int)(idle:Nat->Bool)(i:Nat):Bool:=bif u then decide (l.getD i 0 >= 4)else decide (l.getD i 0 > 0)&&idle i
def A3(r:de)(idle:Nat->Bool):Int:=kJ (uU (decide (((cB 0 r.aH).length:Int) > 0)) r.aH idle) (λi=>r.aH.getD i 0) r.aH.length
def aa0(r:de)(idle:Nat->Bool):-1<=A3 r idle/\A3 r idle<r.aH.length:=wq _ _ _
def aGn{r:de}(D:fB r=true)(idle:Nat -> Bool):LX r ((List.range r.aH.length).map idle)=some (A3 r idle):=by
 have hl:=nB D;unfold LX bk;rw[Mv _ (by omega),ak,D,bB,aq,aat D,ak];generalize T:decide (((cB 0 r.aH).length:Int) > 0)=u;have e:=cH (step:=LW) r.aH.length (λi=>(((List.range r.aH.length).map idle,(),u,kJ (uU u r.aH idle) (λi=>r.aH.getD i 0) i,r.aH,(r.aH.length:Int),(i:Int),()),((r.aH,r.wait,r.dS,()),()))) (.inl ((kJ (uU u r.aH idle) (λi=>r.aH.getD i 0) r.aH.length,()),())) aS (λk E=>by
  have U:=wq (uU u r.aH idle) (λi=>r.aH.getD i 0) k;rw[Gs];generalize kJ (uU u r.aH idle) (λi=>r.aH.getD i 0) k=C at U;have Y:r.aH.getD k 0=r.aH[k]:=by rw[eY,bZ E];rfl
  unfold LW AP uU av xG xI;dsimp only;rw[aW,au,az ⟨by omega,by omega⟩];simp only[bC,Y,eG,cO];rw[bD,aW (by omega:(k:Int)<(r.aH.length:Int)),au,az ⟨by omega,by omega⟩];simp only[yB E];by_cases L:C<0
  ·rw[aW L,Bool.true_or];cases u<;>cases decide (r.aH[k] > 0)<;>cases decide (r.aH[k] >= 4)<;>cases idle k<;>rfl
  ·have O:C.toNat<r.aH.length:=by omega
   have Z:r.aH.getD C.toNat 0=r.aH[C.toNat]:=by rw[eY,bZ O];rfl
   have h4:0 <= C/\C.toNat<r.aH.length:=⟨by omega,O⟩
   rw[aV L,Z];simp only[az h4,aq];cases u<;>cases decide (r.aH[k] > 0)<;>cases decide (r.aH[k] >= 4)<;>cases idle k<;>cases decide (r.aH[k] > r.aH[C.toNat])<;>rfl) (by
  unfold LW av xG xI;dsimp only;rw[aV,aq]) (bP)
 rw[cv]at e
 refine(aY (λo=>Option.bind o _) e).trans ?_
 unfold A3;rw[T];rfl
def aGo{r:de}(D:fB r=true)(idle:Nat -> Bool):Q8 r ((List.range r.aH.length).map idle)=some (A3 r idle):=by
 have hl:=nB D;unfold Q8 bk;rw[SU _ (by omega),ak,D,bB,aq,alP D,ak];generalize T:decide (((cB 0 r.aH).length:Int) > 0)=u;have e:=cH (step:=KM) r.aH.length (λi=>(((List.range r.aH.length).map idle,(),u,kJ (uU u r.aH idle) (λi=>r.aH.getD i 0) i,(i:Int),()),((r.aH,r.wait,r.dS,()),()))) (.inl ((kJ (uU u r.aH idle) (λi=>r.aH.getD i 0) r.aH.length,()),())) aS (λk E=>by
  have U:=wq (uU u r.aH idle) (λi=>r.aH.getD i 0) k;rw[Gs];generalize kJ (uU u r.aH idle) (λi=>r.aH.getD i 0) k=C at U;have Y:r.aH.getD k 0=r.aH[k]:=by rw[eY,bZ E];rfl
  have Z:0 <= (k:Int)/\k<r.aH.length:=⟨by omega,E⟩
  unfold KM AP uU av xG xI;dsimp only;rw[aW,au,az ⟨by omega,by omega⟩];simp only[bC,Y,eG,cO,az Z];rw[bD,aW (by omega:(k:Int)<(r.aH.length:Int)),au];simp only[yB E];by_cases L:C<0
  ·rw[aW L,Bool.true_or];cases u<;>cases decide (r.aH[k] > 0)<;>cases decide (r.aH[k] >= 4)<;>cases idle k<;>rfl
  ·have O:C.toNat<r.aH.length:=by omega
   have yS:r.aH.getD C.toNat 0=r.aH[C.toNat]:=by rw[eY,bZ O];rfl
   have h4:0 <= C/\C.toNat<r.aH.length:=⟨by omega,O⟩
   rw[aV L,yS];simp only[az h4,aq];cases u<;>cases decide (r.aH[k] > 0)<;>cases decide (r.aH[k] >= 4)<;>cases idle k<;>cases decide (r.aH[k] > r.aH[C.toNat])<;>rfl) (by
  unfold KM av xG xI;dsimp only;rw[aV,aq]) (bP)
 rw[cv]at e
 refine(aY (λo=>Option.bind o _) e).trans ?_
 unfold A3;rw[T];rfl
def nH(w:aa aI)(r:cy)(b:Nat):Bool:=w.any λa=>a.ay==(b:Int)&&a.row==(jf r (b:Int)).row
def sP(w:aa aI)(r:cy)(b:Nat):Bool:=(jf r (b:Int)).open_ && !nH w r b
def yG(r:cy)(eN:Int)(w:aa aI):Int:=bif eN != 1 then -1 else fI (sP w r) r.aB.length
def aa1(r:cy)(eN:Int)(w:aa aI):-1 <= yG r eN w/\yG r eN w<r.aB.length:=by
 unfold yG;cases eN != 1 with
 |true=>grind
 | false=>
  rw[aq];rcases uS (sP w r) r.aB.length with ⟨C,_⟩|⟨j,C,D,_⟩<;>omega
def aGp{w:aa aI}{r:cy}{L:aa Int}{b:Nat}{i n:Int}(C:b<r.aB.length)(E:r.aB.length<=1048576)(O:w.length<=1000):iter FX aS ((w,(),(b:Int),false,(),n,i,w,(w.length:Int),(0:Int),()),((r.aB,r.aZ,()),L,()))=some (.inl ((w,(),(b:Int),nH w r b,(),n,i,()),((r.aB,r.aZ,()),L,()))):=by
 have e:=cH (step:=FX) w.length (λk=>((w,(),(b:Int),((w.take k).any λa=>a.ay==(b:Int)&&a.row==(jf r (b:Int)).row),(),n,i,w,(w.length:Int),(k:Int),()),((r.aB,r.aZ,()),L,()))) (.inl ((w,(),(b:Int),nH w r b,(),n,i,()),((r.aB,r.aZ,()),L,()))) aS (λk D=>by
  rw[qZ D,List.any_append,List.any_cons,List.any_nil,Bool.or_false,AS (by rw[bC];exact C)];unfold FX av xG xI;dsimp only;rw[aW,au,az ⟨by omega,by omega⟩,bD];simp only[bC];cases (w.take k).any λa=>a.ay==(b:Int)&&a.row==r.aB[b].row with
  |true=>rfl
  | false=>
   rw[aq,Bool.false_or];cases w[k].ay==(b:Int)with
   |false=>rfl
   |true=>rw[au,az ⟨by omega,C⟩,cu]) (by
  unfold FX av xG xI;dsimp only;rw[aV,aq,iW];rfl) (bP)
 rw[cv]at e;exact e
def aGq{w:aa aI}{r:cy}{b:Nat}(C:b<r.aB.length)(E:r.aB.length <= 1048576)(L:w.length <= 1000)(o:Bool):iter Fb aS ((w,(),(b:Int),o,(0:Int),()),((r.aB,r.aZ,()),()))=some (.inl ((w,(),(b:Int),o || nH w r b,()),((r.aB,r.aZ,()),()))):=by
 have e:=cH (step:=Fb) w.length (λk=>((w,(),(b:Int),o || ((w.take k).any λa=>a.ay==(b:Int)&&a.row==(jf r (b:Int)).row),(k:Int),()),((r.aB,r.aZ,()),()))) (.inl ((w,(),(b:Int),o || nH w r b,()),((r.aB,r.aZ,()),()))) aS (λk D=>by
  rw[qZ D,List.any_append,List.any_cons,List.any_nil,Bool.or_false,AS (by rw[bC];exact C)];unfold Fb av xG xI;dsimp only;rw[aW,au,az ⟨by omega,by omega⟩,bD];simp only[bC];cases w[k].ay==(b:Int)with
  |false=>rw[aq,Bool.false_and,Bool.or_false]
  | true=>
   rw[au,az ⟨by omega,D⟩,az ⟨by omega,C⟩,cu];cases w[k].row==r.aB[b].row with
   |false=>simp[*]
   |true=>rw[au,Bool.or_true,Bool.or_true]) (by
  unfold Fb av xG xI;dsimp only;rw[aV,aq,iW];rfl) (bP)
 rw[cv,List.take_zero,List.any_nil,Bool.or_false]at e;exact e
def amZ(w:aa aI)(r:cy):∀ k,k <= r.aB.length -> (opens 0 (r.aB.take k)).find? (λb=>!nH w r b.toNat)=bif decide (fI (sP w r) k<0)then none else some (fI (sP w r) k)
 |0,_=>rfl
 | k+1,L=>by
  have C:=amZ w r k (by omega);have D:(jf r (k:Int)).open_=r.aB[k].open_:=by rw[AS (by rw[bC];omega)];simp only[bC]
  have E:sP w r k=(r.aB[k].open_ && !nH w r k):=by unfold sP;rw[D]
  rw[qZ (show k<r.aB.length by omega),Zd,fJ,Nat.min_eq_left (by omega),fk,List.find?_append,C,DG,E];have O:opens k [r.aB[k]]=bif r.aB[k].open_ then [(k:Int)]else []:=rfl
  grind
def am0(i:Nat)(l:aa cR)(x:Int)(h:x∈opens i l):∃ j:Nat,j<l.length/\x=((i+j:Nat):Int):=by
 induction l generalizing i with
 |nil=>cases h
 | cons d l C=>
  have e:opens i (d :: l)=bif d.open_ then (i:Int) :: opens (i+1) l else opens (i+1) l:=rfl;rw[e]at h;have tl:x∈opens (i+1) l -> ∃ j:Nat,j<(d :: l).length/\x=((i+j:Nat):Int):=λh=>by
   have⟨j,D,E⟩:=C _ h;exact⟨j+1,by simpa using D,by rw[E];omega⟩
  cases L:d.open_ with
  |false=>grind
  | true=>
   rw[L,au]at h;rcases gW.1 h with rfl|h
   ·exact⟨0,by simp,rfl⟩
   ·exact tl h
def aGr{r:cy}(eN:Int){w:aa aI}(T:r.aB.length <= 1048576)(U:w.length <= 1000):LY r eN w=some (yG r eN w):=by
 unfold LY yG bE;cases eN != 1 with
 |true=>rfl
 | false=>
  rw[aq,aq,SK r (by omega),ak];have O:=amZ w r r.aB.length (dM _);rw[iW]at O;have hol:=SJ 0 r.aB;have Y:=am0 0 r.aB;generalize hL:opens 0 r.aB=L at *
  have hi:=we (λb:Int=>!nH w r b.toNat) L;have iT:∀ (k:Nat) (C:k<L.length),C7 ((w,(),(),(L.length:Int),(k:Int),()),((r.aB,r.aZ,()),L,()))=some (bif !nH w r L[k].toNat then .inr (.inl ((L[k],()),()))else .inl ((w,(),(),(L.length:Int),((k+1:Nat):Int),()),((r.aB,r.aZ,()),L,()))):=by
   intro k C;have⟨j,E,D⟩:=Y _ (cV C);rw[fk]at D;unfold C7 av aQ xG bk xL;dsimp only;rw[aW,au,az ⟨by omega,by omega⟩,az];simp only[bC,D];rw[aGp E T U,ak];simp only[eH];rw[bD];cases nH w r j<;>rfl
  rcases TT (λb:Int=>!nH w r b.toNat) L with ⟨E,D⟩|⟨E,D⟩
  ·have e:=cH (step:=C7) L.length (λk=>((w,(),(),(L.length:Int),(k:Int),()),((r.aB,r.aZ,()),L,()))) (.inr (.inl ((),()))) aS (λk C=>by
    have:=nA (p:=λb:Int=>!nH w r b.toNat) (q:=L) (i:=k) (by omega) C;rw[iT k C,this];rfl) (by
    unfold C7 av aQ xG bk xL;dsimp only;rw[aV,aq]) (bP)
   rw[cv]at e
   refine(aY (λo=>Option.bind o _) e).trans ?_
   rw[D]at O;by_cases Z:fI (sP w r) r.aB.length<0
   ·rcases uS (sP w r) r.aB.length with ⟨k1,_⟩ | ⟨j,_,k2,_⟩
    ·rw[k1];rfl
    ·omega
   ·grind
  ·have e:=cH (step:=C7) (dx (λb:Int=>!nH w r b.toNat) L) (λk=>((w,(),(),(L.length:Int),(k:Int),()),((r.aB,r.aZ,()),L,()))) (.inl ((L[dx (λb:Int=>!nH w r b.toNat) L],()),())) aS (λk C=>by
    have:=nA (p:=λb:Int=>!nH w r b.toNat) (q:=L) (i:=k) C (by omega);rw[iT k (by omega),this];rfl) (by
    have:=rq (p:=λb:Int=>!nH w r b.toNat) (q:=L) E;rw[iT _ E,this];rfl) (bP)
   rw[cv]at e
   refine(aY (λo=>Option.bind o _) e).trans ?_
   rw[D]at O;by_cases Z:fI (sP w r) r.aB.length<0
   ·grind
   ·simp[*]
def aGs{r:cy}(eN:Int){w:aa aI}(L:r.aB.length <= 1048576)(O:w.length <= 1000):Q9 r eN w=some (yG r eN w):=by
 unfold Q9 yG bE;cases eN != 1 with
 |true=>rfl
 | false=>
  have iT:∀ k (C:k<r.aB.length),CN ((w,(),k,()),((r.aB,r.aZ,()),()))=some (bif sP w r k then .inr (.inl ((k,()),()))else .inl ((w,(),((k+1):Int),()),((r.aB,r.aZ,()),()))):=by
   intro k C;have T:(jf r (k:Int)).open_=r.aB[k].open_:=by rw[AS (by rw[bC];omega)];simp only[bC]
   unfold CN sP av aQ xG xI bk;dsimp only;rw[aW,au,az ⟨by omega,by omega⟩,T];simp only[bC];rw[aGq C L O,ak];simp only[eH];rw[bD];cases r.aB[k].open_<;>cases nH w r k<;>rfl
  rcases uS (sP w r) _ with ⟨D,E⟩|⟨j,D,E,U,Y⟩
  ·have e:=cH (step:=CN) r.aB.length (λk=>((w,(),(k:Int),()),((r.aB,r.aZ,()),()))) (.inr (.inl ((),()))) aS (λk C=>by
    rw[iT k C,E k C];rfl) (by
    unfold CN av aQ xG xI bk;dsimp only;rw[aV,aq]) (bP)
   rw[cv]at e
   refine(aY (λo=>Option.bind o _) e).trans ?_
   rw[D];rfl
  ·have e:=cH (step:=CN) j (λk=>((w,(),(k:Int),()),((r.aB,r.aZ,()),()))) (.inl (((j:Int),()),())) aS (λk C=>by
    rw[iT k (by omega),Y k C];rfl) (by
    rw[iT j D,U];rfl) (bP)
   rw[cv]at e
   refine(aY (λo=>Option.bind o _) e).trans ?_
   rw[E];rfl
def cC(c:ax):Int:=uL c.box.bI.eI c.aZ (wo c)
def GB(c:ax)(i:Nat):Bool:=!((fy c).any λa=>a.ay==(i:Int))
def gF(c:ax):Int:=A3 c.aP (GB c)
def hJ(c:ax):Int:=yG c.bq c.box.bI.eN (fy c)
def yH(c:ax):aa aG:=bif decide (gF c >= 0) && !nE c (gF c)then [gV c (gF c)]else []
def sQ(c:ax):aa aG:=bif decide (hJ c >= 0)then [⟨4,hJ c,0,0⟩]else []
def oy(c:ax):aa aG:=bif cC c==8&&decide (((opens 0 c.bq.aB).length:Int) > 0)then [⟨4,(opens 0 c.bq.aB).headD 0,0,0⟩]else bif cC c != 0 then [⟨cC c,0,0,0⟩]else []
def sR(c:ax)(l:aa aG):aG:=(l.find? (dy c)).getD rE
def fnd_nil(c:ax):sR c []=rE:=rfl
def fnd_cons(c:ax)(x:aG)(l:aa aG):sR c (x :: l)=bif dy c x then x else sR c l:=by
 unfold sR;rw[List.find?_cons];cases dy c x<;>rfl
def TV(c:ax)(w:Int):ah aG:=
 let D:Int->Int->Int->Int->ah (aG):=λE L O T=>(let U:Bool->ah (aG):=λY=>bif Y then some (⟨E,L,O,T⟩:aG)else some (⟨(0:Int),(0:Int),(0:Int),(0:Int)⟩:aG);bif (E != (0:Int))then (iN c (⟨E,L,O,T⟩:aG)).bind λZ=>(U Z)else (U false));bif (w==(8:Int))then (Ao c.bq).bind λC=>bif (decide ((C.length:Int) > (0:Int)))then if tG:0<=(0:Int)/\(0:Int).toNat<C.length then if uf:(0:Int).toNat<C.length then (let oY:=C[(0:Int).toNat]'uf;(D (4:Int) oY (0:Int) (0:Int)))else none else none else (D w 0 0 0)else (D w 0 0 0)
def DH(c:ax)(D:aa aI)(w:Int):ah aG:=
 (LY c.bq c.box.bI.eN D).bind λC=>bif (C != (-1:Int))then (iN c (⟨(4:Int),C,(0:Int),(0:Int)⟩:aG)).bind λE=>bif E then some (⟨(4:Int),C,(0:Int),(0:Int)⟩:aG)else TV c w else TV c w
def am1(c:ax)(O:aa Int)(D:aa aI)(w:Int)(idle:aa Bool):ah aG:=
 (LX c.aP idle).bind λC=>(let E:Bool->ah (aG):=λT=>bif T then (Av c C (⟨(5:Int),C,(0:Int),(0:Int)⟩:aG)).bind λL=>(iN c L).bind λU=>bif U then some L else DH c D w else DH c D w;bif (C != (-1:Int))then (vS O C).bind λY=>(E (!Y))else (E false))
def TW(c:ax):cC c=0\/6<=cC c/\cC c<=9:=aEO _ _ _
def aGt(l:aa Int)(h:0<l.length):l.headD 0=l[0]:=by
 cases l with
 |nil=>cases h
 |cons x l=>rfl
def aa2(c:ax)(h:Pq c)(C:0<(opens 0 c.bq.aB).length):(0 <= (opens 0 c.bq.aB)[0]/\(opens 0 c.bq.aB)[0]<bf c.config.aE)/\(opens 0 c.bq.aB).headD 0=(opens 0 c.bq.aB)[0]:=by
 have⟨j,D,E⟩:=am0 0 _ _ (cV C);have:=h.p.bl;exact⟨by omega,aGt _ C⟩
def aGu{c:ax}(h:Pq c):TV c (cC c)=some (sR c (oy c)):=by
 have lX:=wB h;have hw:=TW c;have D:=h.p.R.sJ;have O:cC c≠0 -> iN c ⟨cC c,0,0,0⟩=some (dy c ⟨cC c,0,0,0⟩):=λhn=>yp h.p (Tu D (by omega))
 have T:(bif (cC c != (0:Int))then (iN c (⟨cC c,0,0,0⟩:aG)).bind λU=>(bif U then some (⟨cC c,0,0,0⟩:aG)else some rE)else some rE)=some (sR c (bif cC c != 0 then [⟨cC c,0,0,0⟩]else [])):=by
  by_cases C:cC c=0
  ·rw[C];rfl
  ·rw[fO C,au,au,O C,fnd_cons,fnd_nil]
   grind
 unfold TV oy;dsimp only;by_cases E:cC c=8
 ·have Y:(cC c==8)=true:=by rw[E];rfl
  rw[Y,au,SK _ (by omega),ak,cu];by_cases L:0<(opens 0 c.bq.aB).length
  ·have⟨Z,k2⟩:=aa2 c h L;rw[aW,au,au,az ⟨by omega,L⟩,az,k2];show (bif ((4:Int) != 0)then (iN c ⟨4,(opens 0 c.bq.aB)[0],0,0⟩).bind _ else _)=_;rw[yp h.p (AT D (.inl rfl) Z),fnd_cons,fnd_nil];cases dy c ⟨4,(opens 0 c.bq.aB)[0],0,0⟩<;>rfl
  ·rw[aV,aq];exact T
 ·rwa [kU E,aq,Bool.false_and,aq]
def aGv{c:ax}(h:Pq c):DH c (fy c) (cC c)=some (sR c (sQ c++oy c)):=by
 have C:=wB h;have E:=h.ql;have L:=h.p.bl;have O:-1 <= hJ c/\hJ c<c.bq.aB.length:=aa1 _ _ _;unfold DH sQ;rw[aGr _ C (by rw[uR];omega),ak];show (bif hJ c != -1 then (iN c ⟨4,hJ c,0,0⟩).bind _ else _)=_;rw[aGu h];by_cases D:hJ c >= 0
 ·rw[fO (by omega:¬ hJ c = -1),au,aW D,au,yp h.p (AT h.p.R.sJ (.inl rfl) (by omega)),ak,List.singleton_append,fnd_cons];cases dy c ⟨4,hJ c,0,0⟩<;>rfl
 ·grind
def aGw{c:ax}(h:Pq c):am1 c (cB 0 c.aP.aH) (fy c) (cC c) ((List.range c.aP.aH.length).map (GB c))=some (sR c (yH c++(sQ c++oy c))):=by
 have Y:=wB h;have L:=nB h.rf;have Z:=h.p.bl;have hdn:=h.dl;have hb:-1 <= gF c/\gF c<c.aP.aH.length:=aa0 _ _;unfold am1 yH;rw[aGn h.rf,ak];show (bif gF c != -1 then (vS (cB 0 c.aP.aH) (gF c)).bind λO=>(bif !O then (Av c (gF c) ⟨5,gF c,0,0⟩).bind λD=>(iN c D).bind λC=>bif C then some D else DH c (fy c) (cC c)else DH c (fy c) (cC c))else DH c (fy c) (cC c))=_;rw[aGv h];by_cases T:gF c >= 0
 ·have E:0 <= gF c/\gF c<bf c.config.aE:=by omega
  rw[fO (by omega:¬ gF c = -1),au,aW T,cu,(aaP L.1 (by omega) (by omega)),ak];cases nE c (gF c)with
  |true=>rfl
  | false=>
   have U:dL c.config.aE (gV c (gF c))=true:=TU h E (AT h.p.R.sJ (.inr rfl) E);rw[iX,au,au,aaW _ (by omega) (by omega),ak];show ((iN c (gV c (gF c))).bind λC=>bif C then some (gV c (gF c))else _)=_;rw[yp h.p U,ak,List.singleton_append,fnd_cons]
   grind
 ·grind
def aGx{c:ax}(h:Pq c):L0 c (cB 0 c.aP.aH) (fy c) ⟨cC c,0,0,0⟩=some (sR c (yH c++(sQ c++oy c))):=by
 have D:=wB h;have E:=h.ql;have L:=h.p.bl;have O:=h.dl;have T:=nB h.rf;have C:c.bq.aB.length=c.aP.aH.length:=by omega
 have e:=cH (step:=LZ) c.bq.aB.length (λi=>((cB 0 c.aP.aH,fy c,(),(),(),(),(c.bq.aB.length:Int),(i:Int),()),(c,(cC c,(0:Int),(0:Int),(0:Int),()),((0:Int),(0:Int),(0:Int),(0:Int),()),(List.range i).map (GB c),()))) _ aS (λk U=>by
  unfold LZ av xG;dsimp only;rw[aW,au,aaB _ _ (by rw[uR];omega),ak,eG,cO,lT,di,au,bD,List.range_succ,List.map_append];rfl) (by
  unfold LZ av xG;dsimp only;rw[aV,aq]) (bP)
 rw[cv]at e;unfold L0 bk xL
 refine(aY (λo=>Option.bind o _) e).trans ?_
 rw[ak,C];exact aGw h
def aGy{c:ax}(h:Pq c):(oy c).length <= 1 /\ ∀ x∈oy c,dL c.config.aE x=true:=by
 have Y:=TW c;have D:=h.p.R.sJ;have E:(bif cC c != 0 then [(⟨cC c,0,0,0⟩:aG)]else []).length <= 1 /\ ∀ x∈(bif cC c != 0 then [⟨cC c,0,0,0⟩]else []),dL c.config.aE x=true:=by
  by_cases L:cC c=0
  ·simp_all
  ·rw[fO L];exact⟨dM _,λx C=>by rw[List.mem_singleton.1 C];exact Tu D (by omega)⟩
 unfold oy;cases cC c==8 with
 |false=>exact E
 | true=>
  by_cases O:0<(opens 0 c.bq.aB).length
  ·have⟨T,U⟩:=aa2 c h O;rw[aW,U];exact⟨dM _,λx C=>by rw[List.mem_singleton.1 C];exact AT D (.inl rfl) T⟩
  ·simp_all
def aGz{c:ax}(h:Pq c):(sQ c).length <= 1 /\ ∀ x∈sQ c,dL c.config.aE x=true:=by
 have E:=h.p.bl;have L:-1 <= hJ c/\hJ c<c.bq.aB.length:=aa1 _ _ _;unfold sQ;by_cases C:hJ c >= 0
 ·rw[aW C];exact⟨dM _,λx D=>by rw[List.mem_singleton.1 D];exact AT h.p.R.sJ (.inl rfl) (by omega)⟩
 ·grind
def aGA{c:ax}(h:Pq c):(yH c).length <= 1 /\ ∀ x∈yH c,dL c.config.aE x=true:=by
 have L:=h.dl;have O:-1 <= gF c/\gF c<c.aP.aH.length:=aa0 _ _;unfold yH;by_cases D:gF c >= 0
 ·have C:0 <= gF c/\gF c<bf c.config.aE:=by omega
  rw[aW D];cases nE c _ with
  |true=>simp_all
  |false=>exact⟨dM _,λx E=>by rw[List.mem_singleton.1 E];exact TU h C (AT h.p.R.sJ (.inr rfl) C)⟩
 ·grind
def aGB{c:ax}(h:Pq c):Ra c (cC c)=some (yH c++(sQ c++oy c)):=by
 have Z:=wB h;have hq:=h.ql;have Zl:=h.p.bl;have hdn:=h.dl;have Gc:=nB h.rf;have D3:c.bq.aB.length=c.aP.aH.length:=by omega
 have oN:-1 <= gF c/\gF c<c.aP.aH.length:=aa0 _ _;have gJ:-1 <= hJ c/\hJ c<c.bq.aB.length:=aa1 _ _ _;have hol:=SJ 0 c.bq.aB;have e:=cH (step:=KN) c.bq.aB.length (λi=>((c,cC c,(),(),(),(i:Int),()),(([]:aa aG),fy c,(List.range i).map (GB c),()))) (.inl ((c,cC c,(),(),(),()),(([]:aa aG),fy c,(List.range c.bq.aB.length).map (GB c),()))) aS (λk hk=>by
  unfold KN av xG;dsimp only;rw[aW,au,aaV _ _ (by rw[uR];omega),ak,eG,cO,lT,di,au,bD,List.range_succ,List.map_append];rfl) (by
  unfold KN av xG;dsimp only;rw[aV,aq]) (bP)
 rw[cv]at e;have E:∀l:aa aG,l.length <= 5 -> bO (l.length+1)=true:=λl D=>di
 -- the end
 have tl:∀ l:aa aG,l.length <= 5 -> (bif (cC c==(8:Int))then (bif (decide (((opens 0 c.bq.aB).length:Int) > (0:Int)))then (if O:0 <= (0:Int)/\(0:Int).toNat<(opens 0 c.bq.aB).length then if C:(0:Int).toNat<(opens 0 c.bq.aB).length then (bif bO (l.length+([(⟨(4:Int),(opens 0 c.bq.aB)[(0:Int).toNat]'C,(0:Int),(0:Int)⟩:aG)]:aa aG).length)then some (l++([(⟨(4:Int),(opens 0 c.bq.aB)[(0:Int).toNat]'C,(0:Int),(0:Int)⟩:aG)]:aa aG))else none)else none else none)else (bif (cC c != (0:Int))then bif bO (l.length+([(⟨cC c,(0:Int),(0:Int),(0:Int)⟩:aG)]:aa aG).length)then some (l++([(⟨cC c,(0:Int),(0:Int),(0:Int)⟩:aG)]:aa aG))else none else some l))else (bif (cC c != (0:Int))then bif bO (l.length+([(⟨cC c,(0:Int),(0:Int),(0:Int)⟩:aG)]:aa aG).length)then some (l++([(⟨cC c,(0:Int),(0:Int),(0:Int)⟩:aG)]:aa aG))else none else some l))=some (l++oy c):=by
  intro l D;have z:(bif (cC c != (0:Int))then bif bO (l.length+([(⟨cC c,(0:Int),(0:Int),(0:Int)⟩:aG)]:aa aG).length)then some (l++([(⟨cC c,(0:Int),(0:Int),(0:Int)⟩:aG)]:aa aG))else none else some l)=some (l++(bif cC c != 0 then [(⟨cC c,0,0,0⟩:aG)]else [])):=by
   rw[lT,E l D];cases cC c != 0 with
   |true=>rfl
   |false=>rw[aq,aq,List.append_nil]
  unfold oy;cases cC c==8 with
  |false=>exact z
  | true=>
   rw[au,cu];by_cases L:0<(opens 0 c.bq.aB).length
   ·have⟨k1,k2⟩:=aa2 c h L;rw[aW (by omega:((opens 0 c.bq.aB).length:Int) > 0),au,au,az ⟨by omega,L⟩,az (show Int.toNat 0<(opens 0 c.bq.aB).length from L),lT,E l D,au,k2];rfl
   ·rw[aV (by omega:¬ ((opens 0 c.bq.aB).length:Int) > 0),aq,aq];exact z
 unfold Ra bk xL;rw[amn h,ak]
 refine(aY (λo=>Option.bind o _) e).trans ?_
 rw[ak,D3];simp only[eH,aGo h.rf,ak,aGs _ Z (show (fy c).length <= 1000 by rw[uR];omega),akZ _ (show c.bq.aB.length<1073741823 by omega)];have er:A3 c.aP (GB c)=gF c:=rfl;have ec:yG c.bq c.box.bI.eN (fy c)=hJ c:=rfl;rw[er,ec];have h1:∀ l:aa aG,l.length <= 4 -> (bif decide (hJ c >= 0)then bif bO (l.length+([(⟨4,hJ c,0,0⟩:aG)]:aa aG).length)then some ((l++([(⟨4,hJ c,0,0⟩:aG)]:aa aG))++oy c)else none else some (l++oy c))=some (l++(sQ c++oy c)):=by
  intro l D;unfold sQ;rw[lT,E l (by omega)];cases decide (hJ c >= 0)with
  |true=>rw[au,au,List.append_assoc];rfl
  |false=>rfl
 have T:∀ l:aa aG,l.length <= 1 -> (bif decide (hJ c >= 0)then bif bO (l.length+([(⟨4,hJ c,0,0⟩:aG)]:aa aG).length)then (bif (cC c==(8:Int))then (bif (decide (((opens 0 c.bq.aB).length:Int) > (0:Int)))then (if O:0 <= (0:Int)/\(0:Int).toNat<(opens 0 c.bq.aB).length then if C:(0:Int).toNat<(opens 0 c.bq.aB).length then (bif bO ((l++([(⟨4,hJ c,0,0⟩:aG)]:aa aG)).length+([(⟨(4:Int),(opens 0 c.bq.aB)[(0:Int).toNat]'C,(0:Int),(0:Int)⟩:aG)]:aa aG).length)then some ((l++([(⟨4,hJ c,0,0⟩:aG)]:aa aG))++([(⟨(4:Int),(opens 0 c.bq.aB)[(0:Int).toNat]'C,(0:Int),(0:Int)⟩:aG)]:aa aG))else none)else none else none)else (bif (cC c != (0:Int))then bif bO ((l++([(⟨4,hJ c,0,0⟩:aG)]:aa aG)).length+([(⟨cC c,(0:Int),(0:Int),(0:Int)⟩:aG)]:aa aG).length)then some ((l++([(⟨4,hJ c,0,0⟩:aG)]:aa aG))++([(⟨cC c,(0:Int),(0:Int),(0:Int)⟩:aG)]:aa aG))else none else some (l++([(⟨4,hJ c,0,0⟩:aG)]:aa aG))))else (bif (cC c != (0:Int))then bif bO ((l++([(⟨4,hJ c,0,0⟩:aG)]:aa aG)).length+([(⟨cC c,(0:Int),(0:Int),(0:Int)⟩:aG)]:aa aG).length)then some ((l++([(⟨4,hJ c,0,0⟩:aG)]:aa aG))++([(⟨cC c,(0:Int),(0:Int),(0:Int)⟩:aG)]:aa aG))else none else some (l++([(⟨4,hJ c,0,0⟩:aG)]:aa aG))))else none else (bif (cC c==(8:Int))then (bif (decide (((opens 0 c.bq.aB).length:Int) > (0:Int)))then (if O:0 <= (0:Int)/\(0:Int).toNat<(opens 0 c.bq.aB).length then if C:(0:Int).toNat<(opens 0 c.bq.aB).length then (bif bO (l.length+([(⟨(4:Int),(opens 0 c.bq.aB)[(0:Int).toNat]'C,(0:Int),(0:Int)⟩:aG)]:aa aG).length)then some (l++([(⟨(4:Int),(opens 0 c.bq.aB)[(0:Int).toNat]'C,(0:Int),(0:Int)⟩:aG)]:aa aG))else none)else none else none)else (bif (cC c != (0:Int))then bif bO (l.length+([(⟨cC c,(0:Int),(0:Int),(0:Int)⟩:aG)]:aa aG).length)then some (l++([(⟨cC c,(0:Int),(0:Int),(0:Int)⟩:aG)]:aa aG))else none else some l))else (bif (cC c != (0:Int))then bif bO (l.length+([(⟨cC c,(0:Int),(0:Int),(0:Int)⟩:aG)]:aa aG).length)then some (l++([(⟨cC c,(0:Int),(0:Int),(0:Int)⟩:aG)]:aa aG))else none else some l)))=some (l++(sQ c++oy c)):=by
  intro l D;rw[tl _ (by rw[List.length_append,lT];omega),tl _ (by omega)];exact h1 l (by omega)
 have U:=T [] (by simp);unfold yH;by_cases Y:gF c >= 0
 ·have hv:0 <= gF c/\gF c<bf c.config.aE:=by omega
  rw[aW Y,au,cu,(TP Gc.1 (by omega) (by omega)),ak];cases nE c (gF c)with
  |true=>exact U
  | false=>
   rw[iX,au,au,aaX _ (by show 0 <= gF c;omega) (by show (gF c).toNat<_;omega),ak,List.length_nil,lT,di,au];exact T [gV c (gF c)] (dM _)
 ·rw[aV Y,aq,Bool.false_and,aq];exact U
def aa3(c:ax):ah aG:=(qv c++rG c c.pending.length).find? (dy c)
def A4(c:ax):aG×Int:=
 bif c.aZ.state != 0 then (bif cC c != 0 then (bif dy c ⟨cC c,0,0,0⟩then (⟨cC c,0,0,0⟩,-1)else (rE,-1))else (rE,-1))else
 match aa3 c with
 |some x=>(x,-1)
 |none=>bif decide ((A0 c).2 >= 0)then A0 c else (sR c (yH c++(sQ c++oy c)),-1)
def aGC(c:ax)(l:aa aG):M5 c l=(sR c l,(l.find? (dy c)).isSome):=by
 unfold M5 sR;cases l.find? (dy c)<;>rfl
def aGD{c:ax}(h:Pq c):Ag c=some (bif decide ((c.trace.length:Int) >= 2000)then (rE,-1)else A4 c):=by
 have D:=h.p.R.sJ;have Y:=TW c;have Z:=h.pl;have Gc:=nB h.rf;have ul:=Dx 0 c.aP.aH;have E:=aGA h;have L:=aGz h;have O:=aGy h;unfold Ag;cases decide ((c.trace.length:Int) >= 2000)with
 |true=>rfl
 | false=>
  rw[aq,aq,alR h.rf,ak,aEN _ _ _ h.eI h.pw,ak];have T:uL c.box.bI.eI c.aZ (wo c)=cC c:=rfl;rw[T];unfold A4;cases c.aZ.state != 0 with
  | true=>
   rw[au,au];by_cases C:cC c=0
   ·rw[C];rfl
   ·rw[kU C,fO C,Tq h.p (Tu D (by omega))];cases dy c ⟨cC c,0,0,0⟩<;>rfl
  | false=>
   rw[aq,aq,aGm h,ak,amV h (by
    rw[List.length_append];have:=amY c c.pending.length;have:(qv c).length=(cB 0 c.aP.aH).length:=by unfold qv;rw[eG]
    omega) (λx hx=>by
    rcases List.mem_append.1 hx with hx|hx
    ·obtain⟨b,U,rfl⟩:=List.mem_map.1 hx;exact(amW h U).2
    ·obtain⟨i,hi,rfl⟩:=List.mem_map.1 hx;exact amX h (gk.1 (List.mem_filter.1 hi).1)),ak]
   unfold M5 aa3;cases (qv c++rG c c.pending.length).find? (dy c)with
   |some x=>rfl
   | none=>
    dsimp only;rw[aq,aGl h,ak];cases decide ((A0 c).2 >= 0)with
    |true=>rfl
    | false=>
     rw[aq,aq,aGB h,ak,amV h (by rw[List.length_append,List.length_append];omega) (λx hx=>by
      rcases List.mem_append.1 hx with hx|hx
      ·exact E.2 x hx
      ·rcases List.mem_append.1 hx with hx | hx
       ·exact L.2 x hx
       ·exact O.2 x hx),ak,aGC]
def aGE(p:Nat -> Bool)(n:Nat):dx p (List.range n) <= n/\(∀ k,k<dx p (List.range n) -> p k=false)/\(dx p (List.range n)<n -> p (dx p (List.range n))=true):=by
 have C:=we p (List.range n);rw[cO]at C
 refine⟨C,λk D=>?_,λE=>?_⟩
 ·have:=nA D (by rw[cO];omega);simp_all
 ·have:=rq (p:=p) (q:=List.range n) (by rw[cO];exact E)
  rwa [iU]at this
def aGF(c:ax)(n:Nat):(rG c n).find? (dy c)=if dx (λi=>qt c i&&dy c (jB c i)) (List.range n)<n then some (jB c (dx (λi=>qt c i&&dy c (jB c i)) (List.range n)))else none:=by
 unfold rG;rw[List.find?_map,List.find?_filter];have e:(List.range n).find? (λa=>decide (qt c a=true/\(dy c ∘ jB c) a=true))=(List.range n).find? (λi=>qt c i&&dy c (jB c i)):=by
  simp_all
 rw[e];rcases TT (λi=>qt c i&&dy c (jB c i)) (List.range n)with ⟨C,D⟩|⟨C,D⟩
 ·simp_all
 ·grind
def aGG{c:ax}(h:Pq c):Sh c=some (A4 c):=by
 have Z:=h.p.R.sJ;have hw:=TW c;have rL:=h.pl;have Gc:=nB h.rf;have ul:=Dx 0 c.aP.aH;have Zl:=h.p.bl;have hdn:=h.dl;unfold Sh bE;rw[aat h.rf,ak,alQ h.rf,ak,aEM _ _ _ h.eI h.pw,ak];have ew:uL c.box.bI.eI c.aZ (wo c)=cC c:=rfl;rw[ew];unfold A4;cases c.aZ.state != 0 with
 | true=>
  rw[au,au];by_cases T:cC c=0
  ·rw[T];rfl
  ·rw[fO T,au,au,yp h.p (Tu Z (by omega)),ak];cases dy c ⟨cC c,0,0,0⟩<;>rfl
 | false=>
  rw[aq,aq];have iT:∀ (k:Nat) (C:k<(cB 0 c.aP.aH).length),C8 (((),(),(),(),(),((cB 0 c.aP.aH).length:Int),(k:Int),()),(c,((0:Int),(0:Int),(0:Int),(0:Int),()),cB 0 c.aP.aH,(cC c,(0:Int),(0:Int),(0:Int),()),()))=some (bif dy c (gV c (cB 0 c.aP.aH)[k])then .inr (.inl (((),(-1:Int),()),(((gV c (cB 0 c.aP.aH)[k]).kind,(gV c (cB 0 c.aP.aH)[k]).ay,(gV c (cB 0 c.aP.aH)[k]).row,(gV c (cB 0 c.aP.aH)[k]).bR,()),())))else .inl (((),(),(),(),(),((cB 0 c.aP.aH).length:Int),((k+1:Nat):Int),()),(c,((0:Int),(0:Int),(0:Int),(0:Int),()),cB 0 c.aP.aH,(cC c,(0:Int),(0:Int),(0:Int),()),()))):=by
   intro k C;have⟨k1,k2⟩:=amW h (cV C);unfold C8 av aQ xG xL;dsimp only;rw[aW,au,az ⟨by omega,by omega⟩,az];simp only[bC];rw[aaW _ (by omega) (by omega),ak];show ((iN c (gV c (cB 0 c.aP.aH)[k])).bind _)=_;rw[yp h.p k2,ak,bD];cases dy c (gV c (cB 0 c.aP.aH)[k])<;>rfl
  have hfu:(qv c).find? (dy c)=((cB 0 c.aP.aH).find? (λb=>dy c (gV c b))).map (gV c):=by
   unfold qv;rw[List.find?_map];rfl
  unfold aa3;rw[List.find?_append,hfu,aGF];rcases TT (λb=>dy c (gV c b)) (cB 0 c.aP.aH)with ⟨L,U⟩|⟨L,U⟩
  ·have e:=cH (step:=C8) (cB 0 c.aP.aH).length (λk=>(((),(),(),(),(),((cB 0 c.aP.aH).length:Int),(k:Int),()),(c,((0:Int),(0:Int),(0:Int),(0:Int),()),cB 0 c.aP.aH,(cC c,(0:Int),(0:Int),(0:Int),()),()))) (.inr (.inl (((),(),(),(),()),(c,((0:Int),(0:Int),(0:Int),(0:Int),()),cB 0 c.aP.aH,(cC c,(0:Int),(0:Int),(0:Int),()),())))) aS (λk C=>by
    have:=nA (p:=λb=>dy c (gV c b)) (q:=cB 0 c.aP.aH) (i:=k) (by omega) C;rw[iT k C,this];rfl) (by
    unfold C8 av aQ xG xL;dsimp only;rw[aV,aq]) (bP)
   rw[cv]at e
   refine(aY (λo=>Option.bind o _) e).trans ?_
   rw[ak,U];simp only[Sum.elim_inr,eH,Option.map_none,Option.none_or];have⟨i1,i2,i3⟩:=aGE (λi=>qt c i&&dy c (jB c i)) c.pending.length;have O:∀ (k:Nat) (C:k<c.pending.length),C9 (((),(),(),(),c.pending,(c.pending.length:Int),(k:Int),()),(c,((0:Int),(0:Int),(0:Int),(0:Int),()),cB 0 c.aP.aH,(cC c,(0:Int),(0:Int),(0:Int),()),()))=some (bif qt c k&&dy c (jB c k)then .inr (.inl (((),(-1:Int),()),(((jB c k).kind,(jB c k).ay,(jB c k).row,(jB c k).bR,()),())))else .inl (((),(),(),(),c.pending,(c.pending.length:Int),((k+1:Nat):Int),()),(c,((0:Int),(0:Int),(0:Int),(0:Int),()),cB 0 c.aP.aH,(cC c,(0:Int),(0:Int),(0:Int),()),()))):=by
    intro k C;have⟨ho,Y,o2,o3,o4⟩:=aaZ h C;unfold C9 av aQ xG xI;dsimp only;rw[aW,au,az ⟨by omega,by omega⟩,bD];simp only[bC,aaY,(aaP Gc.1 Y o3),ak,Int.toNat_zero,List.drop_zero];have ek:qt c k=(!nE c (mF c k).ay && !((c.pending.take k).any λa=>a.ay==(mF c k).ay)):=rfl;rw[ek];cases nE c (mF c k).ay with
    |true=>rfl
    | false=>
     rw[aq,bL ⟨by omega,by omega,by omega⟩,aaB _ _ (by rw[fJ];omega),ak];cases (c.pending.take k).any λa=>a.ay==(mF c k).ay with
     |true=>rfl
     | false=>
      rw[aq,aaW _ Y o2,ak];show ((iN c (jB c k)).bind _)=_;rw[yp h.p (amX h C)];cases dy c (jB c k)<;>rfl
   by_cases E:dx (λi=>qt c i&&dy c (jB c i)) (List.range c.pending.length)<c.pending.length
   ·rw[bL E];generalize hN:dx (λi=>qt c i&&dy c (jB c i)) (List.range c.pending.length)=N at *
    have D:=cH (step:=C9) N (λk=>(((),(),(),(),c.pending,(c.pending.length:Int),(k:Int),()),(c,((0:Int),(0:Int),(0:Int),(0:Int),()),cB 0 c.aP.aH,(cC c,(0:Int),(0:Int),(0:Int),()),()))) (.inl (((),(-1:Int),()),(((jB c N).kind,(jB c N).ay,(jB c N).row,(jB c N).bR,()),()))) aS (λk C=>by
     rw[O k (by omega),i2 k C];rfl) (by
     rw[O N E,i3 E];rfl) (bP)
    rw[cv]at D
    refine(aY (λo=>Option.bind o _) D).trans ?_
    rfl
   ·rw[bX E];have D:=cH (step:=C9) c.pending.length (λk=>(((),(),(),(),c.pending,(c.pending.length:Int),(k:Int),()),(c,((0:Int),(0:Int),(0:Int),(0:Int),()),cB 0 c.aP.aH,(cC c,(0:Int),(0:Int),(0:Int),()),()))) (.inr (.inl (((),(),(),(),()),(c,((0:Int),(0:Int),(0:Int),(0:Int),()),cB 0 c.aP.aH,(cC c,(0:Int),(0:Int),(0:Int),()),())))) aS (λk C=>by
     rw[O k C,i2 k (by omega)];rfl) (by
     unfold C9 av aQ xG xI;dsimp only;rw[aV,aq]) (bP)
    rw[cv]at D
    refine(aY (λo=>Option.bind o _) D).trans ?_
    rw[ak];simp only[Sum.elim_inr,eH];rw[aFF h,ak,aGj h,ak];cases decide ((A0 c).2 >= 0)with
    |true=>rfl
    | false=>
     rw[aq,aq];show ((L0 c (cB 0 c.aP.aH) (fy c) ⟨cC c,0,0,0⟩).bind _)=_;rw[aGx h,ak]
  ·have e:=cH (step:=C8) (dx (λb=>dy c (gV c b)) (cB 0 c.aP.aH)) (λk=>(((),(),(),(),(),((cB 0 c.aP.aH).length:Int),(k:Int),()),(c,((0:Int),(0:Int),(0:Int),(0:Int),()),cB 0 c.aP.aH,(cC c,(0:Int),(0:Int),(0:Int),()),()))) (.inl (((),(-1:Int),()),(((gV c (cB 0 c.aP.aH)[dx (λb=>dy c (gV c b)) (cB 0 c.aP.aH)]).kind,(gV c (cB 0 c.aP.aH)[dx (λb=>dy c (gV c b)) (cB 0 c.aP.aH)]).ay,(gV c (cB 0 c.aP.aH)[dx (λb=>dy c (gV c b)) (cB 0 c.aP.aH)]).row,(gV c (cB 0 c.aP.aH)[dx (λb=>dy c (gV c b)) (cB 0 c.aP.aH)]).bR,()),()))) aS (λk C=>by
    have:=nA (p:=λb=>dy c (gV c b)) (q:=cB 0 c.aP.aH) (i:=k) C (by omega);rw[iT k (by omega),this];rfl) (by
    have:=rq (p:=λb=>dy c (gV c b)) (q:=cB 0 c.aP.aH) L;rw[iT _ L,this];rfl) (bP)
   simp_all
def aGH{r:cy}{x:aG}(C:x.kind <= 5):(fU r x).aZ=r.aZ:=by
 unfold fU
 grind
def iS.dW{c:ax}(p:iS c)(x:aG):iS (dW c x):=⟨p.dl,p.tl,p.gl,p.t,p.g,p.pd,p.u⟩
def Ck.dW{c:ax}(h:Ck c){x:aG}(C:mB c.config.aE c.bq x=true)(D:x.kind<=5)(E:c.trace.length<2000):Ck (dW c x):=by
 simp only[mB,aN]at C;exact⟨h.f1,h.f2,h.nw,ak8 C.1 C.2.1 C.2.2,amK _ h.rd,h.ar,h.sp,h.se,h.rf,((iS.of h.pa).dW x).ok,h.qu,h.sh,h.sl,h.dr,h.pw,h.ps.trans (aGH D).symm,h.si,h.s1,h.s2,h.s3,h.er,by simp[Proofs.YtnilicojgkhpnaaGreat.dW];omega,h.rp⟩
def Ck.opn{c:ax}(h:Ck c){x:aG}(E:0 <= x.ay)(L:x.ay<bf c.config.aE)(O:0 <= x.row)(T:x.row<c.config.aE.rows):Ck (uO c x):=by
 have C:=(Ge h.rk).1;have gb:=fF C;have p:=iS.of h.pa;have TM:=p.tl;have hgl:=p.gl;have U:x.ay.toNat<c.bH.length:=by omega
 have D:eX c.config.aE 100000 (uJ c.config.aE c.config.dO c.array x.ay x.row):=aao C c.config.dO (by decide) (eX.wC h.ar) E L O T;have Y:∀a∈ov c x,fj c.config.aE a=true/\a.bR=0:=λa D=>p.pd a (List.mem_filter.1 D).1
 have Z:(ov c x).Pairwise (λx y=>x≠y):=p.u.filter _;have q:(∀ a∈(uO c x).pending,fj c.config.aE a=true/\a.bR=0)/\(uO c x).pending.Pairwise (λx y=>x≠y):=by
  show (∀a∈(bif (sL c x).2 then (lQ c.config.aE.rows x.row).foldl (mD x.ay) (ov c x)else ov c x),fj c.config.aE a=true/\a.bR=0)/\(bif (sL c x).2 then (lQ c.config.aE.rows x.row).foldl (mD x.ay) (ov c x)else ov c x).Pairwise (λx y=>x≠y);cases (sL c x).2 with
  |false=>simp_all
  | true=>
   refine amE _ (λn hn=>?_) Y Z
   have:=alf O T n hn;exact Dc C E L this.1 this.2 (Int.le_refl 0) (by show 0<_;omega)
 have hp:iS (uO c x):=⟨p.dl,by show ((c.bH.set x.ay.toNat (sL c x).1).length:Int)=_;rw[gz];exact p.tl,p.gl,GA p.t (by unfold sL;rw[nD _ U];exact aF3 (p.t _ (cV U)) _ _),p.g,q.1,q.2⟩
 exact⟨h.f1,h.f2,h.nw,h.rk,h.rd,DF C D,h.sp,h.se,h.rf,hp.ok,h.qu,h.sh,h.sl,h.dr,h.pw,h.ps,h.si,h.s1,h.s2,h.s3,h.er,h.tr,h.rp⟩
def Ck.ref{c:ax}(h:Ck c)(E:c.box.bI.weights.length<1073741823)(L:aL c.config.iz 1 16=true){b:Int}(O:0 <= b)(T:b<bf c.config.aE):Ck (TK c b):=by
 have C:=(Ge h.rk).1;have Y:=fF C;have p:=iS.of h.pa;have Z:=p.dl;have D:eX _ 100000 (qk _ c.config.dO c.array b c.config.aE.rows.toNat):=Gx C _ (by decide) (eX.wC h.ar) O T _ (by omega);have U:iS (TK c b):=⟨by show ((wz c.aP b).aH.length:Int)=_;rw[amx];exact p.dl,by show ((c.bH.set b.toNat _).length:Int)=_;rw[gz];exact p.tl,by show ((c.guard.set b.toNat _).length:Int)=_;rw[gz];exact p.gl,GA p.t (amF L),GA p.g (amG E h.f1),λa D=>p.pd a (List.mem_filter.1 D).1,p.u.filter _⟩
 exact⟨h.f1,h.f2,h.nw,h.rk,h.rd,DF C D,h.sp,h.se,aGc h.rf (by omega),U.ok,h.qu,h.sh,h.sl,h.dr,h.pw,h.ps,h.si,h.s1,h.s2,h.s3,h.er,h.tr,h.rp⟩
def aa4{T:Type}{p:T->Prop}{l:aa T}{x:T}(h:∀ y∈l,p y)(C:p x):∀ k:Nat,∀ y∈(List.range k).foldl (λd b=>d.set b x) l,p y
 |0=>h
 | k+1=>by
  rw[yz];exact GA (aa4 h C k) C
def am2{r:de}(h:fB r=true):∀ k:Nat,fB ⟨(List.range k).foldl (λd b=>d.set b 0) r.aH,r.wait,r.dS⟩=true
 |0=>h
 | k+1=>by
  rw[yz];exact amN (am2 h k) k (by omega)
def Ck.Tz{c:ax}(h:Ck c)(E:c.box.bI.weights.length<1073741823)(L:aL c.config.iz 1 16=true)(n:Nat)(O:(n:Int) <= bf c.config.aE):Ck (gy c n []):=by
 have D:=(Ge h.rk).1;have p:=iS.of h.pa;have C:=Ty D c.config.dO (by decide) (eX.wC h.ar) n O;have T:iS (gy c n []):=⟨by show (((List.range n).foldl _ c.aP.aH).length:Int)=_;rw[yA];exact p.dl,by show (((List.range n).foldl _ c.bH).length:Int)=_;rw[yA];exact p.tl,by show (((List.range n).foldl _ c.guard).length:Int)=_;rw[yA];exact p.gl,aa4 p.t (amF L) n,aa4 p.g (amG E h.f1) n,λa C=>(by cases C),List.Pairwise.nil⟩
 exact⟨h.f1,h.f2,h.nw,h.rk,h.rd,DF D C,h.sp,h.se,am2 h.rf n,T.ok,h.qu,h.sh,h.sl,h.dr,h.pw,h.ps,h.si,h.s1,h.s2,h.s3,h.er,h.tr,h.rp⟩
def Ck.acc{c:ax}(h:Ck c){i:Nat}(C:ow c i 100000)(hr:c.cT.length<400):Ck (yE c i):=by
 have T:=(Ge h.rk).1;have p:=iS.of h.pa;have hi:=C.i;have⟨f1,f3,f4,f5,f6,f7,f8⟩:=C.facts (cV hi);have D:c.queue.getD i yD=c.queue[i]:=nD _ hi;have E:=C.d _ (cV hi);have U:=C.shl;have L:iQ (AY c.shares c.queue[i].dN)=true/\((AY c.shares c.queue[i].dN).length:Int)=4:=by
  have⟨y,t,e,hl,ho⟩:=aGa ((List.replicate 4 false).set c.queue[i].dN.toNat true) (by omega) h.sh (by simp[U])
  grind
 have Y:o8 (fH (jq c.config.aE c.spare)) (c.queue.take i++c.queue.drop (i+1))=true:=((Qk.of h.qu).sub (aF8 _ _)).ok;have key:∀ (a:cZ) (e:aa bU) (x:cX),eX c.config.aE 100000 a -> kH e=true -> Ck (pF c i a e x):=λa e x Z he=>
  ⟨h.f1,h.f2,h.nw,h.rk,h.rd,DF T Z,h.sp,h.se,h.rf,(show iS (pF c i a e x)from ⟨p.dl,p.tl,p.gl,p.t,p.g,p.pd,p.u⟩).ok,Y,by unfold pF;rw[D];exact L.1,by unfold pF;rw[D];exact L.2,h.dr,h.pw,h.ps,h.si,h.s1,h.s2,h.s3,he,h.tr,by simp[pF];omega⟩
 unfold yE;rw[D];dsimp only;cases c.queue[i].write with
 |true=>exact key _ _ _ (C.a.MG _ (c:=⟨_,false⟩) (MY E.1 E.2).2.1) h.er
 | false=>
  have O:=C.a.syms _ (cV f4);rw[aq,nD _ f4];refine key _ _ _ (C.a.MG _ (aaI O)) ?_;have hec:=TJ O;by_cases e:ke c.array.cells[rm c.config.aE (gE c c.queue[i].line)]=0
  ·rw[e];exact h.er
  ·rw[fO e,au];exact amL h.er ⟨by omega,f5⟩ (by omega)
def Ck.TX{c:ax}(h:Ck c){x:aG}(C:mB c.config.aE c.bq x=true)(D:6 <= x.kind/\x.kind <= 9)(U:c.trace.length<2000):Ck (DE (Proofs.YtnilicojgkhpnaaGreat.dW c x) x.kind):=by
 simp[mB,aN]at C;have E:=bJ.1 h.nw;have⟨L,O,T⟩:=aGd h.pw h.ps h.si E.2 D C.2.2;have p:=iS.of h.pa;exact⟨h.f1,h.f2,h.nw,ak8 C.1 C.2.1 C.2.2,amK _ h.rd,h.ar,h.sp,h.se,h.rf,(show iS _ from ⟨p.dl,p.tl,p.gl,p.t,p.g,p.pd,p.u⟩).ok,h.qu,h.sh,h.sl,h.dr,L,O,T,h.s1,h.s2,h.s3,h.er,by simp[DE,amu,Proofs.YtnilicojgkhpnaaGreat.dW];omega,h.rp⟩
def Ck.iss{c:ax}(L:eK c)(h:Ck c){x:aG}{i:Int}(E:wD c x i=true):Ck (yF c x i):=by
 have Y:=Pq.of L h.ok;have O:c.box.bI.weights.length<1073741823:=by
  have:=L.1.1;unfold AM at this;omega
 have Z:aL c.config.iz 1 16=true:=by
  have:=(Gu O h.f1).1;simp[og,aN]at this;exact this.2.2.2.2.2.1
 have⟨hb,C,hs,hr⟩:=amC L Y E;have D:c.trace.length<2000:=by
  simp only[wD,aN,hU,qw]at E;omega
 have hrp:x.kind=2 \/ x.kind=3 -> c.cT.length<400:=λT=>by
  simp only[wD,aN]at E;have e:(x.kind==2 ||x.kind==3)=true:=by rcases T with q|q<;>rw[q]<;>rfl
  rw[e,au]at E;simp[M4,aN,iV]at E;omega
 have⟨hg,hlen,T,hbk⟩:=MD C;have hc:dL c.config.aE x=true:=by
  simp only[mB,aN]at C
  grind
 have TM:=(iS.of h.pa).tl;have lX:=Y.p.bl;unfold yF;rcases kinds T with q|q|q|q|q|q|q|q|q<;>rw[q]<;>simp only[Int.reduceBEq,Int.reduceBNe,au,aq,Bool.or_true,Bool.or_false,Bool.true_or,Bool.false_or,Bool.or_self]
 ·have⟨U,oN⟩:=hbk (by omega);have⟨r0,r1⟩:=TL hc q;exact(h.dW C (by omega) D).opn U (by show x.ay<bf c.config.aE;omega) r0 r1
 ·exact(h.dW C (by omega) D).acc ((hs (.inl q)).1.dW x) (hrp (.inl q))
 ·exact(h.dW C (by omega) D).acc ((hs (.inr q)).1.dW x) (hrp (.inr q))
 ·exact h.dW C (by omega) D
 ·have⟨U,oN⟩:=hbk (by omega);exact(h.dW C (by omega) D).ref O Z U (by show x.ay<bf c.config.aE;omega)
 ·have:=h.TX C (by omega) D;rw[q]at this;exact this
 ·have:=h.TX C (by omega) D;rw[q]at this;exact this
 ·have:=h.TX C (by omega) D;rw[q]at this;exact this
 ·have:=h.TX C (by omega) D;rw[q]at this;exact this.Tz O Z _ (by show (c.bH.length:Int) <= bf c.config.aE;omega)
def sS(d:Int):Int:=if (5:Int)<W6 (d+1)then 5 else W6 (d+1)
def TY(x:ax):ah ax:=(tZ x).bind λC=>bif (C.1.kind != (0:Int))then (sA x C.1 C.2).bind λD=>some D.1 else some x
def TZ(x:ax)(n:Int):ah ax:=bif (decide (n >= (0:Int)))then (yb x n).bind λC=>(x7 C.2.1 n C.1.2).bind λD=>TY D.2.1 else TY x
abbrev M6:=ah (af×(ax×af))
def oz(j:ax)(b:gI)(s:aa bV)(d:gB)(p:eC)(u:kZ):ax:=⟨j.config,b,j.now,j.bq,j.ready,j.array,j.spare,j.aP,j.bH,j.guard,j.pending,j.queue,s,d,p,u,j.errors,j.trace,j.cT⟩
def T0(x:ax):M6:=(Ag x).bind λC=>(let D:Bool -> M6:=λE=>bif E then (Ak x C.1 C.2).bind λL=>some ((),(L.2.1,()))else some ((),(x,()));bif (C.1.kind != (0:Int))then (Ah x C.1 C.2).bind λO=>(D O)else (D false))
def T1(x:ax)(n:Int):M6:=bif (decide (n >= (0:Int)))then (CO x n).bind λC=>(CG C.2.1 n C.1.2).bind λD=>T0 D.2.1 else T0 x
def T2(j:ax):M6:=(Kd j.queue true).bind λT=>(Kb j.drain T).bind λD=>(CC (oz j j.box j.shares D j.aZ j.cK)).bind λU=>(Ke j.aZ U).bind λE=>(Kh j.box ((j.queue.length:Int)==(0:Int))).bind λC=>bif C.2 then (Cw C.1.bI.weights).bind λY=>(tS j.config.aE).bind λZ=>(CD j.cK Z).bind λL=>T1 (oz j C.1 Y.1 ⟨false,C.1.bI.low,C.1.bI.high⟩ E L.1) L.2 else (tS j.config.aE).bind λqe=>(CD j.cK qe).bind λO=>T1 (oz j C.1 j.shares D E O.1) O.2
def uV(c:ax)(n:Int):ax:=⟨c.config,c.box,n,c.bq,c.ready,c.array,c.spare,c.aP,c.bH,c.guard,c.pending,c.queue,c.shares,c.drain,c.aZ,c.cK,c.errors,c.trace,c.cT⟩
def iT(c:ax):ax:=(F1 c).getD c
def nI(c:ax):Nat->ax
 |0=>c
 |n+1=>iT (nI c n)
def A5(r:de)(n:Int):de:=if 0<r.wait-1 then ⟨r.aH,r.wait-1,r.dS⟩else ⟨r.aH.map sS,bif r.dS then n / 2 else n,r.dS⟩
def aGI{t:c9}(h:iP t=true):2<=Dh t:=by
 have q:=Zm t;unfold x4 at q;rw[Mr,ak,h,bB,aq]at q;simp only[iP,aN,cw]at h;have k:∀ x∈oe t,0<=x/\x<=1000:=λx C=>by
  have:=h.1 x C;simp only[yf,bJ]at this;omega
 simp only[oe,List.forall_mem_cons]at k;injection q with q;rw[<-q];simp (disch:=omega) only [aO];omega
def aGJ{c:ia}{p:fz}(C:p.weights.length<1073741823)(h:pg c p=true):2<=c.interval/\c.interval<=10000:=by
 have q:=(Gu C h).1;have t:=aGI (Zp q).2.1;simp only[og,aN,bJ]at q;omega
def aGK{r:de}(h:fB r=true){n:Int}(E:2<=n/\n<=10000):fB (A5 r n)=true/\(A5 r n).aH.length=r.aH.length:=by
 have L:=nB h;have C:=Gw h;simp only[fB,aN,bJ]at h;unfold A5;split
 ·refine⟨?_,rfl⟩;simp only[fB,aN,bJ];exact⟨h.1,by omega⟩
 ·refine⟨?_,eG _⟩;simp only[fB,aN,cw,AG,bJ,eG,List.mem_map,forall_exists_index,and_imp,forall_apply_eq_imp_iff₂]
  refine⟨λd D=>?_,by omega,?_⟩
  ·have:=C d D;unfold sS;rw[aO (n:=d+1)];split<;>omega
  ·cases r.dS<;>simp<;>omega
def aGL{r:de}(h:fB r=true){n:Int}(D:2<=n/\n<=10000):LB r n=some (A5 r n):=by
 have L:=nB h;have O:=Gw h;have T:1<=r.wait/\r.wait<=10000:=by
  simp only[fB,aN,bJ]at h;exact h.2.2
 have E:W6 (n.tdiv 2)=n / 2:=by rw[rH (by omega)];exact aO
 unfold LB CR A5 bk xA xZ;rw[di (by simp;omega),au,List.nil_append,ak,Mv _ (by omega),ak,h,bB,aq,dK,ak,bJ.2 D,bB,aq];dsimp only;rw[aO (n:=r.wait-1)];by_cases C:r.wait-1 > 0
 ·rw[aW C,au,bL C]
 ·rw[aV C,aq,bX C];have e:=cH (step:=LA) r.aH.length (λi=>((n,(),(),(),(r.aH.length:Int),(i:Int),()),((r.aH,r.wait,r.dS,()),((),(0:Int),false,()),((),r.wait-1,r.dS,()),([]:aa Int),upto sS r.aH i,()))) (.inl ((n,(),(),(),()),((r.aH,r.wait,r.dS,()),((),(0:Int),false,()),((),r.wait-1,r.dS,()),([]:aa Int),r.aH.map sS,()))) aS (λi hi=>by
   have hlen:=Az sS r.aH i;unfold LA av xG xL;dsimp only;rw[aW,au,az ⟨by omega,by omega⟩,az,az ⟨by omega,by omega⟩,az,bD];simp only[bC];rw[F5 sS r.aH i hi,<-F6 sS r.aH i hi];rfl) (by
   unfold LA av xG xL;dsimp only;rw[aV,aq,F4]) (bP)
  rw[cv,SH]at e
  refine(aY (λo=>Option.bind o _) e).trans ?_
  rw[ak];simp only[eH];rw[E];cases r.dS<;>rfl
def aGM{c:ax}(h:fB c.aP=true){n:Int}(L:2<=n/\n<=10000):K3 c n=some ((),(sN c (A5 c.aP n),())):=by
 have O:=nB h;have T:=Gw h;have U:1<=c.aP.wait/\c.aP.wait<=10000:=by
  simp only[fB,aN,bJ]at h;exact h.2.2
 have D:W6 (c.aP.wait-1)=c.aP.wait-1:=aO;have E:W6 (n.tdiv 2)=n / 2:=by rw[rH (by omega)];exact aO
 unfold K3 A5 bk;by_cases C:c.aP.wait-1 > 0
 ·rw[D,aW C,au,bL C];rfl
 ·rw[bX C];have e:=cH (step:=K2) c.aP.aH.length (λi=>(((),n,(i:Int),()),(sN c ⟨upto sS c.aP.aH i,c.aP.wait-1,c.aP.dS⟩,()))) (.inl (((),n,()),(sN c ⟨c.aP.aH.map sS,c.aP.wait-1,c.aP.dS⟩,()))) aS (λi hi=>by
   have hlen:=Az sS c.aP.aH i;unfold K2 sN av xG xL;dsimp only;rw[aW,au,az ⟨by omega,by omega⟩,az,az ⟨by omega,by omega⟩,az,bD];simp only[bC];rw[F5 sS c.aP.aH i hi,<-F6 sS c.aP.aH i hi];rfl) (by
   unfold K2 sN av xG xL;dsimp only;rw[F4,aV (by rw[eG];omega),aq]) (bP)
  rw[cv,SH]at e;rw[D,aV C,aq]
  refine(aY (λo=>Option.bind o _) e).trans ?_
  rw[ak];simp only[eH,sN];rw[E];cases c.aP.dS<;>rfl
def aa5(a:cZ):cZ:=⟨a.cells,a.bz.map (mA 1),a.bu⟩
def aGN{g:aU}{a:cZ}(h:mz g a=true):mz g (aa5 a)=true:=by
 have C:=eX.wC h
 refine DF (aaa h).1 ⟨C.cells,C.syms,(aY (λn:Nat=>(n:Int)) (eG _)).trans C.bz,C.bu,λx D=>?_,C.iO⟩
 obtain⟨y,E,rfl⟩:=List.mem_map.1 D;exact aku (C.Dg y E) (by decide)
def aGO{g:aU}{a:cZ}(h:mz g a=true):FF g a 1=some (aa5 a):=aB4 (aaa h).1 (eX.wC h) (by decide) (by decide) (by decide)
def aGP{c:ax}(h:mz c.config.aE c.array=true):K5 c 1=some ((),(dm c (aa5 c.array),())):=by
 have D:cI c.config.aE=true:=(aaa h).1;have C:=eX.wC h;have E:=qg c.config.aE;have L:=C.bz;have e:=cH (step:=K4) c.array.bz.length (λi=>(((),(1:Int),(i:Int),()),(dm c ⟨c.array.cells,upto (mA 1) c.array.bz i,c.array.bu⟩,()))) (.inl ((),(dm c ⟨c.array.cells,c.array.bz.map (mA 1),c.array.bu⟩,()))) aS (λi hi=>by
  have hlen:=Az (mA 1) c.array.bz i;have O:=C.Dg _ (cV hi);unfold K4 dm av xG xL;dsimp only;rw[aW,au,az ⟨by omega,by omega⟩,az,az ⟨by omega,by omega⟩,az,bD];simp only[bC];rw[F5 (mA 1) c.array.bz i hi,aO (n:=c.array.bz[i]+1),<-F6 (mA 1) c.array.bz i hi];rfl) (by
  unfold K4 dm av xG xL;dsimp only;rw[F4,aV (by rw[eG];omega),aq]) (bP)
 rw[cv,SH]at e;unfold K5 bk;exact(aY (λo=>Option.bind o _) e).trans rfl
def aGQ(q:aa bA)(w:Bool)(L:q.length<1073741824):∃ n,FH q w=some n/\Kd q w=some n:=by
 unfold FH Kd bk;have e:=cH (step:=LD) q.length (λi=>((w,(((q.take i).countP λr=>r.write==w:Nat):Int),q,(q.length:Int),(i:Int),()),())) (.inl (((((q.take q.length).countP λr=>r.write==w:Nat):Int),()),())) aS (λk C=>by
  have D:=List.countP_le_length (p:=λr:bA=>r.write==w) (l:=q.take k);rw[fJ]at D;unfold LD av xG xI;dsimp only;rw[aW,au,az ⟨by omega,by omega⟩,bD];simp only[bC];rw[qZ C,List.countP_append,List.countP_singleton];cases q[k].write==w with
  |true=>rw[au,bD];rfl
  |false=>rw[aq,bD];rfl) (by
  unfold LD av xG xI;dsimp only;rw[aV,aq]) (bP)
 have E:=cH (step:=Kc) q.length (λi=>((q,w,(((q.take i).countP λr=>r.write==w:Nat):Int),(i:Int),()),())) (.inl (((((q.take q.length).countP λr=>r.write==w:Nat):Int),()),())) aS (λk C=>by
  have D:=List.countP_le_length (p:=λr:bA=>r.write==w) (l:=q.take k);rw[fJ]at D;unfold Kc av xG xI;dsimp only;rw[aW,au,az ⟨by omega,by omega⟩,bD];simp only[bC];rw[qZ C,List.countP_append,List.countP_singleton];cases q[k].write==w with
  |true=>rw[au,bD];rfl
  |false=>rw[aq,bD];rfl) (by
  unfold Kc av xG xI;dsimp only;rw[aV,aq]) (bP)
 rw[cv]at e E;exact⟨_,(aY (λo=>Option.bind o _) e).trans rfl,(aY (λo=>Option.bind o _) E).trans rfl⟩
def aGR{d:gB}(h:o6 d=true)(n:Int):∃ y,FG d n=some y/\Kb d n=some y/\o6 y=true:=by
 have D:=h;simp only[o6,aN,iV]at D;unfold FG Kb;rw[SR,SS,ak,ak,h,bB,aq,aq];by_cases C:n >= d.high
 ·rw[aW C,aV (show ¬ n<=d.low by omega)];exact⟨_,rfl,rfl,h⟩
 ·rw[aV C];cases decide (n<=d.low)<;>exact⟨_,rfl,rfl,h⟩
def aGS{p:eC}(h:jX p=true)(w:Bool):∃ y,FI p w=some y/\Ke p w=some y/\jX y=true/\y.state=p.state/\y.since=p.since:=by
 unfold FI Ke;rw[SW,SX,ak,h,bB,aq];simp only[jX,aN,bJ]at h;cases w with
 |true=>exact⟨_,rfl,rfl,by simp only[jX,aN,bJ];omega,rfl,rfl⟩
 | false=>
  refine⟨_,rfl,rfl,?_,rfl,rfl⟩;rw[aO (n:=p.idle+1)];simp only[jX,aN,bJ];split<;>omega
def aGT(b:gI)(h:AN b)(x:Bool):∃ t,LG b x=some (bif t then ⟨b.next,b.next,false⟩else b,t)/\Kh b x=some (bif t then ⟨b.next,b.next,false⟩else b,t):=by
 have C:b.next.weights.length<=1048576:=h.2
 refine⟨x&&b.waits,?_⟩;unfold LG Kh Fi JG xA xZ;rw[aac b h,alC b h,ak,iq _];cases x<;>cases b.waits<;>exact⟨rfl,rfl⟩
def aGU{c:ia}{p:fz}(C:p.weights.length<1073741823)(h:pg c p=true):∃ l t,An p.weights=some (l,t)/\Cw p.weights=some (l,t)/\iQ l=true/\(l.length:Int)=4/\o6 ⟨false,p.low,p.high⟩=true:=by
 obtain⟨_,f2⟩:=Gu C h;simp only[vY,aN,gA]at f2;obtain⟨O,T,U,E,L,D,Y⟩:=f2;rw[akz _ C,akA _ C];unfold Di;rw[D];exact⟨_,_,rfl,rfl,D,by rw[eG];exact L,E⟩
def aGV{s:kZ}{n:Int}(C:aL s.every 1 100000=true)(E:aL s.wait 1 s.every=true)(D:aL s.next 0 (W6 (n-1))=true)(Z:1<=n/\n<=1000000):∃ y m,x6 s n=some (y,m)/\CD s n=some (y,m)/\aL y.every 1 100000=true/\aL y.wait 1 y.every=true/\aL y.next 0 (W6 (n-1))=true/\m<n:=by
 have T:=bJ.1 C;have b2:=bJ.1 E;have L:W6 (n-1)=n-1:=aO;have U:=bJ.1 D;rw[L]at U;unfold x6 CD;rw[dK,eJ,ak,ak,C,bB,aq,aq,dK,eJ,ak,ak,E,bB,aq,aq,aV (show ¬ n<1 by omega),aq,aq,dK,ak,D,bB,aq,aV (show ¬ s.next<0 by omega),aq,aV (show ¬ s.next >= n by omega),aq,aO (n:=s.wait-1)];by_cases O:s.wait-1 > 0
 ·rw[aW O,au];exact⟨_,_,rfl,rfl,C,bJ.2 ⟨by dsimp only;omega,by dsimp only;omega⟩,D,by omega⟩
 ·rw[aV O,aq,bX,aO (n:=s.next+1)];refine⟨_,_,rfl,rfl,C,bJ.2 ⟨T.1,Int.le_refl _⟩,?_,by omega⟩;rw[L,rI (by omega)];have Y:=Int.emod_nonneg (s.next+1) (show n≠0 by omega);have e2:=Int.emod_lt_of_pos (s.next+1) (show 0<n by omega);exact bJ.2 ⟨Y,by dsimp only;omega⟩
def Jn(o:ah ax)(q:M6):Prop:=∃y,o=some y/\q=some ((),(y,()))/\eK y/\hG y=true
def T3(j:ax):ah ax:=(FH j.queue true).bind λT=>(FG j.drain T).bind λL=>(At (oz j j.box j.shares L j.aZ j.cK)).bind λU=>(FI j.aZ U).bind λO=>(LG j.box ((j.queue.length:Int)==(0:Int))).bind λC=>bif C.2 then (An C.1.bI.weights).bind λY=>(vP j.config.aE).bind λE=>(x6 j.cK E).bind λD=>TZ (oz j C.1 Y.1 ⟨false,C.1.bI.low,C.1.bI.high⟩ O D.1) D.2 else (vP j.config.aE).bind λE=>(x6 j.cK E).bind λD=>TZ (oz j C.1 j.shares L O D.1) D.2
def aa6{x:ax}(C:eK x)(D:hG x=true):Jn (TY x) (T0 x):=by
 have h:=Pq.of C D;have same:Jn (some x) (some ((),(x,()))):=⟨x,rfl,rfl,C,D⟩
 unfold TY T0 tZ;rw[aGD h,ak,Te x C,ak,D,bB,aq,aGG h];show Jn ((bif decide ((x.trace.length:Int) >= 2000)then some (rE,-1)else some (A4 x)).bind _) _;rw[show (bif decide ((x.trace.length:Int) >= 2000)then some (rE,-1)else some (A4 x))=some (bif decide ((x.trace.length:Int) >= 2000)then (rE,-1)else A4 x) by cases decide ((x.trace.length:Int) >= 2000)<;>rfl,ak];dsimp only;generalize (bif decide ((x.trace.length:Int) >= 2000)then (rE,-1)else A4 x:aG×Int)=p;obtain⟨cmd,i⟩:=p;dsimp only;cases cmd.kind != (0:Int)with
 |false=>exact same
 | true=>
  rw[au,au,aFZ h,ak,aF0 C h];cases hm:wD x cmd i with
  |false=>exact same
  | true=>
   obtain⟨E,L,O,T⟩:=amC C h hm;rw[au,au,aFP E L O (λr T=>aaN h T),aFO E L O];exact⟨yF x cmd i,rfl,rfl,aFW C E T L O,(Ck.iss C (Ck.of D) hm).ok⟩
def am3{x:ax}(U:eK x)(h:hG x=true){n:Int}(hn:n<fH x.config.aE):Jn (TZ x n) (T1 x n):=by
 unfold TZ T1;by_cases L:n >= 0
 ·have C:=Ck.of h;have O:=eX.wC C.ar;have Y:=(Ge C.rk).1;have hl:=O.cells;have hb:=oc x.config.aE;obtain⟨j,rfl⟩:=iw L;have T:j<x.array.cells.length:=by omega
  have D:=O.syms _ (cV T);have Z:=TJ D;have E:eX x.config.aE 100000 ⟨x.array.cells.set j (pz x.array.cells[j]),x.array.bz,x.array.bu⟩:=O.MG _ (aaI D);have p:=iS.of C.pa;have iA:=(Ek.of C.er).l;rw[aW L,au,au,amk T D,ak,amj T D,ak];dsimp only;rw[amq (c:=ru x j (pz x.array.cells[j])) C.er ⟨by omega,by omega⟩ Z,ak,amp (c:=ru x j (pz x.array.cells[j])) C.er ⟨by omega,by omega⟩ Z,ak];dsimp only;obtain⟨z1,z2,z3,z5,z6,z7,z8,z9,jd,lR,mC,ou,ny,pn⟩:=U;have Ir:eK (ru x j (pz x.array.cells[j])):=⟨z1,z2,z3,AZ E,z6,z7,z8,z9,jd,lR,mC,ou,ny,pn⟩
  have hc1:Ck (ru x j (pz x.array.cells[j])):=⟨C.f1,C.f2,C.nw,C.rk,C.rd,DF Y E,C.sp,C.se,C.rf,(show iS (ru x j (pz x.array.cells[j]))from ⟨p.dl,p.tl,p.gl,p.t,p.g,p.pd,p.u⟩).ok,C.qu,C.sh,C.sl,C.dr,C.pw,C.ps,C.si,C.s1,C.s2,C.s3,C.er,C.tr,C.rp⟩
  unfold DD;by_cases e:ke x.array.cells[j]=0
  ·rw[e];exact aa6 Ir hc1.ok
  ·rw[fO e,au];have he:=amL (l:=x.errors) C.er (n:=(j:Int)) ⟨by omega,by omega⟩ (code:=ke x.array.cells[j]) (by omega);have hle:=amz (l:=x.errors) (j:Int) (ke x.array.cells[j]);exact aa6 (x:=M1 (ru x j (pz x.array.cells[j])) (rB x.errors (j:Int) (ke x.array.cells[j]))) ⟨z1,z2,z3,AZ E,z6,z7,z8,z9,jd,lR,mC,by show (rB x.errors (j:Int) (ke x.array.cells[j])).length<=_;omega,ny,pn⟩ (Ck.ok ⟨C.f1,C.f2,C.nw,C.rk,C.rd,DF Y E,C.sp,C.se,C.rf,(show iS (M1 (ru x j (pz x.array.cells[j])) (rB x.errors (j:Int) (ke x.array.cells[j])))from ⟨p.dl,p.tl,p.gl,p.t,p.g,p.pd,p.u⟩).ok,C.qu,C.sh,C.sl,C.dr,C.pw,C.ps,C.si,C.s1,C.s2,C.s3,he,C.tr,C.rp⟩)
 ·rw[aV L,aq,aq];exact aa6 U h
def am4{c:ax}(Y:eK c)(Z:hG c=true):Jn (T3 c) (T2 c):=by
 have h:=Ck.of Z;obtain⟨C,z2,z3,z5,z6,z7,z8,z9,jd,lR,mC,ou,ny,pn⟩:=Y;have p:=iS.of h.pa;have hb:=oc c.config.aE;have hLp:1<=fH c.config.aE:=by
  have:=bJ.1 h.s3;rw[aO (n:=fH c.config.aE-1)]at this;omega
 have w2:c.box.next.weights.length<=1048576:=C.2
 obtain⟨n,d1,e1⟩:=aGQ c.queue true (by omega);obtain⟨d,d2,e2,D⟩:=aGR h.dr n;have e3:CC (oz c c.box c.shares d c.aZ c.cK)=some (wo (oz c c.box c.shares d c.aZ c.cK)):=alR (c:=oz c c.box c.shares d c.aZ c.cK) h.rf;have d3:At (oz c c.box c.shares d c.aZ c.cK)=some (wo (oz c c.box c.shares d c.aZ c.cK)):=alQ (c:=oz c c.box c.shares d c.aZ c.cK) h.rf;obtain⟨pw,d4,e4,OP,BX,hp3⟩:=aGS h.pw (wo (oz c c.box c.shares d c.aZ c.cK));obtain⟨t,d5,e5⟩:=aGT c.box C ((c.queue.length:Int)==(0:Int));obtain⟨u,m,O,T,UQ,qH,hu3,U⟩:=aGV h.s1 h.s2 h.s3 ⟨hLp,by omega⟩;have key:∀ (b:gI) (s:aa bV) (d:gB),AN b->pg c.config b.bI=true->pg c.config b.next=true->iQ s=true->(s.length:Int)=4->o6 d=true->eK (oz c b s d pw u)/\hG (oz c b s d pw u)=true:=λb s d oN gJ hb3 UK hs2 D=>
  ⟨⟨oN,z2,z3,z5,z6,z7,z8,z9,jd,lR,by show s.length<=_;omega,ou,ny,pn⟩,Ck.ok ⟨gJ,hb3,h.nw,h.rk,h.rd,h.ar,h.sp,h.se,h.rf,(show iS (oz c b s d pw u)from ⟨p.dl,p.tl,p.gl,p.t,p.g,p.pd,p.u⟩).ok,h.qu,UK,hs2,D,OP,BX.trans h.ps,by show pw.since<=c.now;rw[hp3];exact h.si,UQ,qH,hu3,h.er,h.tr,h.rp⟩⟩
 unfold T3 T2;rw[d1,ak,d2,ak,d3,ak,d4,ak,d5,ak,e1,ak,e2,ak,e3,ak,e4,ak,e5,ak];dsimp only;cases t with
 | false=>
  rw[aq,aq,aq,Mi,ak,T,ak,Mh,ak,O,ak];obtain⟨E,L⟩:=key c.box c.shares d C h.f1 h.f2 h.sh h.sl D;exact am3 E L U
 | true=>
  obtain⟨l,t2,d7,e7,qE,ku,TR⟩:=aGU (p:=c.box.next) (by omega) h.f2;rw[au,au,au];dsimp only;rw[e7,ak,Mi,ak,T,ak,d7,ak,Mh,ak,O,ak];obtain⟨E,L⟩:=key ⟨c.box.next,c.box.next,false⟩ l ⟨false,c.box.next.low,c.box.next.high⟩ ⟨C.2,C.2⟩ h.f2 h.f2 qE ku TR;exact am3 E L U
def aGW{c:ax}(C:eK c)(D:hG c=true):Jn (F1 c) (K6 c):=by
 have h:=Ck.of D;have p:=iS.of h.pa;have hnw:=bJ.1 h.nw;have w1:c.box.bI.weights.length<=1048576:=C.1.1;have hi:=aGJ (p:=c.box.bI) (by omega) h.f1;unfold F1 K6;rw[aad c C,ak,Te c C,ak,D,bB,aq];by_cases Z:c.now=1000000
 ·rw[aW (show c.now >= 1000000 by omega),au,Z];exact⟨c,rfl,rfl,C,D⟩
 rw[kU Z,aq,aV (show ¬ c.now >= 1000000 by omega),aq];have e1:W6 (c.now+1)=c.now+1:=aO;show Jn (bif (c.bq.aZ != (2:Int))then (LB c.aP c.config.interval).bind λE=>(FF c.config.aE c.array (1:Int)).bind λL=>T3 (dm (sN (uV c (W6 (c.now+1))) E) L)else T3 (uV c (W6 (c.now+1)))) (bif (c.bq.aZ != (2:Int))then (K3 (uV c (W6 (c.now+1))) c.config.interval).bind λE=>(K5 E.2.1 (1:Int)).bind λL=>T2 L.2.1 else T2 (uV c (W6 (c.now+1))));rw[e1];obtain⟨z1,z2,z3,z5,z6,z7,z8,z9,jd,lR,mC,ou,ny,pn⟩:=C;have key:∀ (r:de) (a:cZ),fB r=true->r.aH.length=c.aP.aH.length->mz c.config.aE a=true->eK (dm (sN (uV c (c.now+1)) r) a)/\hG (dm (sN (uV c (c.now+1)) r) a)=true:=λr a O T ha=>by
  refine⟨⟨z1,z2,z3,AZ (eX.wC ha),z6,by have:=z7;unfold v9 at this ⊢;show r.aH.length<=_;omega,z8,z9,jd,lR,mC,ou,ny,pn⟩,Ck.ok ⟨h.f1,h.f2,bJ.2 ⟨by show 0<=c.now+1;omega,by show c.now+1<=_;omega⟩,h.rk,h.rd,ha,h.sp,h.se,O,(show iS (dm (sN (uV c (c.now+1)) r) a)from ⟨by show (r.aH.length:Int)=_;rw[T];exact p.dl,p.tl,p.gl,p.t,p.g,p.pd,p.u⟩).ok,h.qu,h.sh,h.sl,h.dr,h.pw,h.ps,by show c.aZ.since<=c.now+1;have:=h.si;omega,h.s1,h.s2,h.s3,h.er,h.tr,h.rp⟩⟩
 cases c.bq.aZ != (2:Int)with
 | true=>
  obtain⟨O,T⟩:=aGK h.rf hi;obtain⟨U,Y⟩:=key _ _ O T (aGN h.ar);rw[au,au,aGL h.rf hi,ak,aGO h.ar,ak,aGM (c:=uV c (c.now+1)) h.rf hi,ak];dsimp only;rw[aGP (c:=sN (uV c (c.now+1)) (A5 (uV c (c.now+1)).aP c.config.interval)) h.ar,ak];exact am4 U Y
 | false=>
  obtain⟨U,Y⟩:=key c.aP c.array h.rf rfl h.ar;exact am4 (c:=uV c (c.now+1)) U Y
def aa7{c:ax}(D:eK c)(E:hG c=true):F1 c=some (iT c)/\K6 c=some ((),(iT c,()))/\eK (iT c)/\hG (iT c)=true:=by
 obtain⟨y,C,L,O,T⟩:=aGW D E;have U:iT c=y:=by unfold iT;rw[C];rfl
 rw[U];exact⟨C,L,O,T⟩
def aa8{c:ax}(D:eK c)(E:hG c=true)(n:Nat):eK (nI c n)/\hG (nI c n)=true:=by
 induction n with
 |zero=>exact⟨D,E⟩
 | succ n C=>
  obtain⟨_,_,L,O⟩:=aa7 C.1 C.2;exact⟨L,O⟩
def aGX{c:ax}(C:eK c):∃ y,Mg c=some y/\Rv c=some y/\eK y:=by
 unfold Mg Rv bk;rw[aad c C,ak,Te c C,ak,alD c C,ak,aDY c C,ak];cases O:hG c with
 |false=>exact⟨c,rfl,rfl,C⟩
 | true=>
  rw[bB,aq,aq];generalize (⟨⟨⟨(0:Int),(0:Int),(0:Int),(0:Int)⟩,⟨(0:Int),(0:Int),(0:Int),(0:Int),(0:Int),(0:Int),(0:Int),(0:Int),(0:Int),(0:Int),(0:Int),(0:Int),(0:Int),(0:Int),(0:Int),(0:Int),(0:Int)⟩,⟨(0:Int),false⟩,(0:Int),(0:Int),(0:Int),⟨(0:Int),(0:Int)⟩⟩,_,_,_,_,_,_,_,_,_,_,_,_,_,_,_,_,_,_⟩:ax)=Z;have E:=sG (step:=F3) (List.range 5000) (λk=>!decide (((nI c k).queue.length:Int) > 0)) (λk=>(((),(),(k:Int),()),(Z,nI c k,()))) (λk=>.inl (((),(),()),(Z,nI c k,()))) (.inl (((),(),()),(Z,nI c 5000,()))) aS (λk T=>by
   rw[cO]at T;obtain⟨D,U⟩:=aa8 C O k;obtain⟨Y,_⟩:=aa7 D U;rw[iU];unfold F3 av xG;dsimp only;rw[aW (show (k:Int)<5000 by omega),au];cases decide (((nI c k).queue.length:Int) > 0)with
   |false=>rfl
   | true=>
    rw[au,bB,aq,Y,ak,bD];rfl) (by
   rw[cO];unfold F3 av xG;dsimp only;rw[aV (show ¬ ((5000:Nat):Int)<5000 by omega),aq]) (bP (by rw[cO];omega))
  have L:=sG (step:=Fh) (List.range 5000) (λk=>!decide (((nI c k).queue.length:Int) > 0)) (λk=>(((),(),(k:Int),()),(Z,nI c k,()))) (λk=>.inl (((),(),()),(Z,nI c k,()))) (.inl (((),(),()),(Z,nI c 5000,()))) aS (λk T=>by
   rw[cO]at T;obtain⟨D,U⟩:=aa8 C O k;obtain⟨_,Y,_⟩:=aa7 D U;rw[iU];unfold Fh av xG;dsimp only;rw[aW (show (k:Int)<5000 by omega),au];cases decide (((nI c k).queue.length:Int) > 0)with
   |false=>rfl
   | true=>
    rw[au,bB,aq,Y,ak,bD];rfl) (by
   rw[cO];unfold Fh av xG;dsimp only;rw[aV (show ¬ ((5000:Nat):Int)<5000 by omega),aq]) (bP (by rw[cO];omega))
  rw[cv]at E L;obtain⟨k,f1,f2⟩:∃ k:Nat,iter F3 aS (((),(),(0:Int),()),(Z,c,()))=some (.inl (((),(),()),(Z,nI c k,())))/\iter Fh aS (((),(),(0:Int),()),(Z,c,()))=some (.inl (((),(),()),(Z,nI c k,()))):=by
   cases hf:(List.range 5000).findIdx? (λk:Nat=>!decide (((nI c k).queue.length:Int) > 0))with
   | none=>
    rw[hf]at E L;exact⟨5000,E,L⟩
   | some k=>
    rw[hf]at E L;exact⟨k,E,L⟩
  obtain⟨D,_⟩:=aa8 C O k
  refine⟨nI c k,(aY (λo=>Option.bind o _) f1).trans rfl,(aY (λo=>Option.bind o _) f2).trans ?_,D⟩
  rw[ak];simp only[eH];rw[alD _ D];rfl
def aGY(c:ax)(L:MJ c):Y7 c=some true:=by
 unfold Y7;obtain⟨y,e,h|⟨h1,h2,C⟩⟩:=aDW c L (n:=1048576) (by omega) (by omega)
 ·rw[e,ak,aW h];rfl
 ·obtain⟨d,O,T,D⟩:=aGX C;rw[e,ak,aV,aq];simp only[aDX c C,O,T,aly c C,aly _ D,ak,bB,aq]
  refine alH c C _ _ λU Y Z r3 r4 r5 r6 r7 r8 r9 uq ur uv uw uy uz uA Z1 hk E=>?_
  rw[aV,aq]
  refine alH d D _ _ λU Y Z r3 r4 r5 r6 r7 r8 r9 uq ur uv uw uy uz uA Z1 hk E=>?_
  rw[E];simp only[ak];rw[aV,aq,dV,aq];rfl
def aGZ(C:Value)(w:World)(D:Xn .cN MJ w C):Calls Tryz.prog 5 #[C] w λe w'=>e = .returned (.bool true)/\Below w.heap.size w w':=by
 obtain⟨x,E,us,rfl,L⟩:=D;exact ars aAl (art (ai:=[(true,.cN)]) (x:=(x,())) (by kernel_rfl) (aGY x E)) (arv L)
end Go.Proofs.YtnilicojgkhpnaaGreat
