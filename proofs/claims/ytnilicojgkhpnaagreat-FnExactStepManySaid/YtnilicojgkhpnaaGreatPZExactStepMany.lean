/-
  Plain laws. Nothing here is a claim.
-/
import Derived.Test.YtnilicojgkhpnaaGreatPYExactStepMany
namespace Go.Proofs.YtnilicojgkhpnaaGreat
set_option linter.defProp false
open Go.RowKit
set_option linter.unusedVariables false
set_option linter.unusedSimpArgs false
set_option maxRecDepth 100000
def alM{x:Int}(h:0<=x/\x<=100000):(if (100000:Int)<W6 (x+1)then (100000:Int)else W6 (x+1))=mA 1 x:=by
 rw[aO (n:=x+1)];rfl
def Tn(C:ax)(O D T:Int)(E:aa Int):ah (af×(ax×af)):=bif (decide (O<(W6 (T-(1:Int)))))then if Z:0<=(W6 (D+(1:Int)))/\(W6 (D+(1:Int))).toNat<E.length then if U:(W6 (D+(1:Int))).toNat<E.length then (let L:=E[(W6 (D+(1:Int))).toNat]'U;if h61:0<=(W6 (D+(1:Int)))/\(W6 (D+(1:Int))).toNat<E.length then if Y:(W6 (D+(1:Int))).toNat<E.length then (let e63:=E[(W6 (D+(1:Int))).toNat]'Y;some ((),((⟨C.config,C.box,C.now,C.bq,C.ready,⟨C.array.cells,(C.array.bz.set D.toNat (0:Int)),(E.set (W6 (D+(1:Int))).toNat (if (100000:Int)<(W6 (L+(1:Int)))then (100000:Int)else (W6 (L+(1:Int)))))⟩,C.spare,C.aP,C.bH,C.guard,C.pending,C.queue,C.shares,C.drain,C.aZ,C.cK,C.errors,C.trace,C.cS⟩:ax),())))else none else none)else none else none else some ((),((⟨C.config,C.box,C.now,C.bq,C.ready,⟨C.array.cells,(C.array.bz.set D.toNat (0:Int)),E⟩,C.spare,C.aP,C.bH,C.guard,C.pending,C.queue,C.shares,C.drain,C.aZ,C.cK,C.errors,C.trace,C.cS⟩:ax),()))
def To(D:ax)(E C L:Int):ah (af×(ax×af)):=if h45:0<=C/\C.toNat<D.array.bz.length then if T:C.toNat<D.array.bz.length then (let e47:=D.array.bz[C.toNat]'T;if h48:0<=C/\C.toNat<D.array.bu.length then if U:C.toNat<D.array.bu.length then (let e50:=D.array.bu[C.toNat]'U;(bif (decide (E > (0:Int)))then if h51:0<=(W6 (C-(1:Int)))/\(W6 (C-(1:Int))).toNat<(D.array.bu.set C.toNat (0:Int)).length then if Y:(W6 (C-(1:Int))).toNat<(D.array.bu.set C.toNat (0:Int)).length then (let O:=(D.array.bu.set C.toNat (0:Int))[(W6 (C-(1:Int))).toNat]'Y;if h54:0<=(W6 (C-(1:Int)))/\(W6 (C-(1:Int))).toNat<(D.array.bu.set C.toNat (0:Int)).length then if Z:(W6 (C-(1:Int))).toNat<(D.array.bu.set C.toNat (0:Int)).length then (let Yo:=(D.array.bu.set C.toNat (0:Int))[(W6 (C-(1:Int))).toNat]'Z;(Tn D E C L ((D.array.bu.set C.toNat (0:Int)).set (W6 (C-(1:Int))).toNat (if (100000:Int)<(W6 (O+(1:Int)))then (100000:Int)else (W6 (O+(1:Int)))))))else none else none)else none else none else (Tn D E C L (D.array.bu.set C.toNat (0:Int)))))else none else none)else none else none
def alN{d:ax}{R r:Int}{i:Nat}{H:aa Int}(T:H.length<1000000)(D:r<R-1->i+1<H.length)(E:W6 (R-1)=R-1)(L:∀ x∈H,0<=x/\x<=100000)(hi:i<1000000):Tn d r (i:Int) R H=some ((),(dm d ⟨d.array.cells,d.array.bz.set i 0,bif decide (r<R-1)then oY (i+1) H else H⟩,())):=by
 have O:W6 ((i:Int)+1)=((i+1:Nat):Int):=bB;unfold Tn dm;rw[E,O];simp only[bD];by_cases C:r<R-1
 ·have q:i+1<H.length:=D C;rw[aW C,au,au,az ⟨by omega,q⟩,az q,az ⟨by omega,q⟩,az q,alM (L _ (cU q)),Zk q]
 ·rw[aU C,aq,aq]
def alO{d:ax}{R r:Int}{i:Nat}(E:i<d.array.bz.length)(L:i<d.array.bu.length)(hl:d.array.bu.length<1000000)(Y:0<r->1<=i)(O:r<R-1->i+1<d.array.bu.length)(T:W6 (R-1)=R-1)(Z:∀ x∈d.array.bu,0<=x/\x<=100000):To d r (i:Int) R=some ((),(dm d ⟨d.array.cells,d.array.bz.set i 0,vW R r i d.array.bu⟩,())):=by
 have C:=Mr Z (k:=i) (v:=0) ⟨by omega,by omega⟩;have hL:(d.array.bu.set i 0).length=d.array.bu.length:=by simp
 unfold To vW AG;simp only[bD];rw[az ⟨by omega,E⟩,az E,az ⟨by omega,L⟩,az L];obtain⟨H,U⟩:∃H,d.array.bu.set i 0=H:=⟨_,rfl⟩
 rw[U]at C hL;simp only[U];by_cases D:0<r
 ·have p1':=Y D;have w1:W6 ((i:Int)-1)=((i-1:Nat):Int):=by rw[aO];omega
  have q:i-1<H.length:=by omega
  simp only[w1,bD];rw[aW D,au,au,az ⟨by omega,q⟩,az q,az ⟨by omega,q⟩,az q,alM (C _ (cU q)),<-Zk q];exact alN (by rw[Ms];omega) (λh=>by rw[Ms];have:=O h;omega) T (SN C) (by omega)
 ·rw[aU D,aq,aq];exact alN (by omega) (λh=>by have:=O h;omega) T C (by omega)
def alP{g:aV}(E:cI g=true)(l:iX){B:Int}(c:ax)(C:eX g B c.array){b r:Int}(L:0<=b)(O:b<bf g)(Z:0<=r)(h4:r<g.rows):KZ g l c b r=some ((),(dm c (uI g l c.array b r),())):=by
 obtain⟨_,_,_,_,g5,g6,g7,g8⟩:=fF E;have b2:=qe g;have er:bf g*g.rows=gu g:=by simp[gu,E]
 obtain⟨r0,r1,r2⟩:=vT L O Z h4;rw[er]at r2;have T:r<g.rows-1->b*g.rows+r+1<gu g:=λh=>by
  have:=(vT L O (show 0<=r+1 by omega) (show r+1<g.rows by omega)).2.2;omega
 have U:0<r->1<=b*g.rows+r:=λh=>by omega
 have a1:=C.bz;have a2:=C.bu;have e1:W6 (b*g.rows)=b*g.rows:=aO;have e2:W6 (b*g.rows+r)=b*g.rows+r:=aO;have w3:W6 (g.rows-1)=g.rows-1:=aO;have Y:=aEE E c C.cells C.syms L O Z h4;unfold uI;generalize jY ((b*g.rows+r)*g.aT).toNat g.aT.toNat c.array.cells=cs at Y;have hx:KZ g l c b r=(Ff g l c.array (W6 (W6 (b*g.rows)+r))).bind λy1=>bif y1 then (iter Aj aR (((),r,(),W6 (W6 (b*g.rows)+r),(0:Int),()),(c,(g.cH,g.aB,g.rows,g.aT,()),()))).bind (Sum.elim (λD=>To D.2.1 D.1.2.1 D.1.2.2.2.1 D.2.2.1.2.2.1) (λz=>nomatch z))else To c r (W6 (W6 (b*g.rows)+r)) g.rows:=rfl
 rw[hx,e1,e2];obtain⟨i,hi⟩:=gY r1;rw[hi]at Y U T r2 ⊢;rw[bD,aAT g l c.array i (by omega) (by omega),ak];cases ye l c.array i with
 |false=>exact alO (d:=c) (r:=r) (R:=g.rows) (i:=i) (by omega) (by omega) (by omega) (λh=>by have:=U h;omega) (λh=>by have:=T h;omega) w3 C.iO
 | true=>
  rw[au,Y,ak];exact alO (d:=dm c ⟨cs,c.array.bz,c.array.bu⟩) (r:=r) (R:=g.rows) (i:=i) (by show i<c.array.bz.length;omega) (by show i<c.array.bu.length;omega) (by show c.array.bu.length<_;omega) (λh=>by have:=U h;omega) (λh=>by show _<c.array.bu.length;have:=T h;omega) w3 C.iO
def aEF{c:ig}{p:fz}(C:p.weights.length<1073741823)(h:o9 c p=true):iP c.ck=true:=by
 have⟨b,e,D⟩:=Zu c p C;have E:b=true:=by
  rw[Td c p C]at e;simp_all
 have:=D E;simp[oe,aN]at this;simp_all
def jq(i:Nat):aG:=⟨(i:Int) % 9+1,if (i:Int) % 9+1<=5 then (i:Int) / 9 else 0,0,0⟩
def ym(n m:Int):Int:=if n > m then n else m
def Tp(g:aV)(t:c9)(l:aa Int)(c:aG)(m:Int)(i:Nat):Int:=match l[i]? with
 |some n=>bif decide (n<0)then m else ym (n+vZ g t (jq i) c) m
 |none=>m
def uJ(g:aV)(t:c9)(l:aa Int)(c:aG)(k:Nat):Int:=(List.range k).foldl (Tp g t l c) 0
def yo(g:aV)(t:c9)(r:dn)(c:aG):Int:=
 bif c.kind==1&&(r.bx.length:Int)==4 then ym (r.bx.getD 0 0+t.jH) (uJ g t r.last c r.last.length)else uJ g t r.last c r.last.length
def aar(g:aV)(t:c9)(l:aa Int)(c:aG)(k:Nat):uJ g t l c (k+1)=Tp g t l c (uJ g t l c k) k:=by
 unfold uJ;rw[List.range_succ,List.foldl_append];rfl
def aas{g:aV}{t:c9}{l:aa Int}{c:aG}{m:Int}{i:Nat}(h:i<l.length):Tp g t l c m i=bif decide (l[i]<0)then m else ym (l[i]+vZ g t (jq i) c) m:=by
 unfold Tp;rw[bZ h]
def aEG{a b C:Int}(D:a<=C)(E:0<=b/\b<=C):0<=ym a b/\ym a b<=C:=by
 unfold ym;split<;>omega
structure Gq (g:aV) (t:c9) (r:dn):Prop where
 sH:cI g=true
 Dy:iP t=true
 len:r.last.length<1000
 last:∀(i:Nat) (h:i<r.last.length),(-1<=r.last[i]/\r.last[i]<=1000000)/\(r.last[i] = -1\/oh g i=true)
 a4:r.bx.length<=4
 act:∀x∈r.bx,0<=x/\x<=1000000
def aEH{g:aV}{t:c9}{r:dn}(E:iP t=true)(h:kW g r=true):Gq g t r:=by
 have Y:=fG g;simp only[kW,aN,cw,gk]at h;have⟨L,C,D,O,T⟩:=h;have C:(r.last.length:Int)=9*(bf g+1):=by simpa using C
 have D:¬ (r.bx.length:Int) > 4:=by simpa using D
 refine⟨L,E,by omega,λi hi=>?_,by omega,λx U=>?_⟩
 ·have e:=O i hi;rw[MB hi]at e;simp only[aN,eD]at e;refine⟨bJ.1 e.1,?_⟩
  grind
 ·obtain⟨i,hi,rfl⟩:=jg.1 U;have e:=T i hi;cases i with
  |zero=>rw[MC hi]at e;exact bJ.1 e
  |succ i=>rw[Gc hi]at e;simp at e;exact bJ.1 e.1
def alQ(i:Nat):1<=(jq i).kind/\(jq i).kind<=9:=by
 unfold jq;dsimp only;omega
def aEI{g:aV}{i:Nat}(C:oh g i=true):(jq i).kind <= 5 -> 0 <= (jq i).ay/\(jq i).ay<bf g:=by
 unfold oh at C;unfold jq
 grind
def aEJ{g:aV}{i:Nat}(hi:i<1000)(C:oh g i=true):∃ b,CW g (i:Int)=some (jq i,b):=by
 have E:=C;unfold oh at C;unfold CW jq;rw[n9,ak,rF (by omega),rG (by omega),aO,aO,MA,ak];cases D:decide ((i:Int) / 9<bf g)with
 |true =>simp_all
 | false=>
  rw[D]at C;have L:¬ (i:Int) % 9+1 <= 5:=by
   simp_all
  simp[*]
def Tq{g:aV}{t:c9}{r:dn}(h:Gq g t r)(c:aG):∀ k,k <= r.last.length -> 0 <= uJ g t r.last c k/\uJ g t r.last c k <= 1000128
 |0,_=>⟨Int.le_refl _,by show 0 <= _;omega⟩
 | k+1,D=>by
  have C:=Tq h c k (by omega);rw[aar,aas (by omega)];have E:=ZL h.Dy g (jq k) c;have L:=(h.last k (by omega)).1;cases decide (r.last[k]<0)with
  |true=>exact C
  |false=>exact aEG (by omega) C
def aEK{g:aV}{t:c9}{r:dn}{c:aG}(h:Gq g t r)(T:dL g c=true):QV g t r c=some (yo g t r c):=by
 have U:=λk E=>Tq h c k E
 have Z:1<=c.kind/\c.kind<=9:=by
  simp only[dL,aN]at T;exact bJ.1 T.2.1
 have e:=cA (step:=Ku) r.last.length (λi=>(((),(),(),(),uJ g t r.last c i,(i:Int),()),((g.cH,g.aB,g.rows,g.aT,()),t,(r.last,r.bx,()),(c.kind,c.ay,c.row,c.bR,()),()))) (.inl (((),(),(),uJ g t r.last c r.last.length,()),(t,(r.last,r.bx,()),(c.kind,c.ay,c.row,c.bR,()),()))) aR (λk E=>by
  have h1:=h.len;have h2:=(h.last k E).1;have h3:=U k (by omega);have D:=ZL h.Dy g (jq k) c;unfold Ku av xG xI;dsimp only;rw[aW,au,az ⟨by omega,by omega⟩,bB];simp only[bD];rw[aar,aas E];cases hd:decide (r.last[k]<0)with
  |true=>rfl
  | false=>
   have L:Af g t (jq k) c=some (vZ g t (jq k) c):=aBH h.sH h.Dy (alQ k) Z;have e1:W6 ((k:Int).tmod 9+1)=(k:Int) % 9+1:=by rw[rG (by omega),aO]
   have e2:W6 ((k:Int).tdiv 9)=(k:Int) / 9:=by rw[rF (by omega),aO]
   unfold jq at L;rw[aq,aq,e1,e2];by_cases C:(k:Int) % 9+1<=5
   ·rw[bM C]at L;rw[aW C,au,az ⟨by omega,E⟩,sE];show Option.bind (Af g t _ c) _=_;rw[L,ak,aO (n:=r.last[k]+_) (by unfold jq at D;rw[bM C]at D;omega) (by unfold jq at D;rw[bM C]at D;omega)];unfold jq ym;rw[bM C]
   ·rw[bX C]at L;rw[aU C,aq,az ⟨by omega,E⟩,sE];show Option.bind (Af g t _ c) _=_;rw[L,ak,aO (n:=r.last[k]+_) (by unfold jq at D;rw[bX C]at D;omega) (by unfold jq at D;rw[bX C]at D;omega)];unfold jq ym;rw[bX C]) (by
  unfold Ku av xG xI;dsimp only;rw[aU,aq]) (bO (by have:=h.len;omega))
 rw[cu]at e;unfold QV yo xI bh
 refine(aY (λo=>Option.bind o _) e).trans ?_
 rw[ak];simp only[eJ];have hL:=U r.last.length (dM _);have hf:=alb h.Dy;cases c.kind==(1:Int)with
 |false=>rfl
 | true=>
  cases Y:(r.bx.length:Int)==(4:Int)with
  |false=>rfl
  | true=>
   have Y:(r.bx.length:Int)=4:=by simpa using Y
   have O:0<r.bx.length:=by omega
   have ha:=h.act _ (cU O);rw[au,au,az ⟨by omega,O⟩];show some (if W6 (r.bx[0]+t.jH) > _ then W6 (r.bx[0]+t.jH)else _)=_;rw[aO,eY,bZ O];rfl
def aEL{g:aV}{t:c9}{r:dn}(h:Gq g t r)(c:aG):0 <= yo g t r c:=by
 have C:=Tq h c _ (dM _);unfold yo ym
 grind
def aEM{g:aV}{t:c9}{r:dn}{c:aG}(h:Gq g t r)(hr:kW g r=true)(C:dL g c=true):R3 g t r c=some (bif decide (yo g t r c > 1000000)then -1 else yo g t r c):=by
 have T:=λk D=>Tq h c k D
 have U:(1<=c.kind/\c.kind<=9)/\(c.kind<=5->0<=c.ay/\c.ay<bf g):=by
  simp only[dL,aN]at C
  refine⟨bJ.1 C.2.1,λh5=>?_⟩
  have E:=C.2.2.1;rw[MJ (bJ.1 C.2.1),aW h5]at E;have:=bJ.1 E;omega
 have e:=cA (step:=LW) r.last.length (λi=>(((),(),(),(),uJ g t r.last c i,r.last,(r.last.length:Int),(i:Int),()),((g.cH,g.aB,g.rows,g.aT,()),t,(r.last,r.bx,()),(c.kind,c.ay,c.row,c.bR,()),()))) (.inl (((),(),(),uJ g t r.last c r.last.length,()),(t,(r.last,r.bx,()),(c.kind,c.ay,c.row,c.bR,()),()))) aR (λk D=>by
  have E:=h.len;have h2:=(h.last k D).1;have h3:=T k (by omega);have hg:=ZL h.Dy g (jq k) c;unfold LW av xG xI;dsimp only;rw[aW,au,az ⟨by omega,by omega⟩,bB];simp only[bD];rw[aar,aas D];cases hd:decide (r.last[k]<0)with
  |true=>rfl
  | false=>
   have aHo:¬ r.last[k]<0:=by simpa using hd
   have Y:oh g k=true:=by
    rcases(h.last k D).2 with h9|h9
    ·omega
    ·exact h9
   obtain⟨b,eb⟩:=aEJ (g:=g) (i:=k) (by omega) Y;rw[aq,aq,sE,eb,ak];show Option.bind (LV g t (jq k) c) _=_;rw[aBG t h.sH (alQ k) U.1 (aEI Y) U.2,ak,aO (n:=r.last[k]+_)];rfl) (by
  unfold LW av xG xI;dsimp only;rw[aU,aq]) (bO (by have:=h.len;omega))
 rw[cu]at e;unfold R3 yo xI bh;rw[Mv,ak,h.Dy,bC,aq,Zz,ak,hr,bC,aq,ZE,ak,C,bC,aq]
 refine(aY (λo=>Option.bind o _) e).trans ?_
 rw[ak];simp only[eJ];have hL:=T r.last.length (dM _);have hf:=alb h.Dy;have L:∀m:Int,(bif decide (m > 1000000)then some (-1:Int)else some m)=some (bif decide (m > 1000000)then -1 else m):=λm=>by cases decide (m > 1000000)<;>rfl
 cases c.kind==(1:Int)with
 |false=>exact L _
 | true=>
  cases Z:(r.bx.length:Int)==(4:Int)with
  |false=>exact L _
  | true=>
   have Z:(r.bx.length:Int)=4:=by simpa using Z
   have O:0<r.bx.length:=by omega
   have ha:=h.act _ (cU O);rw[au,au,az ⟨by omega,O⟩];show (bif decide ((if W6 (r.bx[0]+t.jH) > _ then W6 (r.bx[0]+t.jH)else _) > 1000000)then _ else some (if W6 (r.bx[0]+t.jH) > _ then W6 (r.bx[0]+t.jH)else _))=_;rw[aO,eY,bZ O];exact L _
def dy(c:ax)(x:aG):Bool:=o8 c.bq x&&(decide (yo c.config.aE c.config.ck c.ready x<=1000000)&&decide (yo c.config.aE c.config.ck c.ready x<=c.now))
structure Pk (c:ax):Prop where
 z:eB c
 ok:gE c=true
 rk:lP c.config.aE c.bq=true
 rdy:kW c.config.aE c.ready=true
 R:Gq c.config.aE c.config.ck c.ready
 bl:(c.bq.aB.length:Int)=bf c.config.aE
def Pk.of{c:ax}(C:eB c)(h:gE c=true):Pk c:=by
 have U:c.box.bI.weights.length <= 1048576:=C.1.1;have L:=h;simp[gE,aN]at h;have⟨O,Y,Z,D,E,h6,h7,h8,h9,Ge,AL,tE,ue,AM,AN,zP,Ds,Gr,Gs,MU,xU,MV⟩:=h;have T:c.bq.aB.length=bf c.config.aE:=by
  simp[lP,aN]at D;simp_all
 exact⟨C,L,D,E,aEH (aEF (by omega) O) E,T⟩
def aEN{g:aV}{x:aG}(C:dL g x=true):(1 <= x.kind/\x.kind <= 9)/\(x.kind <= 5 -> 0 <= x.ay/\x.ay<bf g):=by
 simp[dL,aN]at C
 refine⟨bJ.1 C.2.1,λE=>?_⟩
 have D:=C.2.2.1;rw[MJ (bJ.1 C.2.1),aW E]at D;have:=bJ.1 D;omega
def Ts{c:ax}(h:Pk c){x:aG}(C:dL c.config.aE x=true):CN c x=some (dy c x):=by
 have⟨L,D⟩:=aEN C;have O:=fG c.config.aE;have T:=h.bl;unfold CN dy;rw[aBC L (λE=>⟨(D E).1,by have:=D E;omega⟩) (by omega),ak,aEK h.R C,ak]
 grind
def yp{c:ax}(h:Pk c){x:aG}(C:dL c.config.aE x=true):iN c x=some (dy c x):=by
 have D:=aEL h.R x;unfold iN dy;rw[ZF,ak,h.rk,C,cv,cv,aEM h.R h.rdy C,ak]
 grind
def cC(i:Nat):aa Int->aa Int
 |[]=>[]
 |d::l=>bif decide (d >= 4)then (i:Int)::cC (i+1) l else cC (i+1) l
def aEO(i:Nat)(a b:aa Int):cC i (a++b)=cC i a++cC (i+a.length) b:=by
 induction a generalizing i with
 |nil=>rfl
 | cons d a C=>
  rw[List.cons_append,cC,cC,C,show i+1+a.length=i+(a.length+1) by omega]
  grind
def Dz(i:Nat)(l:aa Int):(cC i l).length <= l.length:=by
 induction l generalizing i with
 |nil=>exact dM _
 | cons d l C=>
  have:=C (i+1);unfold cC
  grind
def aat{l:aa Int}{i:Nat}(h:i<l.length):cC 0 (l.take (i+1))=bif decide (l[i] >= 4)then cC 0 (l.take i)++[(i:Int)]else cC 0 (l.take i):=by
 rw[qX h,aEO,fJ,Nat.min_eq_left (by omega),fk];show _++(bif decide _ then _::cC _ []else cC _ [])=_;cases decide (l[i] >= 4)with
 |true=>rfl
 |false=>exact List.append_nil _
def alR{l:aa Int}{i:Nat}{b:Int}(h:b∈cC i l):∃ j:Nat,b=((i+j:Nat):Int)/\j<l.length/\l.getD j 0 >= 4:=by
 induction l generalizing i with
 |nil=>cases h
 | cons d l D=>
  unfold cC at h;have tl:b∈cC (i+1) l -> ∃ j:Nat,b=((i+j):Int)/\j<(d :: l).length/\(d :: l).getD j 0 >= 4:=λh=>by
   have⟨j,E,L,O⟩:=D h;exact⟨j+1,by rw[E];omega,by simpa using L,by simpa using O⟩
  cases C:decide (d >= 4)with
  | true=>
   rw[C]at h;rcases gX.1 h with rfl|h
   ·exact⟨0,rfl,by simp,by simpa using C⟩
   ·exact tl h
  |false =>grind
def nB{r:de}(h:fB r=true):r.aH.length<=8/\1<=r.aH.length:=by
 simp only[fB,aN]at h;have:=bJ.1 h.2.1;omega
def aau{r:de}(C:fB r=true):FM r=some (cC 0 r.aH):=by
 have E:=nB C;unfold FM bh;rw[My _ (by omega),ak,C,bC,aq];have e:=cA (step:=LJ) r.aH.length (λi=>(((),r.aH,(r.aH.length:Int),(i:Int),()),(cC 0 (r.aH.take i),()))) (.inl (((),()),(cC 0 r.aH,()))) aR (λi h=>by
  have D:=Dz 0 (r.aH.take i);rw[fJ]at D;unfold LJ av xG xI;dsimp only;rw[aW,au,az ⟨by omega,by omega⟩,bB,aat h];simp only[bD];cases decide (r.aH[i] >= 4)with
  |true=>rw[au,au,lT,di,au]
  |false=>rfl) (by
  unfold LJ av xG xI;dsimp only;rw[aU,aq,iV]) (bO)
 rw[cu]at e
 refine(aY (λo=>Option.bind o _) e).trans ?_
 rfl
def alS{r:de}(C:fB r=true):Kj r=some (cC 0 r.aH):=by
 have E:=nB C;unfold Kj bh;have e:=cA (step:=Ki) r.aH.length (λi=>(((),(),(i:Int),()),((r.aH,r.wait,r.dS,()),cC 0 (r.aH.take i),()))) (.inl (((),()),(cC 0 r.aH,()))) aR (λi h=>by
  have D:=Dz 0 (r.aH.take i);rw[fJ]at D;unfold Ki av xG xI;dsimp only;rw[aW,au,show (⟨r.aH,r.wait,r.dS⟩:de)=r from rfl,SU _ (by omega),ak,C,au,az ⟨by omega,by omega⟩,bB,aat h];simp only[bD];cases decide (r.aH[i] >= 4)with
  |true=>rw[au,au,lT,di,au]
  |false=>rfl) (by
  unfold Ki av xG xI;dsimp only;rw[aU,aq,iV]) (bO)
 rw[cu,List.take_zero]at e
 refine(aY (λo=>Option.bind o _) e).trans ?_
 rfl
def wo(c:ax):Bool:=decide ((c.queue.length:Int) > 0) ||(decide ((c.pending.length:Int) > 0) ||decide (((cC 0 c.aP.aH).length:Int) > 0))
def alT{c:ax}(C:fB c.aP=true):Au c=some (wo c):=by
 unfold Au wo;rw[aau C]
 grind
def alU{c:ax}(C:fB c.aP=true):CF c=some (wo c):=by
 unfold CF wo;rw[alS C]
 grind
def uK(r:kL)(p:eE)(b:Bool):Int:=
 bif b then (bif p.state==1 then 7 else bif p.state==2 then 9 else 0)else bif p.state==0&&decide (p.idle >= r.sleep)then 8 else bif p.state==0&&decide (p.idle >= r.down)then 6 else bif p.state==1&&decide (p.idle >= r.sleep)then 7 else 0
def aEP(r:kL)(p:eE)(b:Bool)(C:AI r=true)(D:jX p=true):R4 r p b=some (uK r p b):=by
 unfold R4 uK;rw[akG,ak,C,bC,SW,ak,D,bC]
 grind
def aEQ(r:kL)(p:eE)(b:Bool)(C:AI r=true)(D:jX p=true):QS r p b=some (uK r p b):=by
 unfold QS uK;simp[akH,SX,C,D,aq]
 grind
def aER(r:kL)(p:eE)(b:Bool):uK r p b=0 \/ 6 <= uK r p b/\uK r p b <= 9:=by
 unfold uK
 grind
def AS(D:Nat->Bool)(v:Nat->Int)(C:Int)(i:Nat):Int:=bif D i&&(decide (C<0) ||decide (v i > v C.toNat))then (i:Int)else C
def kJ(C:Nat->Bool)(v:Nat->Int)(k:Nat):Int:=(List.range k).foldl (AS C v) (-1)
def Gt(C:Nat->Bool)(v:Nat->Int)(k:Nat):kJ C v (k+1)=AS C v (kJ C v k) k:=by
 unfold kJ;rw[List.range_succ,List.foldl_append];rfl
def wq(C:Nat -> Bool)(v:Nat -> Int):∀ k,-1 <= kJ C v k/\kJ C v k<k
 |0=>⟨Int.le_refl _,by show (-1)<0;omega⟩
 | k+1=>by
  have D:=wq C v k;rw[Gt];unfold AS
  grind
def aav(C:Nat -> Bool)(v:Nat -> Int):∀ k,kJ C v k = -1 \/ C (kJ C v k).toNat=true
 |0=>.inl rfl
 | k+1=>by
  have D:=aav C v k;rw[Gt];unfold AS
  grind
def aaw{C:Nat -> Bool}(v:Nat -> Int){i:Nat}(h:C i=true):∀ k,i<k -> 0 <= kJ C v k
 |0,D=>by omega
 | k+1,D=>by
  have E:=wq C v k;rw[Gt];unfold AS;by_cases L:i=k
  ·grind
  ·have O:=aaw v h k (by omega)
   grind
def uL(l:aa bV)(w:aa Bool):Int:=kJ (λi=>w.getD i false) (λi=>(l.getD i ⟨0,0⟩).eP) (min l.length w.length)
def MW(l:aa bV)(w:aa Bool)(U:l.length<1073741824):FU l w=some (uL l w):=by
 unfold FU uL bh;generalize Y:min l.length w.length=n;have e:=cA (step:=LZ) n (λi=>((l,w,kJ (λi=>w.getD i false) (λi=>(l.getD i ⟨0,0⟩).eP) i,(i:Int),()),())) (.inl ((kJ (λi=>w.getD i false) (λi=>(l.getD i ⟨0,0⟩).eP) n,()),())) aR (λi h=>by
  have C:i<l.length:=by omega
  have O:i<w.length:=by omega
  have T:=wq (λi=>w.getD i false) (λi=>(l.getD i ⟨0,0⟩).eP) i;rw[Gt];generalize kJ (λi=>w.getD i false) (λi=>(l.getD i ⟨0,0⟩).eP) i=D at T;unfold LZ AS av xG xI;dsimp only;rw[aW,au,aW,au,az ⟨by omega,by omega⟩,bB];simp only[bD,eY,bZ O,bZ C,Option.getD_some];cases w[i]with
  |false=>rfl
  | true=>
   rw[au,cv];by_cases E:D<0
   ·rw[aW E];rfl
   ·have L:D.toNat<l.length:=by omega
    rw[aU E,az ⟨by omega,C⟩,az ⟨by omega,L⟩,bZ L,Option.getD_some];cases decide (l[i].eP > l[D.toNat].eP)<;>rfl) (by
  unfold LZ av xG xI;dsimp only;by_cases C:n<l.length
  ·rw[aW,au,aU,aq]
  ·rw[aU,aq]) (bO)
 rw[cu]at e
 refine(aY (λo=>Option.bind o _) e).trans ?_
 rfl
def aES:Q5=FU:=rfl
def sI(s:bV):bV:=⟨s.weight,s.weight⟩
def iR(l:aa bV):aa bV:=l.map sI
def aax(l:aa bV)(w:aa Bool)(C:l.length<1073741824):iter FV aR ((w,(),(l.length:Int),(0:Int),()),(l,()))=some (.inl ((w,(),()),(iR l,()))):=by
 have e:=cA (step:=FV) _ (λi=>((w,(),l.length,i,()),(upto sI l i,()))) (.inl ((w,(),()),(iR l,()))) aR (λi h=>by
  have hlen:=AD sI l i;unfold FV av xG xL;dsimp only;rw[aW,au,az ⟨by omega,by omega⟩,az,az ⟨by omega,by omega⟩,az,bB];simp only[bD];rw[F6 sI l i h,<- F7 sI l i h];rfl) (by
  unfold FV av xG xL;dsimp only;rw[aU,aq,F5];rfl) (bO C)
 exact e
def aET(l:aa bV)(w:aa Bool)(C:l.length<1073741824):iter Fc aR ((w,(),(0:Int),()),(l,()))=some (.inl ((w,(),()),(iR l,()))):=by
 have e:=cA (step:=Fc) _ (λi=>((w,(),i,()),(upto sI l i,()))) (.inl ((w,(),()),(iR l,()))) aR (λi h=>by
  have hlen:=AD sI l i;unfold Fc av xG xL;dsimp only;rw[aW,au,az ⟨by omega,by omega⟩,az,az ⟨by omega,by omega⟩,az,bB];simp only[bD];rw[F6 sI l i h,<- F7 sI l i h];rfl) (by
  have hlen:=AD sI l l.length;unfold Fc av xG xL;dsimp only;rw[aU,aq,F5];rfl) (bO C)
 exact e
def alV(l:aa bV)(w:aa Bool)(C:l.length<1073741823):KI l w=qd l w:=by
 unfold KI qd xA xC bh xL xZ;rw[List.nil_append,aES,MW l w (by omega),Mx _ (by omega),Zr _ (by omega),ak];rw[aax l w (by omega),aET l w (by omega)];rfl
def aay{l:aa bV}(w:aa Bool)(U:l.length<1073741823)(D:iQ l=true)(Y:l.length=w.length):∃ y t,qd l w=some (y,t)/\y.length=l.length:=by
 unfold qd xA xC bh xL xZ;have Z:=wq (λi=>w.getD i false) (λi=>(l.getD i ⟨0,0⟩).eP) (min l.length w.length);have E:(iR l).length=l.length:=by simp[iR]
 have L:=wq (λi=>w.getD i false) (λi=>((iR l).getD i ⟨0,0⟩).eP) (min (iR l).length w.length);have O:=aav (λi=>w.getD i false) (λi=>(l.getD i ⟨0,0⟩).eP) (min l.length w.length);rw[List.nil_append,MW l w (by omega),ak,Mx _ (by omega),ak,D,bC,aq,List.length_nil,fk,di,au];unfold uL;generalize hr:kJ (λi=>w.getD i false) (λi=>(l.getD i ⟨0,0⟩).eP) (min l.length w.length)=b at *
 by_cases T:b<0
 ·simp_all
 ·have C:b.toNat<l.length:=by omega
  rw[aU T,aq,az ⟨by omega,C⟩,az C];dsimp only;cases l[b.toNat].eP==0 with
  |false =>simp_all
  | true=>
   rw[au,aax l w (by omega),ak];simp only[eJ];rw[MW _ w (by omega),ak];have hp:0 <= uL (iR l) w:=aaw _ (i:=b.toNat) (by rcases O with h|h;exact absurd h (by omega);exact h) _ (by rw[E];omega);have hq:uL (iR l) w<((min (iR l).length w.length:Nat):Int):=L.2;simp_all
def AT(m:jE)(n:Int)(a:aI):aI:=bif m.hash then ⟨(a.ay+a.row) % n,a.row,a.bR⟩else a
def yu(g:aV)(m:jE)(l:Int):aI:=AT m (bf g)
 (bif m.order==0 then ⟨l / g.aT % bf g,l / g.aT / bf g,l % g.aT⟩else bif m.order==1 then ⟨l % bf g,l / bf g / g.aT,l / bf g % g.aT⟩else ⟨l / g.aT / g.rows,l / g.aT % g.rows,l % g.aT⟩)
def Gu{l a b:Int}(C:0<=l)(D:0<b)(h:l<a*b):0<=l / b/\l / b<a/\l / b<=l:=by
 refine⟨Int.ediv_nonneg C (by omega),Int.ediv_lt_of_lt_mul D h,?_⟩;exact Int.ediv_le_self _ C
def AU{l b:Int}(C:0<b):0<=l % b/\l % b<b:=⟨Int.emod_nonneg _ (by omega),Int.emod_lt_of_pos _ C⟩
def aaz{m:jE}{n:Int}{a:aI}(C:0<n)(D:0 <= a.ay/\a.ay<n):0 <= (AT m n a).ay/\(AT m n a).ay<n/\(AT m n a).row=a.row/\(AT m n a).bR=a.bR:=by
 unfold AT;cases m.hash with
 |false=>simp_all
 |true=>exact⟨(AU C).1,(AU C).2,rfl,rfl⟩
def aaA{m:jE}{n b r c:Int}(C:0<n)(D:n<=8)(E:0<=b/\b<=100000)(L:0<=r/\r<=100000):(bif m.hash then if n=0 then none else some ((⟨(W6 (b+r)).tmod n,r,c⟩:aI),true)else some ((⟨b,r,c⟩:aI),true))=some (AT m n ⟨b,r,c⟩,true):=by
 unfold AT;cases m.hash with
 |false=>rfl
 |true=>rw[au,bX,aO,rG (by omega),au]
def alW{g:aV}{m:jE}{l:Int}(T:cI g=true)(hm:aL m.order 0 2=true)(D:0<=l)(hl:l<fH g):∀ (f:ah (aI×Bool)),f=(bif (m.order==(0:Int))then if g.aT=0 then none else if g.aT=0 then none else if bf g=0 then none else if g.aT=0 then none else if bf g=0 then none else bif m.hash then if bf g=0 then none else some ((⟨((W6 (((W6 (l.tdiv g.aT)).tmod (bf g))+(W6 ((W6 (l.tdiv g.aT)).tdiv (bf g))))).tmod (bf g)),(W6 ((W6 (l.tdiv g.aT)).tdiv (bf g))),(l.tmod g.aT)⟩:aI),true)else some ((⟨((W6 (l.tdiv g.aT)).tmod (bf g)),(W6 ((W6 (l.tdiv g.aT)).tdiv (bf g))),(l.tmod g.aT)⟩:aI),true)else bif (m.order==(1:Int))then if bf g=0 then none else if bf g=0 then none else if g.aT=0 then none else if bf g=0 then none else if g.aT=0 then none else bif m.hash then if bf g=0 then none else some ((⟨((W6 ((l.tmod (bf g))+(W6 ((W6 (l.tdiv (bf g))).tdiv g.aT)))).tmod (bf g)),(W6 ((W6 (l.tdiv (bf g))).tdiv g.aT)),((W6 (l.tdiv (bf g))).tmod g.aT)⟩:aI),true)else some ((⟨(l.tmod (bf g)),(W6 ((W6 (l.tdiv (bf g))).tdiv g.aT)),((W6 (l.tdiv (bf g))).tmod g.aT)⟩:aI),true)else if g.aT=0 then none else if g.aT=0 then none else if g.rows=0 then none else if g.aT=0 then none else if g.rows=0 then none else bif m.hash then if bf g=0 then none else some ((⟨((W6 ((W6 ((W6 (l.tdiv g.aT)).tdiv g.rows))+((W6 (l.tdiv g.aT)).tmod g.rows))).tmod (bf g)),((W6 (l.tdiv g.aT)).tmod g.rows),(l.tmod g.aT)⟩:aI),true)else some ((⟨(W6 ((W6 (l.tdiv g.aT)).tdiv g.rows)),((W6 (l.tdiv g.aT)).tmod g.rows),(l.tmod g.aT)⟩:aI),true))->f=some (yu g m l,true)/\fj g (yu g m l)=true:=by
 have hb:=fG g;have hp:=akg T;have hL:=oa g;have gb:=fF T;have eL:fH g=bf g*g.rows*g.aT:=by simp[fH,T]
 have wP:aL l 0 (W6 (fH g-1))=true:=by rw[aO];exact bJ.2 ⟨D,by omega⟩
 have ho:=bJ.1 hm;rw[eL]at hl;have Tt:¬ bf g=0:=by omega
 have xb:¬ g.aT=0:=by omega
 have iB:¬ g.rows=0:=by omega
 rintro f rfl;simp only[bX Tt,bX xb,bX iB];unfold yu;by_cases o0:m.order=0
 ·have C:=Gu (a:=bf g*g.rows) D (show 0<g.aT by omega) hl;have E:=Gu (l:=l / g.aT) (a:=g.rows) (b:=bf g) C.1 (by omega) (by rw[Int.mul_comm];exact C.2.1);have U:=AU (l:=l / g.aT) (b:=bf g) (by omega);have a4:=AU (l:=l) (b:=g.aT) (by omega);rw[o0,dR,au,au,rF D,rG D,aO (n:=l / g.aT),rF C.1,rG C.1,aO (n:=l / g.aT / bf g)];obtain⟨Y,Z,L,O⟩:=aaz (m:=m) (n:=bf g) (a:=⟨l / g.aT % bf g,l / g.aT / bf g,l % g.aT⟩) (by omega) U;refine⟨?_,De T Y Z (by rw[L];exact E.1) (by rw[L];exact E.2.1) (by rw[O];exact a4.1) (by rw[O];exact a4.2)⟩;refine Eq.trans ?_ (aaA (by omega) (by omega) (by omega) (by omega));rw[bX Tt]
 ·rw[kU o0,aq,aq];by_cases o1:m.order=1
  ·have C:=Gu (a:=g.rows*g.aT) D (show 0<bf g by omega) (by rw[Int.mul_comm,<-Int.mul_assoc];exact hl);have E:=Gu (l:=l / bf g) (a:=g.rows) (b:=g.aT) C.1 (by omega) C.2.1;have U:=AU (l:=l) (b:=bf g) (by omega);have a4:=AU (l:=l / bf g) (b:=g.aT) (by omega);rw[o1,dR,au,au,rF D,rG D,aO (n:=l / bf g),rF C.1,rG C.1,aO (n:=l / bf g / g.aT)];obtain⟨Y,Z,L,O⟩:=aaz (m:=m) (n:=bf g) (a:=⟨l % bf g,l / bf g / g.aT,l / bf g % g.aT⟩) (by omega) U;refine⟨?_,De T Y Z (by rw[L];exact E.1) (by rw[L];exact E.2.1) (by rw[O];exact a4.1) (by rw[O];exact a4.2)⟩;refine Eq.trans ?_ (aaA (by omega) (by omega) (by omega) (by omega));rw[bX Tt]
  ·have C:=Gu (a:=bf g*g.rows) D (show 0<g.aT by omega) hl;have E:=Gu (l:=l / g.aT) (a:=bf g) (b:=g.rows) C.1 (by omega) C.2.1;have U:=AU (l:=l / g.aT) (b:=g.rows) (by omega);have a4:=AU (l:=l) (b:=g.aT) (by omega);rw[kU o1,aq,aq,rF D,rG D,aO (n:=l / g.aT),rF C.1,rG C.1,aO (n:=l / g.aT / g.rows)];obtain⟨Y,Z,L,O⟩:=aaz (m:=m) (n:=bf g) (a:=⟨l / g.aT / g.rows,l / g.aT % g.rows,l % g.aT⟩) (by omega) ⟨E.1,E.2.1⟩;refine⟨?_,De T Y Z (by rw[L];exact U.1) (by rw[L];exact U.2) (by rw[O];exact a4.1) (by rw[O];exact a4.2)⟩;refine Eq.trans ?_ (aaA (by omega) (by omega) (by omega) (by omega));rw[bX Tt]
def alX{g:aV}{m:jE}{l:Int}(C:cI g=true)(D:aL m.order 0 2=true)(E:0<=l)(L:l<fH g):R6 g m l=some (yu g m l,true)/\fj g (yu g m l)=true:=by
 have T:=oa g;have O:aL l 0 (W6 (fH g-1))=true:=by rw[aO];exact bJ.2 ⟨E,by omega⟩
 refine alW C D E L _ ?_;unfold R6;rw[yd,ak,C,bC,aq,Zo,ak,D,bC,aq,Mk,ak,dB,ak,O,bC,aq,n9,ak]
def aEU{g:aV}{m:jE}{l:Int}(E:cI g=true)(C:aL m.order 0 2=true)(D:0<=l)(L:l<fH g):QZ g m l=some (yu g m l,true):=by
 have T:=oa g;have O:aL l 0 (W6 (fH g-1))=true:=by rw[aO];exact bJ.2 ⟨D,by omega⟩
 refine(alW E C D L _ ?_).1;unfold QZ;rw[show ES m=some (aL m.order 0 2)from Zo m,ak,C,bC,aq,Ml,ak,eA,ak,O,bC,aq,sA,ak]
def gF(c:ax)(l:Int):aI:=
 let a:=yu (jo c.config.aE c.spare) c.config.mapping l
 ⟨a.ay,c.spare.map.getD (a.ay*(c.config.aE.rows-c.spare.cr)+a.row).toNat 0,a.bR⟩
def aaB{g:aV}{s:eZ}(h:nt g s=true):jo g s=⟨g.cH,g.aB,g.rows-s.cr,g.aT⟩/\cI g=true/\cI (jo g s)=true/\bf (jo g s)=bf g/\0 <= s.cr/\s.cr <= 2/\2 <= g.rows-s.cr/\g.rows <= 16:=by
 have D:=h;simp[nt,aN]at h;have⟨C,E,L,O,T⟩:=SP h.1;have Y:=fF C;have e:jo g s=⟨g.cH,g.aB,g.rows-s.cr,g.aT⟩:=by
  unfold jo;rw[D,au,aO]
 have U:cI (jo g s)=true:=by
  rw[e];unfold cI;simp[aN,bJ];omega
 refine⟨e,C,U,?_,E,L,O,T⟩;unfold bf;simp_all
def alY{g:aV}{s:eZ}(h:nt g s=true){b r:Int}(O:0 <= b/\b<bf g)(T:0 <= r/\r<g.rows-s.cr):(b*(g.rows-s.cr)+r).toNat<s.map.length/\0 <= s.map.getD (b*(g.rows-s.cr)+r).toNat 0/\s.map.getD (b*(g.rows-s.cr)+r).toNat 0<g.rows:=by
 have⟨_,hg,_,_,h1,h2,h3,h4⟩:=aaB h;have U:=fG g;simp only[nt,aN,gA,cw,gk]at h;have⟨_,C,Y⟩:=h;obtain⟨b,rfl⟩:=gY O.1;obtain⟨r,rfl⟩:=gY T.1;have⟨R,D⟩:=gY (show 0 <= g.rows-s.cr by omega);have⟨E,Z⟩:=gY U.1;rw[D,Z,bD,bD]at C;have C:s.map.length=E*R:=by exact_mod_cast C
 have DW:b<E:=by omega
 have L:r<R:=by omega
 have e:((b:Int)*(g.rows-s.cr)+(r:Int)).toNat=b*R+r:=by rw[D,<- Int.natCast_mul,<- Int.natCast_add,bD]
 have dA:=Dn (R:=R) DW (show r+1 <= R from L);have hi:b*R+r<s.map.length:=by omega
 have h5:=Y b (by omega) r (by omega);rw[e];refine⟨hi,?_⟩;rw[eY,bZ hi,Option.getD_some];have yO:(jA s.map R b)[r]?=some s.map[b*R+r]:=by rw[MD,List.getElem?_take_of_lt L,List.getElem?_drop,bZ hi]
 rw[D,bD]at h5;unfold q9 at h5;rw[yO]at h5;simp only[eD,aN,gA,bJ]at h5;rcases h5 with h5|h5
 ·omega
 ·grind
def aEV{c:ax}(h:Pk c)(E:nt c.config.aE c.spare=true)(he:c.spare.cr=c.config.cr)(hm:aL c.config.mapping.order 0 2=true){l:Int}(h0:0 <= l)(hl:l<fH (jo c.config.aE c.spare)):vS c l=some (gF c l,true)/\fj c.config.aE (gF c l)=true:=by
 have⟨e1,hg,yT,eb,s1,s2,s3,s4⟩:=aaB E;have⟨m1,m3⟩:=alX yT hm h0 hl;have⟨_,C,D,L,O,b5,b6⟩:=sB m3;rw[eb]at D;have gb:=fF hg;have U:=fG c.config.aE;have er:(jo c.config.aE c.spare).rows=c.config.aE.rows-c.spare.cr:=by rw[e1]
 have ec:(jo c.config.aE c.spare).aT=c.config.aE.aT:=by rw[e1]
 rw[er]at O;rw[ec]at b6;have⟨k1,k2,k3⟩:=alY E ⟨C,D⟩ ⟨L,O⟩;have hmul:=vT C D L O;have hM:=SI (a:=bf c.config.aE) (b:=c.config.aE.rows-c.spare.cr) (A:=8) (B:=16) U.1 U.2 (by omega) (by omega);unfold gF;generalize hA:yu (jo c.config.aE c.spare) c.config.mapping l=A at *
 dsimp only;refine⟨?_,De hg C D k2 k3 b5 b6⟩;unfold vS;rw[ZB,ak,m1,ak];dsimp only;rw[bC,aq];unfold YV xI;have hx:R5 (jo c.config.aE c.spare) A.ay A.row=some true:=by
  unfold R5;rw[Za,ak,De (a:=⟨A.ay,A.row,0⟩) yT C (by rw[eb];exact D) L (by rw[er];exact O) (Int.le_refl 0) (by rw[ec];show 0<_;omega)]
 have⟨b,hbN⟩:=gY C;have⟨r,hrN⟩:=gY L;have⟨R,hR⟩:=gY (show 0 <= c.config.aE.rows-c.spare.cr by omega);have⟨bn,hn⟩:=gY U.1;have Y:c.spare.map.length=bn*R:=by
  simp only[nt,aN,gA]at E;have:=E.2.1
  grind
 have T:b<bn:=by omega
 have Z:r<R:=by omega
 have dA:=Dn (R:=R) T (show r+1 <= R from Z);have aEW:=Dn (R:=R) T (dM R);have hi:b*R+r<c.spare.map.length:=by omega
 rw[ZB,ak,hx,ak,bC,aq,hbN,akS hR (by omega) (by omega) T Y,ak];have ht:((c.spare.map.take ((b+1)*R)).drop (b*R))=jA c.spare.map R b:=rfl;have lX:(jA c.spare.map R b).length=R:=ZA (by rw[Y];exact jD R T);have hgx:(jA c.spare.map R b)[r]?=some c.spare.map[b*R+r]:=by rw[MD,List.getElem?_take_of_lt Z,List.getElem?_drop,bZ hi]
 have hgy:(jA c.spare.map R b)[r]'(by omega)=c.spare.map[b*R+r]:=by
  grind
 dsimp only;rw[jr (by rw[Nat.succ_mul];omega),jr (by rw[Nat.succ_mul,Y];omega),cv,au,hrN,az ⟨by omega,by rw[ht,lX,bD];exact Z⟩];simp only[bD,ht,hgy,ak];rw[hR,<- Int.natCast_mul,<- Int.natCast_add,bD,eY,bZ hi,Option.getD_some]
def aEX{c:ax}(h:Pk c)(L:nt c.config.aE c.spare=true)(he:c.spare.cr=c.config.cr)(O:aL c.config.mapping.order 0 2=true){l:Int}(T:0<=l)(U:l<fH (jo c.config.aE c.spare)):xT c l=some (gF c l):=by
 obtain⟨C,hg,Y,eb,s1,s2,s3,s4⟩:=aaB L;obtain⟨m1,m3⟩:=alX Y O T U;have m2:=aEU Y O T U;obtain⟨_,Z,D,b3,E,b5,b6⟩:=sB m3;rw[eb]at D;have gb:=fF hg;have hb:=fG c.config.aE;have er:(jo c.config.aE c.spare).rows=c.config.aE.rows-c.spare.cr:=by rw[C]
 have ec:(jo c.config.aE c.spare).aT=c.config.aE.aT:=by rw[C]
 rw[er]at E;rw[ec]at b6;obtain⟨k1,k2,k3⟩:=alY L ⟨Z,D⟩ ⟨b3,E⟩;have hmul:=vT Z D b3 E;have hM:=SI (a:=bf c.config.aE) (b:=c.config.aE.rows-c.spare.cr) (A:=8) (B:=16) hb.1 hb.2 (by omega) (by omega);unfold gF;generalize hA:yu (jo c.config.aE c.spare) c.config.mapping l=A at *
 dsimp only;unfold xT xI;have hw:W6 (c.config.aE.rows-c.config.cr)=c.config.aE.rows-c.spare.cr:=by rw[<-he];exact aO
 have hw1:W6 (A.ay*(c.config.aE.rows-c.spare.cr))=A.ay*(c.config.aE.rows-c.spare.cr):=aO;have hw2:W6 (A.ay*(c.config.aE.rows-c.spare.cr)+A.row)=A.ay*(c.config.aE.rows-c.spare.cr)+A.row:=aO;simp only[hw];rw[<-C,m2,ak];simp only[hw1,hw2];rw[az ⟨hmul.2.1,k1⟩,eY,bZ k1,Option.getD_some]
def Gw{c:ig}{p:fz}(C:p.weights.length<1073741823)(h:o9 c p=true):oe c=true/\vX p=true:=by
 have⟨b,e,E⟩:=Zu c p C;have L:b=true:=by
  rw[Td c p C]at e;simp_all
 subst L;have D:=E rfl;refine⟨D,?_⟩;unfold vP at e;have⟨y,O⟩:=Zt p.fD;simp[Zp,Zs _ C,D]at e
 grind
structure Pq (c:ax):Prop where
 p:Pk c
 sp:nt c.config.aE c.spare=true
 se:c.spare.cr=c.config.cr
 mo:aL c.config.mapping.order 0 2=true
 q:∀r∈c.queue,(0<=r.line/\r.line<fH (jo c.config.aE c.spare))/\(0<=r.dN/\r.dN<=3)/\(0<=r.at_/\r.at_<=1000000)
 ql:c.queue.length<=12
 pe:∀a∈c.pending,fj c.config.aE a=true
 pl:c.pending.length<=128
 rf:fB c.aP=true
 dl:(c.aP.aH.length:Int)=bf c.config.aE
 sh:iQ c.shares=true
 shl:c.shares.length=4
 dr:oZ c.drain=true
 pw:jX c.aZ=true
 ps:c.aZ.state=c.bq.aZ
 nw:0<=c.now/\c.now<=1000000
 cap:0<=c.box.bI.cap/\c.box.bI.cap<=100000
 eK:AI c.box.bI.eK=true
def Pq.of{c:ax}(E:eB c)(h:gE c=true):Pq c:=by
 have O:=Pk.of E h;have z1:c.box.bI.weights.length <= 1048576:=E.1.1;simp only[gE,aN]at h;have⟨T,h2,U,h4,h5,h6,Y,Z,D,L,AL,tE,ue,AM,AN,zP,Ds,Gr,Gs,MU,xU,MV⟩:=h;have⟨f1,f2⟩:=Gw (by omega) T;simp only[oe,aN]at f1;simp only[vX,aN]at f2;have⟨f3,f4,f5,f6,f7,f8,f9⟩:=f2;simp only[sF,aN,gA,ic,qt,cw,gk]at D;have⟨D,g1,g2,g3,g4,g5,g6⟩:=D;simp only[o7,aN,cw,gk,iU]at L;have⟨q1,q2⟩:=L;have ni:c.shares.length=4:=by
  grind
 refine⟨O,Y,by simpa using Z,f1.2.2.1,λr hr=>?_,by omega,λa ha=>?_,by omega,D,g1,AL,ni,ue,AM,by simpa using AN,bJ.1 U,bJ.1 f4,f9⟩
 ·obtain⟨i,hi,rfl⟩:=jg.1 hr;have C:=q1 i hi;unfold q8 at C;rw[bZ hi]at C;simp[o6,aN,iU]at C;have⟨⟨k1,k2,k3,k4,k5,k6,k7⟩,_⟩:=C;exact⟨⟨k3,k4⟩,bJ.1 k2,bJ.1 k7⟩
 ·obtain⟨i,hi,rfl⟩:=jg.1 ha;have C:=g6 i hi;unfold ud at C;simp_all
def wu(r:cy)(a:aI):Bool:=(je r a.ay).open_&&((je r a.ay).row==a.row)
def DA(r:cy)(a:aI)(w:Bool):aG:=
 bif !(je r a.ay).open_ then ⟨1,a.ay,a.row,0⟩else bif (je r a.ay).row != a.row then ⟨4,a.ay,0,0⟩else bif w then ⟨3,a.ay,0,a.bR⟩else ⟨2,a.ay,0,a.bR⟩
def AV{r:cy}{b:Int}(h:b.toNat<r.aB.length):je r b=r.aB[b.toNat]:=by
 unfold je;rw[eY,bZ h];rfl
def MX{b:Int}{n:Nat}(C:0<=b)(h:b.toNat<n)(D:n<=1048576):aL b 0 (W6 ((n:Int)-1))=true:=by
 rw[aO];exact bJ.2 ⟨C,by omega⟩
def Tu{r:cy}{a:aI}(w:Bool)(C:0 <= a.ay)(h:a.ay.toNat<r.aB.length)(D:r.aB.length <= 1048576):ya r a w=some (DA r a w):=by
 unfold ya DA xI;rw[dB,ak,MX C h D,bC,az ⟨C,h⟩,AV h]
 grind
def alZ:Ag=ya:=rfl
def al0{r:cy}{b:Int}(C:0 <= b)(h:b.toNat<r.aB.length)(D:r.aB.length <= 1048576):LY r b=some (bif (je r b).open_ then (je r b).row else -1):=by
 unfold LY xI;rw[dB,ak,MX C h D,bC,az ⟨C,h⟩,AV h]
 grind
def aEY:Q3=LY:=rfl
def aEZ{r:cy}{a:aI}(E:0 <= a.row)(C:0 <= a.ay)(h:a.ay.toNat<r.aB.length)(D:r.aB.length <= 1048576):FT r a=some (wu r a):=by
 unfold FT wu;rw[fO (by omega:¬ a.row = -1),al0 C h D,ak];cases (je r _).open_ with
 |false=>rw[aq,kU (by omega:¬ (-1)=a.row)];rfl
 |true=>rfl
def al1{r:cy}{a:aI}(E:0 <= a.row)(C:0 <= a.ay)(h:a.ay.toNat<r.aB.length)(D:r.aB.length <= 1048576):KE r a=some (wu r a):=by
 unfold KE wu;rw[aEY,al0 C h D,ak,ak];cases (je r _).open_ with
 |false=>simp_all
 | true=>
  rw[au,cv];by_cases e:(je r a.ay).row=a.row
  ·rw[e,dR,au,fO (by omega:¬ a.row = -1)]
  ·grind
def aE0{g:aV}{r:cy}{a:aI}(w:Bool)(h:fj g a=true):dL g (DA r a w)=true:=by
 have⟨D,E,Y,L,Z,O,b6⟩:=sB h;have T:aL _ 0 (bf g-1)=true:=bJ.2 ⟨E,by omega⟩;have C:aL a.row 0 (g.rows-1)=true:=bJ.2 ⟨L,by omega⟩;have U:aL a.bR 0 (g.aT-1)=true:=bJ.2 ⟨O,by omega⟩;unfold DA dL sG;cases (je r _).open_<;>cases (je r _).row != a.row<;>cases w<;>simp[D,aL,C]<;>simp[aL,iU]at T C U<;>omega
def AX{g:aV}{k b:Int}(C:cI g=true)(D:k=4 \/ k=5)(E:0 <= b/\b<bf g):dL g ⟨k,b,0,0⟩=true:=by
 have L:aL b 0 (bf g-1)=true:=bJ.2 ⟨E.1,by omega⟩;unfold dL sG;rcases D with rfl|rfl<;>simp[C,aL]<;>simp[aL,iU]at L<;>omega
def aE1{g:aV}{a:aI}(h:fj g a=true):dL g ⟨1,a.ay,a.row,0⟩=true:=by
 have⟨C,D,E,L,O,T,U⟩:=sB h;unfold dL sG;simp[C,aL];omega
def Tv{g:aV}{k:Int}(C:cI g=true)(D:6<=k/\k<=9):dL g ⟨k,0,0,0⟩=true:=by
 obtain⟨n,rfl⟩:=gY (show 0<=k by omega);have:n=6\/n=7\/n=8\/n=9:=by omega
 unfold dL;rw[C];rcases this with rfl|rfl|rfl|rfl<;>rfl
def aaC(l:aa aI)(b:Int)(E:l.length<=1048576):C5 l b=some (l.any λa=>a.ay==b):=by
 have L:=we (λa:aI=>a.ay==b) l;unfold C5 YT YS;rw[Tg];have e:=cA (step:=FQ) (dx (λa:aI=>a.ay==b) l) (λi=>((l,b,(l.length:Int),(i:Int),()),())) (if dx (λa:aI=>a.ay==b) l<l.length then .inl ((((dx (λa:aI=>a.ay==b) l:Nat):Int),()),())else .inr (.inl ((),()))) aR (λk h=>by
  have D:=nA h (by omega);unfold FQ av aQ xG xI;dsimp only;rw[aW,au,az ⟨by omega,by omega⟩];simp only[bD];rw[D,aq,bB]) (by
  by_cases C:dx (λa:aI=>a.ay==b) l<l.length
  ·have D:=rj C;unfold FQ av aQ xG xI;dsimp only;rw[aW,au,az ⟨by omega,by omega⟩];simp only[bD];rw[D,au,bM C]
  ·unfold FQ av aQ xG xI;dsimp only;rw[aU,aq,bX C]) (bO)
 rw[cu]at e;rw[e];by_cases C:dx (λa:aI=>a.ay==b) l<l.length
 ·rw[bM C,aW C];simp
 ·rw[bX C,aU C];rfl
def pn(t:bQ)(row:Int):ah Nat:=match t.rows.findIdx? (λe=>e==row)with
 |some i=>some i
 |none=>t.counts.findIdx? (λe=>e==t.cY)
def jZ(t:bQ)(row:Int):bQ:=match t.rows.findIdx? (λe=>e==row)with
 |some i=>⟨t.rows,t.counts.set i (t.counts.getD i 0+1),t.cY⟩
 | none=>match t.counts.findIdx? (λe=>e==t.cY)with
  |some i=>⟨t.rows.set i row,t.counts.set i (t.cY+1),t.cY⟩
  |none=>⟨t.rows,t.counts,t.cY+1⟩
def uM(t:bQ)(row dz:Int):bQ×Bool:=bif kI t&&(aL row 0 15&&aL dz 2 1000)then (bif kI (jZ t row)then (jZ t row,match pn t row with
    |some i=>((jZ t row).counts.getD i 0).tmod dz==0
    |none=>false)else (t,false))else (t,false)
structure Tk (t:bQ):Prop where
 rl:t.rows.length<=16
 cl:t.counts.length=t.rows.length
 sp:0<=t.cY/\t.cY<=100000
 cs:∀i (h:i<t.counts.length),0<=t.counts[i]/\t.counts[i]<=100000
def Tk.of{t:bQ}(h:kI t=true):Tk t:=by
 simp[kI,aN,gA,cw,gk]at h;have⟨D,O,C,L⟩:=h;have D:=bJ.1 D;have C:=bJ.1 C
 refine⟨by omega,by omega,C,λi hi=>?_⟩
 have E:=L i (by omega);rw[S0 (by omega) hi,aN,aN]at E;have:=bJ.1 E.2.1;omega
def MY{T:Type}{p:T -> Bool}{l:aa T}{i:Nat}(h:l.findIdx? p=some i):∃ hi:i<l.length,p l[i]=true:=by
 have⟨hi,C,_⟩:=pF.1 h;simp_all
def aE2{t:bQ}(h:Tk t)(row:Int):Rh t row=some ((match pn t row with | some i=>(i:Int) | none=>-1),(jZ t row,())):=by
 have T:=h.rl;have U:=h.cl;have E:=vY (step:=KU) t.rows (λe=>e==row) (λi=>(((),row,(i:Int),()),(((),(),t.cY,()),t.rows,t.counts,()))) (λi=>.inl (((i:Int),()),(((),(),t.cY,()),t.rows,t.counts.set i (t.counts.getD i 0+1),()))) (.inr (.inl (((),row,()),(((),(),t.cY,()),t.rows,t.counts,())))) aR (λk D=>by
  have C:k<t.counts.length:=by omega
  have L:=h.cs k C;unfold KU av aQ xG xL;dsimp only;rw[aW,au,az ⟨by omega,by omega⟩,az];simp only[bD];cases t.rows[k]==row with
  |false=>rw[aq,aq,bB]
  | true=>
   rw[ az ⟨by omega,C⟩,az C,az ⟨by omega,C⟩,az C,aO (n:=t.counts[k]+1),eY,bZ C];rfl) (by
  unfold KU av aQ xG xL;dsimp only;rw[aU,aq]) (bO)
 have O:=vY (step:=KV) t.counts (λe=>e==t.cY) (λi=>(((),row,(i:Int),()),(((),(),t.cY,()),t.rows,t.counts,()))) (λi=>.inl (((i:Int),()),(((),(),t.cY,()),t.rows.set i row,t.counts.set i (t.cY+1),()))) (.inr (.inl (((),()),(((),(),t.cY,()),t.rows,t.counts,())))) aR (λk D=>by
  have C:k<t.rows.length:=by omega
  have L:=h.sp;unfold KV av aQ xG xL;dsimp only;rw[aW,au,az ⟨by omega,by omega⟩,az];simp only[bD];cases t.counts[k]==t.cY with
  |false=>rw[aq,aq,bB]
  |true=>rw[au,au,az ⟨by omega,C⟩,az C,az ⟨by omega,D⟩,az D,aO]) (by
  unfold KV av aQ xG xL;dsimp only;rw[aU,aq]) (bO)
 have Y:=h.sp;unfold Rh pn jZ bE
 refine(aY (λo=>Option.bind o _) E).trans ?_
 rw[ak];cases Z:t.rows.findIdx? (λe=>e==row)with
 |some i=>rfl
 | none=>
  simp only[eJ,Sum.elim_inr]
  refine(aY (λo=>Option.bind o _) O).trans ?_
  rw[ak];cases h2:t.counts.findIdx? (λe=>e==t.cY)with
  |some i=>rfl
  | none=>
   simp;rw[aO]
def aaD{t:bQ}(row:Int):(jZ t row).rows.length=t.rows.length/\(jZ t row).counts.length=t.counts.length:=by
 unfold jZ
 grind
def al2{t:bQ}(h:Tk t){row:Int}{i:Nat}(hi:pn t row=some i):i<t.counts.length:=by
 have:=h.cl;unfold pn at hi;split at hi
 next j C=>cases hi;have⟨D,_⟩:=MY C;omega
 ·exact(MY hi).1
def al3(t:bQ)(D:hU t)(row dz:Int):KW t row dz=some (uM t row dz):=by
 unfold KW uM xL;rw[alE t D,ak,Zy,ak];cases E:kI t with
 |false=>rfl
 | true=>
  have C:=Tk.of E;rw[bC,aq,eA,ak,cv];cases T:aL row 0 15 with
  |false=>rfl
  | true=>
   rw[bC,aq,eA,ak,cv];cases L:aL dz 2 1000 with
   |false=>rfl
   | true=>
    have U:=bJ.1 L;rw[bC,aq,au,aE2 C,ak,Zy,ak];dsimp only;cases Y:kI (jZ t row)with
    |false =>simp_all
    | true=>
     rw[bC,aq,au];cases O:pn t row with
     |none=>rfl
     | some i=>
      have hi:i<(jZ t row).counts.length:=by rw[(aaD row).2];exact al2 C O
      grind
def aE3(t:bQ)(hz:hU t)(row dz:Int):Sl t row dz=some (uM t row dz):=by
 have sw:∀x:Int,(λe:Int=>x==e)=λe=>e==x:=λx=>funext λe=>by rw[Bool.eq_iff_iff,gA,gA];exact eq_comm
 unfold Sl uM xL;rw[aad t hz,ak,Zx,ak];dsimp only;cases ht:kI t with
 |false=>rfl
 | true=>
  have T:=Tk.of ht;have r1:=T.rl;have r2:=T.cl;have uY:=T.sp;rw[bC,aq,dB,ak,cv];cases h1:aL row 0 15 with
  |false=>rfl
  | true=>
   rw[bC,aq,dB,ak,cv];cases h2:aL dz 2 1000 with
   |false=>rfl
   | true=>
    have hl:=bJ.1 h2;rw[bC,aq,au,SZ _ _ (by omega),ak,sw row];have aaE:∀ (E:Int) (D:bQ),D=jZ t row->(E=match pn t row with | some i=>(i:Int) | none=>-1)->
      ((At D).bind λjV=>bif (!jV)then ((some t).bind λqW=>some (qW,false))else (bif (decide (E >= (0:Int)))then if Q6:0<=E/\E.toNat<D.counts.length then if h25:E.toNat<D.counts.length then (if dz=0 then none else some (D,(D.counts[E.toNat]'h25).tmod dz==(0:Int)))else none else none else some (D,false)))=some (bif kI (jZ t row)then (jZ t row,match pn t row with
        |some i=>((jZ t row).counts.getD i 0).tmod dz==0
        |none=>false)else (t,false)):=by
     intro E D U e2;subst U;rw[Zx,ak];cases h3:kI (jZ t row)with
     |false=>rfl
     | true=>
      rw[bC,aq,au,e2];cases h4:pn t row with
      |none=>rfl
      | some i=>
       have hi:i<(jZ t row).counts.length:=by rw[(aaD row).2];exact al2 T h4
       simp only[bD];rw[aW,au,az ⟨by omega,hi⟩,az hi,bX,eY,bZ hi];rfl
    cases C:t.rows.findIdx? (λe=>e==row)with
    | some i=>
     obtain⟨hi,_⟩:=MY C;have O:i<t.counts.length:=by omega
     have hc:=T.cs i O;have Y:pn t row=some i:=by unfold pn;rw[C]
     have Z:jZ t row=⟨t.rows,t.counts.set i (t.counts[i]+1),t.cY⟩:=by unfold jZ;simp only[C];rw[eY,bZ O];rfl
     have U:gw (λe=>e==row) t.rows=(i:Int):=by unfold gw;rw[C]
     rw[U,aU,aq];simp only[bD];rw[aW,au,az ⟨by omega,O⟩,az O,az ⟨by omega,O⟩,az O];have hw:W6 (t.counts[i]+1)=t.counts[i]+1:=aO;simp only[hw];exact aaE (i:Int) ⟨t.rows,t.counts.set i (t.counts[i]+1),t.cY⟩ Z.symm (by rw[Y])
    | none=>
     have U:gw (λe=>e==row) t.rows = -1:=by unfold gw;rw[C]
     rw[U,aW,au,SZ _ _ (by omega),ak,sw t.cY];cases L:t.counts.findIdx? (λe=>e==t.cY)with
     | some i=>
      obtain⟨hi,hp⟩:=MY L;have hir:i<t.rows.length:=by omega
      have hp:t.counts[i]=t.cY:=by simpa using hp
      have Y:pn t row=some i:=by unfold pn;rw[C];exact L
      have Z:jZ t row=⟨t.rows.set i row,t.counts.set i (t.cY+1),t.cY⟩:=by unfold jZ;rw[C];simp only[L]
      have e3:gw (λe=>e==t.cY) t.counts=(i:Int):=by unfold gw;rw[L]
      rw[e3];simp only[bD];rw[aW,au,az ⟨by omega,hir⟩,az hir,au,az ⟨by omega,hi⟩,az hi,az ⟨by omega,hi⟩,az hi];have hw:W6 (t.cY+1)=t.cY+1:=aO;simp only[hp,hw];exact aaE (i:Int) ⟨t.rows.set i row,t.counts.set i (t.cY+1),t.cY⟩ Z.symm (by rw[Y])
     | none=>
      have Y:pn t row=none:=by unfold pn;rw[C];exact L
      have Z:jZ t row=⟨t.rows,t.counts,t.cY+1⟩:=by unfold jZ;rw[C];simp only[L]
      have e3:gw (λe=>e==t.cY) t.counts = -1:=by unfold gw;rw[L]
      have hw:W6 (t.cY+1)=t.cY+1:=aO;rw[e3,aU,aq,aq];simp only[hw];exact aaE (-1) ⟨t.rows,t.counts,t.cY+1⟩ Z.symm (by rw[Y])
def yw(k:Int):bQ:=⟨List.replicate k.toNat (-1),List.replicate k.toNat 0,0⟩
def aE4{k:Int}(h:aL k 1 16=true):Sr k=some (yw k,true):=by
 have C:=bJ.1 h;unfold Sr;have e:Cg ([(-1:Int)]) k=some (List.replicate k.toNat (-1)):=by
  unfold Cg;simp_all
 rw[dB,ak,h,bC,e,ak,bM ⟨by omega,Int.le_refl _,by omega⟩];rfl
def aE5{k:Int}(h:aL k 1 16=true):Rk k=some (yw k,true):=by
 have C:=bJ.1 h;obtain⟨n,rfl⟩:=gY (show 0 <= k by omega);unfold Rk;rw[eA,ak,h,bC,aBR n (by omega),ak,bM ⟨by omega,Int.le_refl _,by omega⟩];rfl
def wz(r:de)(b:Int):de:=bif decide (r.aH.getD b.toNat 0 = -2)then r else ⟨r.aH.set b.toNat (r.aH.getD b.toNat 0-1),r.wait,r.dS⟩
def Gx{r:de}(h:fB r=true):∀ x∈r.aH,-2 <= x/\x <= 5:=by
 simp[fB,aN,cw]at h;exact λx C=>bJ.1 (h.1 x C)
def aE6{α β:Type}{o:ah (α×β)}{a:α}(h:o.map Prod.fst=some a):∃b,o=some (a,b):=by simp_all
def aE7{r:de}(h:fB r=true){b:Int}(D:0 <= b)(C:b.toNat<r.aH.length):∃ y,Ro r b=some (wz r b,y):=by
 have O:=nB h;have T:=Gx h _ (cU C);have E:r.aH.getD b.toNat 0=r.aH[b.toNat]:=by rw[eY,bZ C];rfl
 unfold Ro JL wz xI xL xA xZ;rw[di (by simp;omega),au,ak,SU _ (by omega),ak,h,bC,aq,eA,ak,MX D C (by omega),bC,aq,az ⟨D,C⟩,E];dsimp only;by_cases L:r.aH[b.toNat] = -2
 ·simp_all
 ·rw[aU (show ¬ r.aH[b.toNat] <= -2 by omega),aU L,List.nil_append,az ⟨D,C⟩,az ⟨D,C⟩,az C,aO];simp_all
def aE8{r:de}(h:fB r=true){b:Int}(D:0 <= b)(C:b.toNat<r.aH.length):∃ y,Ss r b=some (wz r b,y):=by
 have O:=nB h;have T:=Gx h _ (cU C);have L:r.aH.getD b.toNat 0=r.aH[b.toNat]:=by rw[eY,bZ C];rfl
 unfold Ss CU wz xI xL xA xZ;rw[di (by simp;omega),au,ak,My _ (by omega),ak,h,bC,aq,dB,ak,MX D C (by omega),bC,aq,az ⟨D,C⟩,L];dsimp only;by_cases E:r.aH[b.toNat] = -2
 ·simp_all
 ·rw[kU E,aU E,List.nil_append,az ⟨D,C⟩,az C,az ⟨D,C⟩,az C,aO];simp_all
def yx(p:eE)(k now:Int):eE:=bif jX p&&aL now p.since 1000000 then
 (bif (k==6)&&(p.state==0)then ⟨1,now,p.idle⟩else bif (k==8)&&(p.state==0)then ⟨2,now,p.idle⟩else bif (k==7)&&(p.state==1)then ⟨0,now,p.idle⟩else bif (k==9)&&(p.state==2)then ⟨0,now,p.idle⟩else p)else p
def Tw(p:eE){k:Int}(C:6 <= k/\k <= 9)(now:Int):∃ y,Sx p k now=some (yx p k now,y):=by
 refine aE6 ?_;unfold Sx yx;rw[SW,ak];cases jX p with
 |false=>rfl
 | true=>
  rw[bC,aq,dB,ak];cases aL now p.since 1000000 with
  |false=>rfl
  | true=>
   have:k=6 \/ k=7 \/ k=8 \/ k=9:=by omega
   grind
def Tx(p:eE){k:Int}(C:6 <= k/\k <= 9)(now:Int):∃ y,Rs p k now=some (yx p k now,y):=by
 unfold Rs yx;simp[SX,eA];have:k=6 \/ k=7 \/ k=8 \/ k=9:=by omega
 rcases this with rfl|rfl|rfl|rfl
 ·grind
 ·grind
 ·grind
 ·grind
def al4{α β T:Type}{step:α -> ah (α⊕β)}(p:T -> Bool)(S:Nat -> Nat -> aa T -> α)(Z:Nat -> aa T -> β)
  (hs:∀i j s (E:j<s.length),i <= j -> j<1073741824 -> step (S i j s)=some (.inl (bif p s[j]then S i (j+1) s else S (i+1) (j+1) (s.set i s[j]))))
  (hz:∀i s,i <= s.length -> step (S i s.length s)=some (.inr (Z i s))):
  ∀(n i j fuel:Nat) (s:aa T),j+n=s.length -> i <= j -> s.length<1073741824 -> n<fuel -> ∃C D,iter step fuel (S i j s)=some (Z D C)/\C.length=s.length/\D <= s.length/\C.take D=s.take i++(s.drop j).filter (λx=>!p x):=by
 intro n
 induction n with
 | zero=>
  intro i j fuel s hn hi L hf;obtain⟨f,rfl⟩:∃f,fuel=f+1:=⟨fuel-1,by omega⟩
  have ej:j=s.length:=by omega
  subst ej;refine⟨s,i,?_,rfl,hi,by simp⟩;unfold iter;simp_all
 | succ n O=>
  intro i j fuel s hn hi L hf;obtain⟨f,rfl⟩:∃f,fuel=f+1:=⟨fuel-1,by omega⟩
  have E:j<s.length:=by omega
  unfold iter;rw[hs i j s E hi (by omega)];have hd:=List.drop_eq_getElem_cons E;cases hp:p s[j]with
  | true=>
   have⟨C,D,U,Y,h3,h4⟩:=O i (j+1) f s (by omega) (by omega) L (by omega)
   grind
  | false=>
   have⟨C,D,U,Y,h3,h4⟩:=O (i+1) (j+1) f (s.set i s[j]) (by simp;omega) (by omega) (by simp;omega) (by omega);refine⟨C,D,U,by simpa using Y,by simpa using h3,?_⟩;rw[h4,hd,List.filter_cons_of_pos (by simp[hp]),List.drop_set_of_lt (by omega),List.take_add_one,List.getElem?_set_self (by omega),List.take_set_of_le (by omega)];simp
def aaF{T:Type}{p:T -> Bool}{l:aa T}{k:Nat}(h:l.findIdx? p=some k):l.filter (λx=>!p x)=l.take k++(l.drop (k+1)).filter (λx=>!p x):=by
 have⟨D,E,L⟩:=pF.1 h;have e:l=l.take k++l[k] :: l.drop (k+1):=by
  simp[*]
 have O:(l.take k).filter (λx=>!p x)=l.take k:=by
  rw[List.filter_eq_self];intro a C;obtain⟨i,hi,rfl⟩:=jg.1 C
  grind
 grind
def aaG{T:Type}(s r:aa T)(i:Nat)(h:i <= s.length):(splice s i r).take i=s.take i:=by
 unfold splice;simp_all
def aE9(l:aa aI)(a:aI)(C:l.length<1073741824):Sn l a=some (gw (gx a) l):=by
 unfold Sn gw;have e:=vY (step:=L8) l (gx a) (λi=>((l,a,(l.length:Int),(i:Int),()),())) (λi=>.inl (((i:Int),()),())) (.inr (.inl ((),()))) aR (λk h=>by
  unfold L8 gx av aQ xG xI;dsimp only;rw[aW,au,az ⟨by omega,by omega⟩];simp only[bD];rw[bB];cases (l[k].ay==a.ay&&(l[k].row==a.row&&(l[k].bR==a.bR&&true)))<;>rfl) (by
  unfold L8 av aQ xG xI;dsimp only;rw[aU,aq]) (bO C)
 rw[cu]at e;rw[e];cases l.findIdx? (gx a)<;>rfl
def aFa(l:aa aI)(x:aG)(C:l.length<1073741824):SA l x=some (gw (λa=>a.ay==x.ay) l):=by
 unfold SA gw;have e:=vY (step:=Me) l (λa=>a.ay==x.ay) (λi=>((l,x,(l.length:Int),(i:Int),()),())) (λi=>.inl (((i:Int),()),())) (.inr (.inl ((),()))) aR (λk h=>by
  unfold Me av aQ xG xI;dsimp only;rw[aW,au,az ⟨by omega,by omega⟩];simp only[bD];rw[bB];cases (l[k].ay==x.ay)<;>rfl) (by
  unfold Me av aQ xG xI;dsimp only;rw[aU,aq]) (bO C)
 rw[cu]at e;rw[e];cases l.findIdx? (λa=>a.ay==x.ay)<;>rfl
def aFb(l:aa aI)(a:aI)(O:l.length<1000000):So l a=some (l.filter (λx=>!gx a x),([],())):=by
 unfold So;rw[aE9 l a (by omega),ak];unfold gw;cases C:l.findIdx? (gx a)with
 | none=>
  have e:l.filter (λx=>!gx a x)=l:=by
   rw[List.filter_eq_self];intro x D;have:=List.findIdx?_eq_none_iff.1 C x D;simp[this]
  rw[e];rfl
 | some k=>
  obtain⟨T,U,Y⟩:=pF.1 C;rw[aaF C];simp only;rw[kU (show ¬ (k:Int) = -1 by omega),aq,bB];obtain⟨Z,i',E,h2,h3,L⟩:=al4 (step:=L9) (gx a) (λi j s=>(((),a,(i:Int),(j:Int),()),(s,()))) (λi s=>.inl (((),(i:Int),()),(s,()))) (λi j s hj hi hb=>by
   unfold L9 gx av xG xL;dsimp only;rw[aW,au,az ⟨by omega,by omega⟩,az];simp only[bD];rw[bB,bB,az ⟨by omega,by omega⟩,az];cases (s[j].ay==a.ay&&(s[j].row==a.row&&(s[j].bR==a.bR&&true)))<;>rfl) (λi s hi=>by
   unfold L9 av xG xL;dsimp only;rw[aU,aq]) (l.length-(k+1)) k (k+1) aR l (by omega) (by omega) (by omega) (by unfold aR;omega)
  rw[E,ak,eJ];dsimp only;rw[bM ⟨by omega,by omega,by omega⟩,bM ⟨by omega,by omega⟩,bM ⟨by omega,by omega,by
   rw[sR _ _ _ (by simp;omega)];omega⟩]
  rw[aaG _ _ _ (by omega),bD,L]
def aFc(l:aa aI)(c:aG)(O:l.length<1000000):SB l c=some (l.filter (λx=>!(x.ay==c.ay)),([],())):=by
 unfold SB;rw[aFa l c (by omega),ak];unfold gw;cases C:l.findIdx? (λa=>a.ay==c.ay)with
 | none=>
  have e:l.filter (λx=>!(x.ay==c.ay))=l:=by
   rw[List.filter_eq_self];intro x D;have:=List.findIdx?_eq_none_iff.1 C x D;simp[this]
  rw[e];rfl
 | some k=>
  obtain⟨T,U,Y⟩:=pF.1 C;rw[aaF C];simp only;rw[kU (show ¬ (k:Int) = -1 by omega),aq,bB];obtain⟨Z,i',E,h2,h3,L⟩:=al4 (step:=Mf) (λx=>x.ay==c.ay) (λi j s=>(((),c,(i:Int),(j:Int),()),(s,()))) (λi s=>.inl (((),(i:Int),()),(s,()))) (λi j s hj hi hb=>by
   unfold Mf av xG xL;dsimp only;rw[aW,au,az ⟨by omega,by omega⟩,az];simp only[bD];rw[bB,bB,az ⟨by omega,by omega⟩,az];cases (s[j].ay==c.ay)<;>rfl) (λi s hi=>by
   unfold Mf av xG xL;dsimp only;rw[aU,aq]) (l.length-(k+1)) k (k+1) aR l (by omega) (by omega) (by omega) (by unfold aR;omega)
  rw[E,ak,eJ];dsimp only;rw[bM ⟨by omega,by omega,by omega⟩,bM ⟨by omega,by omega⟩,bM ⟨by omega,by omega,by
   rw[sR _ _ _ (by simp;omega)];omega⟩]
  rw[aaG _ _ _ (by omega),bD,L]
def mD(b:Int)(pd:aa aI)(n:Int):aa aI:=bif pd.any (gx ⟨b,n,0⟩)then pd else pd++[⟨b,n,0⟩]
def qh(c:ax)(t:aa bQ)(C:aa Int)(pd:aa aI):ax:=⟨c.config,c.box,c.now,c.bq,c.ready,c.array,c.spare,c.aP,t,C,pd,c.queue,c.shares,c.drain,c.aZ,c.cK,c.errors,c.trace,c.cS⟩
def al5{T:Type}(p:T -> Bool)(l:aa T):decide (gw p l<0) = !l.any p/\decide (gw p l >= 0)=l.any p:=by
 unfold gw
 grind
def Ty(b:Int):∀ (ns:aa Int) (pd:aa aI),(ns.foldl (mD b) pd).length <= pd.length+ns.length
 |[],pd=>dM _
 | n :: ns,pd=>by
  have:=Ty b ns (mD b pd n);have C:(mD b pd n).length <= pd.length+1:=by
   unfold mD
   grind
  grind
def al6{T U:Type}(f:U->T->U)(l:aa T)(u:U){k:Nat}(h:k<l.length):(l.take (k+1)).foldl f u=f ((l.take k).foldl f u) l[k]:=by
 rw[List.take_add_one,bZ h,List.foldl_append];rfl
def aFd(c:ax)(x:aG)(ns:aa Int)(D:ns.length <= 1000)(E:c.pending.length <= 1000):iter F2 aR (((),(),(),(ns.length:Int),(0:Int),()),(c,(x.kind,x.ay,x.row,x.bR,()),ns,()))=some (.inl ((),(qh c c.bH c.guard (ns.foldl (mD x.ay) c.pending),()))):=by
 have e:=cA (step:=F2) _ (λi=>(((),(),(),ns.length,i,()),(qh c c.bH c.guard ((ns.take i).foldl _ _),(x.kind,x.ay,x.row,x.bR,()),ns,()))) _ aR (λk h=>by
  have C:=Ty x.ay (ns.take k) c.pending;rw[fJ]at C;rw[al6 _ _ _ h];generalize (ns.take k).foldl (mD x.ay) c.pending=pd at C;unfold F2 mD qh Y4 av xG xL;dsimp only;rw[aW,au,az ⟨by omega,by omega⟩,az];simp only[bD];rw[akV _ _ (by omega),ak,ak,(al5 _ _).2,bB,di (by simp;omega)];cases pd.any (gx ⟨x.ay,ns[k],0⟩)<;>rfl) (by
  unfold F2 qh av xG xL;dsimp only;rw[aU,aq]) (bO)
 rw[ iV]at e;exact e
def aFe(c:ax)(x:aG)(ns:aa Int)(D:ns.length <= 1000)(E:c.pending.length <= 1000):iter tW aR (((),(),true,(),(0:Int),()),(c,(x.kind,x.ay,x.row,x.bR,()),ns,()))=some (.inl ((),(qh c c.bH c.guard (ns.foldl (mD x.ay) c.pending),()))):=by
 have e:=cA (step:=tW) _ (λi=>(((),(),true,(),i,()),(qh c c.bH c.guard ((ns.take i).foldl _ _),(x.kind,x.ay,x.row,x.bR,()),ns,()))) _ aR (λk h=>by
  have C:=Ty x.ay (ns.take k) c.pending;rw[fJ]at C;rw[al6 _ _ _ h];generalize (ns.take k).foldl (mD x.ay) c.pending=pd at C;unfold tW mD qh av xG xL;dsimp only;rw[aW,au,au,az ⟨by omega,by omega⟩,az];simp only[bD];rw[ZC _ _ (by omega),ak,(al5 _ _).1,bB,di (by simp;omega)];cases pd.any (gx ⟨x.ay,ns[k],0⟩)<;>rfl) (by
  unfold tW qh av xG xL;dsimp only;rw[aU,aq]) (bO)
 rw[ iV]at e;exact e
def aFf(c:ax)(x:aG)(ns:aa Int):iter tW aR (((),(),false,(),(0:Int),()),(c,(x.kind,x.ay,x.row,x.bR,()),ns,()))=some (.inl ((),(c,()))):=by
 have e:=cA (step:=tW) 0 (λi=>(((),(),false,(),i,()),(c,(x.kind,x.ay,x.row,x.bR,()),ns,()))) _ aR (λk h=>by omega) (by
  unfold tW av xG xL;cases decide ((0:Int)<ns.length)<;>rfl) (bO)
 simp_all
def zT:bQ:=⟨[],[],0⟩
def sJ(c:ax)(x:aG):bQ×Bool:=uM (c.bH.getD x.ay.toNat zT) x.row (c.guard.getD x.ay.toNat 0)
def ou(c:ax)(x:aG):aa aI:=c.pending.filter (λa=>!gx ⟨x.ay,x.row,0⟩ a)
def uN(c:ax)(x:aG):ax:=
 qh (dm c (uI c.config.aE c.config.dO c.array x.ay x.row)) (c.bH.set x.ay.toNat (sJ c x).1) c.guard (bif (sJ c x).2 then (lQ c.config.aE.rows x.row).foldl (mD x.ay) (ou c x)else ou c x)
def nD{T:Type}{l:aa T}{i:Nat}(d:T)(h:i<l.length):l.getD i d=l[i]:=by
 rw[eY,bZ h];rfl
def aaH(R r:Int):(lQ R r).length <= 2:=by
 unfold lQ
 grind
def aaI{T:Type}(p:T->Bool)(l:aa T):(l.filter p).length<=l.length:=List.length_filter_le p l
def aFg{B:Int}(c:ax)(x:aG)(L:cI c.config.aE=true)(Y:eX c.config.aE B c.array)(hp:c.pending.length <= 200)(Z:∀ t∈c.bH,hU t)(D:0 <= x.ay)(h2:x.ay<bf c.config.aE)(O:0 <= x.row)(T:x.row<c.config.aE.rows)(C:x.ay.toNat<c.bH.length)(E:x.ay.toNat<c.guard.length):Sp c x=some ((),(uN c x,())):=by
 have⟨_,_,_,_,g5,g6,g7,g8⟩:=fF L;have U:=alL L c.config.dO c Y D h2 O T;have e2:=aFb c.pending ⟨x.ay,x.row,0⟩ (by omega);have hf:(ou c x).length <= c.pending.length:=List.length_filter_le _ _;have qE:=aaH c.config.aE.rows x.row;simp only[dm]at U;unfold Sp bh xL xM
 refine(aY (λo=>Option.bind o _) U).trans ?_
 rw[ak];dsimp only
 refine(aY (λo=>Option.bind o _) e2).trans ?_
 rw[ak];dsimp only;rw[az ⟨D,C⟩,az C,az ⟨D,E⟩,az E,az C,az C];rw[aE3 _ (Z _ (cU C)),ak,az ⟨D,C⟩,az C];unfold uN sJ;rw[nD _ C,nD _ E];cases (uM (c.bH[x.ay.toNat]'C) x.row (c.guard[x.ay.toNat]'E)).2 with
 |false=>rfl
 | true=>
  rw[bC,aq,ZP (by omega) (by omega) O T,ak]
  refine(aY (λo=>Option.bind o _) (aFd (qh (dm c (uI _ _ c.array x.ay x.row)) _ c.guard (ou c x)) x _ (by omega) (by unfold qh;dsimp only;omega))).trans ?_
  rfl
def wA(l:aa aI):Prop:=∀i (h:i<l.length),(l.take i).any (gx l[i])=false
def MZ{a b:aI}:gx a b=true ↔ a=b:=by
 have⟨C,D,E⟩:=a;have⟨L,O,T⟩:=b;simp[gx,aN,gA,and_true,aI.mk.injEq]
 grind
def wA.cut{l:aa aI}(h:wA l){a:aI}{k:Nat}(C:l.findIdx? (gx a)=some k):l.take k++l.drop (k+1)=l.filter (λx=>!gx a x):=by
 have⟨O,D,T⟩:=pF.1 C;rw[aaF C];congr 1;symm;rw[List.filter_eq_self];intro x E;obtain⟨i,hi,rfl⟩:=jg.1 E;rw[List.length_drop]at hi;rw[List.getElem_drop];cases L:gx a _ with
 |false=>rfl
 | true=>
  have U:=MZ.1 L;have Y:=MZ.1 D;have:=List.any_eq_false.1 (h (k+1+i) (by omega)) l[k] (jg.2 ⟨k,by rw[fJ];omega,by rw[List.getElem_take]⟩);simp_all
def aFh{B:Int}(c:ax)(x:aG)(L:cI c.config.aE=true)(ha:eX c.config.aE B c.array)(hp:c.pending.length <= 200)(hu:wA c.pending)(O:∀ t∈c.bH,hU t)(D:0 <= x.ay)(h2:x.ay<bf c.config.aE)(T:0 <= x.row)(U:x.row<c.config.aE.rows)(C:x.ay.toNat<c.bH.length)(E:x.ay.toNat<c.guard.length):Ri c x=some ((),(uN c x,())):=by
 have⟨_,_,_,_,g5,g6,g7,g8⟩:=fF L;have Y:=alP L c.config.dO c ha D h2 T U;have e2:=ZC c.pending ⟨x.ay,x.row,0⟩ (by omega);have hf:(ou c x).length <= c.pending.length:=List.length_filter_le _ _;have qE:=aaH c.config.aE.rows x.row;have Z:Yn c.config.aE.rows x.row=some (lQ c.config.aE.rows x.row):=ZP (by omega) (by omega) T U;simp only[dm]at Y;unfold Ri xA bh xL xM xZ
 refine(aY (λo=>Option.bind o _) Y).trans ?_
 rw[ak];dsimp only
 refine(aY (λo=>Option.bind o _) e2).trans ?_
 rw[ak];have BJ:∀ pd:aa aI,pd=ou c x -> ∀ t:bQ×Bool,t=sJ c x -> (iter tW aR (((),(),t.2,(),(0:Int),()),((⟨c.config,c.box,c.now,c.bq,c.ready,uI c.config.aE c.config.dO c.array x.ay x.row,c.spare,c.aP,(c.bH.set x.ay.toNat t.1),c.guard,pd,c.queue,c.shares,c.drain,c.aZ,c.cK,c.errors,c.trace,c.cS⟩:ax),(x.kind,x.ay,x.row,x.bR,()),lQ c.config.aE.rows x.row,()))).bind (Sum.elim (λK0=>some ((),(K0.2.1,()))) (λz=>nomatch z))=some ((),(uN c x,())):=by
  rintro pd rfl ⟨t1,t2⟩ C;unfold uN;rw[<- C];cases t2 with
  | false=>
   refine(aY (λo=>Option.bind o _) (aFf _ x _)).trans ?_
   rfl
  | true=>
   refine(aY (λo=>Option.bind o _) (aFe _ x _ (by omega) (by dsimp only;omega))).trans ?_
   rfl
 have hT:sJ c x=uM (c.bH[x.ay.toNat]'C) x.row (c.guard[x.ay.toNat]'E):=by
  unfold sJ;simp[*]
 unfold gw;cases hi:c.pending.findIdx? (gx ⟨x.ay,x.row,0⟩)with
 | none=>
  have e:ou c x=c.pending:=by
   unfold ou;rw[List.filter_eq_self];simp_all
  dsimp only;rw[aU,aq,az ⟨D,C⟩,az C,az ⟨D,E⟩,az E,az C,az C];rw[al3 _ (O _ (cU C)),ak,az ⟨D,C⟩,az C,Z,ak];exact BJ _ e.symm _ hT.symm
 | some k=>
  have⟨k1,OS,hq⟩:=pF.1 hi;have e:=hu.cut hi;dsimp only;rw[aW,au,bB,bM ⟨by omega,by omega,by omega⟩,bM ⟨by omega,by omega,by omega⟩];simp only[bD,Int.toNat_zero,List.drop_zero,List.nil_append,iV];rw[di (by simp;omega),au,di (by simp;omega),au,az ⟨D,C⟩,az C,az ⟨D,E⟩,az E,az C,az C];rw[al3 _ (O _ (cU C)),ak,az ⟨D,C⟩,az C,Z,ak];exact BJ _ e _ hT.symm
def yz{U:Type}(f:U->Nat->U)(u:U)(k:Nat):(List.range (k+1)).foldl f u=f ((List.range k).foldl f u) k:=by
 rw[List.range_succ,List.foldl_append];rfl
def qi(g:aV)(l:iX)(a:cZ)(b:Int)(n:Nat):cZ:=(List.range n).foldl (λa (r:Nat)=>uI g l a b (r:Int)) a
def Gy{g:aV}(C:cI g=true)(l:iX){B:Int}(hB:0<=B){a:cZ}(D:eX g B a){b:Int}(E:0<=b)(L:b<bf g):∀ n:Nat,(n:Int)<=g.rows->eX g B (qi g l a b n)
 |0,_=>D
 | n+1,h=>by
  unfold qi;rw[yz];exact aap C l hB (Gy C l hB D E L n (by omega)) E L (by omega) (by omega)
def al7{B:Int}(hB:0 <= B)(c:ax)(C:cI c.config.aE=true)(O:eX c.config.aE B c.array){b:Int}(D:0 <= b)(E:b<bf c.config.aE):Sq c b=some ((),(dm c (qi c.config.aE c.config.dO c.array b c.config.aE.rows.toNat),())):=by
 have⟨_,_,_,_,T,U,Y,Z⟩:=fF C;have e:=cA (step:=Ma) c.config.aE.rows.toNat (λi=>(((),b,i,()),(dm c (qi _ _ _ b i),()))) _ aR (λk h=>by
  have L:=alL C c.config.dO (dm c (qi c.config.aE c.config.dO c.array b k)) (Gy C c.config.dO hB O D E k (by omega)) D E (show 0 <= (k:Int) by omega) (by omega);simp only[dm]at L;unfold Ma dm av xG;dsimp only;rw[aW,au,L,ak,bB];dsimp only;unfold qi;rw[yz]) (by
  unfold Ma dm av xG;dsimp only;rw[aU,aq]) (bO)
 refine(aY (λo=>Option.bind o _) e).trans ?_
 rfl
def aFi{B:Int}(hB:0 <= B)(c:ax)(C:cI c.config.aE=true)(O:eX c.config.aE B c.array){b:Int}(D:0 <= b)(E:b<bf c.config.aE):Yq c.config.aE c.config.dO c b=some ((),(dm c (qi c.config.aE c.config.dO c.array b c.config.aE.rows.toNat),())):=by
 have⟨_,_,_,_,T,U,Y,Z⟩:=fF C;have e:=cA (step:=K2) c.config.aE.rows.toNat (λi=>(((),b,(),(),i,()),(dm c _,(c.config.aE.cH,c.config.aE.aB,c.config.aE.rows,c.config.aE.aT,()),(c.config.dO.bz,c.config.dO.bu,()),()))) _ aR (λk h=>by
  have L:=alP C c.config.dO (dm c (qi c.config.aE c.config.dO c.array b k)) (Gy C c.config.dO hB O D E k (by omega)) D E (show 0 <= (k:Int) by omega) (by omega);simp only[dm]at L;unfold K2 dm av xG;dsimp only;rw[aW,au,L,ak,bB];dsimp only;unfold qi;rw[yz]) (by
  unfold K2 dm av xG;dsimp only;rw[aU,aq]) (bO)
 refine(aY (λo=>Option.bind o _) e).trans ?_
 rfl
def M0(c:ax)(b:Int)(pd:aa aI):ax:=
 qh (dm c (qi c.config.aE c.config.dO c.array b c.config.aE.rows.toNat)) (c.bH.set b.toNat (yw c.config.iz)) (c.guard.set b.toNat c.box.bI.fD) pd
def al8(c:ax)(L:aL c.config.iz 1 16=true){b:Int}(C:0<=b)(D:b.toNat<c.bH.length)(E:b.toNat<c.guard.length):Mb c b=some ((),(qh c (c.bH.set b.toNat (yw c.config.iz)) (c.guard.set b.toNat c.box.bI.fD) c.pending,())):=by
 unfold Mb xL;rw[aE4 L,ak,az ⟨C,D⟩,az D,az ⟨C,E⟩,az E];rfl
def aFj(c:ax)(b:Int)(L:c.pending.length <= 1000):iter Fh aR (((),b,(),(0:Int),()),(c,([]:aa aI),()))=some (.inl (((),(),()),(c,c.pending.filter (λa=>!(a.ay==b)),()))):=by
 have e:=cA (step:=Fh) c.pending.length (λi=>(((),b,(),(i:Int),()),(c,(c.pending.take i).filter (λa=>!(a.ay==b)),()))) (.inl (((),(),()),(c,(c.pending.take c.pending.length).filter (λa=>!(a.ay==b)),()))) aR (λk h=>by
  have C:=aaI (λa:aI=>!(a.ay==b)) (c.pending.take k);rw[fJ]at C;have E:c.pending.take (k+1)=c.pending.take k++[c.pending[k]]:=by rw[List.take_add_one,bZ h];rfl
  rw[E,List.filter_append];generalize (c.pending.take k).filter (λa=>!(a.ay==b))=ls at C;unfold Fh av xG xL;dsimp only;rw[aW,au,az ⟨by omega,by omega⟩,az];simp only[bD];rw[bB,bne];cases D:c.pending[k].ay==b with
  |true=>rw[List.filter_cons_of_neg (by simp[D])];simp
  | false=>
   rw[iW,az ⟨by omega,by omega⟩,az,di (by simp;omega),List.filter_cons_of_pos (by simp[D])];rfl) (by
  unfold Fh av xG xL;dsimp only;rw[aU,aq]) (bO)
 rw[cu,iV]at e;exact e
def al9{B:Int}(hB:0 <= B)(c:ax)(O:cI c.config.aE=true)(T:eX c.config.aE B c.array)(U:aL c.config.iz 1 16=true)(Z:c.pending.length <= 200){b:Int}(C:0 <= b)(Y:b<bf c.config.aE)(D:b.toNat<c.bH.length)(E:b.toNat<c.guard.length):K3 c b=some ((),(M0 c b (c.pending.filter (λa=>!(a.ay==b))),())):=by
 have L:=aFi hB c O T C Y;simp only[dm]at L;unfold K3 bh xL
 refine(aY (λo=>Option.bind o _) L).trans ?_
 rw[ak];rw[aE5 U,ak,az ⟨C,D⟩,az D,az ⟨C,E⟩,az E]
 refine(aY (λo=>Option.bind o _) (aFj _ b (by dsimp only;omega))).trans ?_
 rfl
def gy(c:ax)(k:Nat)(pd:aa aI):ax:=
 ⟨c.config,c.box,c.now,c.bq,c.ready,(List.range k).foldl (λa (b:Nat)=>qi c.config.aE c.config.dO a (b:Int) c.config.aE.rows.toNat) c.array,c.spare,⟨(List.range k).foldl (λd b=>d.set b 0) c.aP.aH,c.aP.wait,c.aP.dS⟩,(List.range k).foldl (λd b=>d.set b (yw c.config.iz)) c.bH,(List.range k).foldl (λd b=>d.set b c.box.bI.fD) c.guard,pd,c.queue,c.shares,c.drain,c.aZ,c.cK,c.errors,c.trace,c.cS⟩
def yA{T:Type}(x:T)(l:aa T):∀ k:Nat,((List.range k).foldl (λd b=>d.set b x) l).length=l.length
 |0=>rfl
 |k+1=>by rw[yz,gz,yA x l k]
def Tz{g:aV}(C:cI g=true)(l:iX){B:Int}(hB:0 <= B){a:cZ}(D:eX g B a):∀ k:Nat,(k:Int) <= bf g -> eX g B ((List.range k).foldl (λa (b:Nat)=>qi g l a (b:Int) g.rows.toNat) a)
 |0,_=>D
 | k+1,h=>by
  have⟨_,_,_,_,E,L,O,T⟩:=fF C;rw[yz];exact Gy C l hB (Tz C l hB D k (by omega)) (by omega) (by omega) _ (by omega)
structure uO (B:Int) (c:ax):Prop where
 hB:0<=B
 g:cI c.config.aE=true
 a:eX c.config.aE B c.array
 k:aL c.config.iz 1 16=true
 p:c.pending.length<=200
 t:(c.bH.length:Int)=bf c.config.aE
 d:(c.guard.length:Int)=bf c.config.aE
 r:(c.aP.aH.length:Int)=bf c.config.aE
def uO.TA{B:Int}{c:ax}(h:uO B c)(k:Nat)(C:(k:Int)<=bf c.config.aE)(pd:aa aI)(D:pd.length<=200):uO B (gy c k pd):=
 ⟨h.hB,h.g,Tz h.g c.config.dO h.hB h.a k C,h.k,D,(aY (λn:Nat=>(n:Int)) (yA _ _ k)).trans h.t,(aY (λn:Nat=>(n:Int)) (yA _ _ k)).trans h.d,(aY (λn:Nat=>(n:Int)) (yA _ _ k)).trans h.r⟩
def ama(c:ax)(k:Nat)(pd C:aa aI):gy c (k+1) C=⟨c.config,c.box,c.now,c.bq,c.ready,(M0 (gy c k pd) (k:Int) C).array,c.spare,⟨(gy c k pd).aP.aH.set k 0,c.aP.wait,c.aP.dS⟩,(M0 (gy c k pd) (k:Int) C).bH,(M0 (gy c k pd) (k:Int) C).guard,C,c.queue,c.shares,c.drain,c.aZ,c.cK,c.errors,c.trace,c.cS⟩:=by
 unfold gy;simp only[yz];rfl
def aFk{B:Int}{c:ax}(h:uO B c):iter yc aR (((),(c.bH.length:Int),(0:Int),()),(gy c 0 [],()))=some (.inl ((),(gy c c.bH.length [],()))):=by
 have U:=fG c.config.aE;have Y:=h.t;have e:=cA (step:=yc) c.bH.length (λi=>(((),c.bH.length,i,()),(gy c i [],()))) _ aR (λk Z=>by
  have C:=h.TA k (by omega) [] (by simp);have w1:=C.t;have E:=C.d;have L:=C.r;have D:bf (gy c k []).config.aE=bf c.config.aE:=rfl;rw[D]at w1 E L;have O:=al7 C.hB _ C.g C.a (b:=(k:Int)) (by omega) (by rw[D];omega);have T:=al8 (dm (gy c k []) (qi (gy c k []).config.aE (gy c k []).config.dO (gy c k []).array (k:Int) (gy c k []).config.aE.rows.toNat)) C.k (b:=(k:Int)) (by omega) (by show (k:Int).toNat<(gy c k []).bH.length;omega) (by show (k:Int).toNat<(gy c k []).guard.length;omega);rw[ama c k [] []];unfold yc av xG xL;dsimp only;rw[aW,au,O,ak,T,ak,bB];have w4:k<(gy c k []).aP.aH.length:=by omega
  rw[az ⟨by omega,by show (k:Int).toNat<(gy c k []).aP.aH.length;omega⟩,az (by show (k:Int).toNat<(gy c k []).aP.aH.length;omega)];rfl) (by
  unfold yc av xG xL;dsimp only;rw[aU,aq]) (bO)
 simp_all
def qj(pd:aa aI):Nat->aa aI
 |0=>pd
 |k+1=>(qj pd k).filter (λa=>!(a.ay==(k:Int)))
def amb(pd:aa aI):∀ k,(qj pd k).length<=pd.length
 |0=>dM _
 |k+1=>Nat.le_trans (aaI _ _) (amb pd k)
def amc(pd:aa aI){a:aI}:∀ k,a∈qj pd k -> a∈pd /\ ∀ b:Nat,b<k -> a.ay≠(b:Int)
 |0,h=>⟨h,λb D=>by omega⟩
 | k+1,h=>by
  have⟨C,E⟩:=List.mem_filter.1 h;have⟨L,O⟩:=amc pd k C
  grind
def aFl{pd:aa aI}{k:Nat}(h:∀ a∈pd,0 <= a.ay/\a.ay<(k:Int)):qj pd k=[]:=by
 rw[List.eq_nil_iff_forall_not_mem];intro a C;have⟨D,E⟩:=amc pd k C;have:=h a D;exact E a.ay.toNat (by omega) (by omega)
def aFm{B:Int}{c:ax}(h:uO B c)(hr:c.bq.aB.length=c.bH.length)(E:∀ a∈c.pending,0<=a.ay/\a.ay<bf c.config.aE):iter CS aR (((),(0:Int),()),(c,()))=some (.inl ((),(gy c c.bH.length [],()))):=by
 have b1:=fG c.config.aE;have htr:=h.t;have e:=cA (step:=CS) c.bH.length (λi=>(((),(i:Int),()),(gy c i (qj c.pending i),()))) (.inl ((),(gy c c.bH.length (qj c.pending c.bH.length),()))) aR (λk hk=>by
  have C:=h.TA k (by omega) (qj c.pending k) (Nat.le_trans (amb _ _) h.p);have w1:=C.t;have L:=C.d;have O:=C.r;have D:bf (gy c k (qj c.pending k)).config.aE=bf c.config.aE:=rfl;rw[D]at w1 L O;have T:=al9 C.hB _ C.g C.a C.k C.p (b:=(k:Int)) (by omega) (by rw[D];omega) (by omega) (by omega);rw[ama c k (qj c.pending k) (qj c.pending (k+1))];unfold CS av xG xL;dsimp only;rw[aW (by show (k:Int)<((c.bq.aB.length:Nat):Int);omega),au,T,ak,bB];rw[az ⟨by omega,by show (k:Int).toNat<(gy c k (qj c.pending k)).aP.aH.length;omega⟩,az (by show (k:Int).toNat<(gy c k (qj c.pending k)).aP.aH.length;omega)];rfl) (by
  unfold CS av xG xL;dsimp only;rw[aU (by show ¬ ((c.bH.length:Nat):Int)<((c.bq.aB.length:Nat):Int);omega),aq]) (bO)
 have U:qj c.pending c.bH.length=[]:=aFl (λa Y=>by have:=E a Y;omega);have Z:gy c 0 (qj c.pending 0)=c:=rfl;rw[cu,U,Z]at e;exact e
def wv(l:aa Int):Nat->Int
 |0=>0
 |i+1=>bits .or .i64 (wv l i) (W6 (l.getD i 0*2 ^ (min (4*(i:Int)).toNat IntKind.i64.bits)))
def amd{l:aa Int}(h:l.length=8)(C:∀ s∈l,0 <= s/\s <= 15):q5 l 8=true:=by
 simp[q5,aN,cw,vV,bJ];simp_all
def aFn{l:aa Int}(h:l.length=8)(D:∀ s∈l,0<=s/\s<=15):RS l=some (wv l 8,true):=by
 unfold RS bh;rw[aku _ _ (by omega),amd h D,ak];have e:=cA (step:=LO) 8 (λi=>((wv l i,l,(l.length:Int),(i:Int),()),())) (.inl ((wv l 8,()),())) aR (λi hi=>by
  have C:i<l.length:=by omega
  have E:W6 (4*(i:Int))=4*(i:Int):=aO;have L:¬ 4*(i:Int)<0:=by omega
  have O:l.getD i 0=l[i]:=by rw[eY,bZ C];rfl
  have T:wv l (i+1)=bits .or .i64 (wv l i) (W6 (l.getD i 0*2 ^ (min (4*(i:Int)).toNat IntKind.i64.bits))):=rfl;unfold LO av xG xI;rw[T,O];simp (disch:=omega) [C,E,L,bB]) (by unfold LO av xG xI;simp[h]) (bO)
 rw[cu]at e;simp only[bC,aq];have U:wv l 0=0:=rfl;rw[U]at e;rw[e];rfl
def aFo{l:aa Int}(h:l.length=8)(D:∀ s∈l,0<=s/\s<=15):QK l=some (wv l 8,true):=by
 unfold QK bh;rw[Mp _ _ (by omega),amd h D,ak];have e:=cA (step:=Kn) 8 (λi=>((l,wv l i,(i:Int),()),())) (.inl ((wv l 8,()),())) aR (λi hi=>by
  have C:i<l.length:=by omega
  have E:W6 (4*(i:Int))=4*(i:Int):=aO;have L:IntKind.u64.wrap (4*(i:Int))=4*(i:Int):=aln (by omega) (by omega);have O:¬ 4*(i:Int)<0:=by omega
  have T:l.getD i 0=l[i]:=by rw[eY,bZ C];rfl
  have U:wv l (i+1)=bits .or .i64 (wv l i) (W6 (l.getD i 0*2 ^ (min (4*(i:Int)).toNat IntKind.i64.bits))):=rfl;unfold Kn av xG xI;rw[U,T];simp (disch:=omega) [C,E,L,O,bB]) (by unfold Kn av xG xI;simp[h]) (bO)
 rw[cu]at e;simp only[bC,aq];have Y:wv l 0=0:=rfl;rw[Y]at e;rw[e];rfl
def aFp{w:aa Nat}(E:dK w)(C:w.length=11):QL (bw w)=some (bw (w.drop 3)):=by
 have L:=(Mq E C).ok;have hlen:(bw w).length=11:=by rw[gU,C]
 have D:(bw w).drop 3=bw (w.drop 3):=by simp
 unfold QL xA xZ;rw[Mp _ _ (by rw[gU];omega),L];generalize bw w=W at hlen D ⊢;rw[<- D];have O:W.take 11=W:=by rw[<- hlen,iV]
 simp[hlen,bP,O]
def ame{w:aa Nat}(D:dK w)(E:w.length=11):(bw (w.drop 3)).length=8 /\ ∀ s∈bw (w.drop 3),0 <= s/\s <= 15:=by
 refine⟨by rw[gU];simp[E],λs C=>?_⟩
 simp only[ List.mem_map]at C;obtain⟨x,L,rfl⟩:=C;have:=D x (List.mem_of_mem_drop L);omega
def AY(w:aa Nat):Int:=bif (ga w).2.1==2 then 0 else wv (bw ((ga w).1.drop 3)) 8
def aFq{w:aa Nat}(C:dK w)(D:w.length=11):RU (bw w)=some (AY w,(ga w).2.1,(ga w).2.2):=by
 have⟨E,L,_⟩:=Dv C D;have⟨d1,d2⟩:=ame L E;unfold RU AY;rw[alq C D,ak];cases h:(ga w).2.1==2 with
 |true=>simp
 | false=>
  rw[ aCo L E,ak,aFn d1 d2];rfl
def aFr{w:aa Nat}(C:dK w)(D:w.length=11):QM (bw w)=some (AY w,(ga w).2.1,(ga w).2.2):=by
 have⟨E,L,_⟩:=Dv C D;have⟨d1,d2⟩:=ame L E;unfold QM AY;rw[aCh C D,ak];cases h:(ga w).2.1==2 with
 |true=>simp
 | false=>
  rw[ aFp L E,ak,aFo d1 d2];rfl
def nw(c:bK):aa Nat:=c.symbols.map Int.toNat
def TB{c:bK}(h:Sy c.symbols):bw (nw c)=c.symbols/\dK (nw c)/\(nw c).length=11:=by
 have⟨C,D⟩:=Zj _ h.2;exact⟨C,D,by simp[nw,h.1]⟩
def ke(c:bK):Int:=bif c.iy then 2 else (ga (nw c)).2.1
def pq(c:bK):bK:=bif c.iy then c else bif (ga (nw c)).2.1==1 then ⟨bw (ga (nw c)).1,c.iy⟩else bif (ga (nw c)).2.1==2 then ⟨c.symbols,true⟩else c
def aFs{l:aa bK}{j:Nat}(h:j<l.length):l.set j l[j]=l:=List.set_getElem_self h
def aaJ{c:bK}(h:Sy c.symbols):Sy (pq c).symbols:=by
 have⟨O,C,D⟩:=TB h;have⟨E,L,_⟩:=Dv C D;unfold pq;cases c.iy with
 |true=>exact h
 | false=>
  cases (ga _).2.1==1 with
  |true=>exact Mq L E
  |false=>grind
def Gz(x:Int)(k:Nat):Int:=bits .and .i64 (x.fdiv (2 ^ (min (4*(k:Int)).toNat IntKind.i64.bits))) 15
def kf(x:Int):Nat->aa Int
 |0=>[]
 |k+1=>kf x k++[Gz x k]
def M1(x:Int):∀ k,(kf x k).length=k
 |0=>rfl
 |k+1=>by simp[kf,M1 x k]
def aaK(x:Int):∀ k,∀ s∈kf x k,0<=s/\s<=15
 |0,s,h=>by cases h
 | k+1,s,h=>by
  rcases List.mem_append.1 h with h|h
  ·exact aaK x k s h
  ·rw[List.mem_singleton.1 h];exact aB9 _
def aFt{x:Int}(Y:0<=x)(Z:x<=4294967295):QN x=some (kf x 8):=by
 have C:aL x 0 4294967295=true:=by rw[bJ];omega
 unfold QN bh;have e:=cA (step:=Kp) 8 (λk=>((x,(),(k:Int),()),(kf x k,()))) (.inl (((),()),(kf x 8,()))) aR (λk hk=>by
  have D:(k:Int)<8:=by omega
  have E:bP ((kf x k).length+1)=true:=di (by rw[M1];omega);have L:W6 (4*(k:Int))=4*(k:Int):=aO;have O:IntKind.u64.wrap (4*(k:Int))=4*(k:Int):=aln (by omega) (by omega);have T:¬ 4*(k:Int)<0:=by omega
  unfold Kp J6 av xG;simp (disch:=omega) [D,eA,C,L,O,T,E,bB,kf,Gz]) (by
  unfold Kp av xG;simp) (bO)
 rw[cu]at e;have U:kf x 0=[]:=rfl;rw[U]at e;rw[e];rfl
def aFu{x:Int}(U:0<=x)(Y:x<=4294967295):Su x=some (kf x 8):=by
 have C:aL x 0 4294967295=true:=by rw[bJ];omega
 unfold Su C0 bh;rw[dB,ak,ak,C,bC,aq];have e:=cA (step:=Md) 8 (λk=>((x,(),(k:Int),()),(kf x k,()))) (.inl (((),()),(kf x 8,()))) aR (λk Z=>by
  have D:(k:Int)<8:=by omega
  have E:bP ((kf x k).length+1)=true:=di (by rw[M1];omega);have L:W6 (4*(k:Int))=4*(k:Int):=aO;have O:¬ 4*(k:Int)<0:=by omega
  unfold Md av xG;simp (disch:=omega) [D,L,O,E,bB,kf,Gz]) (by
  unfold Md av xG;simp) (bO)
 rw[cu]at e;have T:kf x 0=[]:=rfl;rw[T]at e;rw[e];rfl
def amf:(jd λx=>jd λy=>jd λz=>(λC D E=>Nat.beq (gm (gm 2 (C ^^^ D) ^^^ gm 5 (C ^^^ E)) 13) y&&(Nat.beq (gm (gm 3 (C ^^^ E) ^^^ gm 5 (C ^^^ D)) 13) z&&Nat.beq (C ^^^ (y ^^^ z)) x)) (gm x (pw 0) ^^^ (gm y (pw 0) ^^^ gm z (pw 0))) (gm x (pw 0) ^^^ (gm y (pw 1) ^^^ gm z (pw 2))) (gm x (pw 0) ^^^ (gm y (pw 2) ^^^ gm z (pw 4))))=true:=by kernel_rfl
def aFv{x y z:Nat}{d:aa Nat}(j:Nat):bW (x :: y :: z :: d) j 11=(gm x (pw (0*j)) ^^^ (gm y (pw (1*j)) ^^^ gm z (pw (2*j)))) ^^^ bW (0 :: 0 :: 0 :: d) j 11:=by
 simp[bW,List.getD_cons_zero,List.getD_cons_succ,Nat.xor_assoc,Nat.zero_xor,SL (tZ _)]
def GA{a b:Nat}(h:a ^^^ b=0):a=b:=by
 have C:(a ^^^ b) ^^^ b=0 ^^^ b:=by rw[h]
 grind
def amg{w v:aa Nat}(L:dK w)(O:dK v)(lw:w.length=11)(lv:v.length=11)(T:w.drop 3=v.drop 3)(zw:nu w=true)(zv:nu v=true):w=v:=by
 obtain⟨x,y,z,d,rfl⟩:∃ x y z d,w=x :: y :: z :: d:=by
  match w,lw with
  |x::y::z::d,_=>simp_all
 obtain⟨C,D,E,d',rfl⟩:∃ x y z d,v=x :: y :: z :: d:=by
  match v,lv with
  |x::y::z::d,_=>simp_all
 have T:d=d':=T;subst T;simp only[nu,aN]at zw zv;have⟨w0,w1,U⟩:=zw;have⟨Y,Z,v2⟩:=zv;rw[aFv]at w0 w1 U Y Z v2;have w0:gm x (pw 0) ^^^ (gm y (pw 0) ^^^ gm z (pw 0))=bW (0::0::0::d) 0 11:=GA (cE w0);have w1:gm x (pw 0) ^^^ (gm y (pw 1) ^^^ gm z (pw 2))=bW (0::0::0::d) 1 11:=GA (cE w1);have U:gm x (pw 0) ^^^ (gm y (pw 2) ^^^ gm z (pw 4))=bW (0::0::0::d) 2 11:=GA (cE U);have Y:gm C (pw 0) ^^^ (gm D (pw 0) ^^^ gm E (pw 0))=bW (0::0::0::d) 0 11:=GA (cE Y);have Z:gm C (pw 0) ^^^ (gm D (pw 1) ^^^ gm E (pw 2))=bW (0::0::0::d) 1 11:=GA (cE Z);have v2:gm C (pw 0) ^^^ (gm D (pw 2) ^^^ gm E (pw 4))=bW (0::0::0::d) 2 11:=GA (cE v2);have m:∀{l:aa Nat} {n:Nat},dK l -> n∈l -> n<16:=λh hn=>h _ hn
 have k1:=gv (gv (gv amf (m L (n:=x) (by simp))) (m L (n:=y) (by simp))) (m L (n:=z) (by simp));have k2:=gv (gv (gv amf (m O (n:=C) (by simp))) (m O (n:=D) (by simp))) (m O (n:=E) (by simp));simp_all
def amh(w r:aa Nat):∀ k,k<=3->(qg w r k).drop 3=w.drop 3
 |0,_=>rfl
 | k+1,h=>by
  show (List.set _ _ _).drop 3=_;rw[List.drop_set_of_lt (by omega),amh w r k (by omega)]
def aaL{a b:aa Nat}(h:bw a=bw b):a=b:=(List.map_inj_right (λx y h=>by
 omega)).1 h
def aFw{d:aa Nat}(E:dK d)(D:d.length=8):∃ w,Ac (bw d)=some (bw w)/\w.length=11/\dK w/\w.drop 3=d/\nu w=true:=by
 have L:dK (0 :: 0 :: 0 :: d):=by
  intro x hx;simp only[gX]at hx;rcases hx with rfl|rfl|rfl|hx
  ·decide
  ·decide
  ·decide
  ·exact E x hx
 have C:(0::0::0::d).length=11:=by simp[D]
 obtain⟨w,e,O,T,U,Y,Z⟩:=aAP E D;refine⟨w,e,O,T,?_,by simp[nu,U,Y,Z]⟩;have e1:Ac (bw d)=some (bw (qg (0 :: 0 :: 0 :: d) (out (0 :: 0 :: 0 :: d) 8) 3)):=by
  unfold Ac xA bh xZ;have c0:((d.length:Int)==(8:Int))=true:=by rw[D];rfl
  have c1:bP ((List.replicate (3:Int).toNat (0:Int)).length+(bw d).length)=true:=by
   rw[gU,D];rfl
  have c2:bP (([]:aa Int).length+(bw (0 :: 0 :: 0 :: d)).length)=true:=by
   rw[gU,C];rfl
  have c3:W6 (((bw (0 :: 0 :: 0 :: d)).length:Int)-(1:Int))=10:=by
   rw[gU,C];rfl
  have eW:List.replicate (3:Int).toNat (0:Int)++bw d=bw (0::0::0::d):=rfl;rw[akm E (by omega),ak,c0,show (!true)=false from rfl,aq,bM (by decide),c1,au,eW,akl,ak,eJ];dsimp only;rw[List.nil_append,c2,au,c3,akn L C,ak,eJ];dsimp only;rw[akt C (by rw[Dg,C]),ak,eJ]
 rw[e1]at e;injection e with e;rw[<-aaL e,amh _ _ 3 (dM _)];rfl
def DB(x:Int):aa Int:=(F3 x).getD []
def M3{x:Int}(E:0 <= x)(L:x <= 4294967295):F3 x=some (DB x)/\Sy (DB x) /\ ∃ w,DB x=bw w/\w.length=11/\dK w/\bw (w.drop 3)=kf x 8/\nu w=true:=by
 have O:aL x 0 4294967295=true:=by rw[bJ];omega
 have⟨t1,t2⟩:=Zj _ (aaK x 8);have tl:((kf x 8).map Int.toNat).length=8:=by rw[eI,M1]
 have⟨w,C,l1,d1,T,U,Y,Z⟩:=aAF t2 tl;have z1:nu w=true:=by simp[nu,U,Y,Z]
 rw[t1]at C;have D:F3 x=some (bw w):=by
  unfold F3 C0;rw[dB,ak,ak,O,bC,aq,aFu E L,ak,C,ak]
 have ee:DB x=bw w:=by unfold DB;rw[D];rfl
 rw[ee];exact⟨D,Mq d1 l1,w,rfl,l1,d1,by rw[T,t1],z1⟩
def ami{x:Int}(C:0 <= x)(D:x <= 4294967295):E4 x=some (DB x):=by
 have⟨t1,t2⟩:=Zj _ (aaK x 8);have tl:((kf x 8).map Int.toNat).length=8:=by rw[eI,M1]
 have⟨_,_,w,L,l1,d1,O,T⟩:=M3 C D;have⟨v,E,l2,d2,U,Y⟩:=aFw t2 tl;have Z:=amg d1 d2 l1 l2 (by rw[U];exact aaL (by rw[O,t1])) T Y;subst Z;rw[t1]at E;unfold E4;rw[aFt C D,ak,E,ak,L]
def aFx{a b:Nat}(E:a<9223372036854775808)(L:b<9223372036854775808):bits .or .i64 (a:Int) (b:Int)=((a ||| b:Nat):Int):=by
 have e:bits .or .i64 (a:Int) (b:Int)=W6 ((BitVec.ofInt 64 (a:Int) |||BitVec.ofInt 64 (b:Int)).toNat:Int):=rfl;have h:a |||b<2 ^ 63:=Nat.or_lt_two_pow (by omega) (by omega);have C:BitVec.ofInt 64 (a:Int)=BitVec.ofNat 64 a:=BitVec.ofInt_natCast 64 a;have D:BitVec.ofInt 64 (b:Int)=BitVec.ofNat 64 b:=BitVec.ofInt_natCast 64 b;rw[e,C,D,BitVec.toNat_or,BitVec.toNat_ofNat,BitVec.toNat_ofNat,Nat.mod_eq_of_lt (by omega),Nat.mod_eq_of_lt (by omega),aO]
def aFy(a:Nat)(L:a<9223372036854775808):bits .and .i64 (a:Int) 15=((a % 16:Nat):Int):=by
 have e:bits .and .i64 (a:Int) 15=W6 ((BitVec.ofInt 64 (a:Int) &&& BitVec.ofInt 64 15).toNat:Int):=rfl;have C:BitVec.ofInt 64 (a:Int)=BitVec.ofNat 64 a:=BitVec.ofInt_natCast 64 a;have D:(BitVec.ofInt 64 15).toNat=15:=rfl;have E:a &&& 15=a % 16:=Nat.and_two_pow_sub_one_eq_mod a 4;rw[e,C,BitVec.toNat_and,BitVec.toNat_ofNat,Nat.mod_eq_of_lt (by omega),D,E,aO]
def nv(d:aa Nat):Nat->Nat
 |0=>0
 |k+1=>nv d k+d.getD k 0*16 ^ k
def M4{d:aa Nat}(C:dK d):∀ k,nv d k<16 ^ k
 |0=>Nat.one_pos
 | k+1=>by
  have D:=M4 C k;have E:=C.get k;have L:d.getD k 0*16 ^ k <= 15*16 ^ k:=jD _ (by omega);show nv d k+d.getD k 0*16 ^ k<16 ^ (k+1)
  grind
def amj(k:Nat)(C:k<8):(min (4*(k:Int)).toNat IntKind.i64.bits)=4*k:=by
 have:IntKind.i64.bits=64:=rfl;rw[this];omega
def aaM{d:aa Nat}(C:dK d)(E:d.length=8):∀ k,k<=8->wv (bw d) k=(nv d k:Int)
 |0,_=>rfl
 | k+1,h=>by
  have L:=M4 C k;have U:=C.get k;have Y:(16:Nat) ^ k<=16 ^ 7:=Nat.pow_le_pow_right (by decide) (by omega);have D:(2:Nat) ^ (4*k)=16 ^ k:=by rw[Nat.pow_mul]
  have Z:d.getD k 0*16 ^ k<=15*16 ^ k:=jD _ (by omega);have O:(bw d).getD k 0=((d.getD k 0:Nat):Int):=by
   rw[eY,bZ (by rw[gU];omega)];exact ua (by rw[gU];omega)
  have T:((d.getD k 0:Nat):Int)*2 ^ (4*k)=((d.getD k 0*16 ^ k:Nat):Int):=by
   rw[<-D]
   push_cast
   rfl
  show bits .or .i64 (wv (bw d) k) (W6 ((bw d).getD k 0*2 ^ (min (4*(k:Int)).toNat IntKind.i64.bits)))=((nv d k+d.getD k 0*16 ^ k:Nat):Int)
  rw[aaM C E k (by omega),amj k (by omega),O,T,aO,aFx (by omega) (by omega)];congr 1;have:=Nat.two_pow_add_eq_or_of_lt (i:=4*k) (b:=nv d k) (by rw[D];exact L) (d.getD k 0);rw[D,Nat.mul_comm]at this;rw[Nat.or_comm,<-this];omega
def amk{d:aa Nat}(C:dK d):∀ n k,k<n -> nv d n / 16 ^ k % 16=d.getD k 0
 |0,k,h=>by omega
 | n+1,k,h=>by
  have D:=M4 C n;have L:=C.get n;show (nv d n+d.getD n 0*16 ^ n) / 16 ^ k % 16=_;by_cases e:k=n
  ·subst e;rw[Nat.add_mul_div_right _ _ (Nat.pow_pos (by decide)),Nat.div_eq_of_lt D,fk];omega
  ·have O:n=(n-k-1)+1+k:=by omega
   have E:d.getD n 0*16 ^ n=(d.getD n 0*16 ^ (n-k-1)*16)*16 ^ k:=by
    grind
   rw[E,Nat.add_mul_div_right _ _ (Nat.pow_pos (by decide)),Nat.add_mul_mod_self_right,amk C n k (by omega)]
def aFz{d:aa Nat}(C:dK d)(D:d.length=8):kf (wv (bw d) 8) 8=bw d:=by
 have T:nv d 8<16 ^ 8:=M4 C 8;rw[aaM C D 8 (dM _)];have key:∀ k,k <= 8 -> kf (nv d 8:Int) k=bw (d.take k):=by
  intro k
  induction k with
  |zero=>intro _;rfl
  | succ k E=>
   intro U;have Y:(2:Nat) ^ (4*k)=16 ^ k:=by rw[Nat.pow_mul]
   have L:(nv d 8:Int).fdiv (2 ^ (4*k))=((nv d 8 / 16 ^ k:Nat):Int):=by
    grind
   have O:Gz (nv d 8:Int) k=((d.getD k 0:Nat):Int):=by
    unfold Gz;rw[amj k (by omega),L,aFy _ (Nat.lt_of_le_of_lt (Nat.div_le_self _ _) (by omega)),amk C 8 k (by omega)]
   show kf (nv d 8:Int) k++[Gz (nv d 8:Int) k]=_;rw[E (by omega),O,List.take_add_one,bZ (by omega),eY,bZ (by omega)];exact(List.map_append (f:=λn:Nat=>(n:Int)) (l₁:=d.take k) (l₂:=[d[k]])).symm
 rw[key 8 (dM _),<- D,iV]
def aFA{d:aa Nat}(C:dK d)(D:d.length=8):0 <= wv (bw d) 8/\wv (bw d) 8 <= 4294967295:=by
 have E:=M4 C 8;rw[aaM C D 8 (dM _)];omega
def aFB{w:aa Nat}(C:dK w)(D:w.length=11)(h:(ga w).2.1=1):E4 (AY w)=some (bw (ga w).1):=by
 have⟨E,L,_⟩:=Dv C D;have hz:=aCn C D (by omega);have O:dK ((ga w).1.drop 3):=λx hx=>L x (List.mem_of_mem_drop hx)
 have T:((ga w).1.drop 3).length=8:=by rw[List.length_drop,E]
 have he:AY w=wv (bw ((ga w).1.drop 3)) 8:=by
  unfold AY;simp_all
 have⟨U,Y⟩:=aFA O T;have e2:=ami U Y;have⟨_,_,v,ev,vl,v16,Z,vz⟩:=M3 U Y;rw[aFz O T]at Z;have:=amg v16 L vl E (aaL Z) vz hz;simp_all
def M5(d:bK):Int:=bif d.iy then 0 else AY (nw d)
def rm(c:ax)(j:Nat)(d:bK):ax:=dm c ⟨c.array.cells.set j d,c.array.bz,c.array.bu⟩
def aml{c:ax}{j:Nat}(h:j<c.array.cells.length):rm c j c.array.cells[j]=c:=by
 unfold rm dm;rw[aFs h]
def amm{c:ax}{j:Nat}(C:j<c.array.cells.length)(T:Sy c.array.cells[j].symbols):yb c (j:Int)=some ((M5 c.array.cells[j],ke c.array.cells[j]),(rm c j (pq c.array.cells[j]),())):=by
 have⟨U,D,E⟩:=TB T;have L:=alq D E;have O:=aFq D E;rw[U]at L O;have Z:=aml C;unfold yb ke pq M5 xL xM;rw[az ⟨by omega,by omega⟩,az];simp only[bD];cases Y:c.array.cells[j].iy with
 |true =>simp_all
 | false=>
  rw[aq,aq,aq,aq,az C,az C,L,ak,az C,az C,O,ak];dsimp only;rcases(Dv D E).2.2 with q|q|q
  ·grind
  ·rw[q,dR,az C,Y];rfl
  ·rw[q,kU (by omega),aq,dR,az C];rfl
def amn{c:ax}{j:Nat}(C:j<c.array.cells.length)(O:Sy c.array.cells[j].symbols):CR c (j:Int)=some ((M5 c.array.cells[j],ke c.array.cells[j]),(rm c j (pq c.array.cells[j]),())):=by
 have⟨T,D,E⟩:=TB O;have L:=aFr D E;rw[T]at L;have Y:=aml C;unfold CR ke pq M5 xL xM;rw[az ⟨by omega,by omega⟩,az];simp only[bD];cases U:c.array.cells[j].iy with
 |true =>simp_all
 | false=>
  rw[aq,aq,aq,aq,az C,L,ak];dsimp only;rcases(Dv D E).2.2 with q|q|q
  ·grind
  ·rw[q,dR,aFB D E q,ak,az ⟨by omega,C⟩,az C,kU (by omega),aq,U];rfl
  ·rw[q,kU (by omega),dR,aq,az ⟨by omega,C⟩,az C];rfl
def uP(q:aa bA)(i:Nat):Bool:=match q[i]? with
 |some r=>(q.take i).any λx=>x.line==r.line
 |none=>false
def amo{q:aa bA}{i:Nat}(h:i<q.length):uP q i=(q.take i).any λx=>x.line==q[i].line:=by
 unfold uP;rw[bZ h]
def aFC{α:Type}(p:α -> Bool)(q:aa α)(i:Nat)(hi:i <= q.length):dx p (q.take i)=min (dx p q) i:=by
 have O:=we p q;have D:=we p (q.take i);rw[fJ,Nat.min_eq_left hi]at D;rcases Nat.lt_or_ge (dx p (q.take i)) i with h|h
 ·have E:dx p (q.take i)<(q.take i).length:=by rw[fJ,Nat.min_eq_left hi];exact h
  have L:=rj E;rw[List.getElem_take]at L;rcases Nat.lt_or_ge (dx p q) (dx p (q.take i))with h5|h5
  ·have h6:=rj (p:=p) (q:=q) (by omega);have C:=nA h5 (by rw[fJ];omega);simp_all
  ·rcases Nat.lt_or_ge (dx p (q.take i)) (dx p q)with h6 | h6
   ·have C:=nA h6 (by omega);simp_all
   ·omega
 ·have e:dx p (q.take i)=i:=by omega
  rw[e];rcases Nat.lt_or_ge (dx p q) i with h5|h5
  ·have h6:=rj (p:=p) (q:=q) (by omega);have C:=nA (p:=p) (q:=q.take i) (i:=dx p q) (by omega) (by rw[fJ];omega);simp_all
  ·omega
def aFD{q:aa bA}{i:Nat}(h:i<q.length)(L:q.length <= 1000):R8 q (i:Int)=some (uP q i):=by
 have O:=we (λx:bA=>x.line==q[i].line) (q.take i);have hlen:(q.take i).length=i:=by rw[fJ];omega
 unfold R8 bE;rw[dB,ak,MX (by omega) (by omega) (by omega),bC,aq,bM ⟨by omega,by omega,by omega⟩,amo h,Tg];simp only[bD,Int.toNat_zero,List.drop_zero];generalize T:q.take i=t at *
 have e:=cA (step:=FR) (dx (λx:bA=>x.line==q[i].line) t) (λj=>((q,(i:Int),t,(t.length:Int),(j:Int),()),())) (if dx (λx:bA=>x.line==q[i].line) t<t.length then .inl ((true,()),())else .inr (.inl ((),()))) aR (λk E=>by
  have D:=nA E (by omega);unfold FR av aQ xG xI;dsimp only;rw[aW,au,az ⟨by omega,by omega⟩,az ⟨by omega,by omega⟩];simp only[bD];rw[D,aq,bB]) (by
  by_cases C:dx (λx:bA=>x.line==q[i].line) t<t.length
  ·have D:=rj C;unfold FR av aQ xG xI;dsimp only;rw[aW,au,az ⟨by omega,by omega⟩,az ⟨by omega,by omega⟩]
   grind
  ·unfold FR av aQ xG xI;dsimp only;rw[aU,aq,bX C]) (bO)
 rw[cu]at e
 refine(aY (λo=>Option.bind o _) e).trans ?_
 by_cases C:dx (λx:bA=>x.line==q[i].line) t<t.length
 ·rw[bM C,aW C];rfl
 ·rw[bX C,aU C];rfl
def amp{q:aa bA}{i:Nat}(h:i<q.length)(E:q.length <= 1000):KA q (i:Int)=some (uP q i):=by
 have L:=aFC (λx:bA=>x.line==q[i].line) q i (by omega);have O:=we (λx:bA=>x.line==q[i].line) (q.take i);have hlen:(q.take i).length=i:=by rw[fJ];omega
 unfold KA bE;rw[amo h,Tg,hlen];generalize T:dx (λx:bA=>x.line==q[i].line) (q.take i)=n at *
 have e:=cA (step:=Fa) n (λj=>((q,(i:Int),(j:Int),()),())) (if n<i then .inl ((true,()),())else .inr (.inl ((),()))) aR (λk U=>by
  have D:=nA (p:=λx:bA=>x.line==q[i].line) (q:=q) (i:=k) (by omega) (by omega);unfold Fa av aQ xG xI;dsimp only;rw[aW,au,aW,au,az ⟨by omega,by omega⟩,az ⟨by omega,by omega⟩];simp only[bD];rw[D,aq,bB]) (by
  by_cases C:n<i
  ·have D:((q[n]'(by omega)).line==q[i].line)=true:=by
    have Y:dx (λx:bA=>x.line==q[i].line) q=n:=by omega
    have:=rj (p:=λx:bA=>x.line==q[i].line) (q:=q) (by omega)
    grind
   unfold Fa av aQ xG xI;dsimp only;rw[aW,au,aW,au,az ⟨by omega,by omega⟩,az ⟨by omega,by omega⟩]
   grind
  ·unfold Fa av aQ xG xI;dsimp only;rw[aU,aq,bX C]) (bO)
 rw[cu]at e
 refine(aY (λo=>Option.bind o _) e).trans ?_
 by_cases C:n<i
 ·rw[bM C,aW C];rfl
 ·rw[bX C,aU C];rfl
def AZ(d:gB)(n:Int)(w:Bool):Bool:=bif w then d.on ||decide (n<1)else !d.on
def aFE{d:gB}(n:Int)(w:Bool)(h:oZ d=true):R9 d n w=some (AZ d n w):=by
 unfold R9 AZ;rw[SR,h]
 grind
def aFF{d:gB}(n:Int)(w:Bool)(h:oZ d=true):Q1 d n w=some (AZ d n w):=by
 unfold Q1 AZ;rw[SS,h]
 grind
def A0(p:Nat->Bool)(k:Nat):Int:=((List.range k).countP p:Nat)
def TD(p:Nat -> Bool)(k:Nat):A0 p (k+1)=A0 p k+(bif p k then 1 else 0):=by
 unfold A0;rw[List.range_succ,List.countP_append,List.countP_singleton]
 grind
def TE(p:Nat -> Bool)(k:Nat):0 <= A0 p k/\A0 p k <= k:=by
 unfold A0;have:=List.countP_le_length (p:=p) (l:=List.range k);simp_all
def rq(f:Nat->Bool)(n k:Nat):aa Bool:=(List.range k).map f++List.replicate (n-k) false
def TF{f:Nat->Bool}{n k:Nat}(h:k<=n):(rq f n k).length=n:=by unfold rq;simp;omega
def TG{f:Nat -> Bool}{n k:Nat}(h:k<n):(rq f n k).set k (f k)=rq f n (k+1):=by
 unfold rq;rw[List.set_append_right _ _ (by simp),eI,cX,Nat.sub_self,show n-k=(n-(k+1))+1 by omega,List.replicate_succ,List.range_succ,List.map_append,List.append_assoc];rfl
def aaN(f:Nat->Bool)(n:Nat):rq f n 0=List.replicate n false:=rfl
def TH(f:Nat->Bool)(n:Nat):rq f n n=(List.range n).map f:=by unfold rq;simp
def yB{f:Nat->Bool}{n k:Nat}(h:k<n)(C:k<((List.range n).map f).length):((List.range n).map f)[k]=f k:=by simp
def qk(q:aa bA)(i:Nat):Bool:=match q[i]? with
 |some r=>r.write
 |none=>false
def DC{q:aa bA}{i:Nat}(h:i<q.length):qk q i=q[i].write:=by
 unfold qk;rw[bZ h]
def kg(q:aa bA)(i:Nat):Bool:=!uP q i
def qm(q:aa bA)(k:Nat):Int:=A0 (λi=>kg q i && !qk q i) k
def ru(q:aa bA)(k:Nat):Int:=A0 (λi=>kg q i&&qk q i) k
def gV(c:ax)(i:Nat):Bool:=kg c.queue i&&(AZ c.drain (qm c.queue c.queue.length) (qk c.queue i) ||(!qk c.queue i&&ru c.queue c.queue.length==0))
def aFG{c:ax}(h:Pq c):Q2 c=some ((List.range c.queue.length).map (gV c)):=by
 have O:=h.ql;have e:=cA (step:=KB) c.queue.length (λi=>((c,qm c.queue i,ru c.queue i,(i:Int),()),())) (.inl ((c,qm c.queue c.queue.length,ru c.queue c.queue.length,()),())) aR (λk C=>by
  have T:=TE (λi=>kg c.queue i && !qk c.queue i) k;have U:=TE (λi=>kg c.queue i&&qk c.queue i) k;unfold KB av xG xI;dsimp only;rw[aW,au,amp C (by omega),ak,bB];unfold qm ru at *
  have E:kg c.queue k = !uP c.queue k:=rfl;rw[TD,TD];simp only[E,DC C];cases uP c.queue k with
  |true=>simp
  | false=>
   rw[aq,az ⟨by omega,by omega⟩];simp only[bD];cases c.queue[k].write with
   |true=>rw[au,aO];simp[kg]
   |false=>rw[aq,aO];simp[kg]) (by
  unfold KB av xG xI;dsimp only;rw[aU,aq]) (bO)
 have D:=cA (step:=KD) c.queue.length (λi=>((c,qm c.queue c.queue.length,ru c.queue c.queue.length,(),(i:Int),()),((List.range i).map (gV c),()))) (.inl (((),()),((List.range c.queue.length).map (gV c),()))) aR (λk C=>by
  have L:((List.range k).map (gV c)).length=k:=by simp
  unfold KD av xG xI;dsimp only;rw[aW,au,az ⟨by omega,by omega⟩,amp C (by omega),ak,bB,List.range_succ,List.map_append,L,List.map_singleton];simp only[bD,lT,di (show k+1<1073741824 by omega),au,aFF _ _ h.dr,ak];unfold gV kg;rw[DC C];cases uP c.queue k<;>cases c.queue[k].write<;>cases AZ c.drain (qm c.queue c.queue.length) _<;>first|rfl|simp) (by
  unfold KD av xG xI;dsimp only;rw[aU,aq]) (bO)
 rw[cu]at e D;unfold Q2 bh
 refine(aY (λo=>Option.bind o _) e).trans ?_
 rw[ak]
 refine(aY (λo=>Option.bind o _) D).trans ?_
 rfl
def fy(c:ax):aa aI:=c.queue.map λr=>gF c r.line
def uQ(c:ax):(fy c).length=c.queue.length:=by unfold fy;rw[eI]
def aFH{c:ax}{i:Nat}(h:i<c.queue.length)(C:i<(fy c).length):(fy c)[i]=gF c c.queue[i].line:=by simp only[fy,List.getElem_map]
def TI{c:ax}(h:Pq c){r:bA}(C:r∈c.queue):vS c r.line=some (gF c r.line,true)/\fj c.config.aE (gF c r.line)=true:=
 aEV h.p h.sp h.se h.mo (h.q r C).1.1 (h.q r C).1.2
def aaO{c:ax}(h:Pq c){r:bA}(C:r∈c.queue):xT c r.line=some (gF c r.line):=
 aEX h.p h.sp h.se h.mo (h.q r C).1.1 (h.q r C).1.2
def aFI{c:ax}(h:Pq c):R7 c=some (fy c):=by
 have E:=h.ql;have e:=cA (step:=LX) c.queue.length (λi=>(((),(),c.queue,c.queue.length,i,()),(c,(c.queue.take i).map _,()))) (.inl (((),()),(fy c,()))) aR (λk C=>by
  have D:((c.queue.take k).map (λr=>gF c r.line)).length=k:=by simp;omega
  unfold LX av xG xI;dsimp only;rw[aW,au,az ⟨by omega,by omega⟩];simp only[bD];rw[(TI h (cU C)).1,ak,bB,D,lT,di,au,qX C,List.map_append];rfl) (by
  unfold LX av xG xI;dsimp only;rw[aU,aq,iV];rfl) (bO)
 unfold R7 bh;simp_all
def amq{c:ax}(h:Pq c):Kz c=some (fy c):=by
 have E:=h.ql;have e:=cA (step:=Ky) c.queue.length (λi=>((c,(),i,()),((c.queue.take i).map _,()))) (.inl (((),()),(fy c,()))) aR (λk C=>by
  have D:((c.queue.take k).map (λr=>gF c r.line)).length=k:=by simp;omega
  unfold Ky av xG xI;dsimp only;rw[aW,au,az ⟨by omega,by omega⟩];simp only[bD];rw[aaO h (cU C),ak,bB,D,lT,di,au,qX C,List.map_append];rfl) (by
  unfold Ky av xG xI;dsimp only;rw[aU,aq,iV];rfl) (bO)
 unfold Kz bh;simp_all
def zA:aI:=⟨0,0,0⟩
def zQ:bA:=⟨0,0,0,false,0,0⟩
def fC(c:ax)(i:Nat):aI:=(fy c).getD i zA
def kX(c:ax)(i:Nat):bA:=c.queue.getD i zQ
def DD{c:ax}{i:Nat}(h:i<(fy c).length):(fy c)[i]=fC c i:=by
 unfold fC;rw[eY,bZ h];rfl
def pz{c:ax}{i:Nat}(h:i<c.queue.length):c.queue[i]=kX c i:=by
 unfold kX;rw[eY,bZ h];rfl
def DE{c:ax}(h:Pq c){i:Nat}(hi:i<c.queue.length):fj c.config.aE (fC c i)=true/\0 <= (fC c i).ay/\(fC c i).ay.toNat<c.bq.aB.length/\(fC c i).ay.toNat<c.aP.aH.length/\(fC c i).ay<bf c.config.aE/\0 <= (fC c i).row:=by
 have e:=aFH hi (by rw[uQ];exact hi);rw[DD]at e;have C:=(TI h (cU hi)).2;rw[<- e]at C;have⟨_,D,E,L,O,T,U⟩:=sB C;have:=h.p.bl;have:=h.dl;simp_all
def wB{c:ax}(h:Pq c):c.bq.aB.length<=1048576:=by
 have:=h.p.bl;have:=fG c.config.aE;omega
def dZ(c:ax)(i:Nat):Bool:=wu c.bq (fC c i)
def aFJ{c:ax}(h:Pq c)(C:aa Int)(D:aa aI)(Z:Int×Int×Int×Int×af)(P:Int×Int×Int×Int×Int×(aa Int)×Int×Int×af):iter FW aR ((C,D,(),(),(),(),(0:Int),(0:Int),c.queue,(c.queue.length:Int),(0:Int),()),(c,Z,P,List.replicate c.queue.length false,()))=some (.inl ((C,D,(),(),(),(),qm c.queue c.queue.length,ru c.queue c.queue.length,()),(c,Z,P,(List.range c.queue.length).map (kg c.queue),()))):=by
 have T:=h.ql;have e:=cA (step:=FW) c.queue.length (λi=>((C,D,(),(),(),(),qm c.queue i,ru c.queue i,c.queue,(c.queue.length:Int),(i:Int),()),(c,Z,P,rq (kg c.queue) c.queue.length i,()))) (.inl ((C,D,(),(),(),(),qm c.queue c.queue.length,ru c.queue c.queue.length,()),(c,Z,P,(List.range c.queue.length).map (kg c.queue),()))) aR (λk E=>by
  have U:=TE (λi=>kg c.queue i && !qk c.queue i) k;have Y:=TE (λi=>kg c.queue i&&qk c.queue i) k;have L:kg c.queue k = !uP c.queue k:=rfl;have O:=TF (f:=kg c.queue) (n:=c.queue.length) (k:=k) (by omega);have ku:((rq (kg c.queue) c.queue.length k).set k (!uP c.queue k)).length=c.queue.length:=by rw[gz,O]
  rw[<- TG E];unfold FW av xG xI xL;dsimp only;rw[aW,au,az ⟨by omega,by omega⟩,aFD E (by omega),ak,az ⟨by omega,by omega⟩,az,az ⟨by omega,by simp only[bD];omega⟩,az (by simp only[bD];omega),bB];simp only[bD,mH];unfold qm ru at *
  rw[TD,TD];simp only[L,DC E];cases uP c.queue k with
  | true=>
   simp[*]
  | false=>
   rw[iW,au];cases c.queue[k].write with
   |true=>rw[ aO];simp
   | false=>
    rw[aq,az ⟨by omega,by rw[gz];omega⟩,az (by rw[gz];omega),aO];simp) (by
  unfold FW av xG xI xL;dsimp only;rw[aU,aq,TH]) (bO)
 rw[cu,aaN]at e;exact e
def sK(c:ax):Nat->aa (Int×Bool)
 |0=>[]
 |k+1=>bif gV c k&&dZ c k then mY (sK c k) (fC c k).ay true else sK c k
def yC(c:ax)(k:Nat)(b:Int):Bool:=(List.range k).any λi=>gV c i&&dZ c i&&b==(fC c i).ay
def amr(c:ax)(b:Int):∀ k,mc (sK c k) b=yC c k b
 |0=>rfl
 | k+1=>by
  have C:=amr c b k;have e:yC c (k+1) b=(yC c k b || (gV c k&&dZ c k&&b==(fC c k).ay)):=by
   unfold yC
   grind
  rw[e,<- C];show mc (bif gV c k&&dZ c k then mY _ (fC c k).ay true else sK c k) b=_;cases gV c k&&dZ c k with
  |false=>simp
  |true=>rw[au,aB3,cv,Bool.or_comm]
def aFK{c:ax}(h:Pq c)(D:aa Int)(Z:Int×Int×Int×Int×af)(P:Int×Int×Int×Int×Int×(aa Int)×Int×Int×af):iter FX aR ((D,fy c,(),(),(),(),qm c.queue c.queue.length,ru c.queue c.queue.length,(),(),(),c.queue,(c.queue.length:Int),(0:Int),()),(c,Z,P,(List.range c.queue.length).map (kg c.queue),List.replicate c.queue.length false,List.replicate c.queue.length false,([]:aa (Int×Bool)),()))=some (.inl ((D,fy c,(),(),(),(),(),(),()),(c,Z,P,(List.range c.queue.length).map (gV c),(List.range c.queue.length).map (dZ c),sK c c.queue.length,()))):=by
 have hq:=h.ql;have E:=wB h;have e:=cA (step:=FX) c.queue.length (λi=>((D,fy c,(),(),(),(),qm c.queue c.queue.length,ru c.queue c.queue.length,(),(),(),c.queue,(c.queue.length:Int),(i:Int),()),(c,Z,P,(List.range c.queue.length).map (kg c.queue),rq (gV c) c.queue.length i,rq (dZ c) c.queue.length i,sK c i,()))) (.inl ((D,fy c,(),(),(),(),(),(),()),(c,Z,P,(List.range c.queue.length).map (gV c),(List.range c.queue.length).map (dZ c),sK c c.queue.length,()))) aR (λk C=>by
  have L:=TF (f:=gV c) (n:=c.queue.length) (k:=k) (by omega);have O:=TF (f:=dZ c) (n:=c.queue.length) (k:=k) (by omega);have T:=uQ c;have hl4:((List.range c.queue.length).map (kg c.queue)).length=c.queue.length:=by simp
  obtain⟨ho,U,Y,o3,o4,o5⟩:=DE h C;have hh:=aEZ (r:=c.bq) (a:=fC c k) o5 U Y E;have hd:gV c k=(kg c.queue k&&(AZ c.drain (qm c.queue c.queue.length) c.queue[k].write ||(!c.queue[k].write&&ru c.queue c.queue.length==0))):=by unfold gV;rw[DC C]
  have hhb:sK c (k+1)=bif gV c k&&dZ c k then mY (sK c k) (fC c k).ay true else sK c k:=rfl;have iO:dZ c k=wu c.bq (fC c k):=rfl;rw[<-TG C,<-TG C,hhb];unfold FX av xG xI xL;dsimp only;rw[aW,au,az ⟨by omega,by omega⟩,az ⟨by omega,by omega⟩,az];simp only[bD,yB C,aFE _ _ h.dr,ak,DD,hh,bB (show k<4611686018427387904 by omega),mH,gz,L,O,T];rw[hd,iO];cases kg c.queue k<;>cases AZ c.drain (qm c.queue c.queue.length) c.queue[k].write<;>cases c.queue[k].write<;>cases wu c.bq (fC c k)<;>cases ru c.queue c.queue.length==0<;>simp[C]) (by
  unfold FX av xG xI xL;dsimp only;rw[aU,aq,TH,TH]) (bO)
 rw[cu,aaN,aaN]at e;exact e
def TJ(e:bU):bU:=⟨e.line,e.code,(if (999:Int)<(W6 (e.times+(1:Int)))then (999:Int)else (W6 (e.times+(1:Int))))⟩
def zEE:bU:=⟨0,0,0⟩
def rz(l:aa bU)(line code:Int):aa bU:=match l.findIdx? (kV ⟨line,code,1⟩)with
 |some i=>l.set i (TJ (l.getD i zEE))
 |none=>bif ((l.length:Int)==(6:Int))then l.drop 1++[⟨line,code,1⟩]else l++[⟨line,code,1⟩]
def aFL{l:aa bU}(h:kH l=true){line code:Int}(D:0<=line/\line<=1023)(E:code=1\/code=2):RX l line code=some (rz l line code,true):=by
 have U:l.length<=6:=by
  simp only[kH,aN,iU]at h;omega
 have L:aL line 0 1023=true:=bJ.2 D;unfold RX LP rz bE xA xZ;rw[di (by simp;omega),au,ak,akN _ (by omega),ak,h,bC,aq,dB,ak,L,bC,aq,List.nil_append];have e:=vY (step:=LQ) l (kV ⟨line,code,1⟩) (λk=>((line,code,(),(),(l.length:Int),(k:Int),()),(l,()))) (λi=>.inl (((),true,()),(l.set i (TJ (l.getD i zEE)),()))) (.inr (.inl ((line,code,(),()),(l,())))) aR (λk O=>by
  unfold LQ kV av aQ xG xL;dsimp only;rw[aW,au,az ⟨by omega,by omega⟩,az];simp only[bD];rw[az ⟨by omega,by omega⟩,az,bB,nD _ O];cases l[k].line==line<;>cases l[k].code==code<;>rfl) (by
  unfold LQ av aQ xG xL;dsimp only;rw[aU,aq]) (bO)
 rw[cu]at e;have T:iter YN aR ((line,code,(),(),(l.length:Int),(0:Int),()),(l,()))=_:=e;rcases E with rfl|rfl
 ·rw[dV,aq,T];cases l.findIdx? (kV ⟨line,1,1⟩)with
  |some i=>rfl
  | none=>
   rw[ak,Sum.elim_inr,eJ];dsimp only;cases C:(l.length:Int)==(6:Int)with
   |false=>rw[aq,aq,di (by simp;omega)];rfl
   | true=>
    have C:=eq_of_beq C;rw[au,au,bM ⟨by omega,by omega,by omega⟩,di (by simp;omega),au,ak,di (by simp;omega),au];simp
 ·rw[fO (by omega),au,dV,aq,e];cases l.findIdx? (kV ⟨line,2,1⟩)with
  |some i=>rfl
  | none=>
   rw[ak,Sum.elim_inr,eJ];dsimp only;cases C:(l.length:Int)==(6:Int)with
   |false=>rw[aq,aq,di (by simp;omega)];rfl
   | true=>
    have C:=eq_of_beq C;rw[au,au,bM ⟨by omega,by omega,by omega⟩,di (by simp;omega),au,ak,di (by simp;omega),au];simp
def aFM{l:aa bU}(h:kH l=true){line code:Int}(D:0 <= line/\line <= 1023)(Y:code=1 \/ code=2):QO l line code=some (rz l line code,true):=by
 have Z:l.length <= 6:=by
  simp only[kH,aN,iU]at h;omega
 have E:aL line 0 1023=true:=bJ.2 D;have L:aL 1 1 999=true:=rfl;have O:EX ⟨line,code,1⟩=some true:=by
  unfold EX;rw[eA,ak,E,eA,L]
  grind
 unfold QO rz xA xC xZ;rw[di (by simp;omega),au,akM,ak,h,bC,aq,O,ak,bC,aq];have C:=akL l ⟨line,code,1⟩ (by omega);dsimp only at C;rw[C,ak,List.nil_append];unfold gw;cases hi:l.findIdx? (kV ⟨line,code,1⟩)with
 | some i=>
  have⟨T,hp,hq⟩:=pF.1 hi;dsimp only;rw[aW,au,az ⟨by omega,by omega⟩,az,az ⟨by omega,by omega⟩,az];rw[nD _ T];rfl
 | none=>
  dsimp only;rw[aU,aq];by_cases U:l.length=6
  ·rw[aW,show ((l.length:Int)==6)=true by rw[U];rfl,bM ⟨by omega,by omega,by omega⟩,di (by simp;omega),di (by simp;omega)];simp
  ·rw[aU,aq,kU (by omega),aq,di (by simp;omega),au]
def M6(c:ax)(l:aa bU):ax:=⟨c.config,c.box,c.now,c.bq,c.ready,c.array,c.spare,c.aP,c.bH,c.guard,c.pending,c.queue,c.shares,c.drain,c.aZ,c.cK,l,c.trace,c.cS⟩
def DF(c:ax)(n code:Int):ax:=bif code != 0 then M6 c (rz c.errors n code)else c
def ams{c:ax}(h:kH c.errors=true){n code:Int}(C:0<=n/\n<=1023)(h2:code=0\/code=1\/code=2):x7 c n code=some ((),(DF c n code,())):=by
 unfold x7 DF;rcases h2 with rfl|h2
 ·rfl
 ·rw[aFL h C h2,fO (by omega)];rfl
def amt{c:ax}(h:kH c.errors=true){n code:Int}(C:0<=n/\n<=1023)(h2:code=0\/code=1\/code=2):CJ c n code=some ((),(DF c n code,())):=by
 unfold CJ DF;rcases h2 with rfl|h2
 ·rfl
 ·rw[aFM h C h2,fO (by omega)];rfl
def amu(q:aa bA):Prop:=∀i (h:i<q.length),(q.take i).any (λx=>x.id==q[i].id)=false
def aFN{q:aa bA}{i:Nat}(h:i<q.length)(E:q.length<=12):Sv q (i:Int) (W6 ((i:Int)+1))=some (q.take i++q.drop (i+1),([],())):=by
 have C:(splice q i ((q.take ((q.length:Int).toNat)).drop (i+1))).length=q.length:=by
  rw[sR _ _ _ (by simp;omega)]
 have L:((q.take ((q.length:Int).toNat)).drop (i+1))=q.drop (i+1):=by rw[bD,iV]
 unfold Sv;rw[bB,bM ⟨by omega,by omega,by omega,by omega⟩,kU (by omega),aq,bM ⟨by omega,by omega,by omega⟩,bM ⟨by omega,by omega,by omega⟩];simp only[bD]at C ⊢;rw[bM ⟨by omega,by omega,by omega,by omega⟩,bM ⟨by omega,by omega,by omega⟩,bM ⟨by omega,by omega⟩];have D:i+(q.length-(i+1))-0=i+(q.length-(i+1)):=by omega
 rw[D,aaG _ _ _ (by omega)];unfold splice;rw[iV,List.take_append_of_le_length (by simp;omega),List.take_of_length_le (by simp;omega)]
def aFO{q:aa bA}(C:amu q){i:Nat}(h:i<q.length)(E:q.length <= 12):Rq q q[i].id=some (q.take i++q.drop (i+1),true):=by
 have D:q.findIdx? (λr=>r.id==q[i].id)=some i:=by
  rw[pF]
  refine⟨h,by simp,λj L=>?_⟩
  have:=List.any_eq_false.1 (C i h) q[j] (jg.2 ⟨j,by rw[fJ];omega,by rw[List.getElem_take]⟩);simp_all
 unfold Rq xA xZ;rw[Zv _ _ (by omega),ak];unfold gw;rw[D];dsimp only;rw[aU,aq,bM ⟨by omega,by omega,by omega⟩,di (by simp;omega),au,bB,bM ⟨by omega,by omega,by omega⟩,di (by simp;omega),au];simp_all
def yD:bA:=⟨0,0,0,false,0,0⟩
def A1(s:aa bV)(t:Int):aa bV:=match qd s ((List.replicate 4 false).set t.toNat true)with
 |some (l,_)=>l
 |none=>[]
def pE(c:ax)(i:Nat)(a:cZ)(e:aa bU)(x:cW):ax:=
 ⟨c.config,c.box,c.now,c.bq,c.ready,a,c.spare,c.aP,c.bH,c.guard,c.pending,c.queue.take i++c.queue.drop (i+1),A1 c.shares (c.queue.getD i yD).dN,c.drain,c.aZ,c.cK,e,c.trace,c.cS++[x]⟩
def yE(c:ax)(i:Nat):ax:=
 let r:=c.queue.getD i yD
 let n:=ri c.config.aE (gF c r.line)
 bif r.write then pE c i ⟨c.array.cells.set n ⟨DB r.data,false⟩,c.array.bz,c.array.bu⟩ c.errors ⟨r.id,c.now,0,0⟩
 else pE c i ⟨c.array.cells.set n (pq (c.array.cells.getD n wm)),c.array.bz,c.array.bu⟩ (bif ke (c.array.cells.getD n wm) != 0 then rz c.errors (n:Int) (ke (c.array.cells.getD n wm))else c.errors) ⟨r.id,c.now,M5 (c.array.cells.getD n wm),ke (c.array.cells.getD n wm)⟩
def TK{d:bK}(h:Sy d.symbols):ke d=0 \/ ke d=1 \/ ke d=2:=by
 have⟨E,C,D⟩:=TB h;unfold ke;cases d.iy with
 |true=>simp_all
 |false=>exact(Dv C D).2.2
structure ov (c:ax) (i:Nat) (B:Int):Prop where
 ad:∀r∈c.queue,vS c r.line=some (gF c r.line,true)/\fj c.config.aE (gF c r.line)=true
 tn:∀r∈c.queue,0<=r.dN/\r.dN<=3
 ql:c.queue.length<=12
 sh:iQ c.shares=true
 shl:c.shares.length=4
 u:amu c.queue
 i:i<c.queue.length
 d:∀r∈c.queue,0<=r.data/\r.data<=4294967295
 a:eX c.config.aE B c.array
 e:kH c.errors=true
 r:c.cS.length<=1000
def ov.facts{c:ax}{i:Nat}{B:Int}(h:ov c i B){r:bA}(C:r∈c.queue):vS c r.line=some (gF c r.line,true)/\qf c.config.aE (gF c r.line)=(ri c.config.aE (gF c r.line):Int)/\ri c.config.aE (gF c r.line)<c.array.cells.length/\(ri c.config.aE (gF c r.line):Int) <= 1023/\qd c.shares ((List.replicate 4 false).set r.dN.toNat true)=some (A1 c.shares r.dN,(qd c.shares ((List.replicate 4 false).set r.dN.toNat true)).get!.2)/\0 <= r.dN/\r.dN.toNat<4:=by
 obtain⟨D,E⟩:=h.ad _ C;have L:=h.tn _ C;obtain⟨O,T⟩:=aB5 E;have U:=h.a.cells;have Y:=oa c.config.aE;obtain⟨y,t,e,_⟩:=aay ((List.replicate 4 false).set _ true) (by have:=h.shl;omega) h.sh (by simp[h.shl]);refine⟨D,O,by omega,by omega,?_,L.1,by omega⟩;unfold A1;rw[e];rfl
def amv{c:ax}{i:Nat}{B:Int}(h:ov c i B):Sw c (i:Int)=some ((),(yE c i,())):=by
 have hi:=h.i;have⟨f1,f3,f4,f5,f6,f7,f8⟩:=h.facts (cU hi);have C:=h.d _ (cU hi);have D:=h.a.syms _ (cU f4);have E:c.queue.getD i yD=c.queue[i]:=nD _ hi;have O:=h.r;unfold Sw xL;rw[az ⟨by omega,by omega⟩,az];simp only[bD];rw[f1,ak,aFN hi h.ql,ak,bM (by decide)];have L:(4:Int).toNat=4:=rfl;rw[L,az ⟨f7,by simpa using f8⟩,az (by simpa using f8)];dsimp only;rw[f6,ak];dsimp only;unfold yE;rw[E];dsimp only;cases hw:c.queue[i].write with
 | true=>
  rw[ Zd,ak,(M3 C.1 C.2).1,ak,az ⟨by omega,by omega⟩,az,di (by simp;omega)];unfold pE;simp_all
 | false=>
  rw[aq,aq,Zd,ak,f3,nD _ f4]
  refine(aY (λo=>Option.bind o _) (amm (c:=⟨c.config,c.box,c.now,c.bq,c.ready,c.array,c.spare,c.aP,c.bH,c.guard,c.pending,c.queue.take i++c.queue.drop (i+1),A1 c.shares c.queue[i].dN,c.drain,c.aZ,c.cK,c.errors,c.trace,c.cS⟩) f4 D)).trans ?_
  rw[ak];unfold rm dm;dsimp only;rw[di (by simp;omega),au,ak]
  refine(aY (λo=>Option.bind o _) (ams (by exact h.e) ⟨by omega,f5⟩ (TK D))).trans ?_
  rw[ak];unfold DF pE M6;rw[E];dsimp only;cases ke c.array.cells[ri c.config.aE (gF c c.queue[i].line)] != 0<;>rfl
def amw{c:ax}{i:Nat}{B:Int}(h:ov c i B)(L:∀ r∈c.queue,xT c r.line=some (gF c r.line)):Rr c (i:Int)=some ((),(yE c i,())):=by
 have hi:=h.i;have⟨f1,f3,f4,f5,f6,f7,f8⟩:=h.facts (cU hi);have f2:=L _ (cU hi);have C:=h.d _ (cU hi);have D:=h.a.syms _ (cU f4);have E:c.queue.getD i yD=c.queue[i]:=nD _ hi;have T:=h.r;unfold Rr xL;rw[az ⟨by omega,by omega⟩,az];simp only[bD];rw[f2,ak,aAr,ak,f3,aFO h.u hi h.ql,ak,bM (by decide)];have O:(4:Int).toNat=4:=rfl;rw[O,az ⟨f7,by simpa using f8⟩,az (by simpa using f8)];dsimp only;rw[alV _ _ (by have:=h.shl;omega),f6,ak];dsimp only;unfold yE;rw[E];dsimp only;cases hw:c.queue[i].write with
 | true=>
  rw[ ami C.1 C.2,ak,az ⟨by omega,by omega⟩,az,di (by simp;omega)];unfold pE;simp_all
 | false=>
  rw[aq,aq,nD _ f4]
  refine(aY (λo=>Option.bind o _) (amn (c:=⟨c.config,c.box,c.now,c.bq,c.ready,c.array,c.spare,c.aP,c.bH,c.guard,c.pending,c.queue.take i++c.queue.drop (i+1),A1 c.shares c.queue[i].dN,c.drain,c.aZ,c.cK,c.errors,c.trace,c.cS⟩) f4 D)).trans ?_
  rw[ak];dsimp only
  refine(aY (λo=>Option.bind o _) (amt (by exact h.e) ⟨by omega,f5⟩ (TK D))).trans ?_
  rw[ak];unfold DF pE M6 rm dm;rw[E];dsimp only;cases ke c.array.cells[ri c.config.aE (gF c c.queue[i].line)] != 0 with
  | true=>
   rw[au];rw[di (by simp;omega)];rfl
  | false=>
   rw[aq];rw[di (by simp;omega)];rfl
def dW(c:ax)(x:aG):ax:=⟨c.config,c.box,c.now,fU c.bq x,uf c.config.aE c.ready ⟨c.now,x⟩,c.array,c.spare,c.aP,c.bH,c.guard,c.pending,c.queue,c.shares,c.drain,c.aZ,c.cK,c.errors,c.trace++[⟨c.now,x⟩],c.cS⟩
def amx(c:ax)(p:eE):ax:=⟨c.config,c.box,c.now,c.bq,c.ready,c.array,c.spare,c.aP,c.bH,c.guard,c.pending,c.queue,c.shares,c.drain,p,c.cK,c.errors,c.trace,c.cS⟩
def sL(c:ax)(r:de):ax:=⟨c.config,c.box,c.now,c.bq,c.ready,c.array,c.spare,r,c.bH,c.guard,c.pending,c.queue,c.shares,c.drain,c.aZ,c.cK,c.errors,c.trace,c.cS⟩
def amy(c:ax)(r:cy):ax:=⟨c.config,c.box,c.now,r,c.ready,c.array,c.spare,c.aP,c.bH,c.guard,c.pending,c.queue,c.shares,c.drain,c.aZ,c.cK,c.errors,c.trace,c.cS⟩
def DG(c:ax)(k:Int):ax:=amx c (yx c.aZ k c.now)
def TL(c:ax)(b:Int):ax:=sL (M0 c b (c.pending.filter (λa=>!(a.ay==b)))) (wz c.aP b)
def yF(c:ax)(x:aG)(i:Int):ax:=
 bif x.kind==1 then uN (dW c x) x else
 bif x.kind==5 then TL (dW c x) x.ay else
 bif x.kind==2 ||x.kind==3 then yE (dW c x) i.toNat else
 bif x.kind==4 then dW c x else
 bif x.kind==9 then gy (DG (dW c x) 9) c.bH.length []else DG (dW c x) x.kind
structure Bs (c:ax):Prop where
 w:uO 100000 c
 u:wA c.pending
 pk:∀a∈c.pending,0<=a.ay/\a.ay<bf c.config.aE
 zt:∀t∈c.bH,hU t
 rf:fB c.aP=true
 bl:(c.bq.aB.length:Int)=bf c.config.aE
 l1:c.ready.last.length<1073741824
 l2:c.ready.bx.length<1073741824
 tl:c.trace.length<10000
def Bs.dW{c:ax}(h:Bs c)(x:aG):uO 100000 (dW c x):=⟨h.w.hB,h.w.g,h.w.a,h.w.k,h.w.p,h.w.t,h.w.d,h.w.r⟩
def ov.dW{c:ax}{n:Nat}{B:Int}(h:ov c n B)(x:aG):ov (dW c x) n B:=⟨h.ad,h.tn,h.ql,h.sh,h.shl,h.u,h.i,h.d,h.a,h.e,h.r⟩
def aFP{c:ax}(h:uO 100000 c):iter yc aR (((),(c.bH.length:Int),(0:Int),()),((⟨c.config,c.box,c.now,c.bq,c.ready,c.array,c.spare,c.aP,c.bH,c.guard,([]:aa aI),c.queue,c.shares,c.drain,c.aZ,c.cK,c.errors,c.trace,c.cS⟩:ax),()))=some (.inl ((),(gy c c.bH.length [],()))):=aFk h
def aFQ{c:ax}{x:aG}(D:1 <= x.kind/\x.kind <= 9)(C:x.kind <= 5 -> 0 <= x.ay/\x.ay.toNat<c.bq.aB.length):Rt c x=some ((),(amy c (fU c.bq x),())):=by
 unfold Rt fU amy xL;rcases kinds D with h|h|h|h|h|h|h|h|h<;>(try (have C:=C _))<;>simp[h,C]
def TM{g:aV}{x:aG}(h:dL g x=true)(C:x.kind=1):0 <= x.row/\x.row<g.rows:=by
 simp[dL,aN]at h;have D:=h.2.2.2.1;rw[sG,C,show ((1:Int)==1)=true from rfl,au,bJ]at D;omega
def aFR{c:ax}(h:Bs c){x:aG}(E:mB c.config.aE c.bq x=true){i:Int}(L:x.kind=2 \/ x.kind=3 -> ov c i.toNat 100000/\0 <= i):Mg c x i=some ((),(yF c x i,())):=by
 have⟨hg,hlen,T,O⟩:=MG E;have U:dL c.config.aE x=true:=by
  simp only[mB,aN]at E
  grind
 have b1:=fG c.config.aE;have w:=h.dW x;have ht:=h.w.t;have hd:=h.w.d;have hr:=h.w.r;have TN:=h.tl;have er:L5 c.config.aE c.bq x=some (fU c.bq x,true):=by
  rw[aBE _ _ _ (by omega)];unfold ZG;simp_all
 unfold Mg yF bh;rw[di (by simp;omega),au,aBL _ _ _ h.l1 h.l2,ak,er,ak];rcases kinds T with q|q|q|q|q|q|q|q|q<;>rw[q]<;>simp only[Int.reduceBEq,Int.reduceBNe,au,aq,Bool.or_true,Bool.or_false,Bool.true_or,Bool.false_or,Bool.or_self]
 ·have⟨C,Y⟩:=O (by omega);have⟨Z,r1⟩:=TM U q
  refine(aY (λo=>Option.bind o _) (aFg (c:=dW c x) x w.g w.a w.p h.zt C (by show x.ay<bf c.config.aE;omega) Z r1 (by show x.ay.toNat<c.bH.length;omega) (by show x.ay.toNat<c.guard.length;omega))).trans ?_
  rfl
 ·have⟨s,D⟩:=L (.inl q);have e:=amv (s.dW x);rw[Int.toNat_of_nonneg D]at e
  refine(aY (λo=>Option.bind o _) e).trans ?_
  rfl
 ·have⟨s,D⟩:=L (.inr q);have e:=amv (s.dW x);rw[Int.toNat_of_nonneg D]at e
  refine(aY (λo=>Option.bind o _) e).trans ?_
  rfl
 ·rfl
 ·have⟨C,Y⟩:=O (by omega);have⟨y,e4⟩:=aE8 h.rf (b:=x.ay) C (by omega)
  refine(aY (λo=>Option.bind o _) (al7 w.hB (dW c x) w.g w.a C (by show x.ay<bf c.config.aE;omega))).trans ?_
  rw[ak];unfold dm;dsimp only;rw[aFc _ _ (by show c.pending.length<1000000;have:=h.w.p;omega),ak];dsimp only
  refine(aY (λo=>Option.bind o _) (al8 _ (by exact w.k) C (by show x.ay.toNat<c.bH.length;omega) (by show x.ay.toNat<c.guard.length;omega))).trans ?_
  rw[ak];unfold qh;dsimp only
  refine(aY (λo=>Option.bind o _) e4).trans ?_
  rfl
 ·have⟨y,e⟩:=Tw c.aZ (k:=6) (by omega) c.now;rw[e,ak];rfl
 ·have⟨y,e⟩:=Tw c.aZ (k:=7) (by omega) c.now;rw[e,ak];rfl
 ·have⟨y,e⟩:=Tw c.aZ (k:=8) (by omega) c.now;rw[e,ak];rfl
 ·have⟨y,e⟩:=Tw c.aZ (k:=9) (by omega) c.now;rw[e,ak]
  refine(aY (λo=>Option.bind o _) (aFP (c:=DG (dW c x) 9) ⟨w.hB,w.g,w.a,w.k,w.p,w.t,w.d,w.r⟩)).trans ?_
  rfl
def aFS{c:ax}(h:Bs c){x:aG}(L:mB c.config.aE c.bq x=true){i:Int}(O:x.kind=2 \/ x.kind=3 -> ov c i.toNat 100000/\0 <= i)(T:∀ r∈c.queue,xT c r.line=some (gF c r.line)):Al c x i=some ((),(yF c x i,())):=by
 have⟨hg,hlen,U,D⟩:=MG L;have Y:dL c.config.aE x=true:=by
  simp[mB,aN]at L;simp_all
 have b1:=fG c.config.aE;have w:=h.dW x;have ht:=h.w.t;have hd:=h.w.d;have hr:=h.w.r;have TN:=h.tl;unfold Al yF bh;rw[di (by simp;omega),au,aBM _ _ _ h.l1 h.l2,ak]
 refine(aY (λo=>Option.bind o _) (aFQ U (λZ=>by have:=D Z;exact⟨this.1,this.2⟩))).trans ?_
 rw[ak];rcases kinds U with q|q|q|q|q|q|q|q|q<;>rw[q]<;>simp only[Int.reduceBEq,Int.reduceBNe,au,aq,Bool.or_true,Bool.or_false,Bool.true_or,Bool.false_or,Bool.or_self]
 ·have⟨C,oM⟩:=D (by omega);have⟨r0,r1⟩:=TM Y q
  refine(aY (λo=>Option.bind o _) (aFh (c:=dW c x) x w.g w.a w.p h.u h.zt C (by show x.ay<bf c.config.aE;omega) r0 r1 (by show x.ay.toNat<c.bH.length;omega) (by show x.ay.toNat<c.guard.length;omega))).trans ?_
  rfl
 ·have⟨s,E⟩:=O (.inl q);have e:=amw (s.dW x) T;rw[Int.toNat_of_nonneg E]at e
  refine(aY (λo=>Option.bind o _) e).trans ?_
  rfl
 ·have⟨s,E⟩:=O (.inr q);have e:=amw (s.dW x) T;rw[Int.toNat_of_nonneg E]at e
  refine(aY (λo=>Option.bind o _) e).trans ?_
  rfl
 ·rfl
 ·have⟨C,oM⟩:=D (by omega);have⟨y,e4⟩:=aE7 h.rf (b:=x.ay) C (by omega)
  refine(aY (λo=>Option.bind o _) (al9 w.hB (dW c x) w.g w.a w.k w.p C (by show x.ay<bf c.config.aE;omega) (by show x.ay.toNat<c.bH.length;omega) (by show x.ay.toNat<c.guard.length;omega))).trans ?_
  rw[ak]
  refine(aY (λo=>Option.bind o _) e4).trans ?_
  rfl
 ·have⟨y,e⟩:=Tx c.aZ (k:=6) (by omega) c.now
  refine(aY (λo=>Option.bind o _) e).trans ?_
  rfl
 ·have⟨y,e⟩:=Tx c.aZ (k:=7) (by omega) c.now
  refine(aY (λo=>Option.bind o _) e).trans ?_
  rfl
 ·have⟨y,e⟩:=Tx c.aZ (k:=8) (by omega) c.now
  refine(aY (λo=>Option.bind o _) e).trans ?_
  rfl
 ·have⟨y,e⟩:=Tx c.aZ (k:=9) (by omega) c.now
  refine(aY (λo=>Option.bind o _) e).trans ?_
  rw[ak]
  refine(aY (λo=>Option.bind o _) (aFm (c:=DG (dW c x) 9) ⟨w.hB,w.g,w.a,w.k,w.p,w.t,w.d,w.r⟩ (by show (fU c.bq x).aB.length=c.bH.length;rw[ak4];omega) h.pk)).trans ?_
  rfl
def aFT{l m:aa Int}(h:l.length=m.length)(D:(l.zip m).all sD=true):(∀ x∈l,0 <= x/\x <= 100000) /\ ∀ x∈m,0 <= x/\x <= 100000:=by
 rw[cw]at D;have key:∀ i _ (E:i<m.length),(0 <= l[i]/\l[i] <= 100000)/\(0 <= m[i]/\m[i] <= 100000):=λi O E=>by
  have L:i<(l.zip m).length:=by rw[List.length_zip];omega
  have:=D _ (cU L);rw[List.getElem_zip]at this;simp[sD,aN,bJ]at this;exact this
 constructor
 ·intro x C;obtain⟨i,hi,rfl⟩:=jg.1 C
  grind
 ·intro x C;obtain⟨i,hi,rfl⟩:=jg.1 C;simp_all
def eX.wC{g:aV}{a:cZ}(h:mz g a=true):eX g 100000 a:=by
 simp only[mz,aN,iU]at h;have⟨Z,C,D,E,L,O⟩:=h;have⟨T,U⟩:=aFT (by omega) O
 refine⟨C,λc Y=>?_,D,E,T,U⟩
 exact Sy.of (cw.1 L c Y)
def Bs.of{c:ax}(D:eB c)(h:gE c=true)(L:c.trace.length<10000):Bs c:=by
 have E:=Pq.of D h;have z1:c.box.bI.weights.length <= 1048576:=D.1.1;have h0:=h;simp only[gE,aN]at h;have⟨O,h2,h3,h4,T,U,h7,h8,C,Ge,AL,tE,ue,AM,AN,zP,Ds,Gr,Gs,MU,xU,MV⟩:=h;have⟨f1,f2⟩:=Gw (by omega) O;simp only[oe,aN]at f1;simp only[sF,aN,gA,ic,qt,cw,gk]at C;have⟨C,Y,Z,g3,g4,g5,g6⟩:=C;have rJ:=E.pl;have⟨hg,rl,ra⟩:=S3 T;have b1:=fG c.config.aE
 refine⟨⟨by decide,hg,eX.wC U,f1.2.2.2.2.2.1,by omega,Z,g3,Y⟩,λi hi=>?_,λa ha=>?_,D.2.2.2.2.2.2.1.2,C,E.p.bl,by omega,by omega,L⟩
 ·have hb:=g6 i hi;unfold ud at hb
  grind
 ·have⟨_,k1,k2,_⟩:=sB (E.pe a ha);simp_all
def ov.of{c:ax}(T:eB c)(h:gE c=true){n:Nat}(U:n<c.queue.length)(C:c.cS.length <= 1000):ov c n 100000:=by
 have D:=Pq.of T h;simp[gE,aN]at h;have⟨h1,h2,h3,h4,h5,Y,h7,h8,h9,L,AL,tE,ue,AM,AN,zP,Ds,Gr,Gs,Z,xU,MV⟩:=h;simp[o7,aN,cw,gk]at L;have⟨O,q2⟩:=L
 refine⟨λr C=>TI D C,λr C=>(D.q r C).2.1,D.ql,D.sh,D.shl,λi hi=>?_,U,λr C=>?_,eX.wC Y,Z,C⟩
 ·cases i with
  |zero=>simp
  | succ i=>
   have E:=O _ hi;rw[Mz hi]at E;simp_all
 ·obtain⟨i,hi,rfl⟩:=jg.1 C;have E:=O i hi;unfold q8 at E;rw[bZ hi]at E;simp[o6,SV,aN,bJ]at E;simp_all
def A3{g:aV}{B:Int}{a:cZ}(h:eX g B a):Dw a:=by
 have D:=h.cells;have E:=h.bz;have L:=h.bu;have O:=oa g;have T:=qe g;exact⟨⟨by omega,λc C=>by unfold uA;rw[(h.syms c C).1];omega⟩,by omega,by omega⟩
def aaP{l:aa bQ}(h:l.length <= 1048576 /\ ∀y∈l,hU y){t:bQ}(C:hU t)(i:Nat):(l.set i t).length <= 1048576 /\ ∀y∈l.set i t,hU y:=by grind
def amz{k:Int}(h:aL k 1 16=true):hU (yw k):=by
 have:=bJ.1 h;unfold yw hU
 grind
def aFU{t:bQ}(h:hU t)(row dz:Int):hU (uM t row dz).1:=by
 have C:=aaD (t:=t) row;unfold hU at h ⊢;unfold uM
 grind
def aFV{c:ax}(E:eB c)(L:c.ready.bx.length <= 4)(ht:c.trace.length <= 10000)(x:aG):eB (dW c x):=by
 have⟨O,C,⟨T,z4⟩,U,Y,Z,z8,z9,jc,lR,mC,ot,ny,pg⟩:=E;have D:=aBS c.config.aE c.ready ⟨c.now,x⟩;refine⟨O,by unfold MN at C ⊢;show (fU _ x).aB.length <= _;rw[ak4];exact C,⟨by show (uf _ _ _).last.length <= _;rw[D.1];exact T,Nat.le_trans (D.2 L) (by decide)⟩,U,Y,Z,z8,z9,jc,lR,mC,ot,by simp[dW];omega,pg⟩
def TO{c:ax}(D:eB c){a:cZ}(E:Dw a){r:de}(L:v9 r){t:aa bQ}(O:t.length <= 1048576 /\ ∀ y∈t,hU y){C:aa Int}(T:C.length <= 1048576){pd:aa aI}(U:pd.length <= 1048576)(pw:eE):eB ⟨c.config,c.box,c.now,c.bq,c.ready,a,c.spare,r,t,C,pd,c.queue,c.shares,c.drain,pw,c.cK,c.errors,c.trace,c.cS⟩:=by
 have⟨Y,Z,z3,z5,z6,z7,z8,z9,jc,lR,mC,ot,ny,pg⟩:=D;exact⟨Y,Z,z3,E,z6,L,O,T,U,lR,mC,ot,ny,pg⟩
def aFW{c:ax}(C:eB c)(h:uO 100000 c)(x:aG)(D:0 <= x.ay)(E:x.ay<bf c.config.aE)(L:0 <= x.row)(O:x.row<c.config.aE.rows):eB (uN c x):=by
 have zt:=C.2.2.2.2.2.2.1;have T:x.ay.toNat<c.bH.length:=by have:=h.t;omega
 have U:=h.p;refine TO C (A3 (aap h.g _ h.hB h.a D E L O)) C.2.2.2.2.2.1 (aaP zt ?_ _) C.2.2.2.2.2.2.2.1 ?_ _
 ·unfold sJ;rw[nD];exact aFU (zt.2 _ (cU T)) _ _
 ·have Y:(ou c x).length <= c.pending.length:=List.length_filter_le _ _;have Z:=aaH c.config.aE.rows x.row;have ha:=Ty x.ay (lQ c.config.aE.rows x.row) (ou c x)
  grind
def amA(r:de)(b:Int):(wz r b).aH.length=r.aH.length:=by
 unfold wz;cases decide (r.aH.getD b.toNat 0 = -2)<;>simp
def aFX{c:ax}(C:eB c)(h:uO 100000 c){b:Int}(D:0 <= b)(E:b<bf c.config.aE):eB (TL c b):=by
 have⟨_,_,_,_,L,O,T,U⟩:=fF h.g;have zt:=C.2.2.2.2.2.2.1;have Y:=h.p;have Z:=aaI (λa:aI=>!(a.ay==b)) c.pending;exact TO C (A3 (Gy h.g _ h.hB h.a D E _ (by omega))) (by unfold v9;rw[amA];exact C.2.2.2.2.2.1) (aaP zt (amz h.k) _) (by show (c.guard.set _ _).length <= _;rw[gz];exact C.2.2.2.2.2.2.2.1) (by show (c.pending.filter _).length <= _;omega) _
def amB{l:aa bQ}(h:l.length<=1048576/\∀ y∈l,hU y){t:bQ}(C:hU t):∀ k:Nat,((List.range k).foldl (λd b=>d.set b t) l).length<=1048576/\∀ y∈(List.range k).foldl (λd b=>d.set b t) l,hU y
 |0=>h
 |k+1=>by rw[yz];exact aaP (amB h C k) C k
def aFY{c:ax}(C:eB c)(h:uO 100000 c)(k:Nat)(D:(k:Int)<=bf c.config.aE):eB (gy c k []):=
 TO C (A3 (Tz h.g c.config.dO h.hB h.a k D)) (by unfold v9;rw[yA];exact C.2.2.2.2.2.1) (amB C.2.2.2.2.2.2.1 (amz h.k) k) (by rw[yA];exact C.2.2.2.2.2.2.2.1) (by simp) c.aZ
def amC{l:aa bU}(n code:Int):(rz l n code).length <= l.length+1:=by
 unfold rz
 grind
def amD{c:ax}(L:eB c){i:Nat}(h:ov c i 100000):eB (yE c i):=by
 have⟨O,T,U,z5,Y,Z,z8,z9,jc,lR,mC,ot,ny,pg⟩:=L;have hi:=h.i;have hql:=h.ql;have hr:=h.r;have⟨f1,f3,f4,f5,f6,f7,f8⟩:=h.facts (cU hi);have C:c.queue.getD i yD=c.queue[i]:=nD _ hi;have D:=h.d _ (cU hi);have Xc:(A1 c.shares c.queue[i].dN).length <= 1048576:=by
  have⟨y,t,e,hl⟩:=aay ((List.replicate 4 false).set c.queue[i].dN.toNat true) (by have:=h.shl;omega) h.sh (by simp[h.shl])
  grind
 have iA:c.errors.length <= 6:=by
  have E:=h.e;simp only[kH,aN,iU]at E;omega
 have key:∀ (a:cZ) (e:aa bU) (x:cW),Dw a -> e.length <= 100 -> eB (pE c i a e x):=λa e x ha E=>
  ⟨O,T,U,ha,Y,Z,z8,z9,jc,by simp[pE];omega,by unfold pE;rw[C];exact Xc,by show e.length <= _;omega,ny,by simp[pE];omega⟩
 unfold yE;rw[C];dsimp only;cases c.queue[i].write with
 |true=>exact key _ _ _ (A3 (h.a.MK _ (c:=⟨_,false⟩) (M3 D.1 D.2).2.1)) (by omega)
 | false=>
  rw[aq,nD _ f4];refine key _ _ _ (A3 (h.a.MK _ (aaJ (h.a.syms _ (cU f4))))) ?_;have:=amC (l:=c.errors) (ri c.config.aE (gF c c.queue[i].line):Int) (ke c.array.cells[ri c.config.aE (gF c c.queue[i].line)]);cases ke c.array.cells[ri c.config.aE (gF c c.queue[i].line)] != 0 with
  |true=>grind
  |false=>grind
def aFZ{c:ax}(T:eB c)(h:Bs c)(U:c.ready.bx.length <= 4){x:aG}(E:mB c.config.aE c.bq x=true){i:Int}(L:x.kind=2 \/ x.kind=3 -> ov c i.toNat 100000/\0 <= i):eB (yF c x i):=by
 have⟨hg,hlen,Y,O⟩:=MG E;have Z:dL c.config.aE x=true:=by
  simp[mB,aN]at E;simp_all
 have w:=h.dW x;have ht:=h.w.t;have TN:=h.tl;have z:=aFV T U (by omega) x;have C:∀k,eB (DG (dW c x) k):=λk=>TO z z.2.2.2.1 z.2.2.2.2.2.1 z.2.2.2.2.2.2.1 z.2.2.2.2.2.2.2.1 z.2.2.2.2.2.2.2.2.1 _
 unfold yF;rcases kinds Y with q|q|q|q|q|q|q|q|q<;>rw[q]<;>simp
 ·have⟨D,oM⟩:=O (by omega);have⟨r0,r1⟩:=TM Z q;exact aFW z w x D (by show _<bf c.config.aE;omega) r0 r1
 ·exact amD z ((L (.inl q)).1.dW x)
 ·exact amD z ((L (.inr q)).1.dW x)
 ·exact z
 ·have⟨D,oM⟩:=O (by omega);exact aFX z w D (by show x.ay<bf c.config.aE;omega)
 ·exact C 6
 ·exact C 7
 ·exact C 8
 ·exact aFY (C 9) ⟨w.hB,w.g,w.a,w.k,w.p,w.t,w.d,w.r⟩ _ (by show (c.bH.length:Int) <= bf c.config.aE;omega)
def nE(c:ax)(b:Int):Bool:=decide (c.aP.aH.getD b.toNat 0 >= 4)
def M7(c:ax)(b:Int):Bool:=c.pending.any λa=>a.ay==b
def mE(c:ax)(i:Nat):aG:=DA c.bq (fC c i) (qk c.queue i)
def TP(c:ax)(i:Nat):Bool:=decide (c.now-(kX c i).at_<c.box.bI.cap)
def kK(c:ax)(i:Nat):Bool:=
 gV c i&&(!nE c (fC c i).ay&&(dy c (mE c i)&&(!(((mE c i).kind==1 ||(mE c i).kind==4)&&M7 c (fC c i).ay) && !((mE c i).kind==4&&(yC c c.queue.length (fC c i).ay&&TP c i)))))
def aF0{l:aa Int}{b:Int}(C:0 <= b)(h:b.toNat<l.length):∀ i:Nat,(((i:Int)+b)∈cC i l) ↔ l.getD b.toNat 0 >= 4:=by
 obtain⟨n,rfl⟩:=gY C;rw[bD]at *
 clear C
 induction l generalizing n with
 |nil=>simp at h
 | cons d l E=>
  intro i;have L:∀ x∈cC (i+1) l,(i:Int)+1 <= x:=λx D=>by
   have⟨j,O,_,_⟩:=alR D;omega
  have e:cC i (d::l)=bif decide (d >= 4)then (i:Int)::cC (i+1) l else cC (i+1) l:=rfl
  grind
def aaQ{c:ax}{b:Int}(E:c.aP.aH.length <= 8)(C:0 <= b)(h:b.toNat<c.aP.aH.length):vR (cC 0 c.aP.aH) b=some (nE c b):=by
 have L:=Dz 0 c.aP.aH;have D:=aF0 C h 0;rw[cu,Int.zero_add]at D;unfold vR;rw[SZ _ _ (by omega),ak];congr 1;unfold nE gw
 grind
def TQ{c:ax}{b:Int}(C:c.aP.aH.length <= 8)(D:0 <= b)(h:b.toNat<c.aP.aH.length):CP c b=some (nE c b):=by
 unfold CP nE xI;simp_all
def amE{c:ax}(h:Pq c){i:Nat}(hi:i<c.queue.length):dL c.config.aE (mE c i)=true:=aE0 _ (DE h hi).1
def rA(c:ax):Nat->aa Bool
 |0=>List.replicate 4 false
 |k+1=>bif kK c k then (rA c k).set (kX c k).dN.toNat true else rA c k
def TR(c:ax):∀ k,(rA c k).length=4
 |0=>rfl
 | k+1=>by
  have C:=TR c k;show (bif kK c k then _ else _:aa Bool).length=4
  grind
def aF1{c:ax}{Y:aa Int}{U:aa aI}{Z:Int×Int×Int×Int×af}{P:Int×Int×Int×Int×Int×(aa Int)×Int×Int×af}{L iO aaR wait:aa Bool}{T:aa (Int×Bool)}{aaS:aa aG}{k:Nat}{r:bA}{a:aI}{nd:aG}{ct rd ib:Bool}(hq:c.queue.length<=12)(hk:k<c.queue.length)(hr:c.queue[k]=r)(h2:k<U.length)(ha:U[k]=a)(h3:k<L.length)(C:k<aaR.length)(h5:aaS.length=k)(D:0<=r.dN)(E:r.dN.toNat<wait.length)(e1:ya c.bq a r.write=some nd)(e2:vR Y a.ay=some ct)(e3:iN c nd=some rd)(e4:C5 c.pending a.ay=some ib)(b1:0<=r.at_/\r.at_<=1000000)(b2:0<=c.now/\c.now<=1000000):
  C7 ((Y,U,(),(),(),(),(),(),(),(),(),c.queue,(c.queue.length:Int),(k:Int),()),(c,Z,P,L,iO,T,aaS,aaR,wait,()))=some (.inl ((Y,U,(),(),(),(),(),(),(),(),(),c.queue,(c.queue.length:Int),((k+1:Nat):Int),()),(c,Z,P,L,iO,T,aaS++[nd],aaR.set k (L[k]&&(!ct&&(rd&&(!((nd.kind==1 ||nd.kind==4)&&ib) && !(nd.kind==4&&(mc T a.ay&&decide (c.now-r.at_<P.2.1))))))),(bif (L[k]&&(!ct&&(rd&&(!((nd.kind==1 ||nd.kind==4)&&ib) && !(nd.kind==4&&(mc T a.ay&&decide (c.now-r.at_<P.2.1)))))))then wait.set r.dN.toNat true else wait),()))):=by
 have hw:W6 (c.now-r.at_)=c.now-r.at_:=aO;unfold C7 av xG xI xL;dsimp only;rw[aW,au,az ⟨by omega,by omega⟩,az ⟨by omega,by omega⟩,az ⟨by omega,by omega⟩];simp only[bD,hr,ha,e1,ak,h5,lT,di (show k+1<1073741824 by omega),au,e2,e3,e4,hw,bB (show k<4611686018427387904 by omega)];by_cases O:nd.kind=1
 ·have k4:(nd.kind==(4:Int))=false:=by rw[O];rfl
  have O:(nd.kind==(1:Int))=true:=by rw[O];rfl
  simp only[O,k4,au,aq,Bool.true_or,cv,Bool.false_and,iW,Bool.and_true];rw[az ⟨by omega,by omega⟩,az];cases L[k]<;>cases ct<;>cases rd<;>cases ib<;>simp[C,D,E]
 ·have O:(nd.kind==(1:Int))=false:=by simpa using O
  simp only[O,aq,Bool.false_or];rw[az ⟨by omega,by omega⟩,az];cases nd.kind==(4:Int)with
  |false=>cases L[k]<;>cases ct<;>cases rd<;>cases ib<;>simp[C,D,E]
  | true=>
   cases L[k]with
   |false=>simp[C,D,E]
   | true=>
    cases ct with
    |true=>simp[C,D,E]
    | false=>
     cases rd with
     |false=>simp[C,D,E]
     | true=>
      cases ib with
      |true=>simp[C,D,E]
      | false=>
       cases mc T a.ay with
       |false=>simp[C,D,E]
       | true=>
        by_cases hc:c.now-r.at_<P.2.1
        ·simp[C,D,E,hc]
        ·simp[C,D,E,hc]
def aaT(y x:aG):Bool:=(y.kind==x.kind)&&((y.ay==x.ay)&&((y.row==x.row)&&((y.bR==x.bR)&&true)))
def M8(c:ax)(x:aG)(i:Int):Bool:=aL i 0 ((c.queue.length:Int)-1)&&(decide ((c.cS.length:Int)<400)&&aaT (DA c.bq (gF c (c.queue.getD i.toNat yD).line) (c.queue.getD i.toNat yD).write) x)
def wD(c:ax)(x:aG)(i:Int):Bool:=dL c.config.aE x&&(dy c x&&(!decide ((c.trace.length:Int) >= 2000)&&bif x.kind==2 ||x.kind==3 then M8 c x i else i == -1 ||aL i 0 ((c.queue.length:Int)-1)))
def aaU{c:ax}(h:Pq c){i:Int}(hi:aL i 0 ((c.queue.length:Int)-1)=true):∃ C:i.toNat<c.queue.length,0 <= i/\c.queue.getD i.toNat yD=c.queue[i.toNat]/\vS c c.queue[i.toNat].line=some (gF c c.queue[i.toNat].line,true)/\ya c.bq (gF c c.queue[i.toNat].line) c.queue[i.toNat].write=some (DA c.bq (gF c c.queue[i.toNat].line) c.queue[i.toNat].write):=by
 have D:=bJ.1 hi;have C:i.toNat<c.queue.length:=by omega
 have⟨E,L⟩:=TI h (cU C);have⟨_,O,T,_⟩:=sB L;have U:=h.p.bl;have Y:=fG c.config.aE;exact⟨C,D.1,nD _ C,E,Tu _ O (by omega) (by omega)⟩
def aF2{c:ax}(h:Pq c)(x:aG)(i:Int):Ai c x i=some (wD c x i):=by
 have U:=h.ql;unfold Ai wD;rw[ak0,ak];cases O:dL c.config.aE x with
 |false=>rfl
 |true=>
 rw[bC,aq,Ts h.p O,ak];cases dy c x with
 |false=>rfl
 |true=>
 rw[bC,aq];cases decide ((c.trace.length:Int) >= 2000)with
 |true=>rfl
 |false=>
 rw[aq,cv,cv,iW,cv,eA,aO (n:=(c.queue.length:Int)-1),ak];unfold M8;have nd:Ag=ya:=rfl;cases hi:aL i 0 ((c.queue.length:Int)-1)with
 | true=>
  have⟨D,E,T,f1,f3⟩:=aaU h hi;have f2:=aaO h (cU D);rw[fO (show ¬ i = -1 by omega),au,bC,aq,aW (show i >= 0 from E),cv,Bool.or_true,T];by_cases C:x.kind=2
  ·rw[show (x.kind != 2)=false by rw[C];rfl,show (x.kind==2)=true by rw[C];rfl,aq,au,Bool.true_or,au];cases decide ((c.cS.length:Int)<400)with
   |false=>rfl
   | true=>
    rw[ az ⟨E,D⟩,az ⟨E,D⟩];rw[f2,ak,nd,f3];rfl
  ·rw[fO C,kU C,au,Bool.false_or];by_cases L:x.kind=3
   ·rw[show (x.kind != 3)=false by rw[L];rfl,show (x.kind==3)=true by rw[L];rfl,aq,au,au];cases decide ((c.cS.length:Int)<400)with
    |false=>rfl
    | true=>
     rw[ az ⟨E,D⟩,az ⟨E,D⟩];rw[f2,ak,nd,f3];rfl
   ·grind
 | false=>
  rw[Bool.false_and,iW,au,Bool.or_false];by_cases e:i = -1
  ·subst e;rw[dV,aq,dR,show decide ((-1:Int) >= 0)=false from rfl,aq];by_cases C:x.kind=2
   ·simp_all
   ·rw[fO C,kU C,au,Bool.false_or];by_cases L:x.kind=3
    ·simp_all
    ·grind
  ·grind
def aF3{c:ax}(T:eB c)(h:Pq c)(x:aG)(i:Int):sy c x i=bif wD c x i then (Mg c x i).bind (λy=>some (y.2.1,true))else some (c,false):=by
 have Z:=h.ql;unfold sy wD xI;rw[MQ c T,ak,Te c T,ak,h.p.ok,bC,aq];cases U:dL c.config.aE x with
 | false=>
  have e:iN c x=some false:=by
   unfold iN;rw[ZF,U,Bool.false_and,Bool.and_false];rfl
  rw[e];rfl
 |true=>
 rw[yp h.p U,ak];cases dy c x with
 |false=>rfl
 |true=>
 rw[bC,aq];cases decide ((c.trace.length:Int) >= 2000)with
 |true=>rfl
 |false=>
 rw[aq,cv,cv,iW,cv,dB,aO (n:=(c.queue.length:Int)-1),ak];unfold M8;cases hi:aL i 0 ((c.queue.length:Int)-1)with
 | true=>
  have⟨C,D,Y,f1,f3⟩:=aaU h hi;rw[fO (show ¬ i = -1 by omega),bC,aq,au,aq,cv,Bool.or_true,Y];by_cases E:x.kind=2
  ·rw[show (x.kind==2)=true by rw[E];rfl,au,Bool.true_or,au];by_cases L:(c.cS.length:Int)<400
   ·rw[aW L,aU (show ¬ (c.cS.length:Int) >= 400 by omega),aq,az ⟨D,C⟩];dsimp only;rw[f1,ak,az ⟨D,C⟩,f3,ak];unfold aaT
    grind
   ·grind
  ·rw[kU E,aq,Bool.false_or];by_cases O:x.kind=3
   ·rw[show (x.kind==3)=true by rw[O];rfl,au,au];by_cases L:(c.cS.length:Int)<400
    ·rw[aW L,aU (show ¬ (c.cS.length:Int) >= 400 by omega),aq,az ⟨D,C⟩];dsimp only;rw[f1,ak,az ⟨D,C⟩,f3,ak];unfold aaT
     grind
    ·grind
   ·grind
 | false=>
  rw[Bool.false_and,iW,au,Bool.or_false];by_cases E:x.kind=2
  ·simp_all
  ·rw[kU E,aq,Bool.false_or];by_cases O:x.kind=3
   ·simp_all
   ·rw[kU O,aq,aq];by_cases e:i = -1
    ·simp_all
    ·grind
def amF{c:ax}(D:eB c)(h:Pq c){x:aG}{i:Int}(E:wD c x i=true):Bs c/\mB c.config.aE c.bq x=true/\(x.kind=2 \/ x.kind=3 -> ov c i.toNat 100000/\0 <= i)/\c.ready.bx.length <= 4:=by
 simp only[wD,aN,ic,qt]at E;have⟨O,L,Z,C⟩:=E;simp[dy,aN]at L
 refine⟨Bs.of D h.p.ok (by omega),?_,λT=>?_,(S3 h.p.rdy).2.2⟩
 ·unfold mB;rw[h.p.rk,O,L.1];rfl
 ·have e:(x.kind==2 || x.kind==3)=true:=by rcases T with q | q <;>rw[q] <;>rfl
  rw[e,au]at C;simp[M8,aN,iU]at C;have⟨U,Y,_⟩:=aaU h C.1;exact⟨ov.of D h.p.ok U (by omega),Y⟩
structure Ck (c:ax):Prop where
 f1:o9 c.config c.box.bI=true
 f2:o9 c.config c.box.next=true
 nw:aL c.now 0 1000000=true
 rk:lP c.config.aE c.bq=true
 rd:kW c.config.aE c.ready=true
 ar:mz c.config.aE c.array=true
 sp:nt c.config.aE c.spare=true
 se:c.spare.cr=c.config.cr
 rf:fB c.aP=true
 pa:sF c=true
 qu:o7 (fH (jo c.config.aE c.spare)) c.queue=true
 sh:iQ c.shares=true
 sl:(c.shares.length:Int)=4
 dr:oZ c.drain=true
 pw:jX c.aZ=true
 ps:c.aZ.state=c.bq.aZ
 si:c.aZ.since<=c.now
 s1:aL c.cK.every 1 100000=true
 s2:aL c.cK.wait 1 c.cK.every=true
 s3:aL c.cK.next 0 (W6 (fH c.config.aE-1))=true
 er:kH c.errors=true
 tr:c.trace.length<=2000
 rp:c.cS.length<=400
def Ck.of{c:ax}(h:gE c=true):Ck c:=by
 simp[gE,aN,gA,iU,ic,qt]at h;have⟨C,D,E,L,O,T,U,Y,⟨Z,h9'⟩,Ge,AL,tE,ue,AM,AN,zP,Ds,Gr,Gs,MU,xU,MV⟩:=h;exact⟨C,D,E,L,O,T,U,Y,Z,h9',Ge,AL,tE,ue,AM,AN,by omega,Ds,Gr,Gs,MU,by omega,by omega⟩
def Ck.ok{c:ax}(h:Ck c):gE c=true:=by
 have⟨C,D,E,L,O,T,U,Y,Z,h9',Ge,AL,tE,ue,AM,AN,zP,Ds,Gr,Gs,MU,xU,MV⟩:=h;simp[gE,aN,gA,iU,ic,qt]
 grind
def amG:∀ (l:aa Nat) (a:Nat),l.Pairwise (λx y=>x≠y) -> l.length <= (l.filter (λx=>decide (x≠a))).length+1
 |[],a,_=>by simp
 | x :: l,a,h=>by
  have⟨C,D⟩:=List.pairwise_cons.1 h;by_cases e:x=a
  ·subst e;have:(x :: l).filter (λy=>decide (y≠x))=l:=by
    rw[List.filter_cons_of_neg (by simp)];exact List.filter_eq_self.2 λy E=>by simpa using (C y E).symm
   grind
  ·rw[List.filter_cons_of_pos (by simpa using e)];have:=amG l a D;simp only[List.length_cons];omega
def pig:∀ (n:Nat) (l:aa Nat),(∀ x∈l,x<n)->l.Pairwise (λx y=>x≠y)->l.length<=n
 | 0,l,h,_=>by
  cases l with
  |nil=>simp
  |cons x l=>exact absurd (h x (.head _)) (by omega)
 | n+1,l,h,C=>by
  have E:=amG l n C;have L:=pig n (l.filter (λx=>decide (x≠n))) (λx D=>by
   have:=List.mem_filter.1 D;have O:=h x this.1;have T:x≠n:=by simpa using this.2
   omega) (C.filter _)
  omega
def wA.pw{l:aa aI}(h:wA l):l.Pairwise (λx y=>x≠y):=by
 rw[List.pairwise_iff_getElem];intro i j hi D L e;have C:=h j D;rw[List.any_eq_false]at C;have E:l[i]∈l.take j:=by
  rw[List.mem_take_iff_getElem]
  grind
 exact C _ E (MZ.2 e.symm)
def wA.mk{l:aa aI}(h:l.Pairwise (λx y=>x≠y)):wA l:=by
 rw[List.pairwise_iff_getElem]at h;intro j C;rw[List.any_eq_false];intro x D e;obtain⟨i,hi,rfl⟩:=List.mem_take_iff_getElem.1 D;exact h i j _ C (by omega) (MZ.1 e).symm
structure iS (c:ax):Prop where
 dl:(c.aP.aH.length:Int)=bf c.config.aE
 tl:(c.bH.length:Int)=bf c.config.aE
 gl:(c.guard.length:Int)=bf c.config.aE
 t:∀x∈c.bH,kI x=true
 g:∀x∈c.guard,3<=x/\x<=1000
 pd:∀a∈c.pending,fj c.config.aE a=true/\a.bR=0
 u:c.pending.Pairwise (λx y=>x≠y)
def iS.of{c:ax}(h:sF c=true):iS c:=by
 simp[sF,aN,gA,cw,gk]at h;have⟨E,L,O,g4,T,U⟩:=h;have key:=λi C Y=>by
  have:=T i C;unfold partAt at this;rw[bZ C,bZ Y,aN,bJ]at this;exact this
 have Z:∀ i _,fj _ c.pending[i]=true/\c.pending[i].bR=0/\(c.pending.take i).any _=false:=λi C=>by
  have:=U i C;unfold ud at this;rw[bZ C]at this
  simpa [aN]using this
 refine⟨E,L,O,λx D=>?_,λx D=>?_,λa ha=>?_,wA.pw λi hi=>(Z i hi).2.2⟩
 ·obtain⟨i,hi,rfl⟩:=jg.1 D
  grind
 ·obtain⟨i,hi,rfl⟩:=jg.1 D
  grind
 ·obtain⟨i,hi,rfl⟩:=jg.1 ha;simp[*]
def aF4{g:aV}{l:aa aI}(D:∀ a∈l,fj g a=true/\a.bR=0)(T:l.Pairwise (λx y=>x≠y)):l.length <= 128:=by
 have E:∀ a∈l,0 <= a.ay/\a.ay<8/\0 <= a.row/\a.row<16:=λa C=>by
  have⟨L,Z,h3,h4,h5,_⟩:=sB (D a C).1;have b1:=fG g;have b2:=fF L;omega
 have L:=pig 128 (l.map λa=>(a.ay*16+a.row).toNat) (λx U=>by
  obtain⟨a,C,rfl⟩:=List.mem_map.1 U;have:=E a C;omega) (by
  rw[List.pairwise_map]
  refine T.imp_of_mem λ{a b} C O Y e=>Y ?_
  have r1:=E a C;have r2:=E b O;have c1:=(D a C).2;have c2:=(D b O).2;cases a;cases b;simp only at *
  congr 1<;>omega)
 simp_all
def iS.ok{c:ax}(h:iS c):sF c=true:=by
 have⟨E,L,O,Y,Z,C,D⟩:=h;have hl:=aF4 C D;have T:=wA.mk D;simp[sF,aN,gA,ic,qt,cw,gk]
 refine⟨E,L,O,by omega,λi hi=>?_,λi hi=>?_⟩
 ·have U:i<c.guard.length:=by omega
  unfold partAt;rw[bZ hi,bZ U,aN,bJ];simp_all
 ·unfold ud;rw[bZ hi];simp only[aN,gA,ic];exact⟨(C _ (cU hi)).1,(C _ (cU hi)).2,T i hi⟩
def aF5{g:aV}{b n:Int}{l:aa aI}(L:fj g ⟨b,n,0⟩=true)(O:∀ a∈l,fj g a=true/\a.bR=0)(C:l.Pairwise (λx y=>x≠y)):(∀ a∈mD b l n,fj g a=true/\a.bR=0)/\(mD b l n).Pairwise (λx y=>x≠y):=by
 unfold mD;cases h:l.any _ with
 |true=>simp_all
 | false=>
  rw[aq];rw[List.any_eq_false]at h
  refine⟨λa T=>?_,?_⟩
  ·grind
  ·rw[List.pairwise_append]
   refine⟨C,List.pairwise_singleton _ _,λx D y E e=>?_⟩
   rw[List.mem_singleton.1 E]at e;exact h x D (MZ.2 e.symm)
def amH{g:aV}{b:Int}:∀ (ns:aa Int) {l:aa aI},(∀ n∈ns,fj g ⟨b,n,0⟩=true) -> (∀ a∈l,fj g a=true/\a.bR=0) -> l.Pairwise (λx y=>x≠y) -> (∀ a∈ns.foldl (mD b) l,fj g a=true/\a.bR=0)/\(ns.foldl (mD b) l).Pairwise (λx y=>x≠y)
 |[],l,_,C,D=>⟨C,D⟩
 | n :: ns,l,E,C,D=>by
  have⟨L,O⟩:=aF5 (E n (.head _)) C D;exact amH ns (λm T=>E m (.tail _ T)) L O
def GB{T:Type}{p:T -> Prop}{l:aa T}{i:Nat}{x:T}(h:∀y∈l,p y)(C:p x):∀y∈l.set i x,p y:=by grind
def aF6{t:bQ}(h:kI t=true)(row dz:Int):kI (uM t row dz).1=true:=by
 unfold uM
 grind
def amI{k:Int}(h:aL k 1 16=true):kI (yw k)=true:=by
 have C:=bJ.1 h;simp only[kI,yw,aN,gA,cw,List.length_replicate,bJ]
 refine⟨by omega,trivial,by omega,λi hi=>?_⟩
 rw[S0 (by simpa using hi) (by simpa using hi)];simp[aL]
def amJ{c:ig}{p:fz}(C:p.weights.length<1073741823)(h:o9 c p=true):3 <= p.fD/\p.fD <= 1000:=by
 have⟨_,f2⟩:=Gw C h;simp[vX,aN,bJ]at f2;simp_all
def DH{g:aV}{a:cZ}(C:cI g=true)(h:eX g 100000 a):mz g a=true:=by
 simp only[mz,aN,iU,cw]
 refine⟨C,h.cells,h.bz,h.bu,λc D=>Sy.ok (h.syms c D),λp E=>?_⟩
 have⟨x,y⟩:=p;have⟨L,O⟩:=List.of_mem_zip E;simp[sD,aN,bJ];exact⟨h.Di x L,h.iO y O⟩
def aF7{g:aV}{c:aG}(h:dL g c=true):oh g (jf g c).toNat=true:=by
 have⟨E,D,L,_⟩:=Dp h;have⟨O,T⟩:=ZK h;unfold oh;unfold jf at *
 cases C:aL _ 1 5 with
 | true=>
  have C:=bJ.1 C
  grind
 | false=>
  have U:¬ c.kind <= 5:=λh=>by rw[bJ.2 ⟨D.1,h⟩]at C;cases C
  grind
def amK{l:aa Int}(h:∀ i,i<l.length -> om l i=true){i:Nat}(hi:i<l.length):aL l[i] 0 1000000=true:=by
 have:=h i hi;cases i with
 |zero=>rw[MC]at this;exact this
 |succ i=>rw[Gc,aN]at this;exact this.1
def amL{l:aa Int}(h:∀ i,i<l.length -> om l i=true){i:Nat}(hi:i+1<l.length):l[i]<l[i+1]:=by
 have:=h _ hi;rw[Gc hi,aN,ic,qt]at this;omega
def amM{l:aa Int}(C:∀ i (hi:i<l.length),aL l[i] 0 1000000=true)(D:∀ i (hi:i+1<l.length),l[i]<l[i+1]):∀ i,i<l.length -> om l i=true:=λi hi=>by
 cases i with
 |zero=>rw[MC];exact C 0 hi
 | succ i=>
  have:=D i hi;rw[Gc hi,aN,ic,qt];simp_all
def aF8{l:aa Int}(h:∀ i,i<l.length -> om l i=true){x:Int}(O:aL x 0 1000000=true)(D:Dt ⟨[],l⟩ x=false):∀ i,i<(l++[x]).length -> om (l++[x]) i=true:=by
 refine amM (λi hi=>?_) λi hi=>?_
 ·by_cases C:i<l.length
  ·rw[List.getElem_append_left];exact amK h C
  ·grind
 ·have E:i<l.length:=by simp at hi;omega
  by_cases C:i+1<l.length
  ·rw[List.getElem_append_left C,List.getElem_append_left];exact amL h C
  ·have e:i+1=l.length:=by omega
   have L:(l++[x])[i+1]=x:=by simp[e]
   rw[L,List.getElem_append_left E];unfold Dt at D
   grind
def aF9{l:aa Int}(h:∀ i,i<l.length -> om l i=true)(k:Nat):∀ i,i<(l.drop k).length -> om (l.drop k) i=true:=by
 refine amM (λi hi=>?_) λi hi=>?_
 ·rw[List.getElem_drop];exact amK h _
 ·rw[List.getElem_drop,List.getElem_drop];rw[List.length_drop]at hi;exact amL h _
def amN{g:aV}{r:dn}(e:cO)(h:kW g r=true):kW g (uf g r e)=true:=by
 unfold uf;cases C:kW g r&&(dL g e.cmd&&(aL e.at_ 0 1000000 && !(e.cmd.kind==1&&Dt r e.at_)))with
 |false=>exact h
 | true=>
  rw[au];simp only[aN,ic]at C;have⟨_,O,D,E⟩:=C;simp only[kW,aN,gA,ic,qt,cw,gk]at h ⊢;have⟨T,U,Y,Z,L⟩:=h
  refine⟨T,by rw[gz];exact U,?_,λi hi=>?_,?_⟩
  ·cases e.cmd.kind==1 with
   |false=>exact Y
   | true=>
    rw[au];unfold Du
    grind
  ·rw[gz]at hi;have hb:=Z i hi;rw[MB hi]at hb;rw[MB (by rw[gz];exact hi)];by_cases e':(jf g e.cmd).toNat=i
   ·subst e';rw[mH,aF7 O];have:=bJ.1 D;rw[bJ.2 ⟨by omega,by omega⟩];rfl
   ·simp_all
  ·cases hk:e.cmd.kind==1 with
   |false=>exact L
   | true=>
    rw[hk]at E;exact aF9 (aF8 L D E) _
structure Qk (n:Int) (q:List bA):Prop where
 r:∀x∈q,o6 n x=true
 b:q.Pairwise λx y=>q7 x y=true
 i:q.Pairwise λx y=>x.id≠y.id
 l:q.length<=12
def aGa{x y z:bA}(C:q7 x y=true)(D:q7 y z=true):q7 x z=true:=by
 simp only[q7,eD,aN,iU,gA]at *
 omega
def Qk.of{n:Int}{q:aa bA}(h:o7 n q=true):Qk n q:=by
 have L:=h;simp only[o7,aN,cw,gk,iU]at h;have⟨E,Y⟩:=h;have O:∀ x∈q,o6 n x=true:=λx T=>by
  obtain⟨i,hi,rfl⟩:=jg.1 T;have:=E i hi;unfold q8 at this;simp_all
 have Z:∀ j i (D:i<j) (C:j<q.length),q7 q[i] q[j]=true:=by
  intro j
  induction j with
  |zero=>simp_all
  | succ j U=>
   intro i D C;have:=E (j+1) C;rw[Mz C,aN,aN]at this;by_cases e:i=j
   ·simp_all
   ·exact aGa (U i (by omega) _) this.2.1
 refine⟨O,?_,?_,by omega⟩
 ·rw[List.pairwise_iff_getElem]
  grind
 ·rw[List.pairwise_iff_getElem];intro i j hi C D e;have:=aD3 L D C;simp_all
def Qk.ok{n:Int}{q:aa bA}(h:Qk n q):o7 n q=true:=by
 have⟨C,D,E,O⟩:=h;rw[List.pairwise_iff_getElem]at D E;simp[o7,aN,cw,gk,iU]
 refine⟨λi hi=>?_,by omega⟩
 cases i with
 |zero=>rw[Zw hi];exact C _ (cU hi)
 | succ i=>
  rw[Mz hi,aN,aN,ic];refine⟨C _ (cU hi),D i (i+1) (by omega) hi (by omega),?_⟩;rw[List.any_eq_false];intro x L e;obtain⟨k,T,rfl⟩:=List.mem_take_iff_getElem.1 L
  grind
def Qk.sub{n:Int}{q s:aa bA}(h:Qk n q)(C:s.Sublist q):Qk n s:=
 ⟨λx D=>h.r x (C.subset D),h.b.sublist C,h.i.sublist C,Nat.le_trans C.length_le h.l⟩
def aGb{T:Type}(l:aa T)(i:Nat):(l.take i++l.drop (i+1)).Sublist l:=by
 rw[<-List.eraseIdx_eq_take_drop_succ];exact List.eraseIdx_sublist l i
def aGc(e x:bU):Prop:=¬ (e.line=x.line/\e.code=x.code)
structure Ek (l:List bU):Prop where
 e:∀x∈l,yg x=true
 k:l.Pairwise aGc
 l:l.length<=6
def aaV{e x:bU}:kV e x=true ↔ x.line=e.line/\x.code=e.code:=by
 simp only[kV,aN,gA]
def Ek.of{l:aa bU}(h:kH l=true):Ek l:=by
 simp[kH,aN,cw,gk,iU]at h;have⟨D,O⟩:=h;have key:=λi hi=>by
  have:=D i hi
  rwa [SY hi,aN,ic]at this
 refine⟨λx E=>?_,?_,by omega⟩
 ·obtain⟨i,hi,rfl⟩:=jg.1 E
  grind
 ·rw[List.pairwise_iff_getElem];intro i j hi L T e;have C:=(key j L).2;rw[List.any_eq_false]at C;exact C l[i] (List.mem_take_iff_getElem.2 ⟨i,by omega,rfl⟩) (aaV.2 e)
def Ek.ok{l:aa bU}(h:Ek l):kH l=true:=by
 have⟨D,C,L⟩:=h;rw[List.pairwise_iff_getElem]at C;simp only[kH,aN,cw,gk,iU]
 refine⟨λi hi=>?_,by omega⟩
 rw[SY hi,aN,ic];refine⟨D _ (cU hi),?_⟩;rw[List.any_eq_false];intro x E e;obtain⟨k,O,rfl⟩:=List.mem_take_iff_getElem.1 E;exact C k i (by omega) hi (by omega) (aaV.1 e)
def amO{l:aa bU}(h:kH l=true){n code:Int}(h1:0 <= n/\n <= 1023)(h2:code=1 \/ code=2):kH (rz l n code)=true:=by
 have C:=Ek.of h;have Y:=C.l;have sX:yg ⟨n,code,1⟩=true:=by
  simp[yg,aN,eD,gA,bJ];omega
 refine Ek.ok ?_;unfold rz;cases D:l.findIdx? (kV ⟨n,code,1⟩)with
 | some i=>
  have⟨hi,hp⟩:=MY D;dsimp only;rw[nD _ hi];have Z:=C.e _ (cU hi);have hu:yg (TJ l[i])=true:=by
   simp only[yg,aN,bJ]at Z ⊢;unfold TJ;dsimp only;rw[aO]
   grind
  refine⟨GB C.e hu,?_,by rw[gz];exact Y⟩;have E:=C.k;rw[List.pairwise_iff_getElem]at E ⊢;intro a b L O hab;rw[gz]at L O;have:=E a b L O hab;rw[List.getElem_set,List.getElem_set];by_cases T:i=a
  ·subst T
   rwa [bM rfl,bX]
  ·rw[bX T];by_cases e2:i=b
   ·subst e2
    rwa [bM rfl]
   ·simp[*]
 | none=>
  have hn:∀ x∈l,¬ (x.line=n/\x.code=code):=λx hx e=>by
   have:=List.findIdx?_eq_none_iff.1 D x hx;rw[aaV.2 e]at this;cases this
  have app:∀ m:aa bU,m.Sublist l -> m.length <= 5 -> Ek (m++[⟨n,code,1⟩]):=λm U hml=>by
   refine⟨λx hx=>?_,?_,by rw[List.length_append,lT];omega⟩
   ·rcases List.mem_append.1 hx with hx | hx
    ·exact C.e x (U.subset hx)
    ·rwa [List.mem_singleton.1 hx]
   ·rw[List.pairwise_append]
    refine⟨C.k.sublist U,List.pairwise_singleton _ _,λx hx y hy e=>?_⟩
    rw[List.mem_singleton.1 hy]at e
    grind
  dsimp only;by_cases e6:l.length=6
  ·grind
  ·rw[kU (show ¬ (l.length:Int)=6 by omega),aq]
   grind
def amP{l:aa bV}(h:∀ s∈l,nq s=true){k:Nat}(C:k<l.length)(E:1<=l[k].eP):∀ s∈l.set k ⟨l[k].weight,W6 (l[k].eP-1)⟩,nq s=true:=by
 have D:=h _ (cU C);simp only[nq,aN,bJ]at D;rw[aO (n:=l[k].eP-1)];refine GB h ?_;simp only[nq,aN,bJ];omega
def aGd{l:aa bV}(w:aa Bool)(hl:l.length<1073741823)(D:iQ l=true)(hw:l.length=w.length):∃ y t,qd l w=some (y,t)/\y.length=l.length/\iQ y=true:=by
 have mk:∀ y:aa bV,y.length=l.length -> (∀ s∈y,nq s=true) -> y.length=l.length/\iQ y=true:=λy C h2=>by
  refine⟨C,?_⟩;simp[iQ,aN,cw]at D ⊢;exact⟨h2,by rw[C];exact D.2⟩
 have E:∀ s∈l,nq s=true:=by
  simp only[iQ,aN,cw]at D;exact D.1
 unfold qd xA xC bh xL xZ;have hb:=wq (λi=>w.getD i false) (λi=>(l.getD i ⟨0,0⟩).eP) (min l.length w.length);have T:(iR l).length=l.length:=by simp[iR]
 have gK:=wq (λi=>w.getD i false) (λi=>((iR l).getD i ⟨0,0⟩).eP) (min (iR l).length w.length);have hm:=aav (λi=>w.getD i false) (λi=>(l.getD i ⟨0,0⟩).eP) (min l.length w.length);rw[List.nil_append,MW l w (by omega),ak,Mx _ (by omega),ak,D,bC,aq,List.length_nil,fk,di,au];unfold uL;generalize hr:kJ (λi=>w.getD i false) (λi=>(l.getD i ⟨0,0⟩).eP) (min l.length w.length)=b at *
 by_cases U:b<0
 ·rw[aW U];exact⟨_,_,rfl,mk _ rfl E⟩
 ·have C:b.toNat<l.length:=by omega
  rw[aU U,aq,az ⟨by omega,C⟩,az C];dsimp only;have hsb:=E _ (cU C);simp only[nq,aN,bJ]at hsb;cases Y:l[b.toNat].eP==0 with
  | false=>
   have Y:¬ l[b.toNat].eP=0:=by simpa using Y
   rw[ az ⟨by omega,C⟩,az C,az ⟨by omega,C⟩,az C];exact⟨_,_,rfl,mk _ (by simp) (amP E C (by omega))⟩
  | true=>
   have aGe:∀ s∈iR l,nq s=true:=λs D=>by
    obtain⟨x,O,rfl⟩:=List.mem_map.1 D;have:=E x O;simp[nq,aN,bJ,sI]at this ⊢;omega
   rw[au,aax l w (by omega),ak];simp only[eJ];rw[MW _ w (by omega),ak];have Z:0 <= uL (iR l) w:=aaw _ (i:=b.toNat) (by rcases hm with h|h;exact absurd h (by omega);exact h) _ (by rw[T];omega);have hq:uL (iR l) w<((min (iR l).length w.length:Nat):Int):=gK.2;have L:(uL (iR l) w).toNat<(iR l).length:=by omega
   have h4:1 <= (iR l)[(uL (iR l) w).toNat].eP:=by
    have dA:(uL (iR l) w).toNat<l.length:=by omega
    have O:=E _ (cU dA);simp only[nq,aN,bJ]at O;simp only[iR,List.getElem_map,sI];simp only[iR]at O;omega
   rw[az ⟨Z,L⟩,az L,az ⟨Z,L⟩,az L];exact⟨_,_,rfl,mk _ (by simp[T]) (amP aGe L h4)⟩
def amQ{r:de}(h:fB r=true)(k:Nat){d:Int}(C:-2 <= d/\d <= 5):fB ⟨r.aH.set k d,r.wait,r.dS⟩=true:=by
 simp only[fB,aN]at h ⊢;refine⟨ZM h.1 ?_,by rw[gz];exact h.2.1,h.2.2⟩;exact bJ.2 C
def aGf{r:de}(h:fB r=true){b:Int}(C:b.toNat<r.aH.length):fB (wz r b)=true:=by
 have D:=Gx h _ (cU C);unfold wz;rw[nD _ C];by_cases e:r.aH[b.toNat] = -2
 ·simp_all
 ·rw[aU e];exact amQ h _ (by omega)
def aGg{r:cy}{p:eE}{x:aG}{now:Int}(E:jX p=true)(C:p.state=r.aZ)(L:p.since <= now)(O:now <= 1000000)(U:6 <= x.kind/\x.kind <= 9)(D:o8 r x=true):jX (yx p x.kind now)=true/\(yx p x.kind now).state=(fU r x).aZ/\(yx p x.kind now).since <= now:=by
 have Y:0 <= p.since:=by
  simp[jX,aN,bJ]at E;omega
 have hi:0 <= p.idle/\p.idle <= 1000000:=by
  simp[jX,aN,bJ]at E;omega
 have T:=bJ.2 ⟨L,O⟩;unfold yx;rw[E,T,Bool.and_self];have mk:∀ s:Int,0 <= s/\s <= 2 -> jX ⟨s,now,p.idle⟩=true:=λs C=>by
  simp[jX,aN,bJ];omega
 have:x.kind=6 \/ x.kind=7 \/ x.kind=8 \/ x.kind=9:=by omega
 rcases this with h|h|h|h
 ·have e:r.aZ=0:=by simpa [o8,h]using D
  simp[fU,h,C,e,mk]
 ·have e:r.aZ=1:=by simpa [o8,h]using D
  simp[fU,h,C,e,mk]
 ·have e:r.aZ=0:=by have:=D;simp[o8,h]at this;exact this.1
  simp[fU,h,C,e,mk]
 ·have e:r.aZ=2:=by simpa [o8,h]using D
  simp[fU,h,C,e,mk]
def aGh{c:ax}(h:Pq c)(Z:Int×Int×Int×Int×af)(P:Int×Int×Int×Int×Int×(aa Int)×Int×Int×af)(L:P.2.1=c.box.bI.cap):iter C7 aR ((cC 0 c.aP.aH,fy c,(),(),(),(),(),(),(),(),(),c.queue,(c.queue.length:Int),(0:Int),()),(c,Z,P,(List.range c.queue.length).map (gV c),(List.range c.queue.length).map (dZ c),sK c c.queue.length,([]:aa aG),List.replicate c.queue.length false,List.replicate 4 false,()))=some (.inl (((),(),(),(),(),(),(),()),(c,Z,P,(List.range c.queue.length).map (dZ c),(List.range c.queue.length).map (mE c),(List.range c.queue.length).map (kK c),rA c c.queue.length,()))):=by
 have O:=h.ql;have rJ:=h.pl;have T:=nB h.rf;have U:=wB h;have e:=cA (step:=C7) c.queue.length (λi=>((cC 0 _,fy c,(),(),(),(),(),(),(),(),(),c.queue,c.queue.length,i,()),(c,Z,P,(List.range _).map (gV c),(List.range c.queue.length).map (dZ c),sK c _,(List.range i).map (mE c),rq (kK c) c.queue.length i,rA c i,()))) _ aR (λk C=>by
  have hl:=TF (f:=kK c) (n:=c.queue.length) (k:=k) (by omega);have TS:=uQ c;have hwl:=TR c k;have⟨ho,D,Y,o3,o4,o5⟩:=DE h C;have⟨q1,q2,E⟩:=h.q _ (cU C);rw[pz C]at q1 q2 E;have Cf:(kX c k).write=qk c.queue k:=by rw[DC C,pz C]
  refine(aF1 (r:=kX c k) (a:=fC c k) (nd:=mE c k) (ct:=nE c (fC c k).ay) (rd:=dy c (mE c k)) (ib:=M7 c (fC c k).ay) O C (pz C) (by omega) (DD _) (by simp;exact C) (by omega) (by simp) (by omega) (by omega) (by rw[Cf];exact Tu _ D Y U) (aaQ T.1 D o3) (yp h.p (amE h C)) (aaC _ _ (by omega)) E h.nw).trans ?_;rw[yB C,amr,L,<- TG C,List.range_succ,List.map_append];rfl) (by
  unfold C7 av xG xI xL;dsimp only;rw[aU,aq,TH]) (bO)
 exact e
def sM(f g:Nat->Bool)(n k:Nat):aa Bool:=(List.range n).map λi=>bif Nat.blt i k then f i else g i
def amR(f g:Nat->Bool)(n:Nat):sM f g n 0=(List.range n).map g:=rfl
def amS(f g:Nat -> Bool)(n:Nat):sM f g n n=(List.range n).map f:=by
 refine List.map_congr_left λi hi=>?_
 have hi:=gk.1 hi;rw[show Nat.blt i n=true from jr hi];rfl
def TT(f g:Nat->Bool)(n k:Nat):(sM f g n k).length=n:=by unfold sM;simp
def aGi(k:Nat):Nat.blt k k=false:=by
 cases h:Nat.blt k k with
 |false=>rfl
 |true=>simp_all
def amT{f g:Nat->Bool}{n k:Nat}(C:k<(sM f g n k).length):(sM f g n k)[k]=g k:=by
 simp only[sM,List.getElem_map,js,aGi,aq]
def amU{f g:Nat -> Bool}{n k:Nat}(h:k<n):(sM f g n k).set k (f k)=sM f g n (k+1):=by
 apply List.ext_getElem
 ·rw[gz,TT,TT]
 ·intro i L O;rw[List.getElem_set];simp only[sM,List.getElem_map,js];by_cases e:k=i
  ·subst e;rw[bM rfl,show Nat.blt k _=true from jr (dM _)];rfl
  ·rw[bX e];rcases Nat.lt_or_gt_of_ne e with h3 | h3
   ·have D:Nat.blt i k=false:=by
     cases C:Nat.blt i k with
     |false=>rfl
     |true=>have:=cP C;omega
    have E:Nat.blt i (k+1)=false:=by
     cases C:Nat.blt i (k+1)with
     |false=>rfl
     |true=>have:=cP C;omega
    rw[D,E]
   ·rw[show Nat.blt i k=true from jr h3,show Nat.blt i _=true from jr (by omega)]
def rB(c:ax)(t:Int)(i:Nat):Bool:=kK c i&&(kX c i).dN==t
def aGj{c:ax}(L:c.queue.length <= 12)(t:Int)(Z:Int×Int×Int×Int×af)(P:Int×Int×Int×Int×Int×(aa Int)×Int×Int×af)(iO:aa Bool)(C:aa aG):iter FZ aR (((),(),(),(),(),(),t,c.queue,(c.queue.length:Int),(0:Int),()),(c,Z,P,iO,C,(List.range c.queue.length).map (kK c),()))=some (.inl (((),(),(),(),(),(),()),(c,Z,P,iO,C,(List.range c.queue.length).map (rB c t),()))):=by
 have e:=cA (step:=FZ) c.queue.length (λi=>(((),(),(),(),(),(),t,c.queue,(c.queue.length:Int),(i:Int),()),(c,Z,P,iO,C,sM (rB c t) (kK c) c.queue.length i,()))) _ aR (λk D=>by
  have O:=TT (rB c t) (kK c) c.queue.length k;rw[<- amU D];unfold FZ av xG xI xL;dsimp only;rw[aW,au,az ⟨by omega,by omega⟩,az ⟨by omega,by omega⟩,az,bB];simp only[bD,amT,pz];have E:rB c t k=(kK c k&&(kX c k).dN==t):=rfl;rw[E];cases kK c k with
  |false=>rw[aq,az ⟨by omega,by omega⟩,az];rfl
  |true=>rw[ az ⟨by omega,by omega⟩,az];rfl) (by
  unfold FZ av xG xI xL;dsimp only;rw[aU,aq,amS]) (bO)
 rw[cu,amR]at e;exact e
def fI(p:Nat->Bool):Nat->Int
 |0=>-1
 |k+1=>bif decide (fI p k<0)&&p k then (k:Int)else fI p k
def DI(p:Nat->Bool)(k:Nat):fI p (k+1)=bif decide (fI p k<0)&&p k then (k:Int)else fI p k:=rfl
def uR(p:Nat -> Bool):∀ n,(fI p n = -1 /\ ∀ k,k<n -> p k=false) \/ ∃ j:Nat,j<n/\fI p n=(j:Int)/\p j=true /\ ∀ k,k<j -> p k=false
 |0=>.inl ⟨rfl,λk C=>absurd C (Nat.not_lt_zero k)⟩
 | n+1=>by
  rw[DI];rcases uR p n with ⟨D,E⟩|⟨j,D,E,L,O⟩
  ·grind
  ·grind
def uS(D iO C:Nat->Bool)(n:Nat):Int:=
 bif decide (fI (λi=>C i&&D i) n<0)then (bif decide (fI (λi=>C i&&iO i) n<0)then fI C n else fI (λi=>C i&&iO i) n)else fI (λi=>C i&&D i) n
def nG(c:ax)(i:Nat):Bool:=decide ((kX c i).at_<=c.now-c.box.bI.cap)
def aGk{c:ax}(h:Pq c)(C:Nat->Bool):Sa c.queue ((List.range c.queue.length).map C) ((List.range c.queue.length).map (dZ c)) c.box.bI.cap c.now=some (uS (nG c) (dZ c) C c.queue.length):=by
 have hq:=h.ql;have hnw:=h.nw;have hcp:=h.cap;have Y:W6 (c.now-c.box.bI.cap)=c.now-c.box.bI.cap:=aO;have iT:∀ (k:Nat),k<c.queue.length->(C k&&nG c k)=false->Ax (((List.range c.queue.length).map C,(List.range c.queue.length).map (dZ c),c.box.bI.cap,c.now,fI C k,fI (λi=>C i&&dZ c i) k,c.queue,(c.queue.length:Int),(k:Int),()),())=some (.inl (((List.range c.queue.length).map C,(List.range c.queue.length).map (dZ c),c.box.bI.cap,c.now,fI C (k+1),fI (λi=>C i&&dZ c i) (k+1),c.queue,(c.queue.length:Int),((k+1:Nat):Int),()),())):=by
  intro k D E;rw[DI,DI];unfold Ax av aQ xG xI;dsimp only;rw[aW,au,az ⟨by omega,by omega⟩];simp only[eI,cX];rw[aU,aq,az ⟨by omega,by omega⟩];simp only[bD,yB D,Y,pz];rw[bB];cases L:C k with
  |false=>simp[L]
  | true=>
   rw[L,cv]at E;unfold nG at E;rw[E,aW (by omega:(k:Int)<(c.queue.length:Int)),az ⟨by omega,by omega⟩];simp only[bC,aq,au,L,cv];cases dZ c k<;>cases decide (fI C k<0)<;>cases decide (fI (λi=>C i&&dZ c i) k<0)<;>simp
 unfold Sa uS bE;rw[dB,ak,bJ.2 ⟨hcp.1,by omega⟩,bC,aq,dB,ak,bJ.2 hnw,bC,aq];rcases uR (λi=>C i&&nG c i) c.queue.length with ⟨O,T⟩|⟨j,O,T,U,h4⟩
 ·have e:=cA (step:=Ax) c.queue.length (λk=>(((List.range c.queue.length).map C,(List.range c.queue.length).map (dZ c),c.box.bI.cap,c.now,fI C k,fI (λi=>C i&&dZ c i) k,c.queue,(c.queue.length:Int),(k:Int),()),())) (.inr (.inl ((fI C c.queue.length,fI (λi=>C i&&dZ c i) c.queue.length,()),()))) aR (λk D=>iT k D (T k D)) (by
   unfold Ax av aQ xG xI;dsimp only;rw[aU,aq]) (bO)
  rw[cu]at e
  refine(aY (λo=>Option.bind o _) e).trans ?_
  rw[ak,O];simp only[Sum.elim_inr,eJ];by_cases Z:fI (λi=>C i&&dZ c i) c.queue.length<0
  ·rw[aU (by omega:¬ fI (λi=>C i&&dZ c i) c.queue.length >= 0),aW Z];rfl
  ·rw[aW (by omega:fI (λi=>C i&&dZ c i) c.queue.length >= 0),aU Z];rfl
 ·have e:=cA (step:=Ax) j (λk=>(((List.range c.queue.length).map C,(List.range c.queue.length).map (dZ c),c.box.bI.cap,c.now,fI C k,fI (λi=>C i&&dZ c i) k,c.queue,(c.queue.length:Int),(k:Int),()),())) (.inl (((j:Int),()),())) aR (λk D=>iT k (by omega) (h4 k D)) (by
   rw[aN]at U;have h5:=U.2;unfold nG at h5;unfold Ax av aQ xG xI;dsimp only;rw[aW,au,az ⟨by omega,by omega⟩];simp only[eI,cX];rw[aU,aq,az ⟨by omega,by omega⟩];simp only[bD,yB O,Y,pz,U.1,h5,bC,aq,au]) (bO)
  rw[cu]at e
  refine(aY (λo=>Option.bind o _) e).trans ?_
  rw[ak,T,aU];rfl
def rkN(D iO C:Nat->Bool)(n:Nat):Int:=
 bif decide (fI (λi=>C i&&D i) n<0)then (bif decide (fI (λi=>C i&&iO i) n<0)then (bif decide (fI C n<0)then 0 else 1)else 2)else 3
def aGl{c:ax}(h:Pq c)(C:Nat->Bool):Q7 c.queue ((List.range c.queue.length).map C) ((List.range c.queue.length).map (dZ c)) c.box.bI.cap c.now=some (uS (nG c) (dZ c) C c.queue.length):=by
 have U:=h.ql;have E:=h.nw;have L:=h.cap;have O:W6 (c.now-c.box.bI.cap)=c.now-c.box.bI.cap:=aO;unfold Q7 bh;rw[eA,ak,bJ.2 ⟨L.1,by omega⟩,bC,aq,eA,ak,bJ.2 E,bC,aq];have e:=cA (step:=KM) c.queue.length (λk=>((c.queue,(List.range c.queue.length).map C,(List.range c.queue.length).map (dZ c),c.box.bI.cap,c.now,uS (nG c) (dZ c) C k,rkN (nG c) (dZ c) C k,(k:Int),()),())) (.inl ((uS (nG c) (dZ c) C c.queue.length,()),())) aR (λk D=>by
  have Y:=uR C k;have Z:=uR (λi=>C i&&dZ c i) k;have ho:=uR (λi=>C i&&nG c i) k;unfold KM av xG xI;dsimp only;simp only[eI,cX];rw[aW,au,au,az ⟨by omega,by omega⟩];simp only[bD,yB D,O,pz];rw[bB];unfold uS rkN;rw[DI,DI,DI];have hold:decide ((kX c k).at_<=c.now-c.box.bI.cap)=nG c k:=rfl;rw[hold];cases T:C k with
  |false=>simp[T]
  | true=>
   simp only[bC,aq,cv];rw[az ⟨by omega,by omega⟩,az ⟨by omega,by omega⟩];generalize fI (λi=>C i&&nG c i) k=o at *
   generalize fI (λi=>C i&&dZ c i) k=u at *
   generalize fI C k=a at *
   have ao:a<0\/0<=a:=by omega
   have uo:u<0\/0<=u:=by omega
   have oo:o<0\/0<=o:=by omega
   have kn:¬ (k:Int)<0:=by omega
   rcases ao with ao|ao<;>rcases uo with uo|uo<;>rcases oo with oo|oo<;>cases dZ c k<;>cases nG c k<;>simp[D,ao,uo,oo,kn,Int.not_lt.2 ao,Int.not_lt.2 uo,Int.not_lt.2 oo]) (by
  unfold KM av xG xI;dsimp only;rw[aU,aq]) (bO)
 rw[cu]at e
 refine(aY (λo=>Option.bind o _) e).trans ?_
 rfl
def rC:aG:=⟨0,0,0,0⟩
def rD(c:ax):Int:=match qd c.shares (rA c c.queue.length)with
 |some y=>y.2
 |none=>0
def ow(c:ax):Int:=uS (nG c) (dZ c) (rB c (rD c)) c.queue.length
def A4(c:ax):aG×Int:=bif decide (ow c<0)then (rC,-1)else (mE c (ow c).toNat,ow c)
def amV{c:ax}(h:Pq c):∃ l,qd c.shares (rA c c.queue.length)=some (l,rD c):=by
 have⟨y,t,e,_⟩:=aay (rA c c.queue.length) (by have:=h.shl;omega) h.sh (by rw[TR,h.shl]);refine⟨y,?_⟩;unfold rD;rw[e]
def amW(c:ax):-1 <= ow c/\ow c<c.queue.length:=by
 unfold ow uS;rcases uR _ _ with ⟨C,_⟩|⟨j,C,L,_⟩
 ·rw[C,aW,au];rcases uR _ _ with ⟨D,_⟩ | ⟨j,D,O,_⟩
  ·rw[D,aW,au];rcases uR (rB c (rD c)) c.queue.length with ⟨E,_⟩|⟨j,E,T,_⟩<;>omega
  ·grind
 ·grind
def aGm{c:ax}(h:Pq c):Sg c (cC 0 c.aP.aH) (fy c)=some (A4 c):=by
 have E:=h.ql;have⟨l,L⟩:=amV h;have T:=amW c;unfold Sg bh xL;rw[bM ⟨by omega,by omega,by omega⟩,bD,aFJ h,ak];simp only[eJ];rw[bM ⟨by omega,by omega,by omega⟩,bM ⟨by omega,by omega,by omega⟩,bD,aFK h,ak];simp only[eJ];rw[bM ⟨by omega,by omega,by omega⟩,bM (by decide),bD,show (4:Int).toNat=4 from rfl,aGh h _ _ rfl,ak];simp only[eJ];rw[L,ak];dsimp only;rw[aGj E,ak];simp only[eJ];rw[aGk h,ak];show (bif decide (ow c<0)then _ else _)=_;unfold A4;by_cases C:ow c<0
 ·rw[aW C];rfl
 ·have O:(ow c).toNat<c.queue.length:=by omega
  rw[aU C,aq,aq];have U:¬ uS (nG c) (dZ c) (rB c (rD c)) c.queue.length<0:=C;have D:=O;rw[az ⟨by omega,by simp only[eI,cX];exact D⟩,az (by simp only[eI,cX];exact D)];simp only[List.getElem_map,js];rfl
def aaW(l:aa aI)(b:Int)(E:l.length <= 1048576):E9 l b=some (l.any λa=>a.ay==b):=by
 have L:=we (λa:aI=>a.ay==b) l;unfold E9 bE;rw[Tg];have e:=cA (step:=E8) (dx (λa:aI=>a.ay==b) l) (λi=>((l,b,(i:Int),()),())) (if dx (λa:aI=>a.ay==b) l<l.length then .inl ((true,()),())else .inr (.inl ((),()))) aR (λk h=>by
  have D:=nA h (by omega);unfold E8 av aQ xG xI;dsimp only;rw[aW,au,az ⟨by omega,by omega⟩];simp only[bD];rw[D,aq,bB]) (by
  by_cases C:dx (λa:aI=>a.ay==b) l<l.length
  ·have D:=rj C;unfold E8 av aQ xG xI;dsimp only;simp[*]
  ·unfold E8 av aQ xG xI;dsimp only;rw[aU,aq,bX C]) (bO)
 rw[cu]at e
 refine(aY (λo=>Option.bind o _) e).trans ?_
 by_cases C:dx (λa:aI=>a.ay==b) l<l.length
 ·rw[bM C,aW C];rfl
 ·rw[bX C,aU C];rfl
def amX{c:ax}(h:Pq c)(a:aI):(iter Fb aR ((c,fy c,(List.range c.queue.length).map (gV c),(),(0:Int),()),((a.ay,a.row,a.bR,()),()))).bind (Sum.elim (λD=>some D.1.1) (Sum.elim (λz28=>some true) (λz=>nomatch z)))=some (!yC c c.queue.length a.ay):=by
 have hq:=h.ql;have E:=wB h;have e:=fT (step:=Fb) (List.range c.queue.length) (λi=>!(gV c i&&dZ c i&&a.ay==(fC c i).ay)) (λi=>((c,fy c,(List.range c.queue.length).map (gV c),(),(i:Int),()),((a.ay,a.row,a.bR,()),()))) (.inl ((false,()),())) (.inr (.inl ((),()))) aR (λk C=>by
  rw[cX]at C;have L:=uQ c;have hl4:((List.range c.queue.length).map (gV c)).length=c.queue.length:=by simp
  have⟨ho,O,T,o3,o4,U⟩:=DE h C;have Y:=al1 (r:=c.bq) (a:=fC c k) U O T E;rw[js];unfold Fb av aQ xG xI;dsimp only;rw[aW,au,az ⟨by omega,by omega⟩];simp only[bD,yB C];rw[bB];cases gV c k with
  |false=>rfl
  | true=>
   rw[au,az ⟨by omega,by omega⟩];simp only[DD];rw[az ⟨by omega,by omega⟩,Y,ak,Bool.beq_comm];have iO:dZ c k=wu c.bq (fC c k):=rfl;rw[iO];cases a.ay==(fC c k).ay<;>cases wu c.bq (fC c k)<;>rfl) (by
  rw[cX];have L:=uQ c;unfold Fb av aQ xG xI;dsimp only;rw[aU,aq]) (by rw[cX];exact bO)
 rw[cu]at e;rw[e,ak];have Z:(List.range c.queue.length).all (λi=>!(gV c i&&dZ c i&&a.ay==(fC c i).ay)) = !yC c c.queue.length a.ay:=by
  unfold yC;rw[List.any_eq_not_all_not,Bool.not_not]
 rw[Z];cases yC c c.queue.length a.ay<;>rfl
def aGn{c:ax}(h:Pq c){k:Nat}(C:k<c.queue.length):Q4 c (fy c) ((List.range c.queue.length).map (gV c)) (k:Int)=some (kK c k):=by
 have hq:=h.ql;have rJ:=h.pl;have O:=nB h.rf;have T:=wB h;have TS:=uQ c;have hl4:((List.range c.queue.length).map (gV c)).length=c.queue.length:=by simp
 obtain⟨ho,E,U,Y,o4,o5⟩:=DE h C;obtain⟨q1,q2,Z⟩:=h.q _ (cU C);rw[pz C]at Z;have hnw:=h.nw;have Cf:(kX c k).write=qk c.queue k:=by rw[DC C,pz C]
 have hnd:Ag c.bq (fC c k) (kX c k).write=some (mE c k):=by rw[Cf,alZ];exact Tu _ E U T
 have hw:W6 (c.now-(kX c k).at_)=c.now-(kX c k).at_:=aO;unfold Q4 xI bE;rw[az ⟨by omega,by omega⟩];simp only[bD,DD];rw[az ⟨by omega,by omega⟩];simp only[yB C,(TQ O.1 E Y),ak,pz];unfold kK;cases gV c k with
 |false=>rfl
 | true=>
  simp only[bC,aq,cv];cases nE c (fC c k).ay with
  |true=>rfl
  | false=>
   rw[aq,az ⟨by omega,by omega⟩,hnd,ak,Ts h.p (amE h C),ak];cases dy c (mE c k)with
   |false=>rfl
   | true=>
    simp only[bC,iW,aq,cv,aaW _ _ (show c.pending.length<=1048576 by omega),ak,amX h,hw];have B3:(c.pending.any λa=>a.ay==(fC c k).ay)=M7 c (fC c k).ay:=rfl;have hyg:decide (c.now-(kX c k).at_ >= c.box.bI.cap) = !TP c k:=by
     unfold TP;by_cases L:c.now-(kX c k).at_<c.box.bI.cap
     ·rw[aW L,aU];rfl
     ·rw[aU L,aW];rfl
    rw[B3,hyg];by_cases D:(mE c k).kind=1
    ·have k4:((mE c k).kind==(4:Int))=false:=by rw[D];rfl
     have k4':((mE c k).kind != (4:Int))=true:=by rw[D];rfl
     have D:((mE c k).kind==(1:Int))=true:=by rw[D];rfl
     rw[D,k4,k4'];cases M7 c (fC c k).ay<;>rfl
    ·have D:((mE c k).kind==(1:Int))=false:=by simpa using D
     rw[D,bne];cases (mE c k).kind==(4:Int)with
     |false=>rfl
     | true=>
      cases M7 c (fC c k).ay with
      |true=>rfl
      | false=>
       simp only[Bool.false_or,bC,au,aq,cv,iW];refine(az (⟨by omega,C⟩:0<=(k:Int)/\k<c.queue.length)).trans ?_;cases TP c k with
       |false=>rw[Bool.and_false];rfl
       |true=>rw[Bool.and_true];exact amX h _
def aGo{c:ax}(h:Pq c):Q8 c=some (A4 c):=by
 have hq:=h.ql;have U:=wB h;have TS:=uQ c;have⟨l,Z⟩:=amV h;have hb:=amW c;have e:=cA (step:=KN) c.queue.length (λi=>((c,(),(),(),(),(),(),(i:Int),()),(((0:Int),(0:Int),(0:Int),(0:Int),()),fy c,(List.range c.queue.length).map (gV c),(List.range i).map (kK c),(List.range i).map (dZ c),rA c i,()))) (.inl ((c,(),(),(),(),(),()),(((0:Int),(0:Int),(0:Int),(0:Int),()),fy c,(List.range c.queue.length).map (kK c),(List.range c.queue.length).map (dZ c),rA c c.queue.length,()))) aR (λk C=>by
  have⟨ho,E,L,o3,o4,Y⟩:=DE h C;have⟨q1,q2,q3⟩:=h.q _ (cU C);rw[pz C]at q2;have hwl:=TR c k;have hh:=al1 (r:=c.bq) (a:=fC c k) Y E L U;have iO:dZ c k=wu c.bq (fC c k):=rfl;have hwt:rA c (k+1)=bif kK c k then (rA c k).set (kX c k).dN.toNat true else rA c k:=rfl;unfold KN av xG xI xL;dsimp only;simp only[eI,cX,lT];rw[aW,au,aGn h C,ak,di,au,az ⟨by omega,by omega⟩,az];simp only[bD,DD];rw[hh,ak,au,bB,List.range_succ,List.map_append,List.map_append,List.map_singleton,List.map_singleton,iO,hwt];cases kK c k with
  |false=>rfl
  | true=>
   rw[ az ⟨by omega,by omega⟩];simp only[pz];rw[az ⟨by omega,by omega⟩,az];rfl) (by
  unfold KN av xG xI xL;dsimp only;rw[aU,aq]) (bO)
 have O:=cA (step:=KO) c.queue.length (λi=>((c,(),(),(),(),rD c,(i:Int),()),(((0:Int),(0:Int),(0:Int),(0:Int),()),fy c,sM (rB c (rD c)) (kK c) c.queue.length i,(List.range c.queue.length).map (dZ c),()))) (.inl ((c,(),(),(),(),()),(((0:Int),(0:Int),(0:Int),(0:Int),()),fy c,(List.range c.queue.length).map (rB c (rD c)),(List.range c.queue.length).map (dZ c),()))) aR (λk C=>by
  have D:=TT (rB c (rD c)) (kK c) c.queue.length k;have ht:rB c (rD c) k=(kK c k&&(kX c k).dN==rD c):=rfl;rw[<- amU C,ht];unfold KO av xG xI xL;dsimp only;rw[aW,au,az ⟨by omega,by omega⟩,az,bB];simp only[bD,amT];cases kK c k with
  |false=>rw[aq,az ⟨by omega,by omega⟩,az];rfl
  | true=>
   rw[ az ⟨by omega,by omega⟩];simp only[pz];rw[az ⟨by omega,by omega⟩,az];rfl) (by
  unfold KO av xG xI xL;dsimp only;rw[aU,aq,amS]) (bO)
 rw[cu]at e O;rw[amR]at O;unfold Q8 xI bh xL;rw[amq h,ak,aFG h,ak,bM (by decide)]
 refine(aY (λo=>Option.bind o _) e).trans ?_
 rw[ak];simp only[eJ];rw[alV _ _ (by have:=h.shl;omega),Z,ak]
 refine(aY (λo=>Option.bind o _) O).trans ?_
 rw[ak];simp only[eJ];rw[aGl h,ak];show (bif decide (ow c<0)then _ else _)=_;unfold A4;by_cases T:ow c<0
 ·rw[aW T];rfl
 ·have D:(ow c).toNat<c.queue.length:=by omega
  have⟨ho,E,L,o3,o4,Y⟩:=DE h D;rw[aU T,aq,aq];have pH:¬ uS (nG c) (dZ c) (rB c (rD c)) c.queue.length<0:=T;have aEW:(uS (nG c) (dZ c) (rB c (rD c)) c.queue.length).toNat<c.queue.length:=D;rw[az ⟨by omega,by omega⟩,az];simp only[DD];rw[az ⟨by omega,by omega⟩];simp only[pz];have Cf:(kX c (ow c).toNat).write=qk c.queue (ow c).toNat:=by rw[DC D,pz D]
  show (Ag c.bq (fC c (ow c).toNat) (kX c (ow c).toNat).write).bind _=_;rw[Cf,alZ,Tu _ E L U,ak];rfl
def TU{α:Type}(p:α -> Bool)(l:aa α):(dx p l=l.length/\l.find? p=none) \/ ∃ h:dx p l<l.length,l.find? p=some l[dx p l]:=by
 have E:=we p l;rcases Nat.lt_or_ge _ _ with h|h
 ·refine .inr ⟨h,?_⟩;rw[List.find?_eq_some_iff_getElem]
  refine⟨rj h,_,h,rfl,λj C=>?_⟩
  rw[nA C];rfl
 ·refine .inl ⟨by omega,?_⟩;rw[List.find?_eq_none];intro x D;obtain⟨j,C,rfl⟩:=jg.1 D;rw[nA (p:=p) (by omega) C];simp
def M9(c:ax)(l:aa aG):aG×Bool:=match l.find? (dy c)with
 |some x=>(x,true)
 |none=>(rC,false)
def amY{c:ax}(h:Pq c){l:aa aG}(O:l.length <= 1000)(L:∀ x∈l,dL c.config.aE x=true):Kv c l=some (M9 c l):=by
 have hi:=we (dy c) l;have iT:∀ (k:Nat) (C:k<l.length),CO ((c,l,(),(k:Int),()),(((0:Int),(0:Int),(0:Int),(0:Int),()),()))=some (bif dy c l[k]then .inr (.inl (((),true,()),((l[k].kind,l[k].ay,l[k].row,l[k].bR,()),())))else .inl ((c,l,(),((k+1:Nat):Int),()),(((0:Int),(0:Int),(0:Int),(0:Int),()),()))):=by
  intro k C;unfold CO av aQ xG xI;dsimp only;rw[aW,au,az ⟨by omega,by omega⟩];simp only[bD];rw[Ts h.p (L _ (cU C)),ak];cases dy c l[k]with
  |false=>rw[aq,bB];rfl
  |true=>simp_all
 unfold Kv M9 bE;rcases TU (dy c) l with ⟨D,E⟩|⟨D,E⟩
 ·have e:=cA (step:=CO) l.length _ _ aR (λk C=>by
   rw[iT k C,nA (p:=dy c) (i:=k) (by omega) C];rfl) (by
   unfold CO av aQ xG xI;dsimp only;rw[aU,aq]) (bO)
  rw[cu]at e
  refine(aY (λo=>Option.bind o _) e).trans ?_
  rw[E];rfl
 ·have e:=cA (step:=CO) (dx (dy c) l) (λk=>((c,l,(),(k:Int),()),(((0:Int),(0:Int),(0:Int),(0:Int),()),()))) (.inl (((),true,()),((l[dx (dy c) l].kind,l[dx (dy c) l].ay,l[dx (dy c) l].row,l[dx (dy c) l].bR,()),()))) aR (λk C=>by
   rw[iT k (by omega),nA (p:=dy c) (i:=k) C (by omega)];rfl) (by
   rw[iT _ D,rj D];rfl) (bO)
  rw[cu]at e
  refine(aY (λo=>Option.bind o _) e).trans ?_
  rw[E];rfl
def A5(c:ax)(b:Int)(x:aG):aG:=bif (je c.bq b).open_ then ⟨4,b,0,0⟩else x
def aaX{c:ax}{b:Int}(x:aG)(C:0 <= b)(h:b.toNat<c.bq.aB.length):Aw c b x=some (A5 c b x):=by
 unfold Aw A5 xI;rw[az ⟨C,h⟩,AV h]
 grind
def aaY{c:ax}(x:aG)(C:0 <= x.ay)(h:x.ay.toNat<c.bq.aB.length):E7 c x=some (A5 c x.ay x):=by
 unfold E7 A5 xI;rw[az ⟨C,h⟩,AV h]
 grind
def TV{c:ax}{b:Int}{x:aG}(h:Pq c)(C:0 <= b/\b<bf c.config.aE)(D:dL c.config.aE x=true):dL c.config.aE (A5 c b x)=true:=by
 unfold A5;cases (je _ b).open_ with
 |false=>exact D
 |true=>exact AX h.p.R.sH (.inl rfl) C
def gW(c:ax)(b:Int):aG:=A5 c b ⟨5,b,0,0⟩
def mF(c:ax)(i:Nat):aI:=c.pending.getD i zA
def aaZ{c:ax}{i:Nat}(h:i<c.pending.length):c.pending[i]=mF c i:=by
 unfold mF;rw[eY,bZ h];rfl
def qp(c:ax)(i:Nat):Bool:=!nE c (mF c i).ay && !((c.pending.take i).any λa=>a.ay==(mF c i).ay)
def jB(c:ax)(i:Nat):aG:=A5 c (mF c i).ay ⟨1,(mF c i).ay,(mF c i).row,0⟩
def qq(c:ax):aa aG:=(cC 0 c.aP.aH).map (gW c)
def rE(c:ax)(k:Nat):aa aG:=((List.range k).filter (qp c)).map (jB c)
def aa0{c:ax}(h:Pq c){i:Nat}(hi:i<c.pending.length):fj c.config.aE (mF c i)=true/\0 <= (mF c i).ay/\(mF c i).ay.toNat<c.bq.aB.length/\(mF c i).ay.toNat<c.aP.aH.length/\(mF c i).ay<bf c.config.aE:=by
 have C:=h.pe _ (cU hi);rw[aaZ]at C;have⟨_,D,E,L,O,T,U⟩:=sB C;have:=h.p.bl;have:=h.dl;simp_all
def amZ{c:ax}(h:Pq c){b:Int}(C:b∈cC 0 c.aP.aH):(0 <= b/\b<bf c.config.aE)/\dL c.config.aE (gW c b)=true:=by
 obtain⟨j,rfl,D,_⟩:=alR C;have:=h.dl;have C:0 <= ((0+j):Int)/\((0+j):Int)<bf c.config.aE:=by omega
 exact⟨C,TV h C (AX h.p.R.sH (.inr rfl) C)⟩
def am0{c:ax}(h:Pq c){i:Nat}(hi:i<c.pending.length):dL c.config.aE (jB c i)=true:=by
 have⟨C,D,L,O,E⟩:=aa0 h hi;exact TV h ⟨D,E⟩ (aE1 C)
def am1(c:ax)(k:Nat):(rE c k).length <= k:=by
 unfold rE
 grind
def aGp{c:ax}(h:Pq c):QY c=some (qq c++rE c c.pending.length):=by
 have E:=nB h.rf;have rJ:=h.pl;have hdn:=h.dl;have Zm:=h.p.bl;have ul:=Dz 0 c.aP.aH;have e:=cA (step:=Kw) c.aP.aH.length (λi=>((c,(),(i:Int),()),((cC 0 (c.aP.aH.take i)).map (gW c),()))) (.inl ((c,(),()),(qq c,()))) aR (λk C=>by
  have O:=Dz 0 (c.aP.aH.take k);rw[fJ]at O;have T:=(TQ (c:=c) (b:=(k:Int)) E.1 (by omega) (by omega))
  have U:nE c (k:Int)=decide (c.aP.aH[k] >= 4):=by
   unfold nE;rw[bD,eY,bZ C];rfl
  unfold Kw av xG;dsimp only;rw[aW,au,T,ak,bB,aat C,U];cases decide (c.aP.aH[k] >= 4)with
  |false=>rfl
  | true=>
   rw[au,au,aaY _ (by show 0 <= (k:Int);omega) (by show (k:Int).toNat<_;omega),ak,eI,lT,di,List.map_append];rfl) (by
  unfold Kw av xG;dsimp only;rw[aU,aq,iV];rfl) (bO)
 have D:=cA (step:=Kx) c.pending.length (λi=>((c,(),(i:Int),()),(qq c++rE c i,()))) (.inl (((),()),(qq c++rE c c.pending.length,()))) aR (λk C=>by
  have⟨ho,L,Y,Z,o4⟩:=aa0 h C;have hpk:=am1 c k;have hul:(qq c).length <= 8:=by unfold qq;rw[eI];omega
  have e3:rE c (k+1)=rE c k++(bif qp c k then [jB c k]else []):=by
   unfold rE;rw[List.range_succ,List.filter_append];cases hp:qp c k<;>simp[hp]
  rw[e3];unfold Kx av xG xI;dsimp only;rw[aW,au,az ⟨by omega,by omega⟩,bB];simp only[bD,aaZ,(TQ E.1 L Z),ak,Int.toNat_zero,List.drop_zero];unfold qp;cases nE c (mF c k).ay with
  |true=>rw[bC,aq,Bool.false_and,aq,List.append_nil]
  | false=>
   rw[iW,au,bM ⟨by omega,by omega,by omega⟩,aaW _ _ (by rw[fJ];omega),ak,cv];cases (c.pending.take k).any λa=>a.ay==(mF c k).ay with
   |true=>rw[bC,aq,aq,List.append_nil]
   | false=>
    rw[iW,aaY _ L Y,ak,List.length_append,lT,di,List.append_assoc];rfl) (by
  unfold Kx av xG xI;dsimp only;rw[aU,aq]) (bO)
 rw[cu]at e D;unfold QY bh
 refine(aY (λo=>Option.bind o _) e).trans ?_
 rw[ak];have e0:qq c++rE c 0=qq c:=List.append_nil _;rw[e0]at D
 refine(aY (λo=>Option.bind o _) D).trans ?_
 rfl
def uT(u:Bool)(l:aa Int)(idle:Nat->Bool)(i:Nat):Bool:=bif u then decide (l.getD i 0 >= 4)else decide (l.getD i 0 > 0)&&idle i
def A6(r:de)(idle:Nat->Bool):Int:=kJ (uT (decide (((cC 0 r.aH).length:Int) > 0)) r.aH idle) (λi=>r.aH.getD i 0) r.aH.length
def aa1(r:de)(idle:Nat->Bool):-1<=A6 r idle/\A6 r idle<r.aH.length:=wq _ _ _
def aGq{r:de}(D:fB r=true)(idle:Nat -> Bool):L1 r ((List.range r.aH.length).map idle)=some (A6 r idle):=by
 have hl:=nB D;unfold L1 bh;rw[My _ (by omega),ak,D,bC,aq,aau D,ak];generalize T:decide (((cC 0 r.aH).length:Int) > 0)=u;have e:=cA (step:=L0) r.aH.length (λi=>(((List.range r.aH.length).map idle,(),u,kJ (uT u r.aH idle) (λi=>r.aH.getD i 0) i,r.aH,(r.aH.length:Int),(i:Int),()),((r.aH,r.wait,r.dS,()),()))) (.inl ((kJ (uT u r.aH idle) (λi=>r.aH.getD i 0) r.aH.length,()),())) aR (λk E=>by
  have U:=wq (uT u r.aH idle) (λi=>r.aH.getD i 0) k;rw[Gt];generalize kJ (uT u r.aH idle) (λi=>r.aH.getD i 0) k=C at U;have Y:r.aH.getD k 0=r.aH[k]:=by rw[eY,bZ E];rfl
  unfold L0 AS uT av xG xI;dsimp only;rw[aW,au,az ⟨by omega,by omega⟩];simp only[bD,Y,eI,cX];rw[bB,aW (by omega:(k:Int)<(r.aH.length:Int)),au,az ⟨by omega,by omega⟩];simp only[yB E];by_cases L:C<0
  ·rw[aW L,Bool.true_or];cases u<;>cases decide (r.aH[k] > 0)<;>cases decide (r.aH[k] >= 4)<;>cases idle k<;>rfl
  ·have O:C.toNat<r.aH.length:=by omega
   have Z:r.aH.getD C.toNat 0=r.aH[C.toNat]:=by rw[eY,bZ O];rfl
   have h4:0 <= C/\C.toNat<r.aH.length:=⟨by omega,O⟩
   rw[aU L,Z];simp only[az h4,aq];cases u<;>cases decide (r.aH[k] > 0)<;>cases decide (r.aH[k] >= 4)<;>cases idle k<;>cases decide (r.aH[k] > r.aH[C.toNat])<;>rfl) (by
  unfold L0 av xG xI;dsimp only;rw[aU,aq]) (bO)
 rw[cu]at e
 refine(aY (λo=>Option.bind o _) e).trans ?_
 unfold A6;rw[T];rfl
def aGr{r:de}(D:fB r=true)(idle:Nat -> Bool):Q9 r ((List.range r.aH.length).map idle)=some (A6 r idle):=by
 have hl:=nB D;unfold Q9 bh;rw[SU _ (by omega),ak,D,bC,aq,alS D,ak];generalize T:decide (((cC 0 r.aH).length:Int) > 0)=u;have e:=cA (step:=KP) r.aH.length (λi=>(((List.range r.aH.length).map idle,(),u,kJ (uT u r.aH idle) (λi=>r.aH.getD i 0) i,(i:Int),()),((r.aH,r.wait,r.dS,()),()))) (.inl ((kJ (uT u r.aH idle) (λi=>r.aH.getD i 0) r.aH.length,()),())) aR (λk E=>by
  have U:=wq (uT u r.aH idle) (λi=>r.aH.getD i 0) k;rw[Gt];generalize kJ (uT u r.aH idle) (λi=>r.aH.getD i 0) k=C at U;have Y:r.aH.getD k 0=r.aH[k]:=by rw[eY,bZ E];rfl
  have Z:0 <= (k:Int)/\k<r.aH.length:=⟨by omega,E⟩
  unfold KP AS uT av xG xI;dsimp only;rw[aW,au,az ⟨by omega,by omega⟩];simp only[bD,Y,eI,cX,az Z];rw[bB,aW (by omega:(k:Int)<(r.aH.length:Int)),au];simp only[yB E];by_cases L:C<0
  ·rw[aW L,Bool.true_or];cases u<;>cases decide (r.aH[k] > 0)<;>cases decide (r.aH[k] >= 4)<;>cases idle k<;>rfl
  ·have O:C.toNat<r.aH.length:=by omega
   have yT:r.aH.getD C.toNat 0=r.aH[C.toNat]:=by rw[eY,bZ O];rfl
   have h4:0 <= C/\C.toNat<r.aH.length:=⟨by omega,O⟩
   rw[aU L,yT];simp only[az h4,aq];cases u<;>cases decide (r.aH[k] > 0)<;>cases decide (r.aH[k] >= 4)<;>cases idle k<;>cases decide (r.aH[k] > r.aH[C.toNat])<;>rfl) (by
  unfold KP av xG xI;dsimp only;rw[aU,aq]) (bO)
 rw[cu]at e
 refine(aY (λo=>Option.bind o _) e).trans ?_
 unfold A6;rw[T];rfl
def nH(w:aa aI)(r:cy)(b:Nat):Bool:=w.any λa=>a.ay==(b:Int)&&a.row==(je r (b:Int)).row
def sN(w:aa aI)(r:cy)(b:Nat):Bool:=(je r (b:Int)).open_ && !nH w r b
def yG(r:cy)(eO:Int)(w:aa aI):Int:=bif eO != 1 then -1 else fI (sN w r) r.aB.length
def aa2(r:cy)(eO:Int)(w:aa aI):-1 <= yG r eO w/\yG r eO w<r.aB.length:=by
 unfold yG;cases eO != 1 with
 |true=>grind
 | false=>
  rw[aq];rcases uR (sN w r) r.aB.length with ⟨C,_⟩|⟨j,C,D,_⟩<;>omega
def aGs{w:aa aI}{r:cy}{L:aa Int}{b:Nat}{i n:Int}(C:b<r.aB.length)(E:r.aB.length<=1048576)(O:w.length<=1000):iter F0 aR ((w,(),(b:Int),false,(),n,i,w,(w.length:Int),(0:Int),()),((r.aB,r.aZ,()),L,()))=some (.inl ((w,(),(b:Int),nH w r b,(),n,i,()),((r.aB,r.aZ,()),L,()))):=by
 have e:=cA (step:=F0) w.length (λk=>((w,(),(b:Int),((w.take k).any λa=>a.ay==(b:Int)&&a.row==(je r (b:Int)).row),(),n,i,w,(w.length:Int),(k:Int),()),((r.aB,r.aZ,()),L,()))) (.inl ((w,(),(b:Int),nH w r b,(),n,i,()),((r.aB,r.aZ,()),L,()))) aR (λk D=>by
  rw[qX D,List.any_append,List.any_cons,List.any_nil,Bool.or_false,AV (by rw[bD];exact C)];unfold F0 av xG xI;dsimp only;rw[aW,au,az ⟨by omega,by omega⟩,bB];simp only[bD];cases (w.take k).any λa=>a.ay==(b:Int)&&a.row==r.aB[b].row with
  |true=>rfl
  | false=>
   rw[aq,Bool.false_or];cases w[k].ay==(b:Int)with
   |false=>rfl
   |true=>rw[au,az ⟨by omega,C⟩,cv]) (by
  unfold F0 av xG xI;dsimp only;rw[aU,aq,iV];rfl) (bO)
 rw[cu]at e;exact e
def aGt{w:aa aI}{r:cy}{b:Nat}(C:b<r.aB.length)(E:r.aB.length <= 1048576)(L:w.length <= 1000)(o:Bool):iter Fe aR ((w,(),(b:Int),o,(0:Int),()),((r.aB,r.aZ,()),()))=some (.inl ((w,(),(b:Int),o || nH w r b,()),((r.aB,r.aZ,()),()))):=by
 have e:=cA (step:=Fe) w.length (λk=>((w,(),(b:Int),o || ((w.take k).any λa=>a.ay==(b:Int)&&a.row==(je r (b:Int)).row),(k:Int),()),((r.aB,r.aZ,()),()))) (.inl ((w,(),(b:Int),o || nH w r b,()),((r.aB,r.aZ,()),()))) aR (λk D=>by
  rw[qX D,List.any_append,List.any_cons,List.any_nil,Bool.or_false,AV (by rw[bD];exact C)];unfold Fe av xG xI;dsimp only;rw[aW,au,az ⟨by omega,by omega⟩,bB];simp only[bD];cases w[k].ay==(b:Int)with
  |false=>rw[aq,Bool.false_and,Bool.or_false]
  | true=>
   rw[au,az ⟨by omega,D⟩,az ⟨by omega,C⟩,cv];cases w[k].row==r.aB[b].row with
   |false=>simp[*]
   |true=>rw[au,Bool.or_true,Bool.or_true]) (by
  unfold Fe av xG xI;dsimp only;rw[aU,aq,iV];rfl) (bO)
 rw[cu,List.take_zero,List.any_nil,Bool.or_false]at e;exact e
def am2(w:aa aI)(r:cy):∀ k,k <= r.aB.length -> (opens 0 (r.aB.take k)).find? (λb=>!nH w r b.toNat)=bif decide (fI (sN w r) k<0)then none else some (fI (sN w r) k)
 |0,_=>rfl
 | k+1,L=>by
  have C:=am2 w r k (by omega);have D:(je r (k:Int)).open_=r.aB[k].open_:=by rw[AV (by rw[bD];omega)];simp only[bD]
  have E:sN w r k=(r.aB[k].open_ && !nH w r k):=by unfold sN;rw[D]
  rw[qX (show k<r.aB.length by omega),Ze,fJ,Nat.min_eq_left (by omega),fk,List.find?_append,C,DI,E];have O:opens k [r.aB[k]]=bif r.aB[k].open_ then [(k:Int)]else []:=rfl
  grind
def am3(i:Nat)(l:aa cQ)(x:Int)(h:x∈opens i l):∃ j:Nat,j<l.length/\x=((i+j:Nat):Int):=by
 induction l generalizing i with
 |nil=>cases h
 | cons d l C=>
  have e:opens i (d :: l)=bif d.open_ then (i:Int) :: opens (i+1) l else opens (i+1) l:=rfl;rw[e]at h;have tl:x∈opens (i+1) l -> ∃ j:Nat,j<(d :: l).length/\x=((i+j:Nat):Int):=λh=>by
   have⟨j,D,E⟩:=C _ h;exact⟨j+1,by simpa using D,by rw[E];omega⟩
  cases L:d.open_ with
  |false=>grind
  | true=>
   rw[L,au]at h;rcases gX.1 h with rfl|h
   ·exact⟨0,by simp,rfl⟩
   ·exact tl h
def aGu{r:cy}(eO:Int){w:aa aI}(T:r.aB.length <= 1048576)(U:w.length <= 1000):L2 r eO w=some (yG r eO w):=by
 unfold L2 yG bE;cases eO != 1 with
 |true=>rfl
 | false=>
  rw[aq,aq,SK r (by omega),ak];have O:=am2 w r r.aB.length (dM _);rw[iV]at O;have hol:=SJ 0 r.aB;have Y:=am3 0 r.aB;generalize hL:opens 0 r.aB=L at *
  have hi:=we (λb:Int=>!nH w r b.toNat) L;have iT:∀ (k:Nat) (C:k<L.length),C9 ((w,(),(),(L.length:Int),(k:Int),()),((r.aB,r.aZ,()),L,()))=some (bif !nH w r L[k].toNat then .inr (.inl ((L[k],()),()))else .inl ((w,(),(),(L.length:Int),((k+1:Nat):Int),()),((r.aB,r.aZ,()),L,()))):=by
   intro k C;have⟨j,E,D⟩:=Y _ (cU C);rw[fk]at D;unfold C9 av aQ xG bh xL;dsimp only;rw[aW,au,az ⟨by omega,by omega⟩,az];simp only[bD,D];rw[aGs E T U,ak];simp only[eJ];rw[bB];cases nH w r j<;>rfl
  rcases TU (λb:Int=>!nH w r b.toNat) L with ⟨E,D⟩|⟨E,D⟩
  ·have e:=cA (step:=C9) L.length (λk=>((w,(),(),(L.length:Int),(k:Int),()),((r.aB,r.aZ,()),L,()))) (.inr (.inl ((),()))) aR (λk C=>by
    have:=nA (p:=λb:Int=>!nH w r b.toNat) (q:=L) (i:=k) (by omega) C;rw[iT k C,this];rfl) (by
    unfold C9 av aQ xG bh xL;dsimp only;rw[aU,aq]) (bO)
   rw[cu]at e
   refine(aY (λo=>Option.bind o _) e).trans ?_
   rw[D]at O;by_cases Z:fI (sN w r) r.aB.length<0
   ·rcases uR (sN w r) r.aB.length with ⟨k1,_⟩ | ⟨j,_,k2,_⟩
    ·rw[k1];rfl
    ·omega
   ·grind
  ·have e:=cA (step:=C9) (dx (λb:Int=>!nH w r b.toNat) L) (λk=>((w,(),(),(L.length:Int),(k:Int),()),((r.aB,r.aZ,()),L,()))) (.inl ((L[dx (λb:Int=>!nH w r b.toNat) L],()),())) aR (λk C=>by
    have:=nA (p:=λb:Int=>!nH w r b.toNat) (q:=L) (i:=k) C (by omega);rw[iT k (by omega),this];rfl) (by
    have:=rj (p:=λb:Int=>!nH w r b.toNat) (q:=L) E;rw[iT _ E,this];rfl) (bO)
   rw[cu]at e
   refine(aY (λo=>Option.bind o _) e).trans ?_
   rw[D]at O;by_cases Z:fI (sN w r) r.aB.length<0
   ·grind
   ·simp[*]
def aGv{r:cy}(eO:Int){w:aa aI}(L:r.aB.length <= 1048576)(O:w.length <= 1000):Ra r eO w=some (yG r eO w):=by
 unfold Ra yG bE;cases eO != 1 with
 |true=>rfl
 | false=>
  have iT:∀ k (C:k<r.aB.length),CQ ((w,(),k,()),((r.aB,r.aZ,()),()))=some (bif sN w r k then .inr (.inl ((k,()),()))else .inl ((w,(),((k+1):Int),()),((r.aB,r.aZ,()),()))):=by
   intro k C;have T:(je r (k:Int)).open_=r.aB[k].open_:=by rw[AV (by rw[bD];omega)];simp only[bD]
   unfold CQ sN av aQ xG xI bh;dsimp only;rw[aW,au,az ⟨by omega,by omega⟩,T];simp only[bD];rw[aGt C L O,ak];simp only[eJ];rw[bB];cases r.aB[k].open_<;>cases nH w r k<;>rfl
  rcases uR (sN w r) _ with ⟨D,E⟩|⟨j,D,E,U,Y⟩
  ·have e:=cA (step:=CQ) r.aB.length (λk=>((w,(),(k:Int),()),((r.aB,r.aZ,()),()))) (.inr (.inl ((),()))) aR (λk C=>by
    rw[iT k C,E k C];rfl) (by
    unfold CQ av aQ xG xI bh;dsimp only;rw[aU,aq]) (bO)
   rw[cu]at e
   refine(aY (λo=>Option.bind o _) e).trans ?_
   rw[D];rfl
  ·have e:=cA (step:=CQ) j (λk=>((w,(),(k:Int),()),((r.aB,r.aZ,()),()))) (.inl (((j:Int),()),())) aR (λk C=>by
    rw[iT k (by omega),Y k C];rfl) (by
    rw[iT j D,U];rfl) (bO)
   rw[cu]at e
   refine(aY (λo=>Option.bind o _) e).trans ?_
   rw[E];rfl
def cD(c:ax):Int:=uK c.box.bI.eK c.aZ (wo c)
def GC(c:ax)(i:Nat):Bool:=!((fy c).any λa=>a.ay==(i:Int))
def gG(c:ax):Int:=A6 c.aP (GC c)
def ia(c:ax):Int:=yG c.bq c.box.bI.eO (fy c)
def yH(c:ax):aa aG:=bif decide (gG c >= 0) && !nE c (gG c)then [gW c (gG c)]else []
def sO(c:ax):aa aG:=bif decide (ia c >= 0)then [⟨4,ia c,0,0⟩]else []
def ox(c:ax):aa aG:=bif cD c==8&&decide (((opens 0 c.bq.aB).length:Int) > 0)then [⟨4,(opens 0 c.bq.aB).headD 0,0,0⟩]else bif cD c != 0 then [⟨cD c,0,0,0⟩]else []
def sP(c:ax)(l:aa aG):aG:=(l.find? (dy c)).getD rC
def fnd_nil(c:ax):sP c []=rC:=rfl
def fnd_cons(c:ax)(x:aG)(l:aa aG):sP c (x :: l)=bif dy c x then x else sP c l:=by
 unfold sP;rw[List.find?_cons];cases dy c x<;>rfl
def TW(c:ax)(w:Int):ah aG:=
 let D:Int->Int->Int->Int->ah (aG):=λE L O T=>(let U:Bool->ah (aG):=λY=>bif Y then some (⟨E,L,O,T⟩:aG)else some (⟨(0:Int),(0:Int),(0:Int),(0:Int)⟩:aG);bif (E != (0:Int))then (iN c (⟨E,L,O,T⟩:aG)).bind λZ=>(U Z)else (U false));bif (w==(8:Int))then (Ap c.bq).bind λC=>bif (decide ((C.length:Int) > (0:Int)))then if tE:0<=(0:Int)/\(0:Int).toNat<C.length then if ue:(0:Int).toNat<C.length then (let oX:=C[(0:Int).toNat]'ue;(D (4:Int) oX (0:Int) (0:Int)))else none else none else (D w 0 0 0)else (D w 0 0 0)
def DJ(c:ax)(D:aa aI)(w:Int):ah aG:=
 (L2 c.bq c.box.bI.eO D).bind λC=>bif (C != (-1:Int))then (iN c (⟨(4:Int),C,(0:Int),(0:Int)⟩:aG)).bind λE=>bif E then some (⟨(4:Int),C,(0:Int),(0:Int)⟩:aG)else TW c w else TW c w
def am4(c:ax)(O:aa Int)(D:aa aI)(w:Int)(idle:aa Bool):ah aG:=
 (L1 c.aP idle).bind λC=>(let E:Bool->ah (aG):=λT=>bif T then (Aw c C (⟨(5:Int),C,(0:Int),(0:Int)⟩:aG)).bind λL=>(iN c L).bind λU=>bif U then some L else DJ c D w else DJ c D w;bif (C != (-1:Int))then (vR O C).bind λY=>(E (!Y))else (E false))
def TX(c:ax):cD c=0\/6<=cD c/\cD c<=9:=aER _ _ _
def aGw(l:aa Int)(h:0<l.length):l.headD 0=l[0]:=by
 cases l with
 |nil=>cases h
 |cons x l=>rfl
def aa3(c:ax)(h:Pq c)(C:0<(opens 0 c.bq.aB).length):(0 <= (opens 0 c.bq.aB)[0]/\(opens 0 c.bq.aB)[0]<bf c.config.aE)/\(opens 0 c.bq.aB).headD 0=(opens 0 c.bq.aB)[0]:=by
 have⟨j,D,E⟩:=am3 0 _ _ (cU C);have:=h.p.bl;exact⟨by omega,aGw _ C⟩
def aGx{c:ax}(h:Pq c):TW c (cD c)=some (sP c (ox c)):=by
 have lX:=wB h;have hw:=TX c;have D:=h.p.R.sH;have O:cD c≠0 -> iN c ⟨cD c,0,0,0⟩=some (dy c ⟨cD c,0,0,0⟩):=λhn=>yp h.p (Tv D (by omega))
 have T:(bif (cD c != (0:Int))then (iN c (⟨cD c,0,0,0⟩:aG)).bind λU=>(bif U then some (⟨cD c,0,0,0⟩:aG)else some rC)else some rC)=some (sP c (bif cD c != 0 then [⟨cD c,0,0,0⟩]else [])):=by
  by_cases C:cD c=0
  ·rw[C];rfl
  ·rw[fO C,au,au,O C,fnd_cons,fnd_nil]
   grind
 unfold TW ox;dsimp only;by_cases E:cD c=8
 ·have Y:(cD c==8)=true:=by rw[E];rfl
  rw[Y,au,SK _ (by omega),ak,cv];by_cases L:0<(opens 0 c.bq.aB).length
  ·have⟨Z,k2⟩:=aa3 c h L;rw[aW,au,au,az ⟨by omega,L⟩,az,k2];show (bif ((4:Int) != 0)then (iN c ⟨4,(opens 0 c.bq.aB)[0],0,0⟩).bind _ else _)=_;rw[yp h.p (AX D (.inl rfl) Z),fnd_cons,fnd_nil];cases dy c ⟨4,(opens 0 c.bq.aB)[0],0,0⟩<;>rfl
  ·rw[aU,aq];exact T
 ·rwa [kU E,aq,Bool.false_and,aq]
def aGy{c:ax}(h:Pq c):DJ c (fy c) (cD c)=some (sP c (sO c++ox c)):=by
 have C:=wB h;have E:=h.ql;have L:=h.p.bl;have O:-1 <= ia c/\ia c<c.bq.aB.length:=aa2 _ _ _;unfold DJ sO;rw[aGu _ C (by rw[uQ];omega),ak];show (bif ia c != -1 then (iN c ⟨4,ia c,0,0⟩).bind _ else _)=_;rw[aGx h];by_cases D:ia c >= 0
 ·rw[fO (by omega:¬ ia c = -1),au,aW D,au,yp h.p (AX h.p.R.sH (.inl rfl) (by omega)),ak,List.singleton_append,fnd_cons];cases dy c ⟨4,ia c,0,0⟩<;>rfl
 ·grind
def aGz{c:ax}(h:Pq c):am4 c (cC 0 c.aP.aH) (fy c) (cD c) ((List.range c.aP.aH.length).map (GC c))=some (sP c (yH c++(sO c++ox c))):=by
 have Y:=wB h;have L:=nB h.rf;have Z:=h.p.bl;have hdn:=h.dl;have hb:-1 <= gG c/\gG c<c.aP.aH.length:=aa1 _ _;unfold am4 yH;rw[aGq h.rf,ak];show (bif gG c != -1 then (vR (cC 0 c.aP.aH) (gG c)).bind λO=>(bif !O then (Aw c (gG c) ⟨5,gG c,0,0⟩).bind λD=>(iN c D).bind λC=>bif C then some D else DJ c (fy c) (cD c)else DJ c (fy c) (cD c))else DJ c (fy c) (cD c))=_;rw[aGy h];by_cases T:gG c >= 0
 ·have E:0 <= gG c/\gG c<bf c.config.aE:=by omega
  rw[fO (by omega:¬ gG c = -1),au,aW T,cv,(aaQ L.1 (by omega) (by omega)),ak];cases nE c (gG c)with
  |true=>rfl
  | false=>
   have U:dL c.config.aE (gW c (gG c))=true:=TV h E (AX h.p.R.sH (.inr rfl) E);rw[iW,au,au,aaX _ (by omega) (by omega),ak];show ((iN c (gW c (gG c))).bind λC=>bif C then some (gW c (gG c))else _)=_;rw[yp h.p U,ak,List.singleton_append,fnd_cons]
   grind
 ·grind
def aGA{c:ax}(h:Pq c):L4 c (cC 0 c.aP.aH) (fy c) ⟨cD c,0,0,0⟩=some (sP c (yH c++(sO c++ox c))):=by
 have D:=wB h;have E:=h.ql;have L:=h.p.bl;have O:=h.dl;have T:=nB h.rf;have C:c.bq.aB.length=c.aP.aH.length:=by omega
 have e:=cA (step:=L3) c.bq.aB.length (λi=>((cC 0 c.aP.aH,fy c,(),(),(),(),(c.bq.aB.length:Int),(i:Int),()),(c,(cD c,(0:Int),(0:Int),(0:Int),()),((0:Int),(0:Int),(0:Int),(0:Int),()),(List.range i).map (GC c),()))) _ aR (λk U=>by
  unfold L3 av xG;dsimp only;rw[aW,au,aaC _ _ (by rw[uQ];omega),ak,eI,cX,lT,di,au,bB,List.range_succ,List.map_append];rfl) (by
  unfold L3 av xG;dsimp only;rw[aU,aq]) (bO)
 rw[cu]at e;unfold L4 bh xL
 refine(aY (λo=>Option.bind o _) e).trans ?_
 rw[ak,C];exact aGz h
def aGB{c:ax}(h:Pq c):(ox c).length <= 1 /\ ∀ x∈ox c,dL c.config.aE x=true:=by
 have Y:=TX c;have D:=h.p.R.sH;have E:(bif cD c != 0 then [(⟨cD c,0,0,0⟩:aG)]else []).length <= 1 /\ ∀ x∈(bif cD c != 0 then [⟨cD c,0,0,0⟩]else []),dL c.config.aE x=true:=by
  by_cases L:cD c=0
  ·simp_all
  ·rw[fO L];exact⟨dM _,λx C=>by rw[List.mem_singleton.1 C];exact Tv D (by omega)⟩
 unfold ox;cases cD c==8 with
 |false=>exact E
 | true=>
  by_cases O:0<(opens 0 c.bq.aB).length
  ·have⟨T,U⟩:=aa3 c h O;rw[aW,U];exact⟨dM _,λx C=>by rw[List.mem_singleton.1 C];exact AX D (.inl rfl) T⟩
  ·simp_all
def aGC{c:ax}(h:Pq c):(sO c).length <= 1 /\ ∀ x∈sO c,dL c.config.aE x=true:=by
 have E:=h.p.bl;have L:-1 <= ia c/\ia c<c.bq.aB.length:=aa2 _ _ _;unfold sO;by_cases C:ia c >= 0
 ·rw[aW C];exact⟨dM _,λx D=>by rw[List.mem_singleton.1 D];exact AX h.p.R.sH (.inl rfl) (by omega)⟩
 ·grind
def aGD{c:ax}(h:Pq c):(yH c).length <= 1 /\ ∀ x∈yH c,dL c.config.aE x=true:=by
 have L:=h.dl;have O:-1 <= gG c/\gG c<c.aP.aH.length:=aa1 _ _;unfold yH;by_cases D:gG c >= 0
 ·have C:0 <= gG c/\gG c<bf c.config.aE:=by omega
  rw[aW D];cases nE c _ with
  |true=>simp_all
  |false=>exact⟨dM _,λx E=>by rw[List.mem_singleton.1 E];exact TV h C (AX h.p.R.sH (.inr rfl) C)⟩
 ·grind
def aGE{c:ax}(h:Pq c):Rb c (cD c)=some (yH c++(sO c++ox c)):=by
 have Z:=wB h;have hq:=h.ql;have Zm:=h.p.bl;have hdn:=h.dl;have Gd:=nB h.rf;have D5:c.bq.aB.length=c.aP.aH.length:=by omega
 have oM:-1 <= gG c/\gG c<c.aP.aH.length:=aa1 _ _;have gK:-1 <= ia c/\ia c<c.bq.aB.length:=aa2 _ _ _;have hol:=SJ 0 c.bq.aB;have e:=cA (step:=KQ) c.bq.aB.length (λi=>((c,cD c,(),(),(),(i:Int),()),(([]:aa aG),fy c,(List.range i).map (GC c),()))) (.inl ((c,cD c,(),(),(),()),(([]:aa aG),fy c,(List.range c.bq.aB.length).map (GC c),()))) aR (λk hk=>by
  unfold KQ av xG;dsimp only;rw[aW,au,aaW _ _ (by rw[uQ];omega),ak,eI,cX,lT,di,au,bB,List.range_succ,List.map_append];rfl) (by
  unfold KQ av xG;dsimp only;rw[aU,aq]) (bO)
 rw[cu]at e;have E:∀l:aa aG,l.length <= 5 -> bP (l.length+1)=true:=λl D=>di
 -- the end
 have tl:∀ l:aa aG,l.length <= 5 -> (bif (cD c==(8:Int))then (bif (decide (((opens 0 c.bq.aB).length:Int) > (0:Int)))then (if O:0 <= (0:Int)/\(0:Int).toNat<(opens 0 c.bq.aB).length then if C:(0:Int).toNat<(opens 0 c.bq.aB).length then (bif bP (l.length+([(⟨(4:Int),(opens 0 c.bq.aB)[(0:Int).toNat]'C,(0:Int),(0:Int)⟩:aG)]:aa aG).length)then some (l++([(⟨(4:Int),(opens 0 c.bq.aB)[(0:Int).toNat]'C,(0:Int),(0:Int)⟩:aG)]:aa aG))else none)else none else none)else (bif (cD c != (0:Int))then bif bP (l.length+([(⟨cD c,(0:Int),(0:Int),(0:Int)⟩:aG)]:aa aG).length)then some (l++([(⟨cD c,(0:Int),(0:Int),(0:Int)⟩:aG)]:aa aG))else none else some l))else (bif (cD c != (0:Int))then bif bP (l.length+([(⟨cD c,(0:Int),(0:Int),(0:Int)⟩:aG)]:aa aG).length)then some (l++([(⟨cD c,(0:Int),(0:Int),(0:Int)⟩:aG)]:aa aG))else none else some l))=some (l++ox c):=by
  intro l D;have z:(bif (cD c != (0:Int))then bif bP (l.length+([(⟨cD c,(0:Int),(0:Int),(0:Int)⟩:aG)]:aa aG).length)then some (l++([(⟨cD c,(0:Int),(0:Int),(0:Int)⟩:aG)]:aa aG))else none else some l)=some (l++(bif cD c != 0 then [(⟨cD c,0,0,0⟩:aG)]else [])):=by
   rw[lT,E l D];cases cD c != 0 with
   |true=>rfl
   |false=>rw[aq,aq,List.append_nil]
  unfold ox;cases cD c==8 with
  |false=>exact z
  | true=>
   rw[au,cv];by_cases L:0<(opens 0 c.bq.aB).length
   ·have⟨k1,k2⟩:=aa3 c h L;rw[aW (by omega:((opens 0 c.bq.aB).length:Int) > 0),au,au,az ⟨by omega,L⟩,az (show Int.toNat 0<(opens 0 c.bq.aB).length from L),lT,E l D,au,k2];rfl
   ·rw[aU (by omega:¬ ((opens 0 c.bq.aB).length:Int) > 0),aq,aq];exact z
 unfold Rb bh xL;rw[amq h,ak]
 refine(aY (λo=>Option.bind o _) e).trans ?_
 rw[ak,D5];simp only[eJ,aGr h.rf,ak,aGv _ Z (show (fy c).length <= 1000 by rw[uQ];omega),ak3 _ (show c.bq.aB.length<1073741823 by omega)];have er:A6 c.aP (GC c)=gG c:=rfl;have ec:yG c.bq c.box.bI.eO (fy c)=ia c:=rfl;rw[er,ec];have h1:∀ l:aa aG,l.length <= 4 -> (bif decide (ia c >= 0)then bif bP (l.length+([(⟨4,ia c,0,0⟩:aG)]:aa aG).length)then some ((l++([(⟨4,ia c,0,0⟩:aG)]:aa aG))++ox c)else none else some (l++ox c))=some (l++(sO c++ox c)):=by
  intro l D;unfold sO;rw[lT,E l (by omega)];cases decide (ia c >= 0)with
  |true=>rw[au,au,List.append_assoc];rfl
  |false=>rfl
 have T:∀ l:aa aG,l.length <= 1 -> (bif decide (ia c >= 0)then bif bP (l.length+([(⟨4,ia c,0,0⟩:aG)]:aa aG).length)then (bif (cD c==(8:Int))then (bif (decide (((opens 0 c.bq.aB).length:Int) > (0:Int)))then (if O:0 <= (0:Int)/\(0:Int).toNat<(opens 0 c.bq.aB).length then if C:(0:Int).toNat<(opens 0 c.bq.aB).length then (bif bP ((l++([(⟨4,ia c,0,0⟩:aG)]:aa aG)).length+([(⟨(4:Int),(opens 0 c.bq.aB)[(0:Int).toNat]'C,(0:Int),(0:Int)⟩:aG)]:aa aG).length)then some ((l++([(⟨4,ia c,0,0⟩:aG)]:aa aG))++([(⟨(4:Int),(opens 0 c.bq.aB)[(0:Int).toNat]'C,(0:Int),(0:Int)⟩:aG)]:aa aG))else none)else none else none)else (bif (cD c != (0:Int))then bif bP ((l++([(⟨4,ia c,0,0⟩:aG)]:aa aG)).length+([(⟨cD c,(0:Int),(0:Int),(0:Int)⟩:aG)]:aa aG).length)then some ((l++([(⟨4,ia c,0,0⟩:aG)]:aa aG))++([(⟨cD c,(0:Int),(0:Int),(0:Int)⟩:aG)]:aa aG))else none else some (l++([(⟨4,ia c,0,0⟩:aG)]:aa aG))))else (bif (cD c != (0:Int))then bif bP ((l++([(⟨4,ia c,0,0⟩:aG)]:aa aG)).length+([(⟨cD c,(0:Int),(0:Int),(0:Int)⟩:aG)]:aa aG).length)then some ((l++([(⟨4,ia c,0,0⟩:aG)]:aa aG))++([(⟨cD c,(0:Int),(0:Int),(0:Int)⟩:aG)]:aa aG))else none else some (l++([(⟨4,ia c,0,0⟩:aG)]:aa aG))))else none else (bif (cD c==(8:Int))then (bif (decide (((opens 0 c.bq.aB).length:Int) > (0:Int)))then (if O:0 <= (0:Int)/\(0:Int).toNat<(opens 0 c.bq.aB).length then if C:(0:Int).toNat<(opens 0 c.bq.aB).length then (bif bP (l.length+([(⟨(4:Int),(opens 0 c.bq.aB)[(0:Int).toNat]'C,(0:Int),(0:Int)⟩:aG)]:aa aG).length)then some (l++([(⟨(4:Int),(opens 0 c.bq.aB)[(0:Int).toNat]'C,(0:Int),(0:Int)⟩:aG)]:aa aG))else none)else none else none)else (bif (cD c != (0:Int))then bif bP (l.length+([(⟨cD c,(0:Int),(0:Int),(0:Int)⟩:aG)]:aa aG).length)then some (l++([(⟨cD c,(0:Int),(0:Int),(0:Int)⟩:aG)]:aa aG))else none else some l))else (bif (cD c != (0:Int))then bif bP (l.length+([(⟨cD c,(0:Int),(0:Int),(0:Int)⟩:aG)]:aa aG).length)then some (l++([(⟨cD c,(0:Int),(0:Int),(0:Int)⟩:aG)]:aa aG))else none else some l)))=some (l++(sO c++ox c)):=by
  intro l D;rw[tl _ (by rw[List.length_append,lT];omega),tl _ (by omega)];exact h1 l (by omega)
 have U:=T [] (by simp);unfold yH;by_cases Y:gG c >= 0
 ·have hv:0 <= gG c/\gG c<bf c.config.aE:=by omega
  rw[aW Y,au,cv,(TQ Gd.1 (by omega) (by omega)),ak];cases nE c (gG c)with
  |true=>exact U
  | false=>
   rw[iW,au,au,aaY _ (by show 0 <= gG c;omega) (by show (gG c).toNat<_;omega),ak,List.length_nil,lT,di,au];exact T [gW c (gG c)] (dM _)
 ·rw[aU Y,aq,Bool.false_and,aq];exact U
def aa4(c:ax):ah aG:=(qq c++rE c c.pending.length).find? (dy c)
def A7(c:ax):aG×Int:=
 bif c.aZ.state != 0 then (bif cD c != 0 then (bif dy c ⟨cD c,0,0,0⟩then (⟨cD c,0,0,0⟩,-1)else (rC,-1))else (rC,-1))else
 match aa4 c with
 |some x=>(x,-1)
 |none=>bif decide ((A4 c).2 >= 0)then A4 c else (sP c (yH c++(sO c++ox c)),-1)
def aGF(c:ax)(l:aa aG):M9 c l=(sP c l,(l.find? (dy c)).isSome):=by
 unfold M9 sP;cases l.find? (dy c)<;>rfl
def aGG{c:ax}(h:Pq c):Ah c=some (bif decide ((c.trace.length:Int) >= 2000)then (rC,-1)else A7 c):=by
 have D:=h.p.R.sH;have Y:=TX c;have Z:=h.pl;have Gd:=nB h.rf;have ul:=Dz 0 c.aP.aH;have E:=aGD h;have L:=aGC h;have O:=aGB h;unfold Ah;cases decide ((c.trace.length:Int) >= 2000)with
 |true=>rfl
 | false=>
  rw[aq,aq,alU h.rf,ak,aEQ _ _ _ h.eK h.pw,ak];have T:uK c.box.bI.eK c.aZ (wo c)=cD c:=rfl;rw[T];unfold A7;cases c.aZ.state != 0 with
  | true=>
   rw[au,au];by_cases C:cD c=0
   ·rw[C];rfl
   ·rw[kU C,fO C,Ts h.p (Tv D (by omega))];cases dy c ⟨cD c,0,0,0⟩<;>rfl
  | false=>
   rw[aq,aq,aGp h,ak,amY h (by
    rw[List.length_append];have:=am1 c c.pending.length;have:(qq c).length=(cC 0 c.aP.aH).length:=by unfold qq;rw[eI]
    omega) (λx hx=>by
    rcases List.mem_append.1 hx with hx|hx
    ·obtain⟨b,U,rfl⟩:=List.mem_map.1 hx;exact(amZ h U).2
    ·obtain⟨i,hi,rfl⟩:=List.mem_map.1 hx;exact am0 h (gk.1 (List.mem_filter.1 hi).1)),ak]
   unfold M9 aa4;cases (qq c++rE c c.pending.length).find? (dy c)with
   |some x=>rfl
   | none=>
    dsimp only;rw[aq,aGo h,ak];cases decide ((A4 c).2 >= 0)with
    |true=>rfl
    | false=>
     rw[aq,aq,aGE h,ak,amY h (by rw[List.length_append,List.length_append];omega) (λx hx=>by
      rcases List.mem_append.1 hx with hx|hx
      ·exact E.2 x hx
      ·rcases List.mem_append.1 hx with hx | hx
       ·exact L.2 x hx
       ·exact O.2 x hx),ak,aGF]
def aGH(p:Nat -> Bool)(n:Nat):dx p (List.range n) <= n/\(∀ k,k<dx p (List.range n) -> p k=false)/\(dx p (List.range n)<n -> p (dx p (List.range n))=true):=by
 have C:=we p (List.range n);rw[cX]at C
 refine⟨C,λk D=>?_,λE=>?_⟩
 ·have:=nA D (by rw[cX];omega);simp_all
 ·have:=rj (p:=p) (q:=List.range n) (by rw[cX];exact E)
  rwa [js]at this
def aGI(c:ax)(n:Nat):(rE c n).find? (dy c)=if dx (λi=>qp c i&&dy c (jB c i)) (List.range n)<n then some (jB c (dx (λi=>qp c i&&dy c (jB c i)) (List.range n)))else none:=by
 unfold rE;rw[List.find?_map,List.find?_filter];have e:(List.range n).find? (λa=>decide (qp c a=true/\(dy c ∘ jB c) a=true))=(List.range n).find? (λi=>qp c i&&dy c (jB c i)):=by
  simp_all
 rw[e];rcases TU (λi=>qp c i&&dy c (jB c i)) (List.range n)with ⟨C,D⟩|⟨C,D⟩
 ·simp_all
 ·grind
def aGJ{c:ax}(h:Pq c):Sh c=some (A7 c):=by
 have Z:=h.p.R.sH;have hw:=TX c;have rJ:=h.pl;have Gd:=nB h.rf;have ul:=Dz 0 c.aP.aH;have Zm:=h.p.bl;have hdn:=h.dl;unfold Sh bE;rw[aau h.rf,ak,alT h.rf,ak,aEP _ _ _ h.eK h.pw,ak];have ew:uK c.box.bI.eK c.aZ (wo c)=cD c:=rfl;rw[ew];unfold A7;cases c.aZ.state != 0 with
 | true=>
  rw[au,au];by_cases T:cD c=0
  ·rw[T];rfl
  ·rw[fO T,au,au,yp h.p (Tv Z (by omega)),ak];cases dy c ⟨cD c,0,0,0⟩<;>rfl
 | false=>
  rw[aq,aq];have iT:∀ (k:Nat) (C:k<(cC 0 c.aP.aH).length),Da (((),(),(),(),(),((cC 0 c.aP.aH).length:Int),(k:Int),()),(c,((0:Int),(0:Int),(0:Int),(0:Int),()),cC 0 c.aP.aH,(cD c,(0:Int),(0:Int),(0:Int),()),()))=some (bif dy c (gW c (cC 0 c.aP.aH)[k])then .inr (.inl (((),(-1:Int),()),(((gW c (cC 0 c.aP.aH)[k]).kind,(gW c (cC 0 c.aP.aH)[k]).ay,(gW c (cC 0 c.aP.aH)[k]).row,(gW c (cC 0 c.aP.aH)[k]).bR,()),())))else .inl (((),(),(),(),(),((cC 0 c.aP.aH).length:Int),((k+1:Nat):Int),()),(c,((0:Int),(0:Int),(0:Int),(0:Int),()),cC 0 c.aP.aH,(cD c,(0:Int),(0:Int),(0:Int),()),()))):=by
   intro k C;have⟨k1,k2⟩:=amZ h (cU C);unfold Da av aQ xG xL;dsimp only;rw[aW,au,az ⟨by omega,by omega⟩,az];simp only[bD];rw[aaX _ (by omega) (by omega),ak];show ((iN c (gW c (cC 0 c.aP.aH)[k])).bind _)=_;rw[yp h.p k2,ak,bB];cases dy c (gW c (cC 0 c.aP.aH)[k])<;>rfl
  have hfu:(qq c).find? (dy c)=((cC 0 c.aP.aH).find? (λb=>dy c (gW c b))).map (gW c):=by
   unfold qq;rw[List.find?_map];rfl
  unfold aa4;rw[List.find?_append,hfu,aGI];rcases TU (λb=>dy c (gW c b)) (cC 0 c.aP.aH)with ⟨L,U⟩|⟨L,U⟩
  ·have e:=cA (step:=Da) (cC 0 c.aP.aH).length (λk=>(((),(),(),(),(),((cC 0 c.aP.aH).length:Int),(k:Int),()),(c,((0:Int),(0:Int),(0:Int),(0:Int),()),cC 0 c.aP.aH,(cD c,(0:Int),(0:Int),(0:Int),()),()))) (.inr (.inl (((),(),(),(),()),(c,((0:Int),(0:Int),(0:Int),(0:Int),()),cC 0 c.aP.aH,(cD c,(0:Int),(0:Int),(0:Int),()),())))) aR (λk C=>by
    have:=nA (p:=λb=>dy c (gW c b)) (q:=cC 0 c.aP.aH) (i:=k) (by omega) C;rw[iT k C,this];rfl) (by
    unfold Da av aQ xG xL;dsimp only;rw[aU,aq]) (bO)
   rw[cu]at e
   refine(aY (λo=>Option.bind o _) e).trans ?_
   rw[ak,U];simp only[Sum.elim_inr,eJ,Option.map_none,Option.none_or];have⟨i1,i2,i3⟩:=aGH (λi=>qp c i&&dy c (jB c i)) c.pending.length;have O:∀ (k:Nat) (C:k<c.pending.length),Db (((),(),(),(),c.pending,(c.pending.length:Int),(k:Int),()),(c,((0:Int),(0:Int),(0:Int),(0:Int),()),cC 0 c.aP.aH,(cD c,(0:Int),(0:Int),(0:Int),()),()))=some (bif qp c k&&dy c (jB c k)then .inr (.inl (((),(-1:Int),()),(((jB c k).kind,(jB c k).ay,(jB c k).row,(jB c k).bR,()),())))else .inl (((),(),(),(),c.pending,(c.pending.length:Int),((k+1:Nat):Int),()),(c,((0:Int),(0:Int),(0:Int),(0:Int),()),cC 0 c.aP.aH,(cD c,(0:Int),(0:Int),(0:Int),()),()))):=by
    intro k C;have⟨ho,Y,o2,o3,o4⟩:=aa0 h C;unfold Db av aQ xG xI;dsimp only;rw[aW,au,az ⟨by omega,by omega⟩,bB];simp only[bD,aaZ,(aaQ Gd.1 Y o3),ak,Int.toNat_zero,List.drop_zero];have ek:qp c k=(!nE c (mF c k).ay && !((c.pending.take k).any λa=>a.ay==(mF c k).ay)):=rfl;rw[ek];cases nE c (mF c k).ay with
    |true=>rfl
    | false=>
     rw[aq,bM ⟨by omega,by omega,by omega⟩,aaC _ _ (by rw[fJ];omega),ak];cases (c.pending.take k).any λa=>a.ay==(mF c k).ay with
     |true=>rfl
     | false=>
      rw[aq,aaX _ Y o2,ak];show ((iN c (jB c k)).bind _)=_;rw[yp h.p (am0 h C)];cases dy c (jB c k)<;>rfl
   by_cases E:dx (λi=>qp c i&&dy c (jB c i)) (List.range c.pending.length)<c.pending.length
   ·rw[bM E];generalize hN:dx (λi=>qp c i&&dy c (jB c i)) (List.range c.pending.length)=N at *
    have D:=cA (step:=Db) N (λk=>(((),(),(),(),c.pending,(c.pending.length:Int),(k:Int),()),(c,((0:Int),(0:Int),(0:Int),(0:Int),()),cC 0 c.aP.aH,(cD c,(0:Int),(0:Int),(0:Int),()),()))) (.inl (((),(-1:Int),()),(((jB c N).kind,(jB c N).ay,(jB c N).row,(jB c N).bR,()),()))) aR (λk C=>by
     rw[O k (by omega),i2 k C];rfl) (by
     rw[O N E,i3 E];rfl) (bO)
    rw[cu]at D
    refine(aY (λo=>Option.bind o _) D).trans ?_
    rfl
   ·rw[bX E];have D:=cA (step:=Db) c.pending.length (λk=>(((),(),(),(),c.pending,(c.pending.length:Int),(k:Int),()),(c,((0:Int),(0:Int),(0:Int),(0:Int),()),cC 0 c.aP.aH,(cD c,(0:Int),(0:Int),(0:Int),()),()))) (.inr (.inl (((),(),(),(),()),(c,((0:Int),(0:Int),(0:Int),(0:Int),()),cC 0 c.aP.aH,(cD c,(0:Int),(0:Int),(0:Int),()),())))) aR (λk C=>by
     rw[O k C,i2 k (by omega)];rfl) (by
     unfold Db av aQ xG xI;dsimp only;rw[aU,aq]) (bO)
    rw[cu]at D
    refine(aY (λo=>Option.bind o _) D).trans ?_
    rw[ak];simp only[Sum.elim_inr,eJ];rw[aFI h,ak,aGm h,ak];cases decide ((A4 c).2 >= 0)with
    |true=>rfl
    | false=>
     rw[aq,aq];show ((L4 c (cC 0 c.aP.aH) (fy c) ⟨cD c,0,0,0⟩).bind _)=_;rw[aGA h,ak]
  ·have e:=cA (step:=Da) (dx (λb=>dy c (gW c b)) (cC 0 c.aP.aH)) (λk=>(((),(),(),(),(),((cC 0 c.aP.aH).length:Int),(k:Int),()),(c,((0:Int),(0:Int),(0:Int),(0:Int),()),cC 0 c.aP.aH,(cD c,(0:Int),(0:Int),(0:Int),()),()))) (.inl (((),(-1:Int),()),(((gW c (cC 0 c.aP.aH)[dx (λb=>dy c (gW c b)) (cC 0 c.aP.aH)]).kind,(gW c (cC 0 c.aP.aH)[dx (λb=>dy c (gW c b)) (cC 0 c.aP.aH)]).ay,(gW c (cC 0 c.aP.aH)[dx (λb=>dy c (gW c b)) (cC 0 c.aP.aH)]).row,(gW c (cC 0 c.aP.aH)[dx (λb=>dy c (gW c b)) (cC 0 c.aP.aH)]).bR,()),()))) aR (λk C=>by
    have:=nA (p:=λb=>dy c (gW c b)) (q:=cC 0 c.aP.aH) (i:=k) C (by omega);rw[iT k (by omega),this];rfl) (by
    have:=rj (p:=λb=>dy c (gW c b)) (q:=cC 0 c.aP.aH) L;rw[iT _ L,this];rfl) (bO)
   simp_all
def aGK{r:cy}{x:aG}(C:x.kind <= 5):(fU r x).aZ=r.aZ:=by
 unfold fU
 grind
def iS.dW{c:ax}(p:iS c)(x:aG):iS (dW c x):=⟨p.dl,p.tl,p.gl,p.t,p.g,p.pd,p.u⟩
def Ck.dW{c:ax}(h:Ck c){x:aG}(C:mB c.config.aE c.bq x=true)(D:x.kind<=5)(E:c.trace.length<2000):Ck (dW c x):=by
 simp only[mB,aN]at C;exact⟨h.f1,h.f2,h.nw,alc C.1 C.2.1 C.2.2,amN _ h.rd,h.ar,h.sp,h.se,h.rf,((iS.of h.pa).dW x).ok,h.qu,h.sh,h.sl,h.dr,h.pw,h.ps.trans (aGK D).symm,h.si,h.s1,h.s2,h.s3,h.er,by simp[Proofs.YtnilicojgkhpnaaGreat.dW];omega,h.rp⟩
def Ck.opn{c:ax}(h:Ck c){x:aG}(E:0 <= x.ay)(L:x.ay<bf c.config.aE)(O:0 <= x.row)(T:x.row<c.config.aE.rows):Ck (uN c x):=by
 have C:=(Gf h.rk).1;have gb:=fF C;have p:=iS.of h.pa;have TN:=p.tl;have hgl:=p.gl;have U:x.ay.toNat<c.bH.length:=by omega
 have D:eX c.config.aE 100000 (uI c.config.aE c.config.dO c.array x.ay x.row):=aap C c.config.dO (by decide) (eX.wC h.ar) E L O T;have Y:∀a∈ou c x,fj c.config.aE a=true/\a.bR=0:=λa D=>p.pd a (List.mem_filter.1 D).1
 have Z:(ou c x).Pairwise (λx y=>x≠y):=p.u.filter _;have q:(∀ a∈(uN c x).pending,fj c.config.aE a=true/\a.bR=0)/\(uN c x).pending.Pairwise (λx y=>x≠y):=by
  show (∀a∈(bif (sJ c x).2 then (lQ c.config.aE.rows x.row).foldl (mD x.ay) (ou c x)else ou c x),fj c.config.aE a=true/\a.bR=0)/\(bif (sJ c x).2 then (lQ c.config.aE.rows x.row).foldl (mD x.ay) (ou c x)else ou c x).Pairwise (λx y=>x≠y);cases (sJ c x).2 with
  |false=>simp_all
  | true=>
   refine amH _ (λn hn=>?_) Y Z
   have:=alj O T n hn;exact De C E L this.1 this.2 (Int.le_refl 0) (by show 0<_;omega)
 have hp:iS (uN c x):=⟨p.dl,by show ((c.bH.set x.ay.toNat (sJ c x).1).length:Int)=_;rw[gz];exact p.tl,p.gl,GB p.t (by unfold sJ;rw[nD _ U];exact aF6 (p.t _ (cU U)) _ _),p.g,q.1,q.2⟩
 exact⟨h.f1,h.f2,h.nw,h.rk,h.rd,DH C D,h.sp,h.se,h.rf,hp.ok,h.qu,h.sh,h.sl,h.dr,h.pw,h.ps,h.si,h.s1,h.s2,h.s3,h.er,h.tr,h.rp⟩
def Ck.ref{c:ax}(h:Ck c)(E:c.box.bI.weights.length<1073741823)(L:aL c.config.iz 1 16=true){b:Int}(O:0 <= b)(T:b<bf c.config.aE):Ck (TL c b):=by
 have C:=(Gf h.rk).1;have Y:=fF C;have p:=iS.of h.pa;have Z:=p.dl;have D:eX _ 100000 (qi _ c.config.dO c.array b c.config.aE.rows.toNat):=Gy C _ (by decide) (eX.wC h.ar) O T _ (by omega);have U:iS (TL c b):=⟨by show ((wz c.aP b).aH.length:Int)=_;rw[amA];exact p.dl,by show ((c.bH.set b.toNat _).length:Int)=_;rw[gz];exact p.tl,by show ((c.guard.set b.toNat _).length:Int)=_;rw[gz];exact p.gl,GB p.t (amI L),GB p.g (amJ E h.f1),λa D=>p.pd a (List.mem_filter.1 D).1,p.u.filter _⟩
 exact⟨h.f1,h.f2,h.nw,h.rk,h.rd,DH C D,h.sp,h.se,aGf h.rf (by omega),U.ok,h.qu,h.sh,h.sl,h.dr,h.pw,h.ps,h.si,h.s1,h.s2,h.s3,h.er,h.tr,h.rp⟩
def aa5{T:Type}{p:T->Prop}{l:aa T}{x:T}(h:∀ y∈l,p y)(C:p x):∀ k:Nat,∀ y∈(List.range k).foldl (λd b=>d.set b x) l,p y
 |0=>h
 | k+1=>by
  rw[yz];exact GB (aa5 h C k) C
def am5{r:de}(h:fB r=true):∀ k:Nat,fB ⟨(List.range k).foldl (λd b=>d.set b 0) r.aH,r.wait,r.dS⟩=true
 |0=>h
 | k+1=>by
  rw[yz];exact amQ (am5 h k) k (by omega)
def Ck.TA{c:ax}(h:Ck c)(E:c.box.bI.weights.length<1073741823)(L:aL c.config.iz 1 16=true)(n:Nat)(O:(n:Int) <= bf c.config.aE):Ck (gy c n []):=by
 have D:=(Gf h.rk).1;have p:=iS.of h.pa;have C:=Tz D c.config.dO (by decide) (eX.wC h.ar) n O;have T:iS (gy c n []):=⟨by show (((List.range n).foldl _ c.aP.aH).length:Int)=_;rw[yA];exact p.dl,by show (((List.range n).foldl _ c.bH).length:Int)=_;rw[yA];exact p.tl,by show (((List.range n).foldl _ c.guard).length:Int)=_;rw[yA];exact p.gl,aa5 p.t (amI L) n,aa5 p.g (amJ E h.f1) n,λa C=>(by cases C),List.Pairwise.nil⟩
 exact⟨h.f1,h.f2,h.nw,h.rk,h.rd,DH D C,h.sp,h.se,am5 h.rf n,T.ok,h.qu,h.sh,h.sl,h.dr,h.pw,h.ps,h.si,h.s1,h.s2,h.s3,h.er,h.tr,h.rp⟩
def Ck.acc{c:ax}(h:Ck c){i:Nat}(C:ov c i 100000)(hr:c.cS.length<400):Ck (yE c i):=by
 have T:=(Gf h.rk).1;have p:=iS.of h.pa;have hi:=C.i;have⟨f1,f3,f4,f5,f6,f7,f8⟩:=C.facts (cU hi);have D:c.queue.getD i yD=c.queue[i]:=nD _ hi;have E:=C.d _ (cU hi);have U:=C.shl;have L:iQ (A1 c.shares c.queue[i].dN)=true/\((A1 c.shares c.queue[i].dN).length:Int)=4:=by
  have⟨y,t,e,hl,ho⟩:=aGd ((List.replicate 4 false).set c.queue[i].dN.toNat true) (by omega) h.sh (by simp[U])
  grind
 have Y:o7 (fH (jo c.config.aE c.spare)) (c.queue.take i++c.queue.drop (i+1))=true:=((Qk.of h.qu).sub (aGb _ _)).ok;have key:∀ (a:cZ) (e:aa bU) (x:cW),eX c.config.aE 100000 a -> kH e=true -> Ck (pE c i a e x):=λa e x Z he=>
  ⟨h.f1,h.f2,h.nw,h.rk,h.rd,DH T Z,h.sp,h.se,h.rf,(show iS (pE c i a e x)from ⟨p.dl,p.tl,p.gl,p.t,p.g,p.pd,p.u⟩).ok,Y,by unfold pE;rw[D];exact L.1,by unfold pE;rw[D];exact L.2,h.dr,h.pw,h.ps,h.si,h.s1,h.s2,h.s3,he,h.tr,by simp[pE];omega⟩
 unfold yE;rw[D];dsimp only;cases c.queue[i].write with
 |true=>exact key _ _ _ (C.a.MK _ (c:=⟨_,false⟩) (M3 E.1 E.2).2.1) h.er
 | false=>
  have O:=C.a.syms _ (cU f4);rw[aq,nD _ f4];refine key _ _ _ (C.a.MK _ (aaJ O)) ?_;have hec:=TK O;by_cases e:ke c.array.cells[ri c.config.aE (gF c c.queue[i].line)]=0
  ·rw[e];exact h.er
  ·rw[fO e,au];exact amO h.er ⟨by omega,f5⟩ (by omega)
def Ck.TY{c:ax}(h:Ck c){x:aG}(C:mB c.config.aE c.bq x=true)(D:6 <= x.kind/\x.kind <= 9)(U:c.trace.length<2000):Ck (DG (Proofs.YtnilicojgkhpnaaGreat.dW c x) x.kind):=by
 simp[mB,aN]at C;have E:=bJ.1 h.nw;have⟨L,O,T⟩:=aGg h.pw h.ps h.si E.2 D C.2.2;have p:=iS.of h.pa;exact⟨h.f1,h.f2,h.nw,alc C.1 C.2.1 C.2.2,amN _ h.rd,h.ar,h.sp,h.se,h.rf,(show iS _ from ⟨p.dl,p.tl,p.gl,p.t,p.g,p.pd,p.u⟩).ok,h.qu,h.sh,h.sl,h.dr,L,O,T,h.s1,h.s2,h.s3,h.er,by simp[DG,amx,Proofs.YtnilicojgkhpnaaGreat.dW];omega,h.rp⟩
def Ck.iss{c:ax}(L:eB c)(h:Ck c){x:aG}{i:Int}(E:wD c x i=true):Ck (yF c x i):=by
 have Y:=Pq.of L h.ok;have O:c.box.bI.weights.length<1073741823:=by
  have:=L.1.1;unfold AP at this;omega
 have Z:aL c.config.iz 1 16=true:=by
  have:=(Gw O h.f1).1;simp[oe,aN]at this;exact this.2.2.2.2.2.1
 have⟨hb,C,hs,hr⟩:=amF L Y E;have D:c.trace.length<2000:=by
  simp only[wD,aN,ic,qt]at E;omega
 have hrp:x.kind=2 \/ x.kind=3 -> c.cS.length<400:=λT=>by
  simp only[wD,aN]at E;have e:(x.kind==2 ||x.kind==3)=true:=by rcases T with q|q<;>rw[q]<;>rfl
  rw[e,au]at E;simp[M8,aN,iU]at E;omega
 have⟨hg,hlen,T,hbk⟩:=MG C;have hc:dL c.config.aE x=true:=by
  simp only[mB,aN]at C
  grind
 have TN:=(iS.of h.pa).tl;have lX:=Y.p.bl;unfold yF;rcases kinds T with q|q|q|q|q|q|q|q|q<;>rw[q]<;>simp only[Int.reduceBEq,Int.reduceBNe,au,aq,Bool.or_true,Bool.or_false,Bool.true_or,Bool.false_or,Bool.or_self]
 ·have⟨U,oM⟩:=hbk (by omega);have⟨r0,r1⟩:=TM hc q;exact(h.dW C (by omega) D).opn U (by show x.ay<bf c.config.aE;omega) r0 r1
 ·exact(h.dW C (by omega) D).acc ((hs (.inl q)).1.dW x) (hrp (.inl q))
 ·exact(h.dW C (by omega) D).acc ((hs (.inr q)).1.dW x) (hrp (.inr q))
 ·exact h.dW C (by omega) D
 ·have⟨U,oM⟩:=hbk (by omega);exact(h.dW C (by omega) D).ref O Z U (by show x.ay<bf c.config.aE;omega)
 ·have:=h.TY C (by omega) D;rw[q]at this;exact this
 ·have:=h.TY C (by omega) D;rw[q]at this;exact this
 ·have:=h.TY C (by omega) D;rw[q]at this;exact this
 ·have:=h.TY C (by omega) D;rw[q]at this;exact this.TA O Z _ (by show (c.bH.length:Int) <= bf c.config.aE;omega)
def sQ(d:Int):Int:=if (5:Int)<W6 (d+1)then 5 else W6 (d+1)
def TZ(x:ax):ah ax:=(tX x).bind λC=>bif (C.1.kind != (0:Int))then (sy x C.1 C.2).bind λD=>some D.1 else some x
def T0(x:ax)(n:Int):ah ax:=bif (decide (n >= (0:Int)))then (yb x n).bind λC=>(x7 C.2.1 n C.1.2).bind λD=>TZ D.2.1 else TZ x
abbrev Na:=ah (af×(ax×af))
def oy(j:ax)(b:gJ)(s:aa bV)(d:gB)(p:eE)(u:kZ):ax:=⟨j.config,b,j.now,j.bq,j.ready,j.array,j.spare,j.aP,j.bH,j.guard,j.pending,j.queue,s,d,p,u,j.errors,j.trace,j.cS⟩
def T1(x:ax):Na:=(Ah x).bind λC=>(let D:Bool -> Na:=λE=>bif E then (Al x C.1 C.2).bind λL=>some ((),(L.2.1,()))else some ((),(x,()));bif (C.1.kind != (0:Int))then (Ai x C.1 C.2).bind λO=>(D O)else (D false))
def T2(x:ax)(n:Int):Na:=bif (decide (n >= (0:Int)))then (CR x n).bind λC=>(CJ C.2.1 n C.1.2).bind λD=>T1 D.2.1 else T1 x
def T3(j:ax):Na:=(Kg j.queue true).bind λT=>(Ke j.drain T).bind λD=>(CF (oy j j.box j.shares D j.aZ j.cK)).bind λU=>(Kh j.aZ U).bind λE=>(Kk j.box ((j.queue.length:Int)==(0:Int))).bind λC=>bif C.2 then (Cz C.1.bI.weights).bind λY=>(tQ j.config.aE).bind λZ=>(CG j.cK Z).bind λL=>T2 (oy j C.1 Y.1 ⟨false,C.1.bI.low,C.1.bI.high⟩ E L.1) L.2 else (tQ j.config.aE).bind λqc=>(CG j.cK qc).bind λO=>T2 (oy j C.1 j.shares D E O.1) O.2
def uU(c:ax)(n:Int):ax:=⟨c.config,c.box,n,c.bq,c.ready,c.array,c.spare,c.aP,c.bH,c.guard,c.pending,c.queue,c.shares,c.drain,c.aZ,c.cK,c.errors,c.trace,c.cS⟩
def iT(c:ax):ax:=(AA c).getD c
def yI(c:ax):Nat->ax
 |0=>c
 |n+1=>iT (yI c n)
def A8(r:de)(n:Int):de:=if 0<r.wait-1 then ⟨r.aH,r.wait-1,r.dS⟩else ⟨r.aH.map sQ,bif r.dS then n / 2 else n,r.dS⟩
def aGL{t:c9}(h:iP t=true):2<=Dj t:=by
 have q:=Zn t;unfold x4 at q;rw[Mv,ak,h,bC,aq]at q;simp only[iP,aN,cw]at h;have k:∀ x∈od t,0<=x/\x<=1000:=λx C=>by
  have:=h.1 x C;simp only[yf,bJ]at this;omega
 simp only[od,List.forall_mem_cons]at k;injection q with q;rw[<-q];simp (disch:=omega) only [aO];omega
def aGM{c:ig}{p:fz}(C:p.weights.length<1073741823)(h:o9 c p=true):2<=c.interval/\c.interval<=10000:=by
 have q:=(Gw C h).1;have t:=aGL (Zq q).2.1;simp only[oe,aN,bJ]at q;omega
def aGN{r:de}(h:fB r=true){n:Int}(E:2<=n/\n<=10000):fB (A8 r n)=true/\(A8 r n).aH.length=r.aH.length:=by
 have L:=nB h;have C:=Gx h;simp only[fB,aN,bJ]at h;unfold A8;split
 ·refine⟨?_,rfl⟩;simp only[fB,aN,bJ];exact⟨h.1,by omega⟩
 ·refine⟨?_,eI _⟩;simp only[fB,aN,cw,AJ,bJ,eI,List.mem_map,forall_exists_index,and_imp,forall_apply_eq_imp_iff₂]
  refine⟨λd D=>?_,by omega,?_⟩
  ·have:=C d D;unfold sQ;rw[aO (n:=d+1)];split<;>omega
  ·cases r.dS<;>simp<;>omega
def aGO{r:de}(h:fB r=true){n:Int}(D:2<=n/\n<=10000):LG r n=some (A8 r n):=by
 have L:=nB h;have O:=Gx h;have T:1<=r.wait/\r.wait<=10000:=by
  simp only[fB,aN,bJ]at h;exact h.2.2
 have E:W6 (n.tdiv 2)=n / 2:=by rw[rF (by omega)];exact aO
 unfold LG CU A8 bh xA xZ;rw[di (by simp;omega),au,List.nil_append,ak,My _ (by omega),ak,h,bC,aq,dB,ak,bJ.2 D,bC,aq];dsimp only;rw[aO (n:=r.wait-1)];by_cases C:r.wait-1 > 0
 ·rw[aW C,au,bM C]
 ·rw[aU C,aq,bX C];have e:=cA (step:=LF) r.aH.length (λi=>((n,(),(),(),(r.aH.length:Int),(i:Int),()),((r.aH,r.wait,r.dS,()),((),(0:Int),false,()),((),r.wait-1,r.dS,()),([]:aa Int),upto sQ r.aH i,()))) (.inl ((n,(),(),(),()),((r.aH,r.wait,r.dS,()),((),(0:Int),false,()),((),r.wait-1,r.dS,()),([]:aa Int),r.aH.map sQ,()))) aR (λi hi=>by
   have hlen:=AD sQ r.aH i;unfold LF av xG xL;dsimp only;rw[aW,au,az ⟨by omega,by omega⟩,az,az ⟨by omega,by omega⟩,az,bB];simp only[bD];rw[F6 sQ r.aH i hi,<-F7 sQ r.aH i hi];rfl) (by
   unfold LF av xG xL;dsimp only;rw[aU,aq,F5]) (bO)
  rw[cu,SH]at e
  refine(aY (λo=>Option.bind o _) e).trans ?_
  rw[ak];simp only[eJ];rw[E];cases r.dS<;>rfl
def aGP{c:ax}(h:fB c.aP=true){n:Int}(L:2<=n/\n<=10000):K6 c n=some ((),(sL c (A8 c.aP n),())):=by
 have O:=nB h;have T:=Gx h;have U:1<=c.aP.wait/\c.aP.wait<=10000:=by
  simp only[fB,aN,bJ]at h;exact h.2.2
 have D:W6 (c.aP.wait-1)=c.aP.wait-1:=aO;have E:W6 (n.tdiv 2)=n / 2:=by rw[rF (by omega)];exact aO
 unfold K6 A8 bh;by_cases C:c.aP.wait-1 > 0
 ·rw[D,aW C,au,bM C];rfl
 ·rw[bX C];have e:=cA (step:=K5) c.aP.aH.length (λi=>(((),n,(i:Int),()),(sL c ⟨upto sQ c.aP.aH i,c.aP.wait-1,c.aP.dS⟩,()))) (.inl (((),n,()),(sL c ⟨c.aP.aH.map sQ,c.aP.wait-1,c.aP.dS⟩,()))) aR (λi hi=>by
   have hlen:=AD sQ c.aP.aH i;unfold K5 sL av xG xL;dsimp only;rw[aW,au,az ⟨by omega,by omega⟩,az,az ⟨by omega,by omega⟩,az,bB];simp only[bD];rw[F6 sQ c.aP.aH i hi,<-F7 sQ c.aP.aH i hi];rfl) (by
   unfold K5 sL av xG xL;dsimp only;rw[F5,aU (by rw[eI];omega),aq]) (bO)
  rw[cu,SH]at e;rw[D,aU C,aq]
  refine(aY (λo=>Option.bind o _) e).trans ?_
  rw[ak];simp only[eJ,sL];rw[E];cases c.aP.dS<;>rfl
def aa6(a:cZ):cZ:=⟨a.cells,a.bz.map (mA 1),a.bu⟩
def aGQ{g:aV}{a:cZ}(h:mz g a=true):mz g (aa6 a)=true:=by
 have C:=eX.wC h
 refine DH (aac h).1 ⟨C.cells,C.syms,(aY (λn:Nat=>(n:Int)) (eI _)).trans C.bz,C.bu,λx D=>?_,C.iO⟩
 obtain⟨y,E,rfl⟩:=List.mem_map.1 D;exact aky (C.Di y E) (by decide)
def aGR{g:aV}{a:cZ}(h:mz g a=true):FI g a 1=some (aa6 a):=aB8 (aac h).1 (eX.wC h) (by decide) (by decide) (by decide)
def aGS{c:ax}(h:mz c.config.aE c.array=true):K8 c 1=some ((),(dm c (aa6 c.array),())):=by
 have D:cI c.config.aE=true:=(aac h).1;have C:=eX.wC h;have E:=qe c.config.aE;have L:=C.bz;have e:=cA (step:=K7) c.array.bz.length (λi=>(((),(1:Int),(i:Int),()),(dm c ⟨c.array.cells,upto (mA 1) c.array.bz i,c.array.bu⟩,()))) (.inl ((),(dm c ⟨c.array.cells,c.array.bz.map (mA 1),c.array.bu⟩,()))) aR (λi hi=>by
  have hlen:=AD (mA 1) c.array.bz i;have O:=C.Di _ (cU hi);unfold K7 dm av xG xL;dsimp only;rw[aW,au,az ⟨by omega,by omega⟩,az,az ⟨by omega,by omega⟩,az,bB];simp only[bD];rw[F6 (mA 1) c.array.bz i hi,aO (n:=c.array.bz[i]+1),<-F7 (mA 1) c.array.bz i hi];rfl) (by
  unfold K7 dm av xG xL;dsimp only;rw[F5,aU (by rw[eI];omega),aq]) (bO)
 rw[cu,SH]at e;unfold K8 bh;exact(aY (λo=>Option.bind o _) e).trans rfl
def aGT(q:aa bA)(w:Bool)(L:q.length<1073741824):∃ n,FK q w=some n/\Kg q w=some n:=by
 unfold FK Kg bh;have e:=cA (step:=LI) q.length (λi=>((w,(((q.take i).countP λr=>r.write==w:Nat):Int),q,(q.length:Int),(i:Int),()),())) (.inl (((((q.take q.length).countP λr=>r.write==w:Nat):Int),()),())) aR (λk C=>by
  have D:=List.countP_le_length (p:=λr:bA=>r.write==w) (l:=q.take k);rw[fJ]at D;unfold LI av xG xI;dsimp only;rw[aW,au,az ⟨by omega,by omega⟩,bB];simp only[bD];rw[qX C,List.countP_append,List.countP_singleton];cases q[k].write==w with
  |true=>rw[au,bB];rfl
  |false=>rw[aq,bB];rfl) (by
  unfold LI av xG xI;dsimp only;rw[aU,aq]) (bO)
 have E:=cA (step:=Kf) q.length (λi=>((q,w,(((q.take i).countP λr=>r.write==w:Nat):Int),(i:Int),()),())) (.inl (((((q.take q.length).countP λr=>r.write==w:Nat):Int),()),())) aR (λk C=>by
  have D:=List.countP_le_length (p:=λr:bA=>r.write==w) (l:=q.take k);rw[fJ]at D;unfold Kf av xG xI;dsimp only;rw[aW,au,az ⟨by omega,by omega⟩,bB];simp only[bD];rw[qX C,List.countP_append,List.countP_singleton];cases q[k].write==w with
  |true=>rw[au,bB];rfl
  |false=>rw[aq,bB];rfl) (by
  unfold Kf av xG xI;dsimp only;rw[aU,aq]) (bO)
 rw[cu]at e E;exact⟨_,(aY (λo=>Option.bind o _) e).trans rfl,(aY (λo=>Option.bind o _) E).trans rfl⟩
def aGU{d:gB}(h:oZ d=true)(n:Int):∃ y,FJ d n=some y/\Ke d n=some y/\oZ y=true:=by
 have D:=h;simp only[oZ,aN,iU]at D;unfold FJ Ke;rw[SR,SS,ak,ak,h,bC,aq,aq];by_cases C:n >= d.high
 ·rw[aW C,aU (show ¬ n<=d.low by omega)];exact⟨_,rfl,rfl,h⟩
 ·rw[aU C];cases decide (n<=d.low)<;>exact⟨_,rfl,rfl,h⟩
def aGV{p:eE}(h:jX p=true)(w:Bool):∃ y,FL p w=some y/\Kh p w=some y/\jX y=true/\y.state=p.state/\y.since=p.since:=by
 unfold FL Kh;rw[SW,SX,ak,h,bC,aq];simp only[jX,aN,bJ]at h;cases w with
 |true=>exact⟨_,rfl,rfl,by simp only[jX,aN,bJ];omega,rfl,rfl⟩
 | false=>
  refine⟨_,rfl,rfl,?_,rfl,rfl⟩;rw[aO (n:=p.idle+1)];simp only[jX,aN,bJ];split<;>omega
def aGW(b:gJ)(h:AQ b)(x:Bool):∃ t,LK b x=some (bif t then ⟨b.next,b.next,false⟩else b,t)/\Kk b x=some (bif t then ⟨b.next,b.next,false⟩else b,t):=by
 have C:b.next.weights.length<=1048576:=h.2
 refine⟨x&&b.waits,?_⟩;unfold LK Kk Fk JJ xA xZ;rw[aae b h,alG b h,ak,ir _];cases x<;>cases b.waits<;>exact⟨rfl,rfl⟩
def aGX{c:ig}{p:fz}(C:p.weights.length<1073741823)(h:o9 c p=true):∃ l t,Ao p.weights=some (l,t)/\Cz p.weights=some (l,t)/\iQ l=true/\(l.length:Int)=4/\oZ ⟨false,p.low,p.high⟩=true:=by
 obtain⟨_,f2⟩:=Gw C h;simp only[vX,aN,gA]at f2;obtain⟨O,T,U,E,L,D,Y⟩:=f2;rw[akD _ C,akE _ C];unfold Dk;rw[D];exact⟨_,_,rfl,rfl,D,by rw[eI];exact L,E⟩
def aGY{s:kZ}{n:Int}(C:aL s.every 1 100000=true)(E:aL s.wait 1 s.every=true)(D:aL s.next 0 (W6 (n-1))=true)(Z:1<=n/\n<=1000000):∃ y m,x6 s n=some (y,m)/\CG s n=some (y,m)/\aL y.every 1 100000=true/\aL y.wait 1 y.every=true/\aL y.next 0 (W6 (n-1))=true/\m<n:=by
 have T:=bJ.1 C;have b2:=bJ.1 E;have L:W6 (n-1)=n-1:=aO;have U:=bJ.1 D;rw[L]at U;unfold x6 CG;rw[dB,eA,ak,ak,C,bC,aq,aq,dB,eA,ak,ak,E,bC,aq,aq,aU (show ¬ n<1 by omega),aq,aq,dB,ak,D,bC,aq,aU (show ¬ s.next<0 by omega),aq,aU (show ¬ s.next >= n by omega),aq,aO (n:=s.wait-1)];by_cases O:s.wait-1 > 0
 ·rw[aW O,au];exact⟨_,_,rfl,rfl,C,bJ.2 ⟨by dsimp only;omega,by dsimp only;omega⟩,D,by omega⟩
 ·rw[aU O,aq,bX,aO (n:=s.next+1)];refine⟨_,_,rfl,rfl,C,bJ.2 ⟨T.1,Int.le_refl _⟩,?_,by omega⟩;rw[L,rG (by omega)];have Y:=Int.emod_nonneg (s.next+1) (show n≠0 by omega);have e2:=Int.emod_lt_of_pos (s.next+1) (show 0<n by omega);exact bJ.2 ⟨Y,by dsimp only;omega⟩
def Jn(o:ah ax)(q:Na):Prop:=∃y,o=some y/\q=some ((),(y,()))/\eB y/\gE y=true
def T4(j:ax):ah ax:=(FK j.queue true).bind λT=>(FJ j.drain T).bind λL=>(Au (oy j j.box j.shares L j.aZ j.cK)).bind λU=>(FL j.aZ U).bind λO=>(LK j.box ((j.queue.length:Int)==(0:Int))).bind λC=>bif C.2 then (Ao C.1.bI.weights).bind λY=>(vO j.config.aE).bind λE=>(x6 j.cK E).bind λD=>T0 (oy j C.1 Y.1 ⟨false,C.1.bI.low,C.1.bI.high⟩ O D.1) D.2 else (vO j.config.aE).bind λE=>(x6 j.cK E).bind λD=>T0 (oy j C.1 j.shares L O D.1) D.2
def aa7{x:ax}(C:eB x)(D:gE x=true):Jn (TZ x) (T1 x):=by
 have h:=Pq.of C D;have same:Jn (some x) (some ((),(x,()))):=⟨x,rfl,rfl,C,D⟩
 unfold TZ T1 tX;rw[aGG h,ak,Te x C,ak,D,bC,aq,aGJ h];show Jn ((bif decide ((x.trace.length:Int) >= 2000)then some (rC,-1)else some (A7 x)).bind _) _;rw[show (bif decide ((x.trace.length:Int) >= 2000)then some (rC,-1)else some (A7 x))=some (bif decide ((x.trace.length:Int) >= 2000)then (rC,-1)else A7 x) by cases decide ((x.trace.length:Int) >= 2000)<;>rfl,ak];dsimp only;generalize (bif decide ((x.trace.length:Int) >= 2000)then (rC,-1)else A7 x:aG×Int)=p;obtain⟨cmd,i⟩:=p;dsimp only;cases cmd.kind != (0:Int)with
 |false=>exact same
 | true=>
  rw[au,au,aF2 h,ak,aF3 C h];cases hm:wD x cmd i with
  |false=>exact same
  | true=>
   obtain⟨E,L,O,T⟩:=amF C h hm;rw[au,au,aFS E L O (λr T=>aaO h T),aFR E L O];exact⟨yF x cmd i,rfl,rfl,aFZ C E T L O,(Ck.iss C (Ck.of D) hm).ok⟩
def am6{x:ax}(U:eB x)(h:gE x=true){n:Int}(hn:n<fH x.config.aE):Jn (T0 x n) (T2 x n):=by
 unfold T0 T2;by_cases L:n >= 0
 ·have C:=Ck.of h;have O:=eX.wC C.ar;have Y:=(Gf C.rk).1;have hl:=O.cells;have hb:=oa x.config.aE;obtain⟨j,rfl⟩:=gY L;have T:j<x.array.cells.length:=by omega
  have D:=O.syms _ (cU T);have Z:=TK D;have E:eX x.config.aE 100000 ⟨x.array.cells.set j (pq x.array.cells[j]),x.array.bz,x.array.bu⟩:=O.MK _ (aaJ D);have p:=iS.of C.pa;have iA:=(Ek.of C.er).l;rw[aW L,au,au,amn T D,ak,amm T D,ak];dsimp only;rw[amt (c:=rm x j (pq x.array.cells[j])) C.er ⟨by omega,by omega⟩ Z,ak,ams (c:=rm x j (pq x.array.cells[j])) C.er ⟨by omega,by omega⟩ Z,ak];dsimp only;obtain⟨z1,z2,z3,z5,z6,z7,z8,z9,jc,lR,mC,ot,ny,pg⟩:=U;have It:eB (rm x j (pq x.array.cells[j])):=⟨z1,z2,z3,A3 E,z6,z7,z8,z9,jc,lR,mC,ot,ny,pg⟩
  have hc1:Ck (rm x j (pq x.array.cells[j])):=⟨C.f1,C.f2,C.nw,C.rk,C.rd,DH Y E,C.sp,C.se,C.rf,(show iS (rm x j (pq x.array.cells[j]))from ⟨p.dl,p.tl,p.gl,p.t,p.g,p.pd,p.u⟩).ok,C.qu,C.sh,C.sl,C.dr,C.pw,C.ps,C.si,C.s1,C.s2,C.s3,C.er,C.tr,C.rp⟩
  unfold DF;by_cases e:ke x.array.cells[j]=0
  ·rw[e];exact aa7 It hc1.ok
  ·rw[fO e,au];have he:=amO (l:=x.errors) C.er (n:=(j:Int)) ⟨by omega,by omega⟩ (code:=ke x.array.cells[j]) (by omega);have hle:=amC (l:=x.errors) (j:Int) (ke x.array.cells[j]);exact aa7 (x:=M6 (rm x j (pq x.array.cells[j])) (rz x.errors (j:Int) (ke x.array.cells[j]))) ⟨z1,z2,z3,A3 E,z6,z7,z8,z9,jc,lR,mC,by show (rz x.errors (j:Int) (ke x.array.cells[j])).length<=_;omega,ny,pg⟩ (Ck.ok ⟨C.f1,C.f2,C.nw,C.rk,C.rd,DH Y E,C.sp,C.se,C.rf,(show iS (M6 (rm x j (pq x.array.cells[j])) (rz x.errors (j:Int) (ke x.array.cells[j])))from ⟨p.dl,p.tl,p.gl,p.t,p.g,p.pd,p.u⟩).ok,C.qu,C.sh,C.sl,C.dr,C.pw,C.ps,C.si,C.s1,C.s2,C.s3,he,C.tr,C.rp⟩)
 ·rw[aU L,aq,aq];exact aa7 U h
def am7{c:ax}(Y:eB c)(Z:gE c=true):Jn (T4 c) (T3 c):=by
 have h:=Ck.of Z;obtain⟨C,z2,z3,z5,z6,z7,z8,z9,jc,lR,mC,ot,ny,pg⟩:=Y;have p:=iS.of h.pa;have hb:=oa c.config.aE;have hLp:1<=fH c.config.aE:=by
  have:=bJ.1 h.s3;rw[aO (n:=fH c.config.aE-1)]at this;omega
 have w2:c.box.next.weights.length<=1048576:=C.2
 obtain⟨n,d1,e1⟩:=aGT c.queue true (by omega);obtain⟨d,d2,e2,D⟩:=aGU h.dr n;have e3:CF (oy c c.box c.shares d c.aZ c.cK)=some (wo (oy c c.box c.shares d c.aZ c.cK)):=alU (c:=oy c c.box c.shares d c.aZ c.cK) h.rf;have d3:Au (oy c c.box c.shares d c.aZ c.cK)=some (wo (oy c c.box c.shares d c.aZ c.cK)):=alT (c:=oy c c.box c.shares d c.aZ c.cK) h.rf;obtain⟨pw,d4,e4,OS,B0,hp3⟩:=aGV h.pw (wo (oy c c.box c.shares d c.aZ c.cK));obtain⟨t,d5,e5⟩:=aGW c.box C ((c.queue.length:Int)==(0:Int));obtain⟨u,m,O,T,UR,qF,hu3,U⟩:=aGY h.s1 h.s2 h.s3 ⟨hLp,by omega⟩;have key:∀ (b:gJ) (s:aa bV) (d:gB),AQ b->o9 c.config b.bI=true->o9 c.config b.next=true->iQ s=true->(s.length:Int)=4->oZ d=true->eB (oy c b s d pw u)/\gE (oy c b s d pw u)=true:=λb s d oM gK hb3 UL hs2 D=>
  ⟨⟨oM,z2,z3,z5,z6,z7,z8,z9,jc,lR,by show s.length<=_;omega,ot,ny,pg⟩,Ck.ok ⟨gK,hb3,h.nw,h.rk,h.rd,h.ar,h.sp,h.se,h.rf,(show iS (oy c b s d pw u)from ⟨p.dl,p.tl,p.gl,p.t,p.g,p.pd,p.u⟩).ok,h.qu,UL,hs2,D,OS,B0.trans h.ps,by show pw.since<=c.now;rw[hp3];exact h.si,UR,qF,hu3,h.er,h.tr,h.rp⟩⟩
 unfold T4 T3;rw[d1,ak,d2,ak,d3,ak,d4,ak,d5,ak,e1,ak,e2,ak,e3,ak,e4,ak,e5,ak];dsimp only;cases t with
 | false=>
  rw[aq,aq,aq,Ml,ak,T,ak,Mk,ak,O,ak];obtain⟨E,L⟩:=key c.box c.shares d C h.f1 h.f2 h.sh h.sl D;exact am6 E L U
 | true=>
  obtain⟨l,t2,d7,e7,qC,ku,TS⟩:=aGX (p:=c.box.next) (by omega) h.f2;rw[au,au,au];dsimp only;rw[e7,ak,Ml,ak,T,ak,d7,ak,Mk,ak,O,ak];obtain⟨E,L⟩:=key ⟨c.box.next,c.box.next,false⟩ l ⟨false,c.box.next.low,c.box.next.high⟩ ⟨C.2,C.2⟩ h.f2 h.f2 qC ku TS;exact am6 E L U
def aGZ{c:ax}(C:eB c)(D:gE c=true):Jn (AA c) (K9 c):=by
 have h:=Ck.of D;have p:=iS.of h.pa;have hnw:=bJ.1 h.nw;have w1:c.box.bI.weights.length<=1048576:=C.1.1;have hi:=aGM (p:=c.box.bI) (by omega) h.f1;unfold AA K9;rw[MQ c C,ak,Te c C,ak,D,bC,aq];by_cases Z:c.now=1000000
 ·rw[aW (show c.now >= 1000000 by omega),au,Z];exact⟨c,rfl,rfl,C,D⟩
 rw[kU Z,aq,aU (show ¬ c.now >= 1000000 by omega),aq];have e1:W6 (c.now+1)=c.now+1:=aO;show Jn (bif (c.bq.aZ != (2:Int))then (LG c.aP c.config.interval).bind λE=>(FI c.config.aE c.array (1:Int)).bind λL=>T4 (dm (sL (uU c (W6 (c.now+1))) E) L)else T4 (uU c (W6 (c.now+1)))) (bif (c.bq.aZ != (2:Int))then (K6 (uU c (W6 (c.now+1))) c.config.interval).bind λE=>(K8 E.2.1 (1:Int)).bind λL=>T3 L.2.1 else T3 (uU c (W6 (c.now+1))));rw[e1];obtain⟨z1,z2,z3,z5,z6,z7,z8,z9,jc,lR,mC,ot,ny,pg⟩:=C;have key:∀ (r:de) (a:cZ),fB r=true->r.aH.length=c.aP.aH.length->mz c.config.aE a=true->eB (dm (sL (uU c (c.now+1)) r) a)/\gE (dm (sL (uU c (c.now+1)) r) a)=true:=λr a O T ha=>by
  refine⟨⟨z1,z2,z3,A3 (eX.wC ha),z6,by have:=z7;unfold v9 at this ⊢;show r.aH.length<=_;omega,z8,z9,jc,lR,mC,ot,ny,pg⟩,Ck.ok ⟨h.f1,h.f2,bJ.2 ⟨by show 0<=c.now+1;omega,by show c.now+1<=_;omega⟩,h.rk,h.rd,ha,h.sp,h.se,O,(show iS (dm (sL (uU c (c.now+1)) r) a)from ⟨by show (r.aH.length:Int)=_;rw[T];exact p.dl,p.tl,p.gl,p.t,p.g,p.pd,p.u⟩).ok,h.qu,h.sh,h.sl,h.dr,h.pw,h.ps,by show c.aZ.since<=c.now+1;have:=h.si;omega,h.s1,h.s2,h.s3,h.er,h.tr,h.rp⟩⟩
 cases c.bq.aZ != (2:Int)with
 | true=>
  obtain⟨O,T⟩:=aGN h.rf hi;obtain⟨U,Y⟩:=key _ _ O T (aGQ h.ar);rw[au,au,aGO h.rf hi,ak,aGR h.ar,ak,aGP (c:=uU c (c.now+1)) h.rf hi,ak];dsimp only;rw[aGS (c:=sL (uU c (c.now+1)) (A8 (uU c (c.now+1)).aP c.config.interval)) h.ar,ak];exact am7 U Y
 | false=>
  obtain⟨U,Y⟩:=key c.aP c.array h.rf rfl h.ar;exact am7 (c:=uU c (c.now+1)) U Y
def aa8{c:ax}(D:eB c)(E:gE c=true):AA c=some (iT c)/\K9 c=some ((),(iT c,()))/\eB (iT c)/\gE (iT c)=true:=by
 obtain⟨y,C,L,O,T⟩:=aGZ D E;have U:iT c=y:=by unfold iT;rw[C];rfl
 rw[U];exact⟨C,L,O,T⟩
def aa9{c:ax}(D:eB c)(E:gE c=true)(n:Nat):eB (yI c n)/\gE (yI c n)=true:=by
 induction n with
 |zero=>exact⟨D,E⟩
 | succ n C=>
  obtain⟨_,_,L,O⟩:=aa8 C.1 C.2;exact⟨L,O⟩
def aG0{c:ax}(C:eB c)(D:gE c=true){n:Nat}(U:n<=5000):AB c (n:Int)=some (yI c n):=by
 have E:aL (n:Int) 0 5000=true:=bJ.2 ⟨by omega,by omega⟩;unfold AB bh;rw[MQ c C,ak];generalize (⟨⟨⟨(0:Int),(0:Int),(0:Int),(0:Int)⟩,⟨(0:Int),(0:Int),(0:Int),(0:Int),(0:Int),(0:Int),(0:Int),(0:Int),(0:Int),(0:Int),(0:Int),(0:Int),(0:Int),(0:Int),(0:Int),(0:Int),(0:Int)⟩,⟨(0:Int),false⟩,(0:Int),(0:Int),(0:Int),⟨(0:Int),(0:Int)⟩⟩,_,_,_,_,_,_,_,_,_,_,_,_,_,_,_,_,_,_⟩:ax)=Z;have e:=cA (step:=tY) n (λi=>(((n:Int),(),(),(i:Int),()),(Z,yI c i,()))) (.inl (((),(),()),(Z,yI c n,()))) aR (λk Y=>by
  obtain⟨L,O⟩:=aa9 C D k;obtain⟨T,_⟩:=aa8 L O;unfold tY av xG;dsimp only;rw[aW (show (k:Int)<(n:Int) by omega),au,dB,ak,E,au,T,ak,bB];rfl) (by
  unfold tY av xG;dsimp only;rw[aU (show ¬ (n:Int)<(n:Int) by omega),aq]) (bO)
 rw[cu]at e;exact(aY (λo=>Option.bind o _) e).trans rfl
def am8{c:ax}(D:eB c){n:Int}(h:gE c=false\/aL n 0 5000=false):AB c n=some c:=by
 unfold AB bh;rw[MQ c D,ak];generalize (⟨⟨⟨(0:Int),(0:Int),(0:Int),(0:Int)⟩,⟨(0:Int),(0:Int),(0:Int),(0:Int),(0:Int),(0:Int),(0:Int),(0:Int),(0:Int),(0:Int),(0:Int),(0:Int),(0:Int),(0:Int),(0:Int),(0:Int),(0:Int)⟩,⟨(0:Int),false⟩,(0:Int),(0:Int),(0:Int),⟨(0:Int),(0:Int)⟩⟩,_,_,_,_,_,_,_,_,_,_,_,_,_,_,_,_,_,_⟩:ax)=Z;cases C:aL n 0 5000 with
 | false=>
  have e:iter tY aR ((n,(),(),(0:Int),()),(Z,c,()))=some (.inl (((),(),()),(Z,c,()))):=by
   refine cA (step:=tY) 0 (λ_=>((n,(),(),(0:Int),()),(Z,c,()))) _ aR (λk E=>by omega) ?_ (bO)
   unfold tY av xG;dsimp only;rw[dB,ak,C,aq];cases decide ((0:Int)<n)<;>rfl
  exact(aY (λo=>Option.bind o _) e).trans rfl
 | true=>
  have E:gE c=false:=by rcases h with h|h;exact h;rw[C]at h;cases h
  have b:=bJ.1 C;obtain⟨n,rfl⟩:=gY b.1;have L:AA c=some c:=by
   unfold AA;rw[MQ c D,ak,Te c D,ak,E];rfl
  have e:=cA (step:=tY) n (λi=>(((n:Int),(),(),(i:Int),()),(Z,c,()))) (.inl (((),(),()),(Z,c,()))) aR (λk O=>by
   unfold tY av xG;dsimp only;rw[aW (show (k:Int)<(n:Int) by omega),au,dB,ak,C,au,L,ak,bB]) (by
   unfold tY av xG;dsimp only;rw[aU (show ¬ (n:Int)<(n:Int) by omega),aq]) (bO)
  rw[cu]at e;exact(aY (λo=>Option.bind o _) e).trans rfl
def aG1{c:ax}(C:eB c)(n:Int):∃ y,AB c n=some y/\Fj c n=some y/\eB y:=by
 cases D:gE c with
 | false=>
  refine⟨c,am8 C (.inl D),?_,C⟩;unfold Fj bh;rw[Tf c C,ak,aab c C,ak,D];rfl
 |true=>
 cases E:aL n 0 5000 with
 | false=>
  refine⟨c,am8 C (.inr E),?_,C⟩;unfold Fj bh;rw[Tf c C,ak,aab c C,ak,D,bC,aq,eA,ak,E];rfl
 | true=>
  have T:=bJ.1 E;obtain⟨n,rfl⟩:=gY T.1;obtain⟨L,O⟩:=aa9 C D n;refine⟨yI c n,aG0 C D (by omega),?_,L⟩;unfold Fj bh;rw[Tf c C,ak,aab c C,ak,D,bC,aq,eA,ak,E,bC,aq];generalize (⟨⟨⟨(0:Int),(0:Int),(0:Int),(0:Int)⟩,⟨(0:Int),(0:Int),(0:Int),(0:Int),(0:Int),(0:Int),(0:Int),(0:Int),(0:Int),(0:Int),(0:Int),(0:Int),(0:Int),(0:Int),(0:Int),(0:Int),(0:Int)⟩,⟨(0:Int),false⟩,(0:Int),(0:Int),(0:Int),⟨(0:Int),(0:Int)⟩⟩,_,_,_,_,_,_,_,_,_,_,_,_,_,_,_,_,_,_⟩:ax)=Z;have e:=cA (step:=Lb) n (λi=>(((n:Int),(),(),(i:Int),()),(Z,yI c i,()))) (.inl (((),(),()),(Z,yI c n,()))) aR (λk Y=>by
   obtain⟨L,O⟩:=aa9 C D k;obtain⟨_,U,_⟩:=aa8 L O;unfold Lb av xG;dsimp only;rw[aW (show (k:Int)<(n:Int) by omega),au,U,ak,bB];rfl) (by
   unfold Lb av xG;dsimp only;rw[aU (show ¬ (n:Int)<(n:Int) by omega),aq]) (bO)
  rw[cu]at e
  refine(aY (λo=>Option.bind o _) e).trans ?_
  rw[ak];simp only[eJ];rw[Tf _ L];rfl
def aG2(c:ax)(n:Int)(L:MM c):Y8 c n=some true:=by
 unfold Y8;obtain⟨y,e,h|⟨h1,h2,C⟩⟩:=aD0 c L (n:=1048576) (by omega) (by omega)
 ·rw[e,ak,aW h];rfl
 ·obtain⟨d,O,T,D⟩:=aG1 C n;rw[e,ak,aU,aq];simp only[aD1 c C,O,T,alC c C,alC _ D,ak,bC,aq]
  refine alK c C _ _ λU Y Z r3 r4 r5 r6 r7 r8 r9 um uq ur uv uw uy uz Z2 hk E=>?_
  rw[aU,aq]
  refine alK d D _ _ λU Y Z r3 r4 r5 r6 r7 r8 r9 um uq ur uv uw uy uz Z2 hk E=>?_
  rw[E];simp only[ak];rw[aU,aq,dV,aq];rfl
def aG3{w:World}{E:aa V}{us:Array Value}(h:bN w w.heap.size E us.toList)(n:Int):oN w [(true,E),(false,[.int .i64 n])] #[.agg us,.int .i64 n]:=by
 refine⟨rfl,λi p C=>?_⟩
 rcases i with _|_|i
 ·cases C
  refine⟨_,rfl,.v _ _ ⟨us,rfl,by simpa using h.1,λj x D=>?_⟩⟩
  obtain⟨u,L,O⟩:=h.2 j x D;exact⟨u,by simpa using L,O _⟩
 ·cases C;exact⟨.int .i64 n,rfl,.v _ _ ⟨#[.int .i64 n],rfl,rfl,λj x D=>by rcases j with _|j<;>cases D;exact⟨.int .i64 n,rfl,.int _ _ _⟩⟩⟩
 ·cases C
def aG4(C D:Value)(w:World)(E:Xo .cN MM w C)(L:abd w D):Calls Tryz.prog 4 #[C,D] w λe w'=>e = .returned (.bool true)/\Below w.heap.size w w':=by
 obtain⟨x,O,us,rfl,T⟩:=E;obtain⟨n,rfl,_,_⟩:=L;exact arx aAp (ary (ai:=[(true,.cN),(false,.int)]) (x:=(x,n,())) (by kernel_rfl) (aG2 x n O)) (aG3 T n)
end Go.Proofs.YtnilicojgkhpnaaGreat
