/-
  Plain laws. Nothing here is a claim.
-/
import Derived.Test.YtgjfmljpdnnihaaGreatPYSafeRuns
namespace Go.Proofs.YtgjfmljpdnnihaaGreat
set_option linter.defProp false
open Go.RowKit
set_option linter.unusedVariables false
set_option linter.unusedSimpArgs false
set_option maxRecDepth 100000
def eH(c:ax)(x:aR)(i:Int):ax:=
 bif x.kind==1 then xX (cR c x) x else
 bif x.kind==5 then I3 (cR c x) x.aA else
 bif x.kind==2 ||x.kind==3 then jW (cR c x) i.toNat else
 bif x.kind==4 then cR c x else
 bif x.kind==9 then iy (Cw (cR c x) 9) c.bE.length []else Cw (cR c x) x.kind
structure Bs (c:ax):Prop where
 w:vF 100000 c
 u:Ct c.pending
 pk:∀a∈c.pending,0<=a.aA/\a.aA<aL c.config.ak
 zt:∀t∈c.bE,mE t
 rf:fj c.aE=true
 bl:(c.aS.aD.length:Int)=aL c.config.ak
 l1:c.ready.last.length<1073741824
 l2:c.ready.aX.length<1073741824
 tl:c.trace.length<10000
def Bs.cR{c:ax}(h:Bs c)(x:aR):vF 100000 (cR c x):=⟨h.w.hB,h.w.g,h.w.a,h.w.k,h.w.p,h.w.t,h.w.d,h.w.r⟩
def qg.cR{c:ax}{n:Nat}{B:Int}(h:qg c n B)(x:aR):qg (cR c x) n B:=⟨h.ad,h.tn,h.ql,h.sh,h.shl,h.u,h.i,h.d,h.a,h.e,h.r⟩
def arI{c:ax}(h:vF 100000 c):iter xE br (((),(c.bE.length:Int),(0:Int),()),((⟨c.config,c.box,c.now,c.aS,c.ready,c.array,c.spare,c.aE,c.bE,c.guard,([]:aa aN),c.queue,c.shares,c.drain,c.aU,c.dD,c.errors,c.trace,c.cx⟩:ax),()))=some (.inl ((),(iy c c.bE.length [],()))):=arp h
def N3{g:aF}{x:aR}(h:cQ g x=true)(C:x.kind=1):0 <= x.row/\x.row<g.rows:=by
 simp[cQ,aJ]at h;have D:=h.2.2.2.1;rw[uj,C,show ((1:Int)==1)=true from rfl,aq,bh]at D;omega
def arJ{c:ax}(h:Bs c){x:aR}(E:kB c.config.ak c.aS x=true){i:Int}(I:x.kind=2 \/ x.kind=3 -> qg c i.toNat 100000/\0 <= i):HW c x i=some ((),(eH c x i,())):=by
 have⟨hg,hlen,O,hb⟩:=Cd E;have T:cQ c.config.ak x=true:=by
  simp only[kB,aJ]at E
  grind
 have b1:=ef c.config.ak;have w:=h.cR x;have ht:=h.w.t;have hd:=h.w.d;have hr:=h.w.r;have ES:=h.tl;have er:xz c.config.ak c.aS x=some (dx c.aS x,true):=by
  rw[Ua _ _ _ (by omega)];unfold EB;simp_all
 unfold HW eH bQ;rw[fe (by simp;omega),aq,adJ _ _ _ h.l1 h.l2,au,er,au];rcases kinds O with q|q|q|q|q|q|q|q|q<;>rw[q]<;>simp only[Int.reduceBEq,Int.reduceBNe,aq,av,Bool.or_true,Bool.or_false,Bool.true_or,Bool.false_or,Bool.or_self]
 ·have⟨C,U⟩:=hb (by omega);have⟨Y,Z⟩:=N3 T q
  refine(bx (λo=>Option.bind o _) (arn (c:=cR c x) x w.g w.a w.p h.zt C (by show x.aA<aL c.config.ak;omega) Y Z (by show x.aA.toNat<c.bE.length;omega) (by show x.aA.toNat<c.guard.length;omega))).trans ?_
  rfl
 ·have⟨s,D⟩:=I (.inl q);have e:=aeC (s.cR x);rw[Int.toNat_of_nonneg D]at e
  refine(bx (λo=>Option.bind o _) e).trans ?_
  rfl
 ·have⟨s,D⟩:=I (.inr q);have e:=aeC (s.cR x);rw[Int.toNat_of_nonneg D]at e
  refine(bx (λo=>Option.bind o _) e).trans ?_
  rfl
 ·rfl
 ·have⟨C,U⟩:=hb (by omega);have⟨y,e4⟩:=arc h.rf (b:=x.aA) C (by omega)
  refine(bx (λo=>Option.bind o _) (aet w.hB (cR c x) w.g w.a C (by show x.aA<aL c.config.ak;omega))).trans ?_
  rw[au];unfold dO;dsimp only;rw[ari _ _ (by show c.pending.length<1000000;have:=h.w.p;omega),au];dsimp only
  refine(bx (λo=>Option.bind o _) (aeu _ (by exact w.k) C (by show x.aA.toNat<c.bE.length;omega) (by show x.aA.toNat<c.guard.length;omega))).trans ?_
  rw[au];unfold vD;dsimp only
  refine(bx (λo=>Option.bind o _) e4).trans ?_
  rfl
 ·have⟨y,e⟩:=NQ c.aU (k:=6) (by omega) c.now;rw[e,au];rfl
 ·have⟨y,e⟩:=NQ c.aU (k:=7) (by omega) c.now;rw[e,au];rfl
 ·have⟨y,e⟩:=NQ c.aU (k:=8) (by omega) c.now;rw[e,au];rfl
 ·have⟨y,e⟩:=NQ c.aU (k:=9) (by omega) c.now;rw[e,au]
  refine(bx (λo=>Option.bind o _) (arI (c:=Cw (cR c x) 9) ⟨w.hB,w.g,w.a,w.k,w.p,w.t,w.d,w.r⟩)).trans ?_
  rfl
def arK{l m:aa Int}(h:l.length=m.length)(D:(l.zip m).all xJ=true):(∀ x∈l,0 <= x/\x <= 100000) /\ ∀ x∈m,0 <= x/\x <= 100000:=by
 rw[bN]at D;have key:∀ i _ (E:i<m.length),(0 <= l[i]/\l[i] <= 100000)/\(0 <= m[i]/\m[i] <= 100000):=λi O E=>by
  have I:i<(l.zip m).length:=by rw[List.length_zip];omega
  have:=D _ (dg I);rw[List.getElem_zip]at this;simp[xJ,aJ,bh]at this;exact this
 constructor
 ·intro x C;obtain⟨i,hi,rfl⟩:=jf.1 C
  grind
 ·intro x C;obtain⟨i,hi,rfl⟩:=jf.1 C;simp_all
def eA.ri{g:aF}{a:cN}(h:lM g a=true):eA g 100000 a:=by
 simp only[lM,aJ,fI]at h;have⟨Z,C,D,E,I,O⟩:=h;have⟨T,U⟩:=arK (by omega) O
 refine⟨C,λc Y=>?_,D,E,T,U⟩
 exact Sy.of (bN.1 I c Y)
def Bs.of{c:ax}(D:cB c)(h:cy c=true)(I:c.trace.length<10000):Bs c:=by
 have E:=Pq.of D h;have z1:c.box.bS.weights.length <= 1048576:=D.1.1;have h0:=h;simp only[cy,aJ]at h;have⟨O,h2,h3,h4,T,U,h7,h8,C,Ce,xO,o9,oH,uk,vz,pJ,Ai,Cm,Cn,EK,zR,EL⟩:=h;have⟨f1,f2⟩:=Au (by omega) O;simp only[pX,aJ]at f1;simp only[sH,aJ,fl,fH,oQ,bN,fA]at C;have⟨C,Y,Z,g3,g4,g5,g6⟩:=C;have yx:=E.pl;have⟨hg,rl,ra⟩:=ED T;have b1:=ef c.config.ak
 refine⟨⟨by decide,hg,eA.ri U,f1.2.2.2.2.2.1,by omega,Z,g3,Y⟩,λi hi=>?_,λa ha=>?_,D.2.2.2.2.2.2.1.2,C,E.p.bl,by omega,by omega,I⟩
 ·have hb:=g6 i hi;unfold Af at hb
  grind
 ·have⟨_,k1,k2,_⟩:=sE (E.pe a ha);simp_all
def qg.of{c:ax}(O:cB c)(h:cy c=true){n:Nat}(T:n<c.queue.length)(C:c.cx.length <= 1000):qg c n 100000:=by
 have D:=Pq.of O h;simp[cy,aJ]at h;have⟨Z,h2,h3,h4,h5,U,h7,h8,h9,E,xO,o9,oH,uk,vz,pJ,Ai,Cm,Cn,Y,zR,EL⟩:=h;simp[gK,aJ,bN,fA]at E;have⟨I,q2⟩:=E
 refine⟨λr C=>NX D C,λr C=>(D.q r C).2.1,D.ql,D.sh,D.shl,λi hi=>?_,T,λr C=>?_,eA.ri U,Y,C⟩
 ·cases i with
  |zero=>simp
  | succ i=>
   have hb:=I _ hi;rw[Ni hi]at hb;simp_all
 ·obtain⟨i,hi,rfl⟩:=jf.1 C;have hb:=I i hi;unfold ug at hb;rw[bH hi]at hb;simp[uf,T2,aJ,bh]at hb;simp_all
def vH{g:aF}{B:Int}{a:cN}(h:eA g B a):Ny a:=by
 have D:=h.cells;have E:=h.bq;have I:=h.aY;have O:=oF g;have T:=sD g;exact⟨⟨by omega,λc C=>by unfold Um;rw[(h.syms c C).1];omega⟩,by omega,by omega⟩
def UY{l:aa cK}(h:l.length <= 1048576 /\ ∀y∈l,mE y){t:cK}(C:mE t)(i:Nat):(l.set i t).length <= 1048576 /\ ∀y∈l.set i t,mE y:=by grind
def aeE{k:Int}(h:aQ k 1 16=true):mE (oJ k):=by
 have:=bh.1 h;unfold oJ mE
 grind
def arL{t:cK}(h:mE t)(row cD:Int):mE (nQ t row cD).1:=by
 have hl:=aeo (t:=t) row;unfold mE at h ⊢;unfold nQ
 grind
def arM{c:ax}(E:cB c)(I:c.ready.aX.length <= 4)(ht:c.trace.length <= 10000)(x:aR):cB (cR c x):=by
 have⟨O,C,⟨T,z4⟩,U,Y,Z,z8,z9,jQ,kU,lP,ku,lQ,nN⟩:=E;have D:=Uk c.config.ak c.ready ⟨c.now,x⟩;refine⟨O,by unfold ad5 at C ⊢;show (dx _ x).aD.length <= _;rw[adE];exact C,⟨by show (gL _ _ _).last.length <= _;rw[D.1];exact T,Nat.le_trans (D.2 I) (by decide)⟩,U,Y,Z,z8,z9,jQ,kU,lP,ku,by simp[cR];omega,nN⟩
def N4{c:ax}(D:cB c){a:cN}(E:Ny a){r:dB}(I:Cj r){t:aa cK}(O:t.length <= 1048576 /\ ∀ y∈t,mE y){C:aa Int}(T:C.length <= 1048576){pd:aa aN}(U:pd.length <= 1048576)(pw:iG):cB ⟨c.config,c.box,c.now,c.aS,c.ready,a,c.spare,r,t,C,pd,c.queue,c.shares,c.drain,pw,c.dD,c.errors,c.trace,c.cx⟩:=by
 have⟨Y,Z,z3,z5,z6,z7,z8,z9,jQ,kU,lP,ku,lQ,nN⟩:=D;exact⟨Y,Z,z3,E,z6,I,O,T,U,kU,lP,ku,lQ,nN⟩
def arN{c:ax}(C:cB c)(h:vF 100000 c)(x:aR)(D:0 <= x.aA)(E:x.aA<aL c.config.ak)(I:0 <= x.row)(O:x.row<c.config.ak.rows):cB (xX c x):=by
 have zt:=C.2.2.2.2.2.2.1;have hb:x.aA.toNat<c.bE.length:=by have:=h.t;omega
 have T:=h.p;refine N4 C (vH (Ux h.g _ h.hB h.a D E I O)) C.2.2.2.2.2.1 (UY zt ?_ _) C.2.2.2.2.2.2.2.1 ?_ _
 ·unfold xW;rw[iw];exact arL (zt.2 _ (dg hb)) _ _
 ·have U:(sN c x).length <= c.pending.length:=List.length_filter_le _ _;have Y:=aes c.config.ak.rows x.row;have Z:=UM x.aA (gW c.config.ak.rows x.row) (sN c x)
  grind
def aeF(r:dB)(b:Int):(lT r b).aC.length=r.aC.length:=by
 unfold lT;cases decide (r.aC.getD b.toNat 0 = -2)<;>simp
def arO{c:ax}(C:cB c)(h:vF 100000 c){b:Int}(D:0 <= b)(E:b<aL c.config.ak):cB (I3 c b):=by
 have⟨_,_,_,_,I,O,T,U⟩:=fW h.g;have zt:=C.2.2.2.2.2.2.1;have Y:=h.p;have Z:=arl (λa:aN=>!(a.aA==b)) c.pending;exact N4 C (vH (IZ h.g _ h.hB h.a D E _ (by omega))) (by unfold Cj;rw[aeF];exact C.2.2.2.2.2.1) (UY zt (aeE h.k) _) (by show (c.guard.set _ _).length <= _;rw[iS];exact C.2.2.2.2.2.2.2.1) (by show (c.pending.filter _).length <= _;omega) _
def aeG{l:aa cK}(h:l.length<=1048576/\∀ y∈l,mE y){t:cK}(C:mE t):∀ k:Nat,((List.range k).foldl (λd b=>d.set b t) l).length<=1048576/\∀ y∈(List.range k).foldl (λd b=>d.set b t) l,mE y
 |0=>h
 |k+1=>by rw[oK];exact UY (aeG h C k) C k
def arP{c:ax}(C:cB c)(h:vF 100000 c)(k:Nat)(D:(k:Int)<=aL c.config.ak):cB (iy c k []):=
 N4 C (vH (NS h.g c.config.dJ h.hB h.a k D)) (by unfold Cj;rw[vE];exact C.2.2.2.2.2.1) (aeG C.2.2.2.2.2.2.1 (aeE h.k) k) (by rw[vE];exact C.2.2.2.2.2.2.2.1) (by simp) c.aU
def aeH{l:aa cC}(n code:Int):(sQ l n code).length <= l.length+1:=by
 unfold sQ
 grind
def aeI{c:ax}(I:cB c){i:Nat}(h:qg c i 100000):cB (jW c i):=by
 have⟨O,T,U,z5,Y,Z,z8,z9,jQ,kU,lP,ku,lQ,nN⟩:=I;have hi:=h.i;have hql:=h.ql;have hr:=h.r;have⟨f1,f3,f4,f5,f6,f7,f8⟩:=h.facts (dg hi);have C:c.queue.getD i qe=c.queue[i]:=iw _ hi;have D:=h.d _ (dg hi);have R8:(Cv c.shares c.queue[i].eC).length <= 1048576:=by
  have⟨y,t,e,hl⟩:=UF ((List.replicate 4 false).set c.queue[i].eC.toNat true) (by have:=h.shl;omega) h.sh (by simp[h.shl])
  grind
 have ic:c.errors.length <= 6:=by
  have E:=h.e;simp only[nL,aJ,fI]at E;omega
 have key:∀ (a:cN) (e:aa cC) (x:fN),Ny a -> e.length <= 100 -> cB (qf c i a e x):=λa e x ha E=>
  ⟨O,T,U,ha,Y,Z,z8,z9,jQ,by simp[qf];omega,by unfold qf;rw[C];exact R8,by show e.length <= _;omega,lQ,by simp[qf];omega⟩
 unfold jW;rw[C];dsimp only;cases c.queue[i].write with
 |true=>exact key _ _ _ (vH (h.a.Ci _ (c:=⟨_,false⟩) (US D.1 D.2).2.1)) (by omega)
 | false=>
  rw[av,iw _ f4];refine key _ _ _ (vH (h.a.Ci _ (UQ (h.a.syms _ (dg f4))))) ?_;have:=aeH (l:=c.errors) (iP c.config.ak (iQ c c.queue[i].line):Int) (kF c.array.cells[iP c.config.ak (iQ c c.queue[i].line)]);cases kF c.array.cells[iP c.config.ak (iQ c c.queue[i].line)] != 0 with
  |true=>grind
  |false=>grind
def arQ{c:ax}(O:cB c)(h:Bs c)(T:c.ready.aX.length <= 4){x:aR}(E:kB c.config.ak c.aS x=true){i:Int}(I:x.kind=2 \/ x.kind=3 -> qg c i.toNat 100000/\0 <= i):cB (eH c x i):=by
 have⟨hg,hlen,U,hb⟩:=Cd E;have Y:cQ c.config.ak x=true:=by
  simp[kB,aJ]at E;simp_all
 have w:=h.cR x;have ht:=h.w.t;have ES:=h.tl;have z:=arM O T (by omega) x;have C:∀k,cB (Cw (cR c x) k):=λk=>N4 z z.2.2.2.1 z.2.2.2.2.2.1 z.2.2.2.2.2.2.1 z.2.2.2.2.2.2.2.1 z.2.2.2.2.2.2.2.2.1 _
 unfold eH;rcases kinds U with q|q|q|q|q|q|q|q|q<;>rw[q]<;>simp
 ·have⟨D,Z⟩:=hb (by omega);have⟨r0,r1⟩:=N3 Y q;exact arN z w x D (by show _<aL c.config.ak;omega) r0 r1
 ·exact aeI z ((I (.inl q)).1.cR x)
 ·exact aeI z ((I (.inr q)).1.cR x)
 ·exact z
 ·have⟨D,Z⟩:=hb (by omega);exact arO z w D (by show x.aA<aL c.config.ak;omega)
 ·exact C 6
 ·exact C 7
 ·exact C 8
 ·exact arP (C 9) ⟨w.hB,w.g,w.a,w.k,w.p,w.t,w.d,w.r⟩ _ (by show (c.bE.length:Int) <= aL c.config.ak;omega)
def sR(c:ax)(b:Int):Bool:=decide (c.aE.aC.getD b.toNat 0 >= 4)
def UZ(c:ax)(b:Int):Bool:=c.pending.any λa=>a.aA==b
def kV(c:ax)(i:Nat):aR:=oI c.aS (gX c i) (q9 c.queue i)
def arR(c:ax)(i:Nat):Bool:=decide (c.now-(yb c i).at_<c.box.bS.cap)
def oM(c:ax)(i:Nat):Bool:=
 oL c i&&(!sR c (gX c i).aA&&(c8 c (kV c i)&&(!(((kV c i).kind==1 ||(kV c i).kind==4)&&UZ c (gX c i).aA) && !((kV c i).kind==4&&(I2 c c.queue.length (gX c i).aA&&arR c i)))))
def U0{l:aa Int}{b:Int}(C:0 <= b)(h:b.toNat<l.length):∀ i:Nat,(((i:Int)+b)∈bP i l) ↔ l.getD b.toNat 0 >= 4:=by
 obtain⟨n,rfl⟩:=fk C;rw[bA]at *
 clear C
 induction l generalizing n with
 |nil=>simp at h
 | cons d l E=>
  intro i;have I:∀ x∈bP (i+1) l,(i:Int)+1 <= x:=λx D=>by
   have⟨j,O,_,_⟩:=aej D;omega
  have e:bP i (d::l)=bif decide (d >= 4)then (i:Int)::bP (i+1) l else bP (i+1) l:=rfl
  grind
def U1{c:ax}{b:Int}(hl:c.aE.aC.length <= 8)(C:0 <= b)(h:b.toNat<c.aE.aC.length):vl (bP 0 c.aE.aC) b=some (sR c b):=by
 have E:=UC 0 c.aE.aC;have D:=U0 C h 0;rw[cZ,Int.zero_add]at D;unfold vl;rw[Nl _ _ (by omega),au];congr 1;unfold sR iu
 grind
def aeJ{c:ax}(h:Pq c){i:Nat}(hi:i<c.queue.length):cQ c.config.ak (kV c i)=true:=aq7 _ (UW h hi).1
def Aw(c:ax):Nat->aa Bool
 |0=>List.replicate 4 false
 |k+1=>bif oM c k then (Aw c k).set (yb c k).eC.toNat true else Aw c k
def U2(c:ax):∀ k,(Aw c k).length=4
 |0=>rfl
 | k+1=>by
  have C:=U2 c k;show (bif oM c k then _ else _:aa Bool).length=4
  grind
def arS{c:ax}{U:aa Int}{T:aa aN}{Z:Int×Int×Int×Int×ah}{P:Int×Int×Int×Int×Int×(aa Int)×Int×Int×ah}{I hit eV wait:aa Bool}{hb:aa (Int×Bool)}{Y:aa aR}{k:Nat}{r:bg}{a:aN}{nd:aR}{ct rd ib:Bool}(hq:c.queue.length<=12)(hk:k<c.queue.length)(hr:c.queue[k]=r)(h2:k<T.length)(ha:T[k]=a)(h3:k<I.length)(C:k<eV.length)(h5:Y.length=k)(D:0<=r.eC)(E:r.eC.toNat<wait.length)(e1:BU c.aS a r.write=some nd)(e2:vl U a.aA=some ct)(e3:iN c nd=some rd)(e4:BR c.pending a.aA=some ib)(b1:0<=r.at_/\r.at_<=1000000)(b2:0<=c.now/\c.now<=1000000):
  BW ((U,T,(),(),(),(),(),(),(),(),(),c.queue,(c.queue.length:Int),(k:Int),()),(c,Z,P,I,hit,hb,Y,eV,wait,()))=some (.inl ((U,T,(),(),(),(),(),(),(),(),(),c.queue,(c.queue.length:Int),((k+1:Nat):Int),()),(c,Z,P,I,hit,hb,Y++[nd],eV.set k (I[k]&&(!ct&&(rd&&(!((nd.kind==1 ||nd.kind==4)&&ib) && !(nd.kind==4&&(l8 hb a.aA&&decide (c.now-r.at_<P.2.1))))))),(bif (I[k]&&(!ct&&(rd&&(!((nd.kind==1 ||nd.kind==4)&&ib) && !(nd.kind==4&&(l8 hb a.aA&&decide (c.now-r.at_<P.2.1)))))))then wait.set r.eC.toNat true else wait),()))):=by
 have hw:W6 (c.now-r.at_)=c.now-r.at_:=bf;unfold BW aK xG xI xL;dsimp only;rw[aZ,aq,aO ⟨by omega,by omega⟩,aO ⟨by omega,by omega⟩,aO ⟨by omega,by omega⟩];simp only[bA,hr,ha,e1,au,h5,List.length_singleton,fe (show k+1<1073741824 by omega),aq,e2,e3,e4,hw,bT (show k<4611686018427387904 by omega)];by_cases O:nd.kind=1
 ·have k4:(nd.kind==(4:Int))=false:=by rw[O];rfl
  have O:(nd.kind==(1:Int))=true:=by rw[O];rfl
  simp only[O,k4,aq,av,Bool.true_or,cP,Bool.false_and,Bool.not_false,Bool.and_true];rw[aO ⟨by omega,by omega⟩,aO];cases I[k]<;>cases ct<;>cases rd<;>cases ib<;>simp[C,D,E]
 ·have O:(nd.kind==(1:Int))=false:=by simpa using O
  simp only[O,av,Bool.false_or];rw[aO ⟨by omega,by omega⟩,aO];cases nd.kind==(4:Int)with
  |false=>cases I[k]<;>cases ct<;>cases rd<;>cases ib<;>simp[C,D,E]
  | true=>
   cases I[k]with
   |false=>simp[C,D,E]
   | true=>
    cases ct with
    |true=>simp[C,D,E]
    | false=>
     cases rd with
     |false=>simp[C,D,E]
     | true=>
      cases ib with
      |true=>simp[C,D,E]
      | false=>
       cases l8 hb a.aA with
       |false=>simp[C,D,E]
       | true=>
        by_cases hc:c.now-r.at_<P.2.1
        ·simp[C,D,E,hc]
        ·simp[C,D,E,hc]
def I4(y x:aR):Bool:=(y.kind==x.kind)&&((y.aA==x.aA)&&((y.row==x.row)&&((y.bX==x.bX)&&true)))
def I5(c:ax)(x:aR)(i:Int):Bool:=aQ i 0 ((c.queue.length:Int)-1)&&(decide ((c.cx.length:Int)<400)&&I4 (oI c.aS (iQ c (c.queue.getD i.toNat qe).line) (c.queue.getD i.toNat qe).write) x)
def mG(c:ax)(x:aR)(i:Int):Bool:=cQ c.config.ak x&&(c8 c x&&(!decide ((c.trace.length:Int) >= 2000)&&bif x.kind==2 ||x.kind==3 then I5 c x i else i == -1 ||aQ i 0 ((c.queue.length:Int)-1)))
def aeK{c:ax}(h:Pq c){i:Int}(hi:aQ i 0 ((c.queue.length:Int)-1)=true):∃ C:i.toNat<c.queue.length,0 <= i/\c.queue.getD i.toNat qe=c.queue[i.toNat]/\vm c c.queue[i.toNat].line=some (iQ c c.queue[i.toNat].line,true)/\BU c.aS (iQ c c.queue[i.toNat].line) c.queue[i.toNat].write=some (oI c.aS (iQ c c.queue[i.toNat].line) c.queue[i.toNat].write):=by
 have hb:=bh.1 hi;have C:i.toNat<c.queue.length:=by omega
 have⟨D,E⟩:=NX h (dg C);have⟨_,I,O,_⟩:=sE E;have T:=h.p.bl;have U:=ef c.config.ak;exact⟨C,hb.1,iw _ C,D,aem _ I (by omega) (by omega)⟩
def arT{c:ax}(T:cB c)(h:Pq c)(x:aR)(i:Int):sB c x i=bif mG c x i then (HW c x i).bind (λy=>some (y.2.1,true))else some (c,false):=by
 have Z:=h.ql;unfold sB mG xI;rw[IP c T,au,xQ c T,au,h.p.ok,bI,av];cases U:cQ c.config.ak x with
 | false=>
  have e:iN c x=some false:=by
   unfold iN;rw[T9,U,Bool.false_and,Bool.and_false];rfl
  rw[e];rfl
 |true=>
 rw[xS h.p U,au];cases c8 c x with
 |false=>rfl
 |true=>
 rw[bI,av];cases decide ((c.trace.length:Int) >= 2000)with
 |true=>rfl
 |false=>
 rw[av,cP,cP,Bool.not_false,cP,cI,bf (n:=(c.queue.length:Int)-1),au];unfold I5;cases hi:aQ i 0 ((c.queue.length:Int)-1)with
 | true=>
  have⟨C,D,Y,f1,f3⟩:=aeK h hi;rw[gU (show ¬ i = -1 by omega),bI,av,aq,av,cP,Bool.or_true,Y];by_cases E:x.kind=2
  ·rw[show (x.kind==2)=true by rw[E];rfl,aq,Bool.true_or,aq];by_cases I:(c.cx.length:Int)<400
   ·rw[aZ I,bu (show ¬ (c.cx.length:Int) >= 400 by omega),av,aO ⟨D,C⟩];dsimp only;rw[f1,au,aO ⟨D,C⟩,f3,au];unfold I4
    grind
   ·grind
  ·rw[kS E,av,Bool.false_or];by_cases O:x.kind=3
   ·rw[show (x.kind==3)=true by rw[O];rfl,aq,aq];by_cases I:(c.cx.length:Int)<400
    ·rw[aZ I,bu (show ¬ (c.cx.length:Int) >= 400 by omega),av,aO ⟨D,C⟩];dsimp only;rw[f1,au,aO ⟨D,C⟩,f3,au];unfold I4
     grind
    ·grind
   ·grind
 | false=>
  rw[Bool.false_and,Bool.not_false,aq,Bool.or_false];by_cases E:x.kind=2
  ·simp_all
  ·rw[kS E,av,Bool.false_or];by_cases O:x.kind=3
   ·simp_all
   ·rw[kS O,av,av];by_cases e:i = -1
    ·simp_all
    ·grind
def I6{c:ax}(D:cB c)(h:Pq c){x:aR}{i:Int}(E:mG c x i=true):Bs c/\kB c.config.ak c.aS x=true/\(x.kind=2 \/ x.kind=3 -> qg c i.toNat 100000/\0 <= i)/\c.ready.aX.length <= 4:=by
 simp only[mG,aJ,fH,oQ]at E;have⟨O,I,Z,C⟩:=E;simp[c8,aJ]at I
 refine⟨Bs.of D h.p.ok (by omega),?_,λT=>?_,(ED h.p.UB).2.2⟩
 ·unfold kB;rw[h.p.rk,O,I.1];rfl
 ·have e:(x.kind==2 || x.kind==3)=true:=by rcases T with q | q <;>rw[q] <;>rfl
  rw[e,aq]at C;simp[I5,aJ,fI]at C;have⟨U,Y,_⟩:=aeK h C.1;exact⟨qg.of D h.p.ok U (by omega),Y⟩
structure Ck (c:ax):Prop where
 f1:m8 c.config c.box.bS=true
 f2:m8 c.config c.box.next=true
 nw:aQ c.now 0 1000000=true
 rk:kA c.config.ak c.aS=true
 rd:jU c.config.ak c.ready=true
 ar:lM c.config.ak c.array=true
 sp:mC c.config.ak c.spare=true
 se:c.spare.bR=c.config.bR
 rf:fj c.aE=true
 pa:sH c=true
 qu:gK (eK (fP c.config.ak c.spare)) c.queue=true
 sh:kz c.shares=true
 sl:(c.shares.length:Int)=4
 dr:p6 c.drain=true
 pw:lN c.aU=true
 ps:c.aU.state=c.aS.aU
 si:c.aU.since<=c.now
 s1:aQ c.dD.every 1 100000=true
 s2:aQ c.dD.wait 1 c.dD.every=true
 s3:aQ c.dD.next 0 (W6 (eK c.config.ak-1))=true
 er:nL c.errors=true
 tr:c.trace.length<=2000
 rp:c.cx.length<=400
def Ck.of{c:ax}(h:cy c=true):Ck c:=by
 simp[cy,aJ,fl,fI,fH,oQ]at h;have⟨C,D,E,I,O,T,U,Y,⟨Z,h9'⟩,Ce,xO,o9,oH,uk,vz,pJ,Ai,Cm,Cn,EK,zR,EL⟩:=h;exact⟨C,D,E,I,O,T,U,Y,Z,h9',Ce,xO,o9,oH,uk,vz,by omega,Ai,Cm,Cn,EK,by omega,by omega⟩
def Ck.ok{c:ax}(h:Ck c):cy c=true:=by
 have⟨C,D,E,I,O,T,U,Y,Z,h9',Ce,xO,o9,oH,uk,vz,pJ,Ai,Cm,Cn,EK,zR,EL⟩:=h;simp[cy,aJ,fl,fI,fH,oQ]
 grind
def aeL:∀ (l:aa Nat) (a:Nat),l.Pairwise (λx y=>x≠y) -> l.length <= (l.filter (λx=>decide (x≠a))).length+1
 |[],a,_=>by simp
 | x :: l,a,h=>by
  have⟨C,D⟩:=List.pairwise_cons.1 h;by_cases e:x=a
  ·subst e;have:(x :: l).filter (λy=>decide (y≠x))=l:=by
    rw[List.filter_cons_of_neg (by simp)];exact List.filter_eq_self.2 λy E=>by simpa using (C y E).symm
   grind
  ·rw[List.filter_cons_of_pos (by simpa using e)];have:=aeL l a D;simp only[List.length_cons];omega
def U3:∀ (n:Nat) (l:aa Nat),(∀ x∈l,x<n)->l.Pairwise (λx y=>x≠y)->l.length<=n
 | 0,l,h,_=>by
  cases l with
  |nil=>simp
  |cons x l=>exact absurd (h x (.head _)) (by omega)
 | n+1,l,h,C=>by
  have E:=aeL l n C;have I:=U3 n (l.filter (λx=>decide (x≠n))) (λx D=>by
   have:=List.mem_filter.1 D;have O:=h x this.1;have T:x≠n:=by simpa using this.2
   omega) (C.filter _)
  omega
def Ct.pw{l:aa aN}(h:Ct l):l.Pairwise (λx y=>x≠y):=by
 rw[List.pairwise_iff_getElem];intro i j hi D I e;have C:=h j D;rw[mJ]at C;have E:l[i]∈l.take j:=by
  rw[List.mem_take_iff_getElem]
  grind
 exact C _ E (IY.2 e.symm)
def Ct.mk{l:aa aN}(h:l.Pairwise (λx y=>x≠y)):Ct l:=by
 rw[List.pairwise_iff_getElem]at h;intro j C;rw[mJ];intro x D e;obtain⟨i,hi,rfl⟩:=List.mem_take_iff_getElem.1 D;exact h i j _ C (by omega) (IY.1 e).symm
structure fM (c:ax):Prop where
 dl:(c.aE.aC.length:Int)=aL c.config.ak
 tl:(c.bE.length:Int)=aL c.config.ak
 gl:(c.guard.length:Int)=aL c.config.ak
 t:∀x∈c.bE,lO x=true
 g:∀x∈c.guard,3<=x/\x<=1000
 pd:∀a∈c.pending,dU c.config.ak a=true/\a.bX=0
 u:c.pending.Pairwise (λx y=>x≠y)
def fM.of{c:ax}(h:sH c=true):fM c:=by
 simp[sH,aJ,fl,bN,fA]at h;have⟨E,I,O,g4,T,U⟩:=h;have key:=λi C Y=>by
  have:=T i C;unfold partAt at this;rw[bH C,bH Y,aJ,bh]at this;exact this
 have Z:∀ i _,dU _ c.pending[i]=true/\c.pending[i].bX=0/\(c.pending.take i).any _=false:=λi C=>by
  have:=U i C;unfold Af at this;rw[bH C]at this
  simpa [aJ]using this
 refine⟨E,I,O,λx D=>?_,λx D=>?_,λa ha=>?_,Ct.pw λi hi=>(Z i hi).2.2⟩
 ·obtain⟨i,hi,rfl⟩:=jf.1 D
  grind
 ·obtain⟨i,hi,rfl⟩:=jf.1 D
  grind
 ·obtain⟨i,hi,rfl⟩:=jf.1 ha;simp[*]
def arU{g:aF}{l:aa aN}(D:∀ a∈l,dU g a=true/\a.bX=0)(O:l.Pairwise (λx y=>x≠y)):l.length <= 128:=by
 have E:∀ a∈l,0 <= a.aA/\a.aA<8/\0 <= a.row/\a.row<16:=λa C=>by
  have⟨I,Y,Z,h4,h5,_⟩:=sE (D a C).1;have b1:=ef g;have b2:=fW I;omega
 have I:=U3 128 (l.map λa=>(a.aA*16+a.row).toNat) (λx T=>by
  obtain⟨a,C,rfl⟩:=List.mem_map.1 T;have:=E a C;omega) (by
  rw[List.pairwise_map]
  refine O.imp_of_mem λ{a b} C hb U e=>U ?_
  have r1:=E a C;have r2:=E b hb;have c1:=(D a C).2;have c2:=(D b hb).2;cases a;cases b;simp only at *
  congr 1<;>omega)
 simp_all
def fM.ok{c:ax}(h:fM c):sH c=true:=by
 have⟨E,I,O,Y,Z,C,D⟩:=h;have hl:=arU C D;have T:=Ct.mk D;simp[sH,aJ,fl,fH,oQ,bN,fA]
 refine⟨E,I,O,by omega,λi hi=>?_,λi hi=>?_⟩
 ·have U:i<c.guard.length:=by omega
  unfold partAt;rw[bH hi,bH U,aJ,bh];simp_all
 ·unfold Af;rw[bH hi];simp only[aJ,fl,fH];exact⟨(C _ (dg hi)).1,(C _ (dg hi)).2,T i hi⟩
def arV{g:aF}{b n:Int}{l:aa aN}(I:dU g ⟨b,n,0⟩=true)(O:∀ a∈l,dU g a=true/\a.bX=0)(C:l.Pairwise (λx y=>x≠y)):(∀ a∈jr b l n,dU g a=true/\a.bX=0)/\(jr b l n).Pairwise (λx y=>x≠y):=by
 unfold jr;cases h:l.any _ with
 |true=>simp_all
 | false=>
  rw[av];rw[mJ]at h
  refine⟨λa T=>?_,?_⟩
  ·grind
  ·rw[List.pairwise_append]
   refine⟨C,List.pairwise_singleton _ _,λx D y E e=>?_⟩
   rw[gF.1 E]at e;exact h x D (IY.2 e.symm)
def aeM{g:aF}{b:Int}:∀ (ns:aa Int) {l:aa aN},(∀ n∈ns,dU g ⟨b,n,0⟩=true) -> (∀ a∈l,dU g a=true/\a.bX=0) -> l.Pairwise (λx y=>x≠y) -> (∀ a∈ns.foldl (jr b) l,dU g a=true/\a.bX=0)/\(ns.foldl (jr b) l).Pairwise (λx y=>x≠y)
 |[],l,_,C,D=>⟨C,D⟩
 | n :: ns,l,E,C,D=>by
  have⟨I,O⟩:=arV (E n (.head _)) C D;exact aeM ns (λm T=>E m (.tail _ T)) I O
def ET{T:Type}{p:T -> Prop}{l:aa T}{i:Nat}{x:T}(h:∀y∈l,p y)(C:p x):∀y∈l.set i x,p y:=by grind
def arW{t:cK}(h:lO t=true)(row cD:Int):lO (nQ t row cD).1=true:=by
 unfold nQ
 grind
def aeN{k:Int}(h:aQ k 1 16=true):lO (oJ k)=true:=by
 have hb:=bh.1 h;simp only[lO,oJ,aJ,fl,bN,jX,bh]
 refine⟨by omega,trivial,by omega,λi hi=>?_⟩
 rw[Nm (by simpa using hi) (by simpa using hi)];simp[aQ]
def N5{c:fq}{p:eo}(hl:p.weights.length<1073741823)(h:m8 c p=true):3 <= p.ey/\p.ey <= 1000:=by
 have⟨_,f2⟩:=Au hl h;simp[sG,aJ,bh]at f2;simp_all
def yc{g:aF}{a:cN}(C:cg g=true)(h:eA g 100000 a):lM g a=true:=by
 simp only[lM,aJ,fI,bN]
 refine⟨C,h.cells,h.bq,h.aY,λc D=>Sy.ok (h.syms c D),λp E=>?_⟩
 have⟨x,y⟩:=p;have⟨I,O⟩:=List.of_mem_zip E;simp[xJ,aJ,bh];exact⟨h.Et x I,h.hit y O⟩
def arX{g:aF}{c:aR}(h:cQ g c=true):p9 g (gA g c).toNat=true:=by
 have⟨E,D,hb,_⟩:=q6 h;have⟨I,O⟩:=EC h;unfold p9;unfold gA at *
 cases C:aQ _ 1 5 with
 | true=>
  have C:=bh.1 C
  grind
 | false=>
  have T:¬ c.kind <= 5:=λh=>by rw[bh.2 ⟨D.1,h⟩]at C;cases C
  grind
def aeO{l:aa Int}(h:∀ i,i<l.length -> qa l i=true){i:Nat}(hi:i<l.length):aQ l[i] 0 1000000=true:=by
 have:=h i hi;cases i with
 |zero=>rw[Np]at this;exact this
 |succ i=>rw[IG,aJ]at this;exact this.1
def aeP{l:aa Int}(h:∀ i,i<l.length -> qa l i=true){i:Nat}(hi:i+1<l.length):l[i]<l[i+1]:=by
 have:=h _ hi;rw[IG hi,aJ,fH,oQ]at this;omega
def aeQ{l:aa Int}(C:∀ i (hi:i<l.length),aQ l[i] 0 1000000=true)(D:∀ i (hi:i+1<l.length),l[i]<l[i+1]):∀ i,i<l.length -> qa l i=true:=λi hi=>by
 cases i with
 |zero=>rw[Np];exact C 0 hi
 | succ i=>
  have:=D i hi;rw[IG hi,aJ,fH,oQ];simp_all
def arY{l:aa Int}(h:∀ i,i<l.length -> qa l i=true){x:Int}(I:aQ x 0 1000000=true)(hl:vA ⟨[],l⟩ x=false):∀ i,i<(l++[x]).length -> qa (l++[x]) i=true:=by
 refine aeQ (λi hi=>?_) λi hi=>?_
 ·by_cases C:i<l.length
  ·rw[List.getElem_append_left];exact aeO h C
  ·grind
 ·have D:i<l.length:=by simp at hi;omega
  by_cases C:i+1<l.length
  ·rw[List.getElem_append_left C,List.getElem_append_left];exact aeP h C
  ·have e:i+1=l.length:=by omega
   have E:(l++[x])[i+1]=x:=by simp[e]
   rw[E,List.getElem_append_left D];unfold vA at hl
   grind
def arZ{l:aa Int}(h:∀ i,i<l.length -> qa l i=true)(k:Nat):∀ i,i<(l.drop k).length -> qa (l.drop k) i=true:=by
 refine aeQ (λi hi=>?_) λi hi=>?_
 ·rw[List.getElem_drop];exact aeO h _
 ·rw[List.getElem_drop,List.getElem_drop];rw[List.length_drop]at hi;exact aeP h _
def aeR{g:aF}{r:dP}(e:bK)(h:jU g r=true):jU g (gL g r e)=true:=by
 unfold gL;cases C:jU g r&&(cQ g e.cmd&&(aQ e.at_ 0 1000000 && !(e.cmd.kind==1&&vA r e.at_)))with
 |false=>exact h
 | true=>
  rw[aq];simp only[aJ,fH]at C;have⟨_,O,D,E⟩:=C;simp only[jU,aJ,fl,fH,oQ,bN,fA]at h ⊢;have⟨T,U,Y,Z,I⟩:=h
  refine⟨T,by rw[iS];exact U,?_,λi hi=>?_,?_⟩
  ·cases e.cmd.kind==1 with
   |false=>exact Y
   | true=>
    rw[aq];unfold Cf
    grind
  ·rw[iS]at hi;have hb:=Z i hi;rw[Nn hi]at hb;rw[Nn (by rw[iS];exact hi)];by_cases e':(gA g e.cmd).toNat=i
   ·subst e';rw[List.getElem_set_self,arX O];have:=bh.1 D;rw[bh.2 ⟨by omega,by omega⟩];rfl
   ·simp_all
  ·cases hk:e.cmd.kind==1 with
   |false=>exact I
   | true=>
    rw[hk]at E;exact arZ (arY I D E) _
structure Qk (n:Int) (q:List bg):Prop where
 r:∀x∈q,uf n x=true
 b:q.Pairwise λx y=>fX x y=true
 i:q.Pairwise λx y=>x.id≠y.id
 l:q.length<=12
def ar0{x y z:bg}(C:fX x y=true)(D:fX y z=true):fX x z=true:=by
 simp only[fX,dS,aJ,fI,fl]at *
 omega
def Qk.of{n:Int}{q:aa bg}(h:gK n q=true):Qk n q:=by
 have I:=h;simp only[gK,aJ,bN,fA,fI]at h;have⟨E,Y⟩:=h;have O:∀ x∈q,uf n x=true:=λx T=>by
  obtain⟨i,hi,rfl⟩:=jf.1 T;have:=E i hi;unfold ug at this;simp_all
 have hb:∀ j i (D:i<j) (C:j<q.length),fX q[i] q[j]=true:=by
  intro j
  induction j with
  |zero=>simp_all
  | succ j U=>
   intro i D C;have:=E (j+1) C;rw[Ni C,aJ,aJ]at this;by_cases e:i=j
   ·simp_all
   ·exact ar0 (U i (by omega) _) this.2.1
 refine⟨O,?_,?_,by omega⟩
 ·rw[List.pairwise_iff_getElem]
  grind
 ·rw[List.pairwise_iff_getElem];intro i j hi C D e;have:=Up I D C;simp_all
def Qk.ok{n:Int}{q:aa bg}(h:Qk n q):gK n q=true:=by
 have⟨C,D,E,O⟩:=h;rw[List.pairwise_iff_getElem]at D E;simp[gK,aJ,bN,fA,fI]
 refine⟨λi hi=>?_,by omega⟩
 cases i with
 |zero=>rw[adu hi];exact C _ (dg hi)
 | succ i=>
  rw[Ni hi,aJ,aJ,fH];refine⟨C _ (dg hi),D i (i+1) (by omega) hi (by omega),?_⟩;rw[mJ];intro x I e;obtain⟨k,T,rfl⟩:=List.mem_take_iff_getElem.1 I
  grind
def Qk.sub{n:Int}{q s:aa bg}(h:Qk n q)(C:s.Sublist q):Qk n s:=
 ⟨λx D=>h.r x (C.subset D),h.b.sublist C,h.i.sublist C,Nat.le_trans C.length_le h.l⟩
def aeS{T:Type}(l:aa T)(i:Nat):(l.take i++l.drop (i+1)).Sublist l:=by
 rw[<-List.eraseIdx_eq_take_drop_succ];exact List.eraseIdx_sublist l i
def ar1(e x:cC):Prop:=¬ (e.line=x.line/\e.code=x.code)
structure Ek (l:List cC):Prop where
 e:∀x∈l,Ad x=true
 k:l.Pairwise ar1
 l:l.length<=6
def U4{e x:cC}:p7 e x=true ↔ x.line=e.line/\x.code=e.code:=by
 simp only[p7,aJ,fl]
def Ek.of{l:aa cC}(h:nL l=true):Ek l:=by
 simp[nL,aJ,bN,fA,fI]at h;have⟨D,O⟩:=h;have key:=λi hi=>by
  have:=D i hi
  rwa [T5 hi,aJ,fH]at this
 refine⟨λx E=>?_,?_,by omega⟩
 ·obtain⟨i,hi,rfl⟩:=jf.1 E
  grind
 ·rw[List.pairwise_iff_getElem];intro i j hi I T e;have C:=(key j I).2;rw[mJ]at C;exact C l[i] (List.mem_take_iff_getElem.2 ⟨i,by omega,rfl⟩) (U4.2 e)
def Ek.ok{l:aa cC}(h:Ek l):nL l=true:=by
 have⟨D,C,I⟩:=h;rw[List.pairwise_iff_getElem]at C;simp only[nL,aJ,bN,fA,fI]
 refine⟨λi hi=>?_,by omega⟩
 rw[T5 hi,aJ,fH];refine⟨D _ (dg hi),?_⟩;rw[mJ];intro x E e;obtain⟨k,O,rfl⟩:=List.mem_take_iff_getElem.1 E;exact C k i (by omega) hi (by omega) (U4.1 e)
def aeT{l:aa cC}(h:nL l=true){n code:Int}(h1:0 <= n/\n <= 1023)(h2:code=1 \/ code=2):nL (sQ l n code)=true:=by
 have C:=Ek.of h;have hl:=C.l;have auo:Ad ⟨n,code,1⟩=true:=by
  simp[Ad,aJ,dS,fl,bh];omega
 refine Ek.ok ?_;unfold sQ;cases D:l.findIdx? (p7 ⟨n,code,1⟩)with
 | some i=>
  have⟨hi,hp⟩:=Cr D;dsimp only;rw[iw _ hi];have U:=C.e _ (dg hi);have Y:Ad (NZ l[i])=true:=by
   simp only[Ad,aJ,bh]at U ⊢;unfold NZ;dsimp only;rw[bf]
   grind
  refine⟨ET C.e Y,?_,by rw[iS];exact hl⟩;have E:=C.k;rw[List.pairwise_iff_getElem]at E ⊢;intro a b I hb Z;rw[iS]at I hb;have:=E a b I hb Z;rw[List.getElem_set,List.getElem_set];by_cases O:i=a
  ·subst O
   rwa [aV rfl,aW]
  ·rw[aW O];by_cases e2:i=b
   ·subst e2
    rwa [aV rfl]
   ·simp[*]
 | none=>
  have hn:∀ x∈l,¬ (x.line=n/\x.code=code):=λx hx e=>by
   have:=List.findIdx?_eq_none_iff.1 D x hx;rw[U4.2 e]at this;cases this
  have app:∀ m:aa cC,m.Sublist l -> m.length <= 5 -> Ek (m++[⟨n,code,1⟩]):=λm T hml=>by
   refine⟨λx hx=>?_,?_,by rw[List.length_append,List.length_singleton];omega⟩
   ·rcases kX.1 hx with hx | hx
    ·exact C.e x (T.subset hx)
    ·rwa [gF.1 hx]
   ·rw[List.pairwise_append]
    refine⟨C.k.sublist T,List.pairwise_singleton _ _,λx hx y hy e=>?_⟩
    rw[gF.1 hy]at e
    grind
  dsimp only;by_cases e6:l.length=6
  ·grind
  ·rw[kS (show ¬ (l.length:Int)=6 by omega),av]
   grind
def aeU{l:aa di}(h:∀ s∈l,pZ s=true){k:Nat}(C:k<l.length)(E:1<=l[k].gx):∀ s∈l.set k ⟨l[k].weight,W6 (l[k].gx-1)⟩,pZ s=true:=by
 have D:=h _ (dg C);simp only[pZ,aJ,bh]at D;rw[bf (n:=l[k].gx-1)];refine ET h ?_;simp only[pZ,aJ,bh];omega
def ar2{l:aa di}(w:aa Bool)(hl:l.length<1073741823)(D:kz l=true)(hw:l.length=w.length):∃ y t,sy l w=some (y,t)/\y.length=l.length/\kz y=true:=by
 have mk:∀ y:aa di,y.length=l.length -> (∀ s∈y,pZ s=true) -> y.length=l.length/\kz y=true:=λy C h2=>by
  refine⟨C,?_⟩;simp[kz,aJ,bN]at D ⊢;exact⟨h2,by rw[C];exact D.2⟩
 have E:∀ s∈l,pZ s=true:=by
  simp only[kz,aJ,bN]at D;exact D.1
 unfold sy xA xC bQ xL xZ;have hb:=xU (λi=>w.getD i false) (λi=>(l.getD i ⟨0,0⟩).gx) (min l.length w.length);have T:(jq l).length=l.length:=by simp[jq]
 have gy:=xU (λi=>w.getD i false) (λi=>((jq l).getD i ⟨0,0⟩).gx) (min (jq l).length w.length);have hm:=NJ (λi=>w.getD i false) (λi=>(l.getD i ⟨0,0⟩).gx) (min l.length w.length);rw[List.nil_append,NK l w (by omega),au,Ng _ (by omega),au,D,bI,av,List.length_nil,ff,fe,aq];unfold uy;generalize hr:mF (λi=>w.getD i false) (λi=>(l.getD i ⟨0,0⟩).gx) (min l.length w.length)=b at *
 by_cases U:b<0
 ·rw[aZ U];exact⟨_,_,rfl,mk _ rfl E⟩
 ·have C:b.toNat<l.length:=by omega
  rw[bu U,av,aO ⟨by omega,C⟩,aO C];dsimp only;have hsb:=E _ (dg C);simp only[pZ,aJ,bh]at hsb;cases Y:l[b.toNat].gx==0 with
  | false=>
   have Y:¬ l[b.toNat].gx=0:=by simpa using Y
   rw[ aO ⟨by omega,C⟩,aO C,aO ⟨by omega,C⟩,aO C];exact⟨_,_,rfl,mk _ (by simp) (aeU E C (by omega))⟩
  | true=>
   have ar3:∀ s∈jq l,pZ s=true:=λs D=>by
    obtain⟨x,O,rfl⟩:=List.mem_map.1 D;have:=E x O;simp[pZ,aJ,bh,Cp]at this ⊢;omega
   rw[aq,ael l w (by omega),au];simp only[gw];rw[NK _ w (by omega),au];have Z:0 <= uy (jq l) w:=UE _ (i:=b.toNat) (by rcases hm with h|h;exact absurd h (by omega);exact h) _ (by rw[T];omega);have hq:uy (jq l) w<((min (jq l).length w.length:Nat):Int):=gy.2;have I:(uy (jq l) w).toNat<(jq l).length:=by omega
   have h4:1 <= (jq l)[(uy (jq l) w).toNat].gx:=by
    have c9:(uy (jq l) w).toNat<l.length:=by omega
    have O:=E _ (dg c9);simp only[pZ,aJ,bh]at O;simp only[jq,List.getElem_map,Cp];simp only[jq]at O;omega
   rw[aO ⟨Z,I⟩,aO I,aO ⟨Z,I⟩,aO I];exact⟨_,_,rfl,mk _ (by simp[T]) (aeU ar3 I h4)⟩
def aeV{r:dB}(h:fj r=true)(k:Nat){d:Int}(C:-2 <= d/\d <= 5):fj ⟨r.aC.set k d,r.wait,r.dL⟩=true:=by
 simp only[fj,aJ]at h ⊢;refine⟨Ui h.1 ?_,by rw[iS];exact h.2.1,h.2.2⟩;exact bh.2 C
def ar4{r:dB}(h:fj r=true){b:Int}(hb:b.toNat<r.aC.length):fj (lT r b)=true:=by
 have C:=IX h _ (dg hb);unfold lT;rw[iw _ hb];by_cases e:r.aC[b.toNat] = -2
 ·simp_all
 ·rw[bu e];exact aeV h _ (by omega)
def ar5{r:bL}{p:iG}{x:aR}{now:Int}(E:lN p=true)(C:p.state=r.aU)(I:p.since <= now)(O:now <= 1000000)(U:6 <= x.kind/\x.kind <= 9)(D:iO r x=true):lN (Cs p x.kind now)=true/\(Cs p x.kind now).state=(dx r x).aU/\(Cs p x.kind now).since <= now:=by
 have hb:0 <= p.since:=by
  simp[lN,aJ,bh]at E;omega
 have hi:0 <= p.idle/\p.idle <= 1000000:=by
  simp[lN,aJ,bh]at E;omega
 have T:=bh.2 ⟨I,O⟩;unfold Cs;rw[E,T,Bool.and_self];have mk:∀ s:Int,0 <= s/\s <= 2 -> lN ⟨s,now,p.idle⟩=true:=λs C=>by
  simp[lN,aJ,bh];omega
 have:x.kind=6 \/ x.kind=7 \/ x.kind=8 \/ x.kind=9:=by omega
 rcases this with h|h|h|h
 ·have e:r.aU=0:=by simpa [iO,h]using D
  simp[dx,h,C,e,mk]
 ·have e:r.aU=1:=by simpa [iO,h]using D
  simp[dx,h,C,e,mk]
 ·have e:r.aU=0:=by have:=D;simp[iO,h]at this;exact this.1
  simp[dx,h,C,e,mk]
 ·have e:r.aU=2:=by simpa [iO,h]using D
  simp[dx,h,C,e,mk]
def ar6{c:ax}(h:Pq c)(Z:Int×Int×Int×Int×ah)(P:Int×Int×Int×Int×Int×(aa Int)×Int×Int×ah)(I:P.2.1=c.box.bS.cap):iter BW br ((bP 0 c.aE.aC,iz c,(),(),(),(),(),(),(),(),(),c.queue,(c.queue.length:Int),(0:Int),()),(c,Z,P,(List.range c.queue.length).map (oL c),(List.range c.queue.length).map (gi c),sP c c.queue.length,([]:aa aR),List.replicate c.queue.length false,List.replicate 4 false,()))=some (.inl (((),(),(),(),(),(),(),()),(c,Z,P,(List.range c.queue.length).map (gi c),(List.range c.queue.length).map (kV c),(List.range c.queue.length).map (oM c),Aw c c.queue.length,()))):=by
 have O:=h.ql;have yx:=h.pl;have T:=uw h.rf;have U:=ER h;have e:=eE (step:=BW) c.queue.length (λi=>((bP 0 _,iz c,(),(),(),(),(),(),(),(),(),c.queue,c.queue.length,i,()),(c,Z,P,(List.range _).map (oL c),(List.range c.queue.length).map (gi c),sP c _,(List.range i).map (kV c),q8 (oM c) c.queue.length i,Aw c i,()))) _ br (λk C=>by
  have hl:=NT (f:=oM c) (n:=c.queue.length) (k:=k) (by omega);have hl3:=EO c;have hwl:=U2 c k;have⟨ho,D,Y,o3,o4,o5⟩:=UW h C;have⟨q1,q2,E⟩:=h.q _ (dg C);rw[EP C]at q1 q2 E;have So:(yb c k).write=q9 c.queue k:=by rw[NW C,EP C]
  refine(arS (r:=yb c k) (a:=gX c k) (nd:=kV c k) (ct:=sR c (gX c k).aA) (rd:=c8 c (kV c k)) (ib:=UZ c (gX c k).aA) O C (EP C) (by omega) (NY _) (by simp;exact C) (by omega) (by simp) (by omega) (by omega) (by rw[So];exact aem _ D Y U) (U1 T.1 D o3) (xS h.p (aeJ h C)) (UJ _ _ (by omega)) E h.nw).trans ?_;rw[I1 C,aeA,I,<- NU C,List.range_succ,List.map_append];rfl) (by
  unfold BW aK xG xI xL;dsimp only;rw[bu,av,NV]) (bZ)
 exact e
def uz(f g:Nat->Bool)(n k:Nat):aa Bool:=(List.range n).map λi=>bif Nat.blt i k then f i else g i
def ar7(f g:Nat->Bool)(n:Nat):uz f g n 0=(List.range n).map g:=rfl
def ar8(f g:Nat -> Bool)(n:Nat):uz f g n n=(List.range n).map f:=by
 refine List.map_congr_left λi hi=>?_
 have hi:=fA.1 hi;rw[show Nat.blt i n=true from iF hi];rfl
def U5(f g:Nat->Bool)(n k:Nat):(uz f g n k).length=n:=by unfold uz;simp
def ar9(k:Nat):Nat.blt k k=false:=by
 cases h:Nat.blt k k with
 |false=>rfl
 |true=>simp_all
def asa{f g:Nat->Bool}{n k:Nat}(C:k<(uz f g n k).length):(uz f g n k)[k]=g k:=by
 simp only[uz,List.getElem_map,lV,ar9,av]
def asb{f g:Nat -> Bool}{n k:Nat}(h:k<n):(uz f g n k).set k (f k)=uz f g n (k+1):=by
 apply List.ext_getElem
 ·rw[iS,U5,U5]
 ·intro i E I;rw[List.getElem_set];simp only[uz,List.getElem_map,lV];by_cases e:k=i
  ·subst e;rw[aV rfl,show Nat.blt k _=true from iF (dz _)];rfl
  ·rw[aW e];rcases Nat.lt_or_gt_of_ne e with h3 | h3
   ·have C:Nat.blt i k=false:=by
     cases hb:Nat.blt i k with
     |false=>rfl
     |true=>have:=cr hb;omega
    have D:Nat.blt i (k+1)=false:=by
     cases hb:Nat.blt i (k+1)with
     |false=>rfl
     |true=>have:=cr hb;omega
    rw[C,D]
   ·rw[show Nat.blt i k=true from iF h3,show Nat.blt i _=true from iF (by omega)]
def uA(c:ax)(t:Int)(i:Nat):Bool:=oM c i&&(yb c i).eC==t
def asc{c:ax}(I:c.queue.length <= 12)(t:Int)(Z:Int×Int×Int×Int×ah)(P:Int×Int×Int×Int×Int×(aa Int)×Int×Int×ah)(hit:aa Bool)(C:aa aR):iter D6 br (((),(),(),(),(),(),t,c.queue,(c.queue.length:Int),(0:Int),()),(c,Z,P,hit,C,(List.range c.queue.length).map (oM c),()))=some (.inl (((),(),(),(),(),(),()),(c,Z,P,hit,C,(List.range c.queue.length).map (uA c t),()))):=by
 have e:=eE (step:=D6) c.queue.length (λi=>(((),(),(),(),(),(),t,c.queue,(c.queue.length:Int),(i:Int),()),(c,Z,P,hit,C,uz (uA c t) (oM c) c.queue.length i,()))) _ br (λk D=>by
  have hl:=U5 (uA c t) (oM c) c.queue.length k;rw[<- asb D];unfold D6 aK xG xI xL;dsimp only;rw[aZ,aq,aO ⟨by omega,by omega⟩,aO ⟨by omega,by omega⟩,aO,bT];simp only[bA,asa,EP];have E:uA c t k=(oM c k&&(yb c k).eC==t):=rfl;rw[E];cases oM c k with
  |false=>rw[av,aO ⟨by omega,by omega⟩,aO];rfl
  |true=>rw[ aO ⟨by omega,by omega⟩,aO];rfl) (by
  unfold D6 aK xG xI xL;dsimp only;rw[bu,av,ar8]) (bZ)
 rw[cZ,ar7]at e;exact e
def gu(p:Nat->Bool):Nat->Int
 |0=>-1
 |k+1=>bif decide (gu p k<0)&&p k then (k:Int)else gu p k
def N6(p:Nat->Bool)(k:Nat):gu p (k+1)=bif decide (gu p k<0)&&p k then (k:Int)else gu p k:=rfl
def vI(p:Nat -> Bool):∀ n,(gu p n = -1 /\ ∀ k,k<n -> p k=false) \/ ∃ j:Nat,j<n/\gu p n=(j:Int)/\p j=true /\ ∀ k,k<j -> p k=false
 |0=>.inl ⟨rfl,λk C=>absurd C (Nat.not_lt_zero k)⟩
 | n+1=>by
  rw[N6];rcases vI p n with ⟨D,E⟩|⟨j,D,E,I,O⟩
  ·grind
  ·grind
def Ax(old hit eV:Nat->Bool)(n:Nat):Int:=
 bif decide (gu (λi=>eV i&&old i) n<0)then (bif decide (gu (λi=>eV i&&hit i) n<0)then gu eV n else gu (λi=>eV i&&hit i) n)else gu (λi=>eV i&&old i) n
def yd(c:ax)(i:Nat):Bool:=decide ((yb c i).at_<=c.now-c.box.bS.cap)
def asd{c:ax}(h:Pq c)(eV:Nat->Bool):LX c.queue ((List.range c.queue.length).map eV) ((List.range c.queue.length).map (gi c)) c.box.bS.cap c.now=some (Ax (yd c) (gi c) eV c.queue.length):=by
 have hq:=h.ql;have I7:=h.nw;have hcp:=h.cap;have U:W6 (c.now-c.box.bS.cap)=c.now-c.box.bS.cap:=bf;have uC:∀ (k:Nat),k<c.queue.length->(eV k&&yd c k)=false->zS (((List.range c.queue.length).map eV,(List.range c.queue.length).map (gi c),c.box.bS.cap,c.now,gu eV k,gu (λi=>eV i&&gi c i) k,c.queue,(c.queue.length:Int),(k:Int),()),())=some (.inl (((List.range c.queue.length).map eV,(List.range c.queue.length).map (gi c),c.box.bS.cap,c.now,gu eV (k+1),gu (λi=>eV i&&gi c i) (k+1),c.queue,(c.queue.length:Int),((k+1:Nat):Int),()),())):=by
  intro k C D;rw[N6,N6];unfold zS aK bF xG xI;dsimp only;rw[aZ,aq,aO ⟨by omega,by omega⟩];simp only[eN,eB];rw[bu,av,aO ⟨by omega,by omega⟩];simp only[bA,I1 C,U,EP];rw[bT];cases E:eV k with
  |false=>simp[E]
  | true=>
   rw[E,cP]at D;unfold yd at D;rw[D,aZ (by omega:(k:Int)<(c.queue.length:Int)),aO ⟨by omega,by omega⟩];simp only[bI,av,aq,E,cP];cases gi c k<;>cases decide (gu eV k<0)<;>cases decide (gu (λi=>eV i&&gi c i) k<0)<;>simp
 unfold LX Ax cH;rw[cI,au,bh.2 ⟨hcp.1,by omega⟩,bI,av,cI,au,bh.2 I7,bI,av];rcases vI (λi=>eV i&&yd c i) c.queue.length with ⟨I,O⟩|⟨j,I,O,T,h4⟩
 ·have e:=eE (step:=zS) c.queue.length (λk=>(((List.range c.queue.length).map eV,(List.range c.queue.length).map (gi c),c.box.bS.cap,c.now,gu eV k,gu (λi=>eV i&&gi c i) k,c.queue,(c.queue.length:Int),(k:Int),()),())) (.inr (.inl ((gu eV c.queue.length,gu (λi=>eV i&&gi c i) c.queue.length,()),()))) br (λk C=>uC k C (O k C)) (by
   unfold zS aK bF xG xI;dsimp only;rw[bu,av]) (bZ)
  rw[cZ]at e
  refine(bx (λo=>Option.bind o _) e).trans ?_
  rw[au,I];simp only[Sum.elim_inr,gw];by_cases Y:gu (λi=>eV i&&gi c i) c.queue.length<0
  ·rw[bu (by omega:¬ gu (λi=>eV i&&gi c i) c.queue.length >= 0),aZ Y];rfl
  ·rw[aZ (by omega:gu (λi=>eV i&&gi c i) c.queue.length >= 0),bu Y];rfl
 ·have e:=eE (step:=zS) j (λk=>(((List.range c.queue.length).map eV,(List.range c.queue.length).map (gi c),c.box.bS.cap,c.now,gu eV k,gu (λi=>eV i&&gi c i) k,c.queue,(c.queue.length:Int),(k:Int),()),())) (.inl (((j:Int),()),())) br (λk C=>uC k (by omega) (h4 k C)) (by
   rw[aJ]at T;have Z:=T.2;unfold yd at Z;unfold zS aK bF xG xI;dsimp only;rw[aZ,aq,aO ⟨by omega,by omega⟩];simp only[eN,eB];rw[bu,av,aO ⟨by omega,by omega⟩];simp only[bA,I1 I,U,EP,T.1,Z,bI,av,aq]) (bZ)
  rw[cZ]at e
  refine(bx (λo=>Option.bind o _) e).trans ?_
  rw[au,O,bu];rfl
def ye:aR:=⟨0,0,0,0⟩
def Cx(c:ax):Int:=match sy c.shares (Aw c c.queue.length)with
 |some y=>y.2
 |none=>0
def rj(c:ax):Int:=Ax (yd c) (gi c) (uA c (Cx c)) c.queue.length
def oN(c:ax):aR×Int:=bif decide (rj c<0)then (ye,-1)else (kV c (rj c).toNat,rj c)
def ase{c:ax}(h:Pq c):∃ l,sy c.shares (Aw c c.queue.length)=some (l,Cx c):=by
 have⟨y,t,e,_⟩:=UF (Aw c c.queue.length) (by have:=h.shl;omega) h.sh (by rw[U2,h.shl]);refine⟨y,?_⟩;unfold Cx;rw[e]
def asf(c:ax):-1 <= rj c/\rj c<c.queue.length:=by
 unfold rj Ax;rcases vI _ _ with ⟨C,_⟩|⟨j,C,I,_⟩
 ·rw[C,aZ,aq];rcases vI _ _ with ⟨D,_⟩ | ⟨j,D,O,_⟩
  ·rw[D,aZ,aq];rcases vI (uA c (Cx c)) c.queue.length with ⟨E,_⟩|⟨j,E,T,_⟩<;>omega
  ·grind
 ·grind
def asg{c:ax}(h:Pq c):L2 c (bP 0 c.aE.aC) (iz c)=some (oN c):=by
 have E:=h.ql;have⟨l,hl⟩:=ase h;have hb:=asf c;unfold L2 bQ xL;rw[aV ⟨by omega,by omega,by omega⟩,bA,arD h,au];simp only[gw];rw[aV ⟨by omega,by omega,by omega⟩,aV ⟨by omega,by omega,by omega⟩,bA,arE h,au];simp only[gw];rw[aV ⟨by omega,by omega,by omega⟩,aV (by decide),bA,show (4:Int).toNat=4 from rfl,ar6 h _ _ rfl,au];simp only[gw];rw[hl,au];dsimp only;rw[asc E,au];simp only[gw];rw[asd h,au];show (bif decide (rj c<0)then _ else _)=_;unfold oN;by_cases C:rj c<0
 ·rw[aZ C];rfl
 ·have I:(rj c).toNat<c.queue.length:=by omega
  rw[bu C,av,av];have O:¬ Ax (yd c) (gi c) (uA c (Cx c)) c.queue.length<0:=C;have D:=I;rw[aO ⟨by omega,by simp only[eN,eB];exact D⟩,aO (by simp only[eN,eB];exact D)];simp only[List.getElem_map,lV];rfl
def U6{α:Type}(p:α -> Bool)(l:aa α):(eU p l=l.length/\l.find? p=none) \/ ∃ h:eU p l<l.length,l.find? p=some l[eU p l]:=by
 have E:=EJ p l;rcases Nat.lt_or_ge _ _ with h|h
 ·refine .inr ⟨h,?_⟩;rw[List.find?_eq_some_iff_getElem]
  refine⟨Ao h,_,h,rfl,λj C=>?_⟩
  rw[uv C];rfl
 ·refine .inl ⟨by omega,?_⟩;rw[List.find?_eq_none];intro x D;obtain⟨j,C,rfl⟩:=jf.1 D;rw[uv (p:=p) (by omega) C];simp
def oO(c:ax)(b:Int)(x:aR):aR:=bif (eT c.aS b).open_ then ⟨4,b,0,0⟩else x
def U7{c:ax}{b:Int}(x:aR)(C:0 <= b)(h:b.toNat<c.aS.aD.length):zO c b x=some (oO c b x):=by
 unfold zO oO xI;rw[aO ⟨C,h⟩,IW h]
 grind
def N7{c:ax}{b:Int}{x:aR}(h:Pq c)(C:0 <= b/\b<aL c.config.ak)(D:cQ c.config.ak x=true):cQ c.config.ak (oO c b x)=true:=by
 unfold oO;cases (eT _ b).open_ with
 |false=>exact D
 |true=>exact xV h.p.R.sM (.inl rfl) C
def fz(c:ax)(b:Int):aR:=oO c b ⟨5,b,0,0⟩
def gY(c:ax)(i:Nat):aN:=c.pending.getD i zA
def N8{c:ax}{i:Nat}(h:i<c.pending.length):c.pending[i]=gY c i:=by
 unfold gY;rw[cW,bH h];rfl
def qh(c:ax)(i:Nat):Bool:=!sR c (gY c i).aA && !((c.pending.take i).any λa=>a.aA==(gY c i).aA)
def jc(c:ax)(i:Nat):aR:=oO c (gY c i).aA ⟨1,(gY c i).aA,(gY c i).row,0⟩
def I8(c:ax):aa aR:=(bP 0 c.aE.aC).map (fz c)
def I9(c:ax)(k:Nat):aa aR:=((List.range k).filter (qh c)).map (jc c)
def U8{c:ax}(h:Pq c){i:Nat}(hi:i<c.pending.length):dU c.config.ak (gY c i)=true/\0 <= (gY c i).aA/\(gY c i).aA.toNat<c.aS.aD.length/\(gY c i).aA.toNat<c.aE.aC.length/\(gY c i).aA<aL c.config.ak:=by
 have C:=h.pe _ (dg hi);rw[N8]at C;have⟨_,D,E,I,O,T,U⟩:=sE C;have:=h.p.bl;have:=h.dl;simp_all
def U9{c:ax}(h:Pq c){b:Int}(hb:b∈bP 0 c.aE.aC):(0 <= b/\b<aL c.config.ak)/\cQ c.config.ak (fz c b)=true:=by
 obtain⟨j,rfl,C,_⟩:=aej hb;have:=h.dl;have hb:0 <= ((0+j):Int)/\((0+j):Int)<aL c.config.ak:=by omega
 exact⟨hb,N7 h hb (xV h.p.R.sM (.inr rfl) hb)⟩
def ash{c:ax}(h:Pq c){i:Nat}(hi:i<c.pending.length):cQ c.config.ak (jc c i)=true:=by
 have⟨C,D,I,O,E⟩:=U8 h hi;exact N7 h ⟨D,E⟩ (aen C)
def yf(u:Bool)(l:aa Int)(idle:Nat->Bool)(i:Nat):Bool:=bif u then decide (l.getD i 0 >= 4)else decide (l.getD i 0 > 0)&&idle i
def Ja(r:dB)(idle:Nat->Bool):Int:=mF (yf (decide (((bP 0 r.aC).length:Int) > 0)) r.aC idle) (λi=>r.aC.getD i 0) r.aC.length
def Va(r:dB)(idle:Nat->Bool):-1<=Ja r idle/\Ja r idle<r.aC.length:=xU _ _ _
def asi{r:dB}(D:fj r=true)(idle:Nat -> Bool):HC r ((List.range r.aC.length).map idle)=some (Ja r idle):=by
 have hl:=uw D;unfold HC bQ;rw[Ey _ (by omega),au,D,bI,av,UD D,au];generalize T:decide (((bP 0 r.aC).length:Int) > 0)=u;have e:=eE (step:=HB) r.aC.length (λi=>(((List.range r.aC.length).map idle,(),u,mF (yf u r.aC idle) (λi=>r.aC.getD i 0) i,r.aC,(r.aC.length:Int),(i:Int),()),((r.aC,r.wait,r.dL,()),()))) (.inl ((mF (yf u r.aC idle) (λi=>r.aC.getD i 0) r.aC.length,()),())) br (λk E=>by
  have hb:=xU (yf u r.aC idle) (λi=>r.aC.getD i 0) k;rw[IU];generalize mF (yf u r.aC idle) (λi=>r.aC.getD i 0) k=C at hb;have U:r.aC.getD k 0=r.aC[k]:=by rw[cW,bH E];rfl
  unfold HB Co yf aK xG xI;dsimp only;rw[aZ,aq,aO ⟨by omega,by omega⟩];simp only[bA,U,eN,eB];rw[bT,aZ (by omega:(k:Int)<(r.aC.length:Int)),aq,aO ⟨by omega,by omega⟩];simp only[I1 E];by_cases I:C<0
  ·rw[aZ I,Bool.true_or];cases u<;>cases decide (r.aC[k] > 0)<;>cases decide (r.aC[k] >= 4)<;>cases idle k<;>rfl
  ·have O:C.toNat<r.aC.length:=by omega
   have Y:r.aC.getD C.toNat 0=r.aC[C.toNat]:=by rw[cW,bH O];rfl
   have Z:0 <= C/\C.toNat<r.aC.length:=⟨by omega,O⟩
   rw[bu I,Y];simp only[aO Z,av];cases u<;>cases decide (r.aC[k] > 0)<;>cases decide (r.aC[k] >= 4)<;>cases idle k<;>cases decide (r.aC[k] > r.aC[C.toNat])<;>rfl) (by
  unfold HB aK xG xI;dsimp only;rw[bu,av]) (bZ)
 rw[cZ]at e
 refine(bx (λo=>Option.bind o _) e).trans ?_
 unfold Ja;rw[T];rfl
def qi(w:aa aN)(r:bL)(b:Nat):Bool:=w.any λa=>a.aA==(b:Int)&&a.row==(eT r (b:Int)).row
def yg(w:aa aN)(r:bL)(b:Nat):Bool:=(eT r (b:Int)).open_ && !qi w r b
def EU(r:bL)(fY:Int)(w:aa aN):Int:=bif fY != 1 then -1 else gu (yg w r) r.aD.length
def aeW(r:bL)(fY:Int)(w:aa aN):-1 <= EU r fY w/\EU r fY w<r.aD.length:=by
 unfold EU;cases fY != 1 with
 |true=>grind
 | false=>
  rw[av];rcases vI (yg w r) r.aD.length with ⟨C,_⟩|⟨j,C,D,_⟩<;>omega
def asj{w:aa aN}{r:bL}{L:aa Int}{b:Nat}{i n:Int}(hb:b<r.aD.length)(hl:r.aD.length<=1048576)(D:w.length<=1000):iter D7 br ((w,(),(b:Int),false,(),n,i,w,(w.length:Int),(0:Int),()),((r.aD,r.aU,()),L,()))=some (.inl ((w,(),(b:Int),qi w r b,(),n,i,()),((r.aD,r.aU,()),L,()))):=by
 have e:=eE (step:=D7) w.length (λk=>((w,(),(b:Int),((w.take k).any λa=>a.aA==(b:Int)&&a.row==(eT r (b:Int)).row),(),n,i,w,(w.length:Int),(k:Int),()),((r.aD,r.aU,()),L,()))) (.inl ((w,(),(b:Int),qi w r b,(),n,i,()),((r.aD,r.aU,()),L,()))) br (λk C=>by
  rw[ud C,List.any_append,List.any_cons,List.any_nil,Bool.or_false,IW (by rw[bA];exact hb)];unfold D7 aK xG xI;dsimp only;rw[aZ,aq,aO ⟨by omega,by omega⟩,bT];simp only[bA];cases (w.take k).any λa=>a.aA==(b:Int)&&a.row==r.aD[b].row with
  |true=>rfl
  | false=>
   rw[av,Bool.false_or];cases w[k].aA==(b:Int)with
   |false=>rfl
   |true=>rw[aq,aO ⟨by omega,hb⟩,cP]) (by
  unfold D7 aK xG xI;dsimp only;rw[bu,av,List.take_length];rfl) (bZ)
 rw[cZ]at e;exact e
def aeX(w:aa aN)(r:bL):∀ k,k <= r.aD.length -> (opens 0 (r.aD.take k)).find? (λb=>!qi w r b.toNat)=bif decide (gu (yg w r) k<0)then none else some (gu (yg w r) k)
 |0,_=>rfl
 | k+1,E=>by
  have C:=aeX w r k (by omega);have hb:(eT r (k:Int)).open_=r.aD[k].open_:=by rw[IW (by rw[bA];omega)];simp only[bA]
  have D:yg w r k=(r.aD[k].open_ && !qi w r k):=by unfold yg;rw[hb]
  rw[ud (show k<r.aD.length by omega),ac5,kG,Nat.min_eq_left (by omega),ff,List.find?_append,C,N6,D];have I:opens k [r.aD[k]]=bif r.aD[k].open_ then [(k:Int)]else []:=rfl
  grind
def aeY(i:Nat)(l:aa dK)(x:Int)(h:x∈opens i l):∃ j:Nat,j<l.length/\x=((i+j:Nat):Int):=by
 induction l generalizing i with
 |nil=>cases h
 | cons d l C=>
  have e:opens i (d :: l)=bif d.open_ then (i:Int) :: opens (i+1) l else opens (i+1) l:=rfl;rw[e]at h;have tl:x∈opens (i+1) l -> ∃ j:Nat,j<(d :: l).length/\x=((i+j:Nat):Int):=λh=>by
   have⟨j,D,E⟩:=C _ h;exact⟨j+1,by simpa using D,by rw[E];omega⟩
  cases I:d.open_ with
  |false=>grind
  | true=>
   rw[I,aq]at h;rcases gk.1 h with rfl|h
   ·exact⟨0,by simp,rfl⟩
   ·exact tl h
def asl{r:bL}(fY:Int){w:aa aN}(hl:r.aD.length <= 1048576)(O:w.length <= 1000):HD r fY w=some (EU r fY w):=by
 unfold HD EU cH;cases fY != 1 with
 |true=>rfl
 | false=>
  rw[av,av,Na r (by omega),au];have I:=aeX w r r.aD.length (dz _);rw[List.take_length]at I;have Z:=ac6 0 r.aD;have T:=aeY 0 r.aD;generalize hL:opens 0 r.aD=L at *
  have hi:=EJ (λb:Int=>!qi w r b.toNat) L;have uC:∀ (k:Nat) (C:k<L.length),BY ((w,(),(),(L.length:Int),(k:Int),()),((r.aD,r.aU,()),L,()))=some (bif !qi w r L[k].toNat then .inr (.inl ((L[k],()),()))else .inl ((w,(),(),(L.length:Int),((k+1:Nat):Int),()),((r.aD,r.aU,()),L,()))):=by
   intro k C;have⟨j,E,D⟩:=T _ (dg C);rw[ff]at D;unfold BY aK bF xG bQ xL;dsimp only;rw[aZ,aq,aO ⟨by omega,by omega⟩,aO];simp only[bA,D];rw[asj E hl O,au];simp only[gw];rw[bT];cases qi w r j<;>rfl
  rcases U6 (λb:Int=>!qi w r b.toNat) L with ⟨E,D⟩|⟨E,D⟩
  ·have e:=eE (step:=BY) L.length (λk=>((w,(),(),(L.length:Int),(k:Int),()),((r.aD,r.aU,()),L,()))) (.inr (.inl ((),()))) br (λk C=>by
    have:=uv (p:=λb:Int=>!qi w r b.toNat) (q:=L) (i:=k) (by omega) C;rw[uC k C,this];rfl) (by
    unfold BY aK bF xG bQ xL;dsimp only;rw[bu,av]) (bZ)
   rw[cZ]at e
   refine(bx (λo=>Option.bind o _) e).trans ?_
   rw[D]at I;by_cases U:gu (yg w r) r.aD.length<0
   ·rcases vI (yg w r) r.aD.length with ⟨Y,_⟩ | ⟨j,_,k2,_⟩
    ·rw[Y];rfl
    ·omega
   ·grind
  ·have e:=eE (step:=BY) (eU (λb:Int=>!qi w r b.toNat) L) (λk=>((w,(),(),(L.length:Int),(k:Int),()),((r.aD,r.aU,()),L,()))) (.inl ((L[eU (λb:Int=>!qi w r b.toNat) L],()),())) br (λk C=>by
    have:=uv (p:=λb:Int=>!qi w r b.toNat) (q:=L) (i:=k) C (by omega);rw[uC k (by omega),this];rfl) (by
    have:=Ao (p:=λb:Int=>!qi w r b.toNat) (q:=L) E;rw[uC _ E,this];rfl) (bZ)
   rw[cZ]at e
   refine(bx (λo=>Option.bind o _) e).trans ?_
   rw[D]at I;by_cases U:gu (yg w r) r.aD.length<0
   ·grind
   ·simp[*]
def cJ(c:ax):Int:=xT c.box.bS.eY c.aU (vC c)
def EV(c:ax)(i:Nat):Bool:=!((iz c).any λa=>a.aA==(i:Int))
def fG(c:ax):Int:=Ja c.aE (EV c)
def qj(c:ax):Int:=EU c.aS c.box.bS.fY (iz c)
def uD(c:ax):aa aR:=bif decide (fG c >= 0) && !sR c (fG c)then [fz c (fG c)]else []
def oP(c:ax):aa aR:=bif decide (qj c >= 0)then [⟨4,qj c,0,0⟩]else []
def nS(c:ax):aa aR:=bif cJ c==8&&decide (((opens 0 c.aS.aD).length:Int) > 0)then [⟨4,(opens 0 c.aS.aD).headD 0,0,0⟩]else bif cJ c != 0 then [⟨cJ c,0,0,0⟩]else []
def sS(c:ax)(l:aa aR):aR:=(l.find? (c8 c)).getD ye
def fnd_nil(c:ax):sS c []=ye:=rfl
def fnd_cons(c:ax)(x:aR)(l:aa aR):sS c (x :: l)=bif c8 c x then x else sS c l:=by
 unfold sS;rw[List.find?_cons];cases c8 c x<;>rfl
def N9(c:ax)(w:Int):aj aR:=
 let D:Int->Int->Int->Int->aj (aR):=λE I O T=>(let U:Bool->aj (aR):=λY=>bif Y then some (⟨E,I,O,T⟩:aR)else some (⟨(0:Int),(0:Int),(0:Int),(0:Int)⟩:aR);bif (E != (0:Int))then (iN c (⟨E,I,O,T⟩:aR)).bind λZ=>(U Z)else (U false));bif (w==(8:Int))then (zI c.aS).bind λC=>bif (decide ((C.length:Int) > (0:Int)))then if o9:0<=(0:Int)/\(0:Int).toNat<C.length then if oH:(0:Int).toNat<C.length then (let vn:=C[(0:Int).toNat]'oH;(D (4:Int) vn (0:Int) (0:Int)))else none else none else (D w 0 0 0)else (D w 0 0 0)
def Cy(c:ax)(D:aa aN)(w:Int):aj aR:=
 (HD c.aS c.box.bS.fY D).bind λC=>bif (C != (-1:Int))then (iN c (⟨(4:Int),C,(0:Int),(0:Int)⟩:aR)).bind λE=>bif E then some (⟨(4:Int),C,(0:Int),(0:Int)⟩:aR)else N9 c w else N9 c w
def aeZ(c:ax)(O:aa Int)(D:aa aN)(w:Int)(idle:aa Bool):aj aR:=
 (HC c.aE idle).bind λC=>(let E:Bool->aj (aR):=λT=>bif T then (zO c C (⟨(5:Int),C,(0:Int),(0:Int)⟩:aR)).bind λI=>(iN c I).bind λU=>bif U then some I else Cy c D w else Cy c D w;bif (C != (-1:Int))then (vl O C).bind λY=>(E (!Y))else (E false))
def Cz(c:ax):cJ c=0\/6<=cJ c/\cJ c<=9:=aq0 _ _ _
def asm(l:aa Int)(h:0<l.length):l.headD 0=l[0]:=by
 cases l with
 |nil=>cases h
 |cons x l=>rfl
def ae0(c:ax)(h:Pq c)(C:0<(opens 0 c.aS.aD).length):(0 <= (opens 0 c.aS.aD)[0]/\(opens 0 c.aS.aD)[0]<aL c.config.ak)/\(opens 0 c.aS.aD).headD 0=(opens 0 c.aS.aD)[0]:=by
 have⟨j,D,E⟩:=aeY 0 _ _ (dg C);have:=h.p.bl;exact⟨by omega,asm _ C⟩
def asn{c:ax}(h:Pq c):N9 c (cJ c)=some (sS c (nS c)):=by
 have ig:=ER h;have hw:=Cz c;have D:=h.p.R.sM;have O:cJ c≠0 -> iN c ⟨cJ c,0,0,0⟩=some (c8 c ⟨cJ c,0,0,0⟩):=λhn=>xS h.p (NO D (by omega))
 have T:(bif (cJ c != (0:Int))then (iN c (⟨cJ c,0,0,0⟩:aR)).bind λU=>(bif U then some (⟨cJ c,0,0,0⟩:aR)else some ye)else some ye)=some (sS c (bif cJ c != 0 then [⟨cJ c,0,0,0⟩]else [])):=by
  by_cases C:cJ c=0
  ·rw[C];rfl
  ·rw[gU C,aq,aq,O C,fnd_cons,fnd_nil]
   grind
 unfold N9 nS;dsimp only;by_cases E:cJ c=8
 ·have Y:(cJ c==8)=true:=by rw[E];rfl
  rw[Y,aq,Na _ (by omega),au,cP];by_cases I:0<(opens 0 c.aS.aD).length
  ·have⟨Z,k2⟩:=ae0 c h I;rw[aZ,aq,aq,aO ⟨by omega,I⟩,aO,k2];show (bif ((4:Int) != 0)then (iN c ⟨4,(opens 0 c.aS.aD)[0],0,0⟩).bind _ else _)=_;rw[xS h.p (xV D (.inl rfl) Z),fnd_cons,fnd_nil];cases c8 c ⟨4,(opens 0 c.aS.aD)[0],0,0⟩<;>rfl
  ·rw[bu,av];exact T
 ·rwa [kS E,av,Bool.false_and,av]
def aso{c:ax}(h:Pq c):Cy c (iz c) (cJ c)=some (sS c (oP c++nS c)):=by
 have C:=ER h;have E:=h.ql;have I:=h.p.bl;have hb:-1 <= qj c/\qj c<c.aS.aD.length:=aeW _ _ _;unfold Cy oP;rw[asl _ C (by rw[EO];omega),au];show (bif qj c != -1 then (iN c ⟨4,qj c,0,0⟩).bind _ else _)=_;rw[asn h];by_cases D:qj c >= 0
 ·rw[gU (by omega:¬ qj c = -1),aq,aZ D,aq,xS h.p (xV h.p.R.sM (.inl rfl) (by omega)),au,List.singleton_append,fnd_cons];cases c8 c ⟨4,qj c,0,0⟩<;>rfl
 ·grind
def asp{c:ax}(h:Pq c):aeZ c (bP 0 c.aE.aC) (iz c) (cJ c) ((List.range c.aE.aC.length).map (EV c))=some (sS c (uD c++(oP c++nS c))):=by
 have Y:=ER h;have I:=uw h.rf;have Z:=h.p.bl;have hdn:=h.dl;have hb:-1 <= fG c/\fG c<c.aE.aC.length:=Va _ _;unfold aeZ uD;rw[asi h.rf,au];show (bif fG c != -1 then (vl (bP 0 c.aE.aC) (fG c)).bind λO=>(bif !O then (zO c (fG c) ⟨5,fG c,0,0⟩).bind λD=>(iN c D).bind λC=>bif C then some D else Cy c (iz c) (cJ c)else Cy c (iz c) (cJ c))else Cy c (iz c) (cJ c))=_;rw[aso h];by_cases T:fG c >= 0
 ·have E:0 <= fG c/\fG c<aL c.config.ak:=by omega
  rw[gU (by omega:¬ fG c = -1),aq,aZ T,cP,(U1 I.1 (by omega) (by omega)),au];cases sR c (fG c)with
  |true=>rfl
  | false=>
   have U:cQ c.config.ak (fz c (fG c))=true:=N7 h E (xV h.p.R.sM (.inr rfl) E);rw[Bool.not_false,aq,aq,U7 _ (by omega) (by omega),au];show ((iN c (fz c (fG c))).bind λC=>bif C then some (fz c (fG c))else _)=_;rw[xS h.p U,au,List.singleton_append,fnd_cons]
   grind
 ·grind
def asq{c:ax}(h:Pq c):HF c (bP 0 c.aE.aC) (iz c) ⟨cJ c,0,0,0⟩=some (sS c (uD c++(oP c++nS c))):=by
 have D:=ER h;have E:=h.ql;have I:=h.p.bl;have O:=h.dl;have T:=uw h.rf;have C:c.aS.aD.length=c.aE.aC.length:=by omega
 have e:=eE (step:=HE) c.aS.aD.length (λi=>((bP 0 c.aE.aC,iz c,(),(),(),(),(c.aS.aD.length:Int),(i:Int),()),(c,(cJ c,(0:Int),(0:Int),(0:Int),()),((0:Int),(0:Int),(0:Int),(0:Int),()),(List.range i).map (EV c),()))) _ br (λk U=>by
  unfold HE aK xG;dsimp only;rw[aZ,aq,UJ _ _ (by rw[EO];omega),au,eN,eB,List.length_singleton,fe,aq,bT,List.range_succ,List.map_append];rfl) (by
  unfold HE aK xG;dsimp only;rw[bu,av]) (bZ)
 rw[cZ]at e;unfold HF bQ xL
 refine(bx (λo=>Option.bind o _) e).trans ?_
 rw[au,C];exact asp h
def asr{c:ax}(h:Pq c):(nS c).length <= 1 /\ ∀ x∈nS c,cQ c.config.ak x=true:=by
 have Y:=Cz c;have D:=h.p.R.sM;have E:(bif cJ c != 0 then [(⟨cJ c,0,0,0⟩:aR)]else []).length <= 1 /\ ∀ x∈(bif cJ c != 0 then [⟨cJ c,0,0,0⟩]else []),cQ c.config.ak x=true:=by
  by_cases I:cJ c=0
  ·simp_all
  ·rw[gU I];exact⟨dz _,λx C=>by rw[gF.1 C];exact NO D (by omega)⟩
 unfold nS;cases cJ c==8 with
 |false=>exact E
 | true=>
  by_cases O:0<(opens 0 c.aS.aD).length
  ·have⟨T,U⟩:=ae0 c h O;rw[aZ,U];exact⟨dz _,λx C=>by rw[gF.1 C];exact xV D (.inl rfl) T⟩
  ·simp_all
def ass{c:ax}(h:Pq c):(oP c).length <= 1 /\ ∀ x∈oP c,cQ c.config.ak x=true:=by
 have E:=h.p.bl;have hb:-1 <= qj c/\qj c<c.aS.aD.length:=aeW _ _ _;unfold oP;by_cases C:qj c >= 0
 ·rw[aZ C];exact⟨dz _,λx D=>by rw[gF.1 D];exact xV h.p.R.sM (.inl rfl) (by omega)⟩
 ·grind
def Jb(c:ax):aj aR:=(I8 c++I9 c c.pending.length).find? (c8 c)
def iR(c:ax):aR×Int:=
 bif c.aU.state != 0 then (bif cJ c != 0 then (bif c8 c ⟨cJ c,0,0,0⟩then (⟨cJ c,0,0,0⟩,-1)else (ye,-1))else (ye,-1))else
 match Jb c with
 |some x=>(x,-1)
 |none=>bif decide ((oN c).2 >= 0)then oN c else (sS c (uD c++(oP c++nS c)),-1)
def ast(p:Nat -> Bool)(n:Nat):eU p (List.range n) <= n/\(∀ k,k<eU p (List.range n) -> p k=false)/\(eU p (List.range n)<n -> p (eU p (List.range n))=true):=by
 have C:=EJ p (List.range n);rw[eB]at C
 refine⟨C,λk D=>?_,λE=>?_⟩
 ·have:=uv D (by rw[eB];omega);simp_all
 ·have:=Ao (p:=p) (q:=List.range n) (by rw[eB];exact E)
  rwa [lV]at this
def asu(c:ax)(n:Nat):(I9 c n).find? (c8 c)=if eU (λi=>qh c i&&c8 c (jc c i)) (List.range n)<n then some (jc c (eU (λi=>qh c i&&c8 c (jc c i)) (List.range n)))else none:=by
 unfold I9;rw[List.find?_map,List.find?_filter];have e:(List.range n).find? (λa=>decide (qh c a=true/\(c8 c ∘ jc c) a=true))=(List.range n).find? (λi=>qh c i&&c8 c (jc c i)):=by
  simp_all
 rw[e];rcases U6 (λi=>qh c i&&c8 c (jc c i)) (List.range n)with ⟨C,D⟩|⟨C,D⟩
 ·simp_all
 ·grind
def asv{c:ax}(h:Pq c):L3 c=some (iR c):=by
 have Z:=h.p.R.sM;have hw:=Cz c;have yx:=h.pl;have Vb:=uw h.rf;have ul:=UC 0 c.aE.aC;have IB:=h.p.bl;have hdn:=h.dl;unfold L3 cH;rw[UD h.rf,au,aek h.rf,au,aqZ _ _ _ h.eY h.pw,au];have ew:xT c.box.bS.eY c.aU (vC c)=cJ c:=rfl;rw[ew];unfold iR;cases c.aU.state != 0 with
 | true=>
  rw[aq,aq];by_cases T:cJ c=0
  ·rw[T];rfl
  ·rw[gU T,aq,aq,xS h.p (NO Z (by omega)),au];cases c8 c ⟨cJ c,0,0,0⟩<;>rfl
 | false=>
  rw[av,av];have uC:∀ (k:Nat) (C:k<(bP 0 c.aE.aC).length),BZ (((),(),(),(),(),((bP 0 c.aE.aC).length:Int),(k:Int),()),(c,((0:Int),(0:Int),(0:Int),(0:Int),()),bP 0 c.aE.aC,(cJ c,(0:Int),(0:Int),(0:Int),()),()))=some (bif c8 c (fz c (bP 0 c.aE.aC)[k])then .inr (.inl (((),(-1:Int),()),(((fz c (bP 0 c.aE.aC)[k]).kind,(fz c (bP 0 c.aE.aC)[k]).aA,(fz c (bP 0 c.aE.aC)[k]).row,(fz c (bP 0 c.aE.aC)[k]).bX,()),())))else .inl (((),(),(),(),(),((bP 0 c.aE.aC).length:Int),((k+1:Nat):Int),()),(c,((0:Int),(0:Int),(0:Int),(0:Int),()),bP 0 c.aE.aC,(cJ c,(0:Int),(0:Int),(0:Int),()),()))):=by
   intro k C;have⟨k1,k2⟩:=U9 h (dg C);unfold BZ aK bF xG xL;dsimp only;rw[aZ,aq,aO ⟨by omega,by omega⟩,aO];simp only[bA];rw[U7 _ (by omega) (by omega),au];show ((iN c (fz c (bP 0 c.aE.aC)[k])).bind _)=_;rw[xS h.p k2,au,bT];cases c8 c (fz c (bP 0 c.aE.aC)[k])<;>rfl
  have hfu:(I8 c).find? (c8 c)=((bP 0 c.aE.aC).find? (λb=>c8 c (fz c b))).map (fz c):=by
   unfold I8;rw[List.find?_map];rfl
  unfold Jb;rw[List.find?_append,hfu,asu];rcases U6 (λb=>c8 c (fz c b)) (bP 0 c.aE.aC)with ⟨I,U⟩|⟨I,U⟩
  ·have e:=eE (step:=BZ) (bP 0 c.aE.aC).length (λk=>(((),(),(),(),(),((bP 0 c.aE.aC).length:Int),(k:Int),()),(c,((0:Int),(0:Int),(0:Int),(0:Int),()),bP 0 c.aE.aC,(cJ c,(0:Int),(0:Int),(0:Int),()),()))) (.inr (.inl (((),(),(),(),()),(c,((0:Int),(0:Int),(0:Int),(0:Int),()),bP 0 c.aE.aC,(cJ c,(0:Int),(0:Int),(0:Int),()),())))) br (λk C=>by
    have:=uv (p:=λb=>c8 c (fz c b)) (q:=bP 0 c.aE.aC) (i:=k) (by omega) C;rw[uC k C,this];rfl) (by
    unfold BZ aK bF xG xL;dsimp only;rw[bu,av]) (bZ)
   rw[cZ]at e
   refine(bx (λo=>Option.bind o _) e).trans ?_
   rw[au,U];simp only[Sum.elim_inr,gw,Option.map_none,Option.none_or];have⟨i1,i2,i3⟩:=ast (λi=>qh c i&&c8 c (jc c i)) c.pending.length;have O:∀ (k:Nat) (C:k<c.pending.length),B0 (((),(),(),(),c.pending,(c.pending.length:Int),(k:Int),()),(c,((0:Int),(0:Int),(0:Int),(0:Int),()),bP 0 c.aE.aC,(cJ c,(0:Int),(0:Int),(0:Int),()),()))=some (bif qh c k&&c8 c (jc c k)then .inr (.inl (((),(-1:Int),()),(((jc c k).kind,(jc c k).aA,(jc c k).row,(jc c k).bX,()),())))else .inl (((),(),(),(),c.pending,(c.pending.length:Int),((k+1:Nat):Int),()),(c,((0:Int),(0:Int),(0:Int),(0:Int),()),bP 0 c.aE.aC,(cJ c,(0:Int),(0:Int),(0:Int),()),()))):=by
    intro k C;have⟨ho,Y,o2,o3,o4⟩:=U8 h C;unfold B0 aK bF xG xI;dsimp only;rw[aZ,aq,aO ⟨by omega,by omega⟩,bT];simp only[bA,N8,(U1 Vb.1 Y o3),au,Int.toNat_zero,List.drop_zero];have ek:qh c k=(!sR c (gY c k).aA && !((c.pending.take k).any λa=>a.aA==(gY c k).aA)):=rfl;rw[ek];cases sR c (gY c k).aA with
    |true=>rfl
    | false=>
     rw[av,aV ⟨by omega,by omega,by omega⟩,UJ _ _ (by rw[kG];omega),au];cases (c.pending.take k).any λa=>a.aA==(gY c k).aA with
     |true=>rfl
     | false=>
      rw[av,U7 _ Y o2,au];show ((iN c (jc c k)).bind _)=_;rw[xS h.p (ash h C)];cases c8 c (jc c k)<;>rfl
   by_cases E:eU (λi=>qh c i&&c8 c (jc c i)) (List.range c.pending.length)<c.pending.length
   ·rw[aV E];generalize hN:eU (λi=>qh c i&&c8 c (jc c i)) (List.range c.pending.length)=N at *
    have D:=eE (step:=B0) N (λk=>(((),(),(),(),c.pending,(c.pending.length:Int),(k:Int),()),(c,((0:Int),(0:Int),(0:Int),(0:Int),()),bP 0 c.aE.aC,(cJ c,(0:Int),(0:Int),(0:Int),()),()))) (.inl (((),(-1:Int),()),(((jc c N).kind,(jc c N).aA,(jc c N).row,(jc c N).bX,()),()))) br (λk C=>by
     rw[O k (by omega),i2 k C];rfl) (by
     rw[O N E,i3 E];rfl) (bZ)
    rw[cZ]at D
    refine(bx (λo=>Option.bind o _) D).trans ?_
    rfl
   ·rw[aW E];have D:=eE (step:=B0) c.pending.length (λk=>(((),(),(),(),c.pending,(c.pending.length:Int),(k:Int),()),(c,((0:Int),(0:Int),(0:Int),(0:Int),()),bP 0 c.aE.aC,(cJ c,(0:Int),(0:Int),(0:Int),()),()))) (.inr (.inl (((),(),(),(),()),(c,((0:Int),(0:Int),(0:Int),(0:Int),()),bP 0 c.aE.aC,(cJ c,(0:Int),(0:Int),(0:Int),()),())))) br (λk C=>by
     rw[O k C,i2 k (by omega)];rfl) (by
     unfold B0 aK bF xG xI;dsimp only;rw[bu,av]) (bZ)
    rw[cZ]at D
    refine(bx (λo=>Option.bind o _) D).trans ?_
    rw[au];simp only[Sum.elim_inr,gw];rw[arC h,au,asg h,au];cases decide ((oN c).2 >= 0)with
    |true=>rfl
    | false=>
     rw[av,av];show ((HF c (bP 0 c.aE.aC) (iz c) ⟨cJ c,0,0,0⟩).bind _)=_;rw[asq h,au]
  ·have e:=eE (step:=BZ) (eU (λb=>c8 c (fz c b)) (bP 0 c.aE.aC)) (λk=>(((),(),(),(),(),((bP 0 c.aE.aC).length:Int),(k:Int),()),(c,((0:Int),(0:Int),(0:Int),(0:Int),()),bP 0 c.aE.aC,(cJ c,(0:Int),(0:Int),(0:Int),()),()))) (.inl (((),(-1:Int),()),(((fz c (bP 0 c.aE.aC)[eU (λb=>c8 c (fz c b)) (bP 0 c.aE.aC)]).kind,(fz c (bP 0 c.aE.aC)[eU (λb=>c8 c (fz c b)) (bP 0 c.aE.aC)]).aA,(fz c (bP 0 c.aE.aC)[eU (λb=>c8 c (fz c b)) (bP 0 c.aE.aC)]).row,(fz c (bP 0 c.aE.aC)[eU (λb=>c8 c (fz c b)) (bP 0 c.aE.aC)]).bX,()),()))) br (λk C=>by
    have:=uv (p:=λb=>c8 c (fz c b)) (q:=bP 0 c.aE.aC) (i:=k) C (by omega);rw[uC k (by omega),this];rfl) (by
    have:=Ao (p:=λb=>c8 c (fz c b)) (q:=bP 0 c.aE.aC) I;rw[uC _ I,this];rfl) (bZ)
   simp_all
def ae1{r:bL}{x:aR}(C:x.kind <= 5):(dx r x).aU=r.aU:=by
 unfold dx
 grind
def fM.cR{c:ax}(p:fM c)(x:aR):fM (cR c x):=⟨p.dl,p.tl,p.gl,p.t,p.g,p.pd,p.u⟩
def Ck.cR{c:ax}(h:Ck c){x:aR}(C:kB c.config.ak c.aS x=true)(D:x.kind<=5)(E:c.trace.length<2000):Ck (cR c x):=by
 simp only[kB,aJ]at C;exact⟨h.f1,h.f2,h.nw,Uj C.1 C.2.1 C.2.2,aeR _ h.rd,h.ar,h.sp,h.se,h.rf,((fM.of h.pa).cR x).ok,h.qu,h.sh,h.sl,h.dr,h.pw,h.ps.trans (ae1 D).symm,h.si,h.s1,h.s2,h.s3,h.er,by simp[Proofs.YtgjfmljpdnnihaaGreat.cR];omega,h.rp⟩
def Ck.Vc{c:ax}(h:Ck c){x:aR}(E:0 <= x.aA)(I:x.aA<aL c.config.ak)(O:0 <= x.row)(T:x.row<c.config.ak.rows):Ck (xX c x):=by
 have C:=(uo h.rk).1;have gb:=fW C;have p:=fM.of h.pa;have ES:=p.tl;have hgl:=p.gl;have U:x.aA.toNat<c.bE.length:=by omega
 have D:eA c.config.ak 100000 (Aq c.config.ak c.config.dJ c.array x.aA x.row):=Ux C c.config.dJ (by decide) (eA.ri h.ar) E I O T;have Y:∀a∈sN c x,dU c.config.ak a=true/\a.bX=0:=λa D=>p.pd a (List.mem_filter.1 D).1
 have Z:(sN c x).Pairwise (λx y=>x≠y):=p.u.filter _;have q:(∀ a∈(xX c x).pending,dU c.config.ak a=true/\a.bX=0)/\(xX c x).pending.Pairwise (λx y=>x≠y):=by
  show (∀a∈(bif (xW c x).2 then (gW c.config.ak.rows x.row).foldl (jr x.aA) (sN c x)else sN c x),dU c.config.ak a=true/\a.bX=0)/\(bif (xW c x).2 then (gW c.config.ak.rows x.row).foldl (jr x.aA) (sN c x)else sN c x).Pairwise (λx y=>x≠y);cases (xW c x).2 with
  |false=>simp_all
  | true=>
   refine aeM _ (λn hn=>?_) Y Z
   have:=adW O T n hn;exact vo C E I this.1 this.2 (eW 0) (by show 0<_;omega)
 have hp:fM (xX c x):=⟨p.dl,by show ((c.bE.set x.aA.toNat (xW c x).1).length:Int)=_;rw[iS];exact p.tl,p.gl,ET p.t (by unfold xW;rw[iw _ U];exact arW (p.t _ (dg U)) _ _),p.g,q.1,q.2⟩
 exact⟨h.f1,h.f2,h.nw,h.rk,h.rd,yc C D,h.sp,h.se,h.rf,hp.ok,h.qu,h.sh,h.sl,h.dr,h.pw,h.ps,h.si,h.s1,h.s2,h.s3,h.er,h.tr,h.rp⟩
def Ck.ref{c:ax}(h:Ck c)(hl:c.box.bS.weights.length<1073741823)(E:aQ c.config.iU 1 16=true){b:Int}(I:0 <= b)(O:b<aL c.config.ak):Ck (I3 c b):=by
 have C:=(uo h.rk).1;have U:=fW C;have p:=fM.of h.pa;have Y:=p.dl;have D:eA _ 100000 (gM _ c.config.dJ c.array b c.config.ak.rows.toNat):=IZ C _ (by decide) (eA.ri h.ar) I O _ (by omega);have T:fM (I3 c b):=⟨by show ((lT c.aE b).aC.length:Int)=_;rw[aeF];exact p.dl,by show ((c.bE.set b.toNat _).length:Int)=_;rw[iS];exact p.tl,by show ((c.guard.set b.toNat _).length:Int)=_;rw[iS];exact p.gl,ET p.t (aeN E),ET p.g (N5 hl h.f1),λa D=>p.pd a (List.mem_filter.1 D).1,p.u.filter _⟩
 exact⟨h.f1,h.f2,h.nw,h.rk,h.rd,yc C D,h.sp,h.se,ar4 h.rf (by omega),T.ok,h.qu,h.sh,h.sl,h.dr,h.pw,h.ps,h.si,h.s1,h.s2,h.s3,h.er,h.tr,h.rp⟩
def Vd{T:Type}{p:T->Prop}{l:aa T}{x:T}(h:∀ y∈l,p y)(C:p x):∀ k:Nat,∀ y∈(List.range k).foldl (λd b=>d.set b x) l,p y
 |0=>h
 | k+1=>by
  rw[oK];exact ET (Vd h C k) C
def ae2{r:dB}(h:fj r=true):∀ k:Nat,fj ⟨(List.range k).foldl (λd b=>d.set b 0) r.aC,r.wait,r.dL⟩=true
 |0=>h
 | k+1=>by
  rw[oK];exact aeV (ae2 h k) k (by omega)
def Ck.UN{c:ax}(h:Ck c)(hl:c.box.bS.weights.length<1073741823)(E:aQ c.config.iU 1 16=true)(n:Nat)(I:(n:Int) <= aL c.config.ak):Ck (iy c n []):=by
 have D:=(uo h.rk).1;have p:=fM.of h.pa;have C:=NS D c.config.dJ (by decide) (eA.ri h.ar) n I;have O:fM (iy c n []):=⟨by show (((List.range n).foldl _ c.aE.aC).length:Int)=_;rw[vE];exact p.dl,by show (((List.range n).foldl _ c.bE).length:Int)=_;rw[vE];exact p.tl,by show (((List.range n).foldl _ c.guard).length:Int)=_;rw[vE];exact p.gl,Vd p.t (aeN E) n,Vd p.g (N5 hl h.f1) n,λa C=>(by cases C),List.Pairwise.nil⟩
 exact⟨h.f1,h.f2,h.nw,h.rk,h.rd,yc D C,h.sp,h.se,ae2 h.rf n,O.ok,h.qu,h.sh,h.sl,h.dr,h.pw,h.ps,h.si,h.s1,h.s2,h.s3,h.er,h.tr,h.rp⟩
def Ck.acc{c:ax}(h:Ck c){i:Nat}(C:qg c i 100000)(hr:c.cx.length<400):Ck (jW c i):=by
 have T:=(uo h.rk).1;have p:=fM.of h.pa;have hi:=C.i;have⟨f1,f3,f4,f5,f6,f7,f8⟩:=C.facts (dg hi);have D:c.queue.getD i qe=c.queue[i]:=iw _ hi;have E:=C.d _ (dg hi);have U:=C.shl;have I:kz (Cv c.shares c.queue[i].eC)=true/\((Cv c.shares c.queue[i].eC).length:Int)=4:=by
  have⟨y,t,e,hl,ho⟩:=ar2 ((List.replicate 4 false).set c.queue[i].eC.toNat true) (by omega) h.sh (by simp[U])
  grind
 have Y:gK (eK (fP c.config.ak c.spare)) (c.queue.take i++c.queue.drop (i+1))=true:=((Qk.of h.qu).sub (aeS _ _)).ok;have key:∀ (a:cN) (e:aa cC) (x:fN),eA c.config.ak 100000 a -> nL e=true -> Ck (qf c i a e x):=λa e x Z he=>
  ⟨h.f1,h.f2,h.nw,h.rk,h.rd,yc T Z,h.sp,h.se,h.rf,(show fM (qf c i a e x)from ⟨p.dl,p.tl,p.gl,p.t,p.g,p.pd,p.u⟩).ok,Y,by unfold qf;rw[D];exact I.1,by unfold qf;rw[D];exact I.2,h.dr,h.pw,h.ps,h.si,h.s1,h.s2,h.s3,he,h.tr,by simp[qf];omega⟩
 unfold jW;rw[D];dsimp only;cases c.queue[i].write with
 |true=>exact key _ _ _ (C.a.Ci _ (c:=⟨_,false⟩) (US E.1 E.2).2.1) h.er
 | false=>
  have O:=C.a.syms _ (dg f4);rw[av,iw _ f4];refine key _ _ _ (C.a.Ci _ (UQ O)) ?_;have hec:=UX O;by_cases e:kF c.array.cells[iP c.config.ak (iQ c c.queue[i].line)]=0
  ·rw[e];exact h.er
  ·rw[gU e,aq];exact aeT h.er ⟨by omega,f5⟩ (by omega)
def Ck.Oa{c:ax}(h:Ck c){x:aR}(C:kB c.config.ak c.aS x=true)(D:6 <= x.kind/\x.kind <= 9)(U:c.trace.length<2000):Ck (Cw (Proofs.YtgjfmljpdnnihaaGreat.cR c x) x.kind):=by
 simp[kB,aJ]at C;have E:=bh.1 h.nw;have⟨I,O,T⟩:=ar5 h.pw h.ps h.si E.2 D C.2.2;have p:=fM.of h.pa;exact⟨h.f1,h.f2,h.nw,Uj C.1 C.2.1 C.2.2,aeR _ h.rd,h.ar,h.sp,h.se,h.rf,(show fM _ from ⟨p.dl,p.tl,p.gl,p.t,p.g,p.pd,p.u⟩).ok,h.qu,h.sh,h.sl,h.dr,I,O,T,h.s1,h.s2,h.s3,h.er,by simp[Cw,aeD,Proofs.YtgjfmljpdnnihaaGreat.cR];omega,h.rp⟩
def Ck.Ve{c:ax}(I:cB c)(h:Ck c){x:aR}{i:Int}(E:mG c x i=true):Ck (eH c x i):=by
 have Y:=Pq.of I h.ok;have O:c.box.bS.weights.length<1073741823:=by
  have:=I.1.1;unfold IJ at this;omega
 have Z:aQ c.config.iU 1 16=true:=by
  have:=(Au O h.f1).1;simp[pX,aJ]at this;exact this.2.2.2.2.2.1
 have⟨hb,C,hs,hr⟩:=I6 I Y E;have D:c.trace.length<2000:=by
  simp only[mG,aJ,fH,oQ]at E;omega
 have hrp:x.kind=2 \/ x.kind=3 -> c.cx.length<400:=λT=>by
  simp only[mG,aJ]at E;have e:(x.kind==2 ||x.kind==3)=true:=by rcases T with q|q<;>rw[q]<;>rfl
  rw[e,aq]at E;simp[I5,aJ,fI]at E;omega
 have⟨hg,hlen,T,Ay⟩:=Cd C;have hc:cQ c.config.ak x=true:=by
  simp only[kB,aJ]at C
  grind
 have ES:=(fM.of h.pa).tl;have ig:=Y.p.bl;unfold eH;rcases kinds T with q|q|q|q|q|q|q|q|q<;>rw[q]<;>simp only[Int.reduceBEq,Int.reduceBNe,aq,av,Bool.or_true,Bool.or_false,Bool.true_or,Bool.false_or,Bool.or_self]
 ·have⟨U,Bu⟩:=Ay (by omega);have⟨r0,r1⟩:=N3 hc q;exact(h.cR C (by omega) D).Vc U (by show x.aA<aL c.config.ak;omega) r0 r1
 ·exact(h.cR C (by omega) D).acc ((hs (.inl q)).1.cR x) (hrp (.inl q))
 ·exact(h.cR C (by omega) D).acc ((hs (.inr q)).1.cR x) (hrp (.inr q))
 ·exact h.cR C (by omega) D
 ·have⟨U,Bu⟩:=Ay (by omega);exact(h.cR C (by omega) D).ref O Z U (by show x.aA<aL c.config.ak;omega)
 ·have:=h.Oa C (by omega) D;rw[q]at this;exact this
 ·have:=h.Oa C (by omega) D;rw[q]at this;exact this
 ·have:=h.Oa C (by omega) D;rw[q]at this;exact this
 ·have:=h.Oa C (by omega) D;rw[q]at this;exact this.UN O Z _ (by show (c.bE.length:Int) <= aL c.config.ak;omega)
def Adv(n:Int)(c y:ax):Prop:=(y.trace=c.trace/\y.aS=c.aS/\y.ready=c.ready)\/∃x,y.trace=c.trace++[⟨n,x⟩]/\y.aS=dx c.aS x/\y.ready=gL c.config.ak c.ready ⟨n,x⟩/\cQ c.config.ak x=true/\iO c.aS x=true/\lS c.config.ak c.config.bU c.ready x<=n
def Nx(c y:ax):Prop:=y.now=c.now/\y.config=c.config/\y.queue.Sublist c.queue/\(∀r∈y.cx,r∈c.cx\/∃q∈c.queue,r.id=q.id)/\Adv c.now c y/\y.queue.length+y.cx.length=c.queue.length+c.cx.length
def Nx.refl(c:ax):Nx c c:=⟨rfl,rfl,List.Sublist.refl _,λr C=>.inl C,.inl ⟨rfl,rfl,rfl⟩,rfl⟩
def ae3{c:ax}{x:aR}(C:cQ c.config.ak x=true/\iO c.aS x=true/\lS c.config.ak c.config.bU c.ready x<=c.now){i:Nat}(hi:i<c.queue.length):Nx c (jW (cR c x) i):=by
 have key:∀ (a:cN) (e:aa cC) (t:fN),t.id=c.queue[i].id->Nx c (qf (cR c x) i a e t):=λa e t D=>by
  refine⟨rfl,rfl,aeS _ _,λr hr=>?_,.inr ⟨x,rfl,rfl,rfl,C⟩,?_⟩
  ·rcases kX.1 hr with hr | hr
   ·exact .inl hr
   ·rw[gF.1 hr];exact .inr ⟨_,dg hi,D⟩
  ·show (c.queue.take i++c.queue.drop (i+1)).length+(c.cx++[t]).length=_;rw[List.length_append,List.length_append,kG,List.length_drop,List.length_singleton];omega
 have E:(cR c x).queue.getD i qe=c.queue[i]:=iw _ hi;unfold jW;rw[E];dsimp only;cases c.queue[i].write with
 |true=>exact key _ _ _ rfl
 |false=>exact key _ _ _ rfl
def asw{c:ax}{x:aR}{i:Int}(D:mG c x i=true)(Y:1<=x.kind/\x.kind<=9)(I:x.kind=2\/x.kind=3->i.toNat<c.queue.length):Nx c (eH c x i):=by
 have E:cQ c.config.ak x=true/\iO c.aS x=true/\lS c.config.ak c.config.bU c.ready x<=c.now:=by
  simp only[mG,c8,aJ,fI]at D;exact⟨D.1,D.2.1.1,D.2.1.2.2⟩
 have C:∀y:ax,y.now=c.now->y.config=c.config->y.queue=c.queue->y.cx=c.cx->y.trace=c.trace++[⟨c.now,x⟩]->y.aS=dx c.aS x->y.ready=gL c.config.ak c.ready ⟨c.now,x⟩->Nx c y:=λy Z h2 O T h5 h6 h7=>⟨Z,h2,by rw[O];exact List.Sublist.refl _,λr U=>by rw[T]at U;exact .inl U,.inr ⟨x,h5,h6,h7,E⟩,by rw[O,T]⟩
 unfold eH;rcases kinds Y with q|q|q|q|q|q|q|q|q<;>rw[q]<;>simp only[Int.reduceBEq,Int.reduceBNe,aq,av,Bool.or_true,Bool.or_false,Bool.true_or,Bool.false_or,Bool.or_self]
 ·exact C _ rfl rfl rfl rfl rfl rfl rfl
 ·exact ae3 E (I (.inl q))
 ·exact ae3 E (I (.inr q))
 ·exact C _ rfl rfl rfl rfl rfl rfl rfl
 ·exact C _ rfl rfl rfl rfl rfl rfl rfl
 ·exact C _ rfl rfl rfl rfl rfl rfl rfl
 ·exact C _ rfl rfl rfl rfl rfl rfl rfl
 ·exact C _ rfl rfl rfl rfl rfl rfl rfl
 ·exact C _ rfl rfl rfl rfl rfl rfl rfl
def sU(d:Int):Int:=if (5:Int)<W6 (d+1)then 5 else W6 (d+1)
def asx(q:aa bg)(w:Bool)(hl:q.length<1073741824):∃ n,Ef q w=some n:=by
 unfold Ef bQ;have e:=eE (step:=H6) q.length (λi=>((w,(((q.take i).countP λr=>r.write==w:Nat):Int),q,(q.length:Int),(i:Int),()),())) (.inl (((((q.take q.length).countP λr=>r.write==w:Nat):Int),()),())) br (λk C=>by
  have D:=List.countP_le_length (p:=λr:bg=>r.write==w) (l:=q.take k);rw[kG]at D;unfold H6 aK xG xI;dsimp only;rw[aZ,aq,aO ⟨by omega,by omega⟩,bT];simp only[bA];rw[ud C,List.countP_append,List.countP_singleton];cases q[k].write==w with
  |true=>rw[ bT];rfl
  |false=>rw[ bT];rfl) (by
  unfold H6 aK xG xI;dsimp only;rw[bu,av]) (bZ)
 rw[cZ]at e;exact⟨_,(bx (λo=>Option.bind o _) e).trans rfl⟩
def asy{d:mM}(h:p6 d=true)(n:Int):∃ y,Ee d n=some y/\p6 y=true:=by
 unfold Ee;rw[Nh,au,h,bI];cases decide (n >= d.high)with
 |true=>exact⟨_,rfl,h⟩
 | false=>
  cases decide (n <= d.low)with
  |true=>exact⟨_,rfl,h⟩
  |false=>simp_all
def asz(b:jZ)(h:IL b)(x:Bool):∃ t,H7 b x=some (bif t then ⟨b.next,b.next,false⟩else b,t):=by
 have C:b.next.weights.length <= 1048576:=h.2
 unfold H7;rw[Us b h];cases x with
 |false=>simp_all
 | true=>
  cases b.waits with
  |false=>simp_all
  | true=>
   refine⟨true,?_⟩;unfold sq xA xZ;rw[m9 _];rfl
def asA{c:fq}{p:eo}(hl:p.weights.length<1073741823)(h:m8 c p=true):∃ l t,xo p.weights=some (l,t)/\kz l=true/\(l.length:Int)=4/\p6 ⟨false,p.low,p.high⟩=true:=by
 have⟨_,f2⟩:=Au hl h;simp[sG,aJ,fl]at f2;have⟨f3,f4,f5,f6,f7,f8,f9⟩:=f2;refine⟨p.weights.map nK,true,?_,f8,by rw[eN];exact f7,f6⟩;rw[T0 _ hl];unfold Cb;simp_all
def asC{s:sY}{n:Int}(C:aQ s.every 1 100000=true)(E:aQ s.wait 1 s.every=true)(D:aQ s.next 0 (W6 (n-1))=true)(Z:1<=n/\n<=1000000):∃ y m,xF s n=some (y,m)/\aQ y.every 1 100000=true/\aQ y.wait 1 y.every=true/\aQ y.next 0 (W6 (n-1))=true/\m<n:=by
 have T:=bh.1 C;have b2:=bh.1 E;have I:W6 (n-1)=n-1:=bf;have U:=bh.1 D;rw[I]at U;unfold xF;rw[cI,au,C,bI,av,cI,au,E,bI,av,bu,av,cI,au,D,bI,av,bf (n:=s.wait-1)];by_cases O:s.wait-1 > 0
 ·rw[aZ O,aq];exact⟨_,_,rfl,C,bh.2 ⟨by dsimp only;omega,by dsimp only;omega⟩,D,by omega⟩
 ·rw[bu O,av,aW,bf (n:=s.next+1)];refine⟨_,_,rfl,C,bh.2 ⟨T.1,eW _⟩,?_,by omega⟩;rw[I,ru (by omega)];have Y:=Int.emod_nonneg (s.next+1) (show n≠0 by omega);have e2:=Int.emod_lt_of_pos (s.next+1) (show 0<n by omega);exact bh.2 ⟨Y,by dsimp only;omega⟩
def uE(c:ax)(b:jZ)(a:cN)(r:dB)(s:aa di)(d:mM)(p:iG)(u:sY):ax:=⟨c.config,b,W6 (c.now+1),c.aS,c.ready,a,c.spare,r,c.bE,c.guard,c.pending,c.queue,s,d,p,u,c.errors,c.trace,c.cx⟩
def Ob(x:ax):aj ax:=(sA x).bind λC=>bif (C.1.kind != (0:Int))then (sB x C.1 C.2).bind λD=>some D.1 else some x
def Oc(x:ax)(n:Int):aj ax:=bif (decide (n >= (0:Int)))then (xD x n).bind λC=>(xB C.2.1 n C.1.2).bind λD=>Ob D.2.1 else Ob x
def stepT(c:ax)(r:dB)(a:cN):aj ax:=(Ef c.queue true).bind λT=>(Ee c.drain T).bind λI=>(zN (uE c c.box a r c.shares I c.aU c.dD)).bind λU=>(Eg c.aU U).bind λO=>(H7 c.box ((c.queue.length:Int)==(0:Int))).bind λC=>bif C.2 then (xo C.1.bS.weights).bind λY=>(su c.config.ak).bind λE=>(xF c.dD E).bind λD=>Oc (uE c C.1 a r Y.1 ⟨false,C.1.bS.low,C.1.bS.high⟩ O D.1) D.2 else (su c.config.ak).bind λE=>(xF c.dD E).bind λD=>Oc (uE c C.1 a r c.shares I O D.1) D.2
def yh(r:dB)(n:Int):dB:=if 0<r.wait-1 then ⟨r.aC,r.wait-1,r.dL⟩else ⟨r.aC.map sU,bif r.dL then n / 2 else n,r.dL⟩
def asD{t:bW}(h:ja t=true):2<=Ev t:=by
 have q:=adl t;unfold BE at q;rw[IA,au,h,bI,av]at q;simp only[ja,aJ,bN]at h;have k:∀ x∈qZ t,0<=x/\x<=1000:=λx C=>by
  have:=h.1 x C;simp only[Eu,bh]at this;omega
 simp only[qZ,List.forall_mem_cons]at k;injection q with q;rw[<-q];simp (disch:=omega) only [bf];omega
def asE{c:fq}{p:eo}(hl:p.weights.length<1073741823)(h:m8 c p=true):2<=c.interval/\c.interval<=10000:=by
 have q:=(Au hl h).1;have t:=asD (ado q).2.1;simp only[pX,aJ,bh]at q;omega
def asF{r:dB}(h:fj r=true){n:Int}(E:2<=n/\n<=10000):fj (yh r n)=true/\(yh r n).aC.length=r.aC.length:=by
 have hl:=uw h;have C:=IX h;simp only[fj,aJ,bh]at h;unfold yh;split
 ·refine⟨?_,rfl⟩;simp only[fj,aJ,bh];exact⟨h.1,by omega⟩
 ·refine⟨?_,eN _⟩;simp only[fj,aJ,bN,IC,bh,eN,List.mem_map,forall_exists_index,and_imp,forall_apply_eq_imp_iff₂]
  refine⟨λd D=>?_,by omega,?_⟩
  ·have:=C d D;unfold sU;rw[bf (n:=d+1)];split<;>omega
  ·cases r.dL<;>simp<;>omega
def asG{r:dB}(h:fj r=true){n:Int}(D:2<=n/\n<=10000):Mv r n=some (yh r n):=by
 have hl:=uw h;have I:=IX h;have O:1<=r.wait/\r.wait<=10000:=by
  simp only[fj,aJ,bh]at h;exact h.2.2
 have E:W6 (n.tdiv 2)=n / 2:=by rw[sV (by omega)];exact bf
 unfold Mv xm yh bQ xA xZ;rw[fe (by simp;omega),aq,List.nil_append,au,Ey _ (by omega),au,h,bI,av,cI,au,bh.2 D,bI,av];dsimp only;rw[bf (n:=r.wait-1)];by_cases C:r.wait-1 > 0
 ·rw[aZ C,aq,aV C]
 ·rw[bu C,av,aW C];have e:=eE (step:=HX) r.aC.length (λi=>((n,(),(),(),(r.aC.length:Int),(i:Int),()),((r.aC,r.wait,r.dL,()),((),(0:Int),false,()),((),r.wait-1,r.dL,()),([]:aa Int),upto sU r.aC i,()))) (.inl ((n,(),(),(),()),((r.aC,r.wait,r.dL,()),((),(0:Int),false,()),((),r.wait-1,r.dL,()),([]:aa Int),r.aC.map sU,()))) br (λi hi=>by
   have hlen:=M8 sU r.aC i;unfold HX aK xG xL;dsimp only;rw[aZ,aq,aO ⟨by omega,by omega⟩,aO,aO ⟨by omega,by omega⟩,aO,bT];simp only[bA];rw[TP sU r.aC i hi,<-TQ sU r.aC i hi];rfl) (by
   unfold HX aK xG xL;dsimp only;rw[bu,av,TO]) (bZ)
  rw[cZ,ac0]at e
  refine(bx (λo=>Option.bind o _) e).trans ?_
  rw[au];simp only[gw];rw[E];cases r.dL<;>rfl
def ae4(a:cN):cN:=⟨a.cells,a.bq.map (m6 1),a.aY⟩
def asH{g:aF}{a:cN}(h:lM g a=true):lM g (ae4 a)=true:=by
 have C:=eA.ri h
 refine yc (Nz h).1 ⟨C.cells,C.syms,(bx (λn:Nat=>(n:Int)) (eN _)).trans C.bq,C.aY,λx D=>?_,C.hit⟩
 obtain⟨y,E,rfl⟩:=List.mem_map.1 D;exact adh (C.Et y E) (by decide)
def asJ{g:aF}{a:cN}(h:lM g a=true):HZ g a 1=some (ae4 a):=aqd (Nz h).1 (eA.ri h) (by decide) (by decide) (by decide)
def Vf{A T:Type}(f:Nat->A->T->aj A)(e:T):∀ (l:aa T) (k:Nat) (a:A),mD f k (l++[e]) a=(mD f k l a).bind λC=>f (k+l.length) C e
 | [],k,a=>by
  show (match f k a e with|some C=>some C|none=>none)=f k a e;cases f k a e<;>rfl
 | x :: l,k,a=>by
  show (match f k a x with|some C=>mD f (k+1) (l++[e]) C|none=>none)=(match f k a x with|some C=>mD f (k+1) l C|none=>none).bind λC=>f (k+(l.length+1)) C e
  cases f k a x with
  |none=>rfl
  | some C=>
   rw[show k+(l.length+1)=k+1+l.length by omega];exact Vf f e l (k+1) C
def ae5{A T:Type}{f f':Nat->A->T->aj A}:∀ (l:aa T) (k:Nat) (a:A),(∀ i (h:i<l.length) a,f (k+i) a l[i]=f' (k+i) a l[i])->mD f k l a=mD f' k l a
 |[],_,_,_=>rfl
 | x :: l,k,a,h=>by
  have D:f k a x=f' k a x:=h 0 (Nat.zero_lt_succ _) a;show (match f k a x with|some C=>mD f (k+1) l C|none=>none)=(match f' k a x with|some C=>mD f' (k+1) l C|none=>none)
  rw[D];cases f' k a x with
  |none=>rfl
  | some C=>
   exact ae5 l (k+1) C λi hi b=>by
    have:=h (i+1) (Nat.succ_lt_succ hi) b;rw[show k+(i+1)=k+1+i by omega]at this;exact this
def asK{l:aa bK}{e x:bK}:∀ {k:Nat},k<=l.length->sJ (l++[e]) k x=sJ l k x
 |0,_=>rfl
 | k+1,h=>by
  simp only[sJ];rw[List.getElem?_append_left (by omega)]
def ae6(g:aF)(t:bW){l:aa bK}(e x:bK){k:Nat}(h:k<=l.length)(r:bL):fT g t (l++[e]) k r x=fT g t l k r x:=by
 unfold fT;rw[asK h,List.take_append_of_le_length h]
def asM(g:aF)(t:bW)(l:aa bK)(e:bK):runT g t (l++[e])=(runT g t l).bind λr=>fT g t l l.length r e:=by
 unfold runT;rw[Vf,ff,ae5 (f':=fT g t l) l 0 (kC g) λi hi a=>ae6 g t e _ (by omega) a];congr 1;funext r;exact ae6 g t e e (dz _) r
structure yj (g:aF) (t:bW) (l:List bK) (r:bL) (q:dP):Prop where
 tkR:runT g t l=some r
 tkF:Ch g l=some r
 tkY:nM g l=q
 tkV:∀e∈l,xP g e=true/\e.at_<=q.last.getD (gA g e.cmd).toNat (-1)
 tkA:q.aX=(gq l).drop ((gq l).length-4)
def yj.new(g:aF)(t:bW):yj g t [] (kC g) (ur g):=⟨rfl,rfl,rfl,λe h=>(by cases h),rfl⟩
def asN(g:aF)(t:bW){a b:aR}(c:aR)(C:a.kind=b.kind)(hb:a.kind<=5->a.aA=b.aA):gp g t a c=gp g t b c:=by
 have e:sI a c=sI b c:=by unfold sI;rw[C]
 unfold gp Ah;rw[<-e,C];cases D:sI a c with
 |false=>rfl
 | true=>
  simp only[sI,aJ,bh]at D;rw[hb D.1.2]
def asO{g:aF}{c:aR}(h:cQ g c=true):(jV (gA g c).toNat).kind=c.kind/\((jV (gA g c).toNat).kind<=5->(jV (gA g c).toNat).aA=c.aA):=by
 obtain⟨_,D,hb,_⟩:=q6 h;obtain⟨E,_⟩:=EC h;have e:((gA g c).toNat:Int)=gA g c:=Int.toNat_of_nonneg E;have I:gA g c % 9+1=c.kind:=by unfold gA;omega
 unfold jV;dsimp only;rw[e,I]
 refine⟨rfl,λC=>?_⟩
 have O:aQ c.kind 1 5=true:=bh.2 ⟨D.1,C⟩;rw[aV C];unfold gA;rw[O,aq];omega
def ae7(g:aF)(t:bW)(l:aa Int)(c:aR):∀ (k:Nat),k<=l.length->∀ (i:Nat) (hi:i<l.length),i<k->0<=l[i]->l[i]+gp g t (jV i) c<=sL g t l c k
 |0,_,_,_,h,_=>absurd h (Nat.not_lt_zero _)
 | k+1,E,i,hi,h,C=>by
  rw[NG,NH (by omega)];by_cases e:i=k
  ·subst e;rw[bu,av];unfold sK;split<;>omega
  ·have D:=ae7 g t l c k (by omega) i hi (by omega) C;cases decide (l[k]<0)with
   |true=>exact D
   | false=>
    rw[av];unfold sK;split<;>omega
def asP(g:aF)(t:bW)(r:dP)(c:aR):sL g t r.last c r.last.length<=lS g t r c:=by
 unfold lS sK;cases c.kind==1&&(r.aX.length:Int)==4 with
 |false=>exact eW _
 | true=>
  rw[aq];split<;>omega
def yj.gap{g:aF}{t:bW}{l:aa bK}{r:bL}{q:dP}(h:yj g t l r q)(E:jU g q=true){x:aR}{n:Int}(ha:lS g t q x<=n):∀ e∈l,e.at_+gp g t e.cmd x<=n/\e.at_<n:=λe I=>by
 obtain⟨O,T⟩:=h.tkV e I;obtain⟨D,h0,_⟩:=Ug O;obtain⟨p0,p1⟩:=EC D;have hl:=(ED E).2.1;have C:(gA g e.cmd).toNat<q.last.length:=by omega
 rw[cW,bH C,Option.getD_some]at T;have U:=ae7 g t q.last x q.last.length (dz _) _ C C (by omega);have h4:=asP g t q x;obtain⟨Y,Z⟩:=asO D;rw[asN g t x Y Z]at U;have h5:=apA g t e.cmd x;omega
def asQ(l:aa bK)(e:bK):gq (l++[e])=bif e.cmd.kind==1 then gq l++[e.at_]else gq l:=by
 unfold gq;rw[List.filter_append,List.map_append];cases h:e.cmd.kind==1<;>simp[List.filter_cons,h]
def asR{l:aa bK}{y:Int}(h:y∈gq l):∃ e∈l,e.at_=y:=by
 obtain⟨e,C,rfl⟩:=List.mem_map.1 h;exact⟨e,(List.mem_filter.1 C).1,rfl⟩
def yl{T:Type}{l:aa T}{i:Nat}{x:T}(d:T)(h:i<l.length):(l.set i x).getD i d=x:=by
 rw[cW,List.getElem?_set_self h];rfl
def getD_set_ne{T:Type}{l:aa T}{i j:Nat}{x:T}(d:T)(h:i≠j):(l.set i x).getD j d=l.getD j d:=by
 rw[cW,List.getElem?_set_ne h,<-cW]
def yj.add{g:aF}{t:bW}{l:aa bK}{r:bL}{q:dP}(h:yj g t l r q)(hr:kA g r=true)(I:jU g q=true){x:aR}{n:Int}(C:cQ g x=true)(T:iO r x=true)(ha:lS g t q x<=n)(hn:0<=n/\n<=1000000):yj g t (l++[⟨n,x⟩]) (dx r x) (gL g q ⟨n,x⟩):=by
 have E:=h.gap I ha;have hl:=(ED I).2.1;obtain⟨p0,p1⟩:=EC C;have hi:aQ n 0 1000000=true:=bh.2 hn;have D:=h.tkA;have h1:sJ l l.length ⟨n,x⟩=true:=by
  cases e:l.length with
  |zero=>rfl
  | succ k=>
   simp only[sJ];rw[bH (by omega)];exact aZ (E _ (dg (by omega))).2
 have h2:um g t l ⟨n,x⟩=false:=by
  unfold um
  refine mJ.2 λe he=>?_
  have:=(E e he).1;rw[fI];dsimp only;omega
 have h3:(x.kind==1&&Ak t (gq l) n)=false:=by
  cases U:x.kind==1 with
  |false=>rfl
  | true=>
   rw[cP];unfold Ak;by_cases O:4<=(gq l).length
   ·have e4:q.aX.length=4:=by rw[D,List.length_drop];omega
    have e0:q.aX.getD 0 0=(gq l).getD ((gq l).length-4) 0:=by
     rw[D,cW,List.getElem?_drop,Nat.add_zero,<-cW]
    have e5:q.aX.getD 0 0+t.jY<=lS g t q x:=by
     unfold lS sK;rw[U,e4,show ((4:Nat):Int)==4 from rfl,Bool.and_self,aq];split<;>omega
    rw[<-e0,bu (show ¬ n-q.aX.getD 0 0<t.jY by omega),Bool.and_false]
   ·rw[bu O,Bool.false_and]
 have O:(x.kind==1&&vA q n)=false:=by
  cases U:x.kind==1 with
  |false=>rfl
  | true=>
   rw[cP];unfold vA;cases hL:q.aX.getLast? with
   |none=>rfl
   | some y=>
    have Y:y∈q.aX:=List.mem_of_getLast? hL;rw[D]at Y;obtain⟨e,he,rfl⟩:=asR (List.mem_of_mem_drop Y);exact bu (by have:=(E e he).2;omega)
 have Z:gL g q ⟨n,x⟩=⟨q.last.set (gA g x).toNat n,bif x.kind==1 then Cf q.aX n else q.aX⟩:=by
  unfold gL;dsimp only;rw[I,C,hi,O];rfl
 refine⟨?_,?_,?_,?_,?_⟩
 ·rw[asM,h.tkR,Option.bind_some];unfold fT;dsimp only;rw[C,hi,h1,T,List.take_length,h2,h3];rfl
 ·have e:=h.tkF;unfold Ch at e ⊢;rw[Vf,e,Option.bind_some];unfold fE kB;dsimp only;rw[hr,C,T];rfl
 ·have e:=h.tkY;unfold nM at e ⊢;rw[List.foldl_append,e];rfl
 ·rw[Z];dsimp only;intro e he;rcases kX.1 he with he | he
  ·obtain⟨e1,e2⟩:=h.tkV e he;refine⟨e1,?_⟩;by_cases ep:(gA g x).toNat=(gA g e.cmd).toNat
   ·rw[<-ep,yl _ (by omega)];have:=(E e he).2;omega
   ·rw[getD_set_ne _ ep];exact e2
  ·obtain rfl:=gF.1 he;dsimp only;rw[yl _ (by omega)];refine⟨?_,eW _⟩;unfold xP;rw[C,hi];rfl
 ·rw[Z,asQ];dsimp only;cases x.kind==1 with
  |false=>exact D
  | true=>
   rw[aq,aq];unfold Cf;rw[D,List.length_append,List.length_singleton,List.length_drop];by_cases hs:(gq l).length<=3
   ·rw[show (gq l).length-4=0 by omega,List.drop_zero];rfl
   ·rw[<-List.drop_append_of_le_length (l₂:=[n]) (show (gq l).length-4<=(gq l).length by omega),List.drop_drop];congr 1;omega
def ae8(l:aa Int):Al l l=true:=by
 unfold Al;rw[kH,cP,bN];intro p C;obtain⟨i,hi,rfl⟩:=jf.1 C;rw[List.getElem_zip];exact kH _
def asT(l:aa dK):(l.zip l).all Cl=true:=by
 rw[bN];intro p C;obtain⟨i,hi,rfl⟩:=jf.1 C;rw[List.getElem_zip];unfold Cl;rw[kH,kH];rfl
def EW(c:ax):Prop:=yj c.config.ak c.config.bU c.trace c.aS c.ready
def EW.saf{c:ax}(h:EW c):ND c=true:=by
 unfold ND;rw[h.tkR,h.tkF,h.tkY];dsimp only;rw[kH,asT,ae8,ae8];rfl
def Od(R:Nat)(M:Int)(m:aa Int)(b j:Nat):Prop:=m.getD (b*R+j) 0=(j:Int)\/((R:Int)<=m.getD (b*R+j) 0/\m.getD (b*R+j) 0<=M/\∀k,k<j->m.getD (b*R+k) 0≠m.getD (b*R+j) 0)
def Jc{m:aa Int}{R b k:Nat}(C:k<R)(hl:(b+1)*R <= m.length):(gf m R b)[k]?=some (m.getD (b*R+k) 0):=by
 rw[iC]at hl;rw[Nq,List.getElem?_take_of_lt C,List.getElem?_drop,bH (by omega),iw]
def ae9{R:Nat}{M:Int}{m:aa Int}{b j:Nat}(D:j<R)(hl:(b+1)*R <= m.length):EA (R:Int) M (gf m R b) j=true ↔ Od R M m b j:=by
 unfold EA Od;rw[Jc D hl];simp only[dS,aJ,fl,bh,fH,mJ];have key:(∀ x∈(gf m R b).take j,¬ x=m.getD (b*R+j) 0) ↔ ∀ k,k<j -> m.getD (b*R+k) 0≠m.getD (b*R+j) 0:=by
  constructor
  ·intro h k C;refine h _ ?_;rw[List.mem_iff_getElem?];exact⟨k,by rw[List.getElem?_take_of_lt C,Jc (by omega) hl]⟩
  ·intro h x E;have⟨k,C⟩:=List.mem_iff_getElem?.1 E;have I:k<j:=by
    grind
   rw[List.getElem?_take_of_lt I,Jc (by omega) hl]at C
   grind
 rw[key,and_assoc]
structure Sp (g:aF) (s:fm) (bn R:Nat):Prop where
 sb:m7 g s.bR=true
 hb:aL g=(bn:Int)
 hR:g.rows-s.bR=(R:Int)
 hl:s.map.length=bn*R
 f:∀b,b<bn->∀j,j<R->Od R (g.rows-1) s.map b j
def Sp.of{g:aF}{s:fm}(h:mC g s=true):∃ C R,Sp g s C R:=by
 have⟨_,hg,_,_,E,h2,h3,h4⟩:=NM h;have Y:=ef g;simp only[mC,aJ,fl,bN,fA]at h;have⟨Z,hl,O⟩:=h;have⟨R,hR⟩:=fk (show 0 <= g.rows-s.bR by omega);have⟨C,I⟩:=fk Y.1;rw[hR,I,bA,bA]at hl;have hl:s.map.length=C*R:=by exact_mod_cast hl
 rw[hR,I,bA,bA]at O
 refine⟨C,R,Z,I,hR,hl,λb hb j D=>?_⟩
 have T:(b+1)*R <= s.map.length:=by rw[hl];exact iB R hb
 have U:=II T;have e:=ady (R:Int) (g.rows-1) (gf s.map R b) (by rw[U]);rw[U]at e;have E:=bN.2 λj D=>O b hb j (fA.1 D)
 rw[e]at E;exact(ae9 D T).1 (bN.1 E j (fA.2 D))
def Sp.ok{g:aF}{s:fm}{I R:Nat}(h:Sp g s I R):mC g s=true:=by
 have⟨O,T,hR,hl,U⟩:=h;simp only[mC,aJ,fl,bN,fA];rw[hR,T,bA,bA]
 refine⟨O,by exact_mod_cast hl,λb hb=>?_⟩
 have C:(b+1)*R <= s.map.length:=by rw[hl];exact iB R hb
 have D:=II C;have e:=ady (R:Int) (g.rows-1) _ (by rw[D]);rw[D]at e;have Y:=bN.2 λj E=>(ae9 (fA.1 E) C).2 (U b hb j (fA.1 E))
 simp_all
def asU{R b c r j:Nat}(C:r<R)(E:j<R)(h:b*R+r=c*R+j):b=c/\r=j:=by
 have key:∀ {b c r j:Nat},r<R -> b*R+r=c*R+j -> ¬ b<c:=λ{b c r j} C h D=>by
  have:=iB R (show b+1 <= c from D)
  grind
 grind
def Oe{m:aa Int}{p:Nat}(C:p<m.length)(i:Int)(q:Nat):(m.set p i).getD q 0=if q=p then i else m.getD q 0:=by grind
def Sp.set{g:aF}{s:fm}{D R:Nat}(h:Sp g s D R){b r:Nat}(hb:b<D)(I:r<R){i:Int}(U:(R:Int) <= i)(Y:i <= g.rows-1)(hn:∀ k,k<R -> s.map.getD (b*R+k) 0≠i):Sp g ⟨s.bR,s.map.set (b*R+r) i⟩ D R:=by
 have C:b*R+r<s.map.length:=by
  have:=Ae hb (show r+1 <= R from I);rw[h.hl];omega
 refine⟨h.sb,h.hb,h.hR,by rw[iS];exact h.hl,λc Z j O=>?_⟩
 have old:=h.f c Z j O;unfold Od at old ⊢;dsimp only;by_cases e:c=b
 ·subst e;by_cases ej:j=r
  ·subst ej;refine .inr ?_;rw[Oe C,aV rfl]
   refine⟨U,Y,λk E=>?_⟩
   rw[Oe C,aW]
   grind
  ·grind
 ·have T:∀ k,k<R -> ¬ c*R+k=b*R+r:=λk E he=>e (asU E I he).1
  rw[Oe C,aW (T j O)];rcases old with old|⟨o1,o2,o3⟩
  ·grind
  ·refine .inr ⟨o1,o2,λk E=>?_⟩
   rw[Oe C,aW (T k (by omega))];simp_all
def Sp.Az{g:aF}{s:fm}{C R:Nat}(h:Sp g s C R):cg g=true/\cg (fP g s)=true/\fP g s=⟨g.bD,g.aD,(R:Int),g.aM⟩/\aL (fP g s)=(C:Int)/\C <= 8/\R <= 16/\2 <= R/\1 <= g.aM/\g.rows <= 16/\0 <= s.bR:=by
 have⟨e,D,E,I,O,T,U,Y⟩:=NM h.ok;have Z:=ef g;have gb:=fW D;have:=h.hb;have hR:=h.hR
 grind
def Sp.bound{g:aF}{s:fm}{C R:Nat}(h:Sp g s C R){b r:Nat}(hb:b<C)(D:r<R):0<=s.map.getD (b*R+r) 0/\s.map.getD (b*R+r) 0<g.rows:=by
 have hR:=h.hR;have E:=h.Az.2.2.2.2.2.2.2.2.2;rcases h.f b hb r D with e|⟨I,O,_⟩
 ·omega
 ·omega
def Vg(g:aF)(b r:Int):zP g b r=some (dU g ⟨b,r,0⟩):=by
 unfold zP;rw[B7,au]
def Sp.ex{g:aF}{s:fm}{C R:Nat}(h:Sp g s C R)(b r:Int):dU (fP g s) ⟨b,r,0⟩=true ↔ (0 <= b/\b<(C:Int))/\0 <= r/\r<(R:Int):=by
 have⟨_,O,e,T,_,_,_,Z,_⟩:=h.Az;have er:(fP g s).rows=R:=by rw[e]
 have U:(fP g s).aM=g.aM:=by rw[e]
 constructor
 ·intro Y;have⟨_,D,E,I,a4,_⟩:=sE Y;simp_all
 ·rintro⟨⟨D,E⟩,I,a4⟩;exact vo O D (by rw[T];exact E) I (by rw[er];exact a4) (eW 0) (by rw[U];show (0:Int)<_;omega)
def Sp.lens{g:aF}{s:fm}{D R:Nat}(h:Sp g s D R){b:Nat}(hb:b<D):(b+1)*R <= s.map.length/\s.map.length <= 128/\(gf s.map R b).length=R/\Nat.ble (b*R) ((b+1)*R)=true/\Nat.ble ((b+1)*R) s.map.length=true:=by
 have hl:=h.hl;have E:=h.Az.2.2.2.2.1;have I:=h.Az.2.2.2.2.2.1;have C:(b+1)*R <= s.map.length:=by rw[hl];exact iB R hb
 have O:=Nat.mul_le_mul E I;exact⟨C,by omega,II C,iF (by rw[iC];omega),iF C⟩
def asW{g:aF}{s:fm}{C R:Nat}(h:Sp g s C R){b:Nat}(hb:b<C)(x:Int):M0 g s (b:Int) x=some (iu (λe=>e==x) (gf s.map R b)):=by
 obtain⟨U,Y,Z,D,E⟩:=h.lens hb;obtain⟨hg,uO,eg,eb,I,O,ki,hc,Ns,_⟩:=h.Az;have T:((s.map.take ((b+1)*R)).drop (b*R))=gf s.map R b:=rfl;unfold M0 cH;rw[Cc,au,Vg,au,(h.ex (b:Int) 0).2 ⟨⟨by omega,by omega⟩,by omega,by omega⟩,bI,av,Nr h.hR O I hb h.hl,au];dsimp only;rw[D,E,cP,aq,T];have e:=Ez (step:=It) (gf s.map R b) (λe=>e==x) (λi=>((x,gf s.map R b,((gf s.map R b).length:Int),(i:Int),()),())) (λi=>.inl (((i:Int),()),())) (.inr (.inl ((),()))) br (λk hk=>by
  unfold It aK bF xG xI;dsimp only;rw[aZ,aq,aO ⟨by omega,by omega⟩];simp only[bA];rw[bT];cases (gf s.map R b)[k]==x<;>rfl) (by
  unfold It aK bF xG xI;dsimp only;rw[bu,av]) (bZ)
 rw[cZ]at e;rw[e];unfold iu;cases (gf s.map R b).findIdx? (λe=>e==x)<;>rfl
def afa{g:aF}{s:fm}{D R:Nat}(h:Sp g s D R)(b r:Int):∃ y,BS g s b r=some y/\(dU (fP g s) ⟨b,r,0⟩=true->0<=y/\y<g.rows):=by
 unfold BS xI;rw[Cc,au,Vg,au];cases I:dU (fP g s) ⟨b,r,0⟩with
 |false=>exact⟨-1,rfl,λh=>by cases h⟩
 | true=>
  obtain⟨⟨O,a2⟩,T,a4⟩:=(h.ex b r).1 I;obtain⟨b,rfl⟩:=fk O;obtain⟨r,rfl⟩:=fk T;have hb:b<D:=by omega
  have C:r<R:=by omega
  obtain⟨U,asX,Y,Z,n2⟩:=h.lens hb;obtain⟨hg,uO,eg,eb,h8,pJ,ki,hc,Ns,_⟩:=h.Az;have E:((s.map.take ((b+1)*R)).drop (b*R))=gf s.map R b:=rfl;have UI:(gf s.map R b)[r]'(by omega)=s.map.getD (b*R+r) 0:=by
   have:=bH (l:=gf s.map R b) (i:=r) (by omega);rw[Jc C U]at this;injection this with this;exact this.symm
  rw[bI,av,Nr h.hR pJ h8 hb h.hl,au];dsimp only;rw[Z,n2,cP,aq,aO ⟨by omega,by rw[E,Y,bA];exact C⟩];simp only[bA,E,UI];exact⟨_,rfl,λ_=>h.bound hb C⟩
def asY{g:aF}{s:fm}{C R:Nat}(h:Sp g s C R)(b r:Int):∃ y t,M1 g s b r=some (y,t)/\Sp g y C R/\y.bR=s.bR/\(t=true->dU (fP g s) ⟨b,r,0⟩=true):=by
 obtain⟨hg,uO,T,eb,U,Y,ki,hc,Ns,PN⟩:=h.Az;have hm:s.map.length<=128:=by
  rw[h.hl];exact Nat.mul_le_mul U Y
 have hR:=h.hR;unfold M1 xA cH xZ;rw[fe (by simp;omega),aq,List.nil_append,Cc,au,Vg,au];cases Z:dU (fP g s) ⟨b,r,0⟩with
 |false=>exact⟨s,false,rfl,h,rfl,λh=>by cases h⟩
 | true=>
  obtain⟨⟨a1,a2⟩,a3,a4⟩:=(h.ex b r).1 Z;obtain⟨b,rfl⟩:=fk a1;obtain⟨r,rfl⟩:=fk a3;have hb:b<C:=by omega
  have hr:r<R:=by omega
  obtain⟨I,asX,ig,n1,n2⟩:=h.lens hb;have hp:b*R+r<s.map.length:=by
   rw[iC]at I;omega
  have Vh:W6 ((b:Int)*(R:Int))=((b*R:Nat):Int):=by rw[<-Int.natCast_mul];exact bf
  have Vi:W6 (((b*R:Nat):Int)+(r:Int))=((b*R+r:Nat):Int):=by rw[<-Int.natCast_add];exact bf
  rw[bI,av,T];dsimp only;obtain⟨n,hn⟩:=fk (show 0<=g.rows-(R:Int) by omega);obtain⟨z,e,hz⟩:=acZ (step:=Iu) n (λk x=>x=(((b:Int),(r:Int),(),(),(),(),(),(R:Int)+(k:Int),()),((g.bD,g.aD,g.rows,g.aM,()),(s.bR,s.map,()),((0:Int),(),()),(s.bR,(),()),(g.bD,g.aD,(R:Int),g.aM,()),([]:aa Int),s.map,())))
   (λz=>(∃i:Int,z = .inl (((),true,()),((s.bR,(),()),s.map.set (b*R+r) i,()))/\(R:Int)<=i/\i<=g.rows-1/\∀k,k<R->s.map.getD (b*R+k) 0≠i)\/z = .inr (.inl (((),(),()),(((0:Int),(),()),(s.bR,(),()),([]:aa Int),s.map,())))) br (x:=(((b:Int),(r:Int),(),(),(),(),(),(R:Int),()),((g.bD,g.aD,g.rows,g.aM,()),(s.bR,s.map,()),((0:Int),(),()),(s.bR,(),()),(g.bD,g.aD,(R:Int),g.aM,()),([]:aa Int),s.map,()))) (by rw[cZ,Int.add_zero]) (by
   rintro k hk x rfl;unfold Iu aK bF xG xL;dsimp only;rw[qY,aZ (show (R:Int)+(k:Int)<g.rows by omega),aq];rw[show (⟨s.bR,s.map⟩:fm)=s from rfl,asW h hb,au];by_cases D:iu (λe=>e==(R:Int)+(k:Int)) (gf s.map R b)<0
   ·rw[aZ D,aq,Vh,Vi,aO ⟨by omega,by omega⟩,aO]
    refine .inr ⟨_,rfl,.inl ⟨(R:Int)+(k:Int),?_,by omega,by omega,λj hj e=>?_⟩⟩
    ·simp only[bA]
    ·have E:=(aer (λe=>e==(R:Int)+(k:Int)) (gf s.map R b)).1;rw[aZ D]at E;have O:(gf s.map R b).any (λe=>e==(R:Int)+(k:Int))=false:=by
      cases hq:(gf s.map R b).any (λe=>e==(R:Int)+(k:Int))with
      |false=>rfl
      |true=>rw[hq]at E;cases E
     rw[mJ]at O;have rV:s.map.getD (b*R+j) 0∈gf s.map R b:=List.mem_iff_getElem?.2 ⟨j,Jc hj I⟩;exact O _ rV (by rw[e];exact kH _)
   ·rw[bu D,av,bf (n:=(R:Int)+(k:Int)+1)];exact .inl ⟨_,rfl,by rw[Int.natCast_add,Int.natCast_one,Int.add_assoc]⟩) (by
   rintro x rfl;unfold Iu aK bF xG xL;dsimp only;rw[bu (show ¬ (R:Int)+(n:Int)<g.rows by omega),av];exact⟨_,rfl,.inr rfl⟩) (bZ)
  rw[e,au];rcases hz with ⟨i,rfl,i1,i2,i3⟩|rfl
  ·exact⟨_,true,rfl,h.set hb hr i1 i2 i3,rfl,λ_=>rfl⟩
  ·exact⟨_,false,rfl,h,rfl,λh=>by cases h⟩
def asZ{c:ax}(T:cB c)(D:cy c=true)(b r:Int):∃ t y,M3 c b r=some (t,(y,()))/\cB y/\cy y=true/\(t=false->y=c)/\∃ l s,y=⟨c.config,c.box,c.now,c.aS,c.ready,⟨l,c.array.bq,c.array.aY⟩,s,c.aE,c.bE,c.guard,c.pending,c.queue,c.shares,c.drain,c.aU,c.dD,c.errors,c.trace,c.cx⟩:=by
 have h:=Ck.of D;obtain⟨bn,R,E⟩:=Sp.of h.sp;obtain⟨U,uO,eg,eb,h8,pJ,ki,hc,Ns,PN⟩:=E.Az;obtain⟨f,e1,hf⟩:=afa E b r;obtain⟨y,t,e2,I,yP,ht⟩:=asY E b r;unfold M3 bQ xL;rw[e1,au,e2,au];cases t with
 |false=>exact⟨false,c,rfl,T,D,λ_=>rfl,_,_,rfl⟩
 | true=>
  have Y:=ht rfl;obtain⟨⟨a1,a2⟩,a3,a4⟩:=(E.ex b r).1 Y;have ig:=(uo h.rk).2.1;have IB:=E.hb;have hR:=E.hR;obtain⟨f1,f2⟩:=hf Y;have egy:fP c.config.ak y=fP c.config.ak c.spare:=by
   unfold fP;rw[I.ok,h.sp,yP]
  obtain⟨q,e3,O⟩:=afa I b r;have O:=O (by rw[egy];exact Y);rw[bI,av,aO ⟨a1,by omega⟩,aO];dsimp only;cases c.aS.aD[b.toNat].open_ with
  |true=>exact⟨false,c,rfl,T,D,λ_=>rfl,_,_,rfl⟩
  | false=>
   rw[av,e3,au];obtain⟨n,hn⟩:=fk (show 0<=c.config.ak.aM by omega);have gb:=fW U;have NC:∀(row:Int) (k:Nat),0<=row->row<c.config.ak.rows->k<n->dU c.config.ak ⟨b,row,(k:Int)⟩=true:=λrow k r1 r2 D=>vo U a1 (by rw[IB];exact a2) r1 r2 (by dsimp only;omega) (by dsimp only;omega)
   obtain⟨z,e,zb⟩:=TN (step:=Ep) n (λk x=>∃ a:cN,eA c.config.ak 100000 a/\(a.bq=c.array.bq/\a.aY=c.array.aY)/\x=(((),b,(),f,(),q,(k:Int),()),(dO c a,(c.config.ak.bD,c.config.ak.aD,c.config.ak.rows,c.config.ak.aM,()),(y.bR,(),()),y.map,())))
    (λz=>∃a:cN,eA c.config.ak 100000 a/\(a.bq=c.array.bq/\a.aY=c.array.aY)/\z = .inl (((),(),()),(dO c a,(y.bR,(),()),y.map,()))) br (x:=(((),b,(),f,(),q,(0:Int),()),(c,(c.config.ak.bD,c.config.ak.aD,c.config.ak.rows,c.config.ak.aM,()),(y.bR,(),()),y.map,()))) ⟨c.array,eA.ri h.ar,⟨rfl,rfl⟩,rfl⟩ (by
    rintro k D x ⟨a,C,Z,rfl⟩;have at1:=NC q k O.1 O.2 D;have at2:=NC f k f1 f2 D;obtain⟨i1,_⟩:=IK at1;obtain⟨i2,_⟩:=IK at2;have l1:=C.lt at1;have l2:=C.lt at2;have hsy:=C.syms _ (dg l2);have st:Ep (((),b,(),f,(),q,(k:Int),()),(dO c a,(c.config.ak.bD,c.config.ak.aD,c.config.ak.rows,c.config.ak.aM,()),(y.bR,(),()),y.map,()))=some (.inl (((),b,(),f,(),q,((k+1:Nat):Int),()),(dO c ⟨a.cells.set (iP c.config.ak ⟨b,q,(k:Int)⟩) a.cells[iP c.config.ak ⟨b,f,(k:Int)⟩],a.bq,a.aY⟩,(c.config.ak.bD,c.config.ak.aD,c.config.ak.rows,c.config.ak.aM,()),(y.bR,(),()),y.map,()))):=by
     unfold Ep aK xG xL xM;dsimp only;rw[qY,aZ (show (k:Int)<c.config.ak.aM by omega),aq,Er,au,Er,au,i1,i2];have c1:0<=(iP c.config.ak ⟨b,f,(k:Int)⟩:Int)/\(iP c.config.ak ⟨b,f,(k:Int)⟩:Int).toNat<(dO c a).array.cells.length:=⟨by omega,by simpa [dO]using l2⟩
     have c2:0<=(iP c.config.ak ⟨b,q,(k:Int)⟩:Int)/\(iP c.config.ak ⟨b,q,(k:Int)⟩)<(dO c a).array.cells.length:=⟨by omega,by simpa [dO]using l1⟩
     rw[aO c1,aO c1.2,aO c1.2];simp only[bA];rw[ada _ (by simp only[dO];rw[hsy.1];omega),au,aO c2,aO c2.2,bT];rfl
    exact⟨_,st,_,C.Ci _ hsy,Z,rfl⟩) (by
    rintro x ⟨a,C,Z,rfl⟩;unfold Ep aK xG xL xM;dsimp only;rw[bu (show ¬ (n:Int)<c.config.ak.aM by omega),av];exact⟨_,rfl,a,C,Z,rfl⟩) (bZ)
   rw[e,au];obtain⟨a,C,⟨ha1,ha2⟩,rfl⟩:=zb;have p:=fM.of h.pa;obtain⟨z1,z2,z3,z5,z6,z7,z8,z9,jQ,kU,lP,ku,lQ,nN⟩:=T;have hml:y.map.length<=128:=by
    rw[I.hl];exact Nat.mul_le_mul h8 pJ
   refine⟨true,⟨c.config,c.box,c.now,c.aS,c.ready,a,y,c.aE,c.bE,c.guard,c.pending,c.queue,c.shares,c.drain,c.aU,c.dD,c.errors,c.trace,c.cx⟩,rfl,⟨z1,z2,z3,vH C,by show y.map.length<=1048576;omega,z7,z8,z9,jQ,kU,lP,ku,lQ,nN⟩,Ck.ok ⟨h.f1,h.f2,h.nw,h.rk,h.rd,yc U C,I.ok,yP.trans h.se,h.rf,(show fM ⟨c.config,c.box,c.now,c.aS,c.ready,a,y,c.aE,c.bE,c.guard,c.pending,c.queue,c.shares,c.drain,c.aU,c.dD,c.errors,c.trace,c.cx⟩from ⟨p.dl,p.tl,p.gl,p.t,p.g,p.pd,p.u⟩).ok,?_,h.sh,h.sl,h.dr,h.pw,h.ps,h.si,h.s1,h.s2,h.s3,h.er,h.tr,h.rp⟩,λh=>(by cases h),a.cells,y,by rw[<-ha1,<-ha2]⟩
   show gK (eK (fP c.config.ak y)) c.queue=true;rw[egy];exact h.qu
def EX:cK:=⟨List.replicate 16 (-1),List.replicate 16 0,0⟩
def as0:Ec 16=some (EX,true):=by kernel_rfl
def as1:zZ 0=some (List.replicate 11 0):=by kernel_rfl
def Vj:cu:=⟨List.replicate 11 0,false⟩
def AA(g:aF):cN:=⟨List.replicate (eK g).toNat Vj,List.replicate (fF g).toNat 0,List.replicate (fF g).toNat 0⟩
def as2{g:aF}(D:cg g=true):MR g=some (AA g):=by
 have E:=oF g;have O:=sD g;have er:aL g*g.rows=fF g:=by simp[fF,D]
 obtain⟨n,C⟩:=fk E.1;unfold MR bQ;rw[pU,au,D,bI,av,jo,au,er,bf (n:=fF g),aV ⟨by omega,by omega,by omega⟩,aV ⟨by omega,by omega,by omega⟩];generalize I:List.replicate (fF g).toNat (0:Int)=A;have e:=eE (step:=Ip) n (λi=>(((),(),(),(i:Int),()),((g.bD,g.aD,g.rows,g.aM,()),((),(),(),()),((),(),(),()),([]:aa cu),([]:aa Int),([]:aa Int),List.replicate i Vj,A,A,())))
  (.inl (((),(),()),(((),(),(),()),((),(),(),()),([]:aa cu),([]:aa Int),([]:aa Int),List.replicate n Vj,A,A,()))) br (λk h=>by
  unfold Ip aK xG;dsimp only;rw[qY,Ac,au,C,aZ,aq,as1,au,fe (by simp;omega),aq,bT,List.replicate_succ' (n:=k)];rfl) (by
  unfold Ip aK xG;dsimp only;rw[qY,Ac,au,C,bu,av]) (bZ)
 rw[cZ,List.replicate_zero]at e;rw[e,au];unfold AA;rw[C,I,bA];rfl
def rm(c:fq)(p:eo):ax:=⟨c,⟨p,p,false⟩,0,kC c.ak,ur c.ak,AA c.ak,(vw c.ak c.bR).1,⟨List.replicate (aL c.ak).toNat 0,c.interval,false⟩,List.replicate (aL c.ak).toNat EX,List.replicate (aL c.ak).toNat p.ey,[],[],p.weights.map nK,⟨false,p.low,p.high⟩,⟨0,0,0⟩,⟨0,10,10⟩,[],[],[]⟩
def EY{p:eo}(h:vB p):sG p=true/\kz (p.weights.map nK)=true/\p.weights.length=4:=by
 have⟨⟨⟨D,E⟩,⟨I,O⟩,⟨T,U⟩,⟨Y,Z⟩,⟨i,w,hi,Vh,Vi,hw⟩,⟨h9,Ce⟩,xO,o9⟩,oH,uk⟩:=h;have hl:p.weights.length=4:=by rw[hw,iS];rfl
 have C:kz (p.weights.map nK)=true:=by
  rw[hw];rcases(by omega:i=0 \/ i=1 \/ i=2 \/ i=3)with rfl|rfl|rfl|rfl<;>rcases(by omega:w=1 \/ w=2 \/ w=3 \/ w=4)with rfl|rfl|rfl|rfl<;>rfl
 refine⟨?_,C,hl⟩;unfold sG p6 Ew;rw[C,hl];simp only[aQ,aJ,fI]
 grind
def as3{n:Int}(C:8<=n)(D:n<=17):zH n=some (2*n+2):=by
 unfold zH;rw[cI,au,bh.2 ⟨by omega,by omega⟩,bI,av,bf (n:=2*n),bf]
def EZ{g:aF}(h:NA g):cg g=true:=by
 have⟨⟨C,D⟩,⟨E,I⟩,⟨O,T⟩,U,Y⟩:=h;simp[cg,aQ,aJ,fI];omega
def as4:∀ r∈[(1:Int),2,3,4],∀ w∈[(4:Int),5,6,7,8],ja (nO r w)=true/\decide (Ev (nO r w) <= 200)=true:=by
 intro r C w D;simp at C D;rcases C with rfl|rfl|rfl|rfl<;>rcases D with rfl|rfl|rfl|rfl|rfl<;>exact⟨by kernel_rfl,by kernel_rfl⟩
def as5{c:fq}(h:lR c):pX c=true:=by
 have⟨C,⟨r,w,T,U,Y,Z,E⟩,⟨Gs,r8⟩,⟨Fx,Vk⟩,⟨hi1,hi2⟩,I,hl⟩:=h;have O:=EZ C;have⟨t1,D⟩:=as4 r (by simp;omega) w (by simp;omega);have D:=of_decide_eq_true D;have⟨⟨h1,h2⟩,⟨h3,h4⟩,⟨h5,h6⟩,h7,h8⟩:=C;unfold pX m7;rw[O,E,t1,hl,I];rw[bf];simp only[aQ,aJ,fI,true_and];omega
def afb{c:fq}{p:eo}(C:lR c)(D:vB p):qX c p=some true:=by
 have I:=as5 C;have⟨O,_,h3⟩:=EY D;have⟨hg,⟨r,w,hr1,th,Vh,Vi,E⟩,⟨Gs,r8⟩,⟨Fx,Vk⟩,⟨hi1,hi2⟩,T,hl⟩:=C;have⟨_,U,Y⟩:=D;have Z:c.bU.jD=7:=by rw[E];rfl
 have e2:c.bU.rp=3:=by rw[E];rfl
 unfold qX;rw[Nf,au,I,aq,Ex _ (by omega),au,O,aq,as3 U Y,au,hl,T,Z,e2,bf (n:=2*p.ey+2+2)];dsimp only;rw[aZ,aq,bf (n:=7+3),aW,bf (n:=5*c.interval),sV (by omega),bf (n:=16+1),bf (n:=(16+1)*p.ey),bf (n:=5*c.interval / (7+3)),bf,aZ]
def as6{p:eo}(h:p.weights.length=4):sq p=some p:=by
 unfold sq xA xZ;rw[fe (by simp[h]),aq,List.nil_append]
def as7{p:eo}(C:vB p):MS p=some (⟨p,p,false⟩,true):=by
 obtain⟨D,_,E⟩:=EY C;unfold MS;rw[Ex _ (by omega),au,D,bI,av,as6 E,au,au]
def grow(x:ax)(l:Int)(i:Nat):ax:=⟨x.config,x.box,x.now,x.aS,x.ready,x.array,x.spare,x.aE,x.bE++List.replicate i EX,x.guard++List.replicate i l,x.pending,x.queue,x.shares,x.drain,x.aU,x.dD,x.errors,x.trace,x.cx⟩
def as8(Z C:ax)(c:fq)(p:eo)(n:Nat)(D:aL c.ak=(n:Int))(U:n<=8)(E:c.iU=16)(I:C.bE=[])(O:C.guard=[]):
  iter En br (((),(),(),(),(),(0:Int),()),(Z,C,c,(p.fY,p.cap,p.ey,p.low,p.high,p.weights,p.eY.down,p.eY.sleep,()),(c.ak.bD,c.ak.aD,c.ak.rows,c.ak.aM,()),()))=some (.inl (((),(),()),(Z,grow C p.ey n,()))):=by
 have e:=eE (step:=En) n (λi=>(((),(),(),(),(),(i:Int),()),(Z,grow C p.ey i,c,(p.fY,p.cap,p.ey,p.low,p.high,p.weights,p.eY.down,p.eY.sleep,()),(c.ak.bD,c.ak.aD,c.ak.rows,c.ak.aM,()),()))) (.inl (((),(),()),(Z,grow C p.ey n,()))) br (λk h=>by
  unfold En grow aK xG;dsimp only;rw[qY,jo,au,D,aZ,aq,E,as0,au,I,O,fe (by simp;omega),aq,fe (by simp;omega),aq,bT,List.replicate_succ' (n:=k),List.replicate_succ' (n:=k),List.append_assoc,List.append_assoc]) (by
  unfold En aK xG;dsimp only;rw[qY,jo,au,D,bu,av]) (bZ)
 have T:grow C p.ey 0=C:=by
  unfold grow;simp only[List.replicate_zero,List.append_nil]
 rw[cZ,T]at e;exact e
def as9{c:fq}{p:eo}(C:lR c)(D:vB p):MU c p=some (rm c p,true):=by
 have E:=EZ C.1;have hb:=ef c.ak;have Ri:=M9 E;obtain⟨h2,O,h3⟩:=EY D;obtain⟨n,I⟩:=fk hb.1;have T:c.iU=16:=C.2.2.2.2.2.1;have Jd:200<=c.interval/\c.interval<=259:=C.2.2.2.2.1;have U:MT (aL c.ak) c.interval=some (⟨List.replicate (aL c.ak).toNat 0,c.interval,false⟩,true):=by
  unfold MT;rw[cI,au,bh.2 ⟨by omega,by omega⟩,bI,av,cI,au,bh.2 ⟨by omega,by omega⟩,bI,av,aV ⟨by omega,by omega,by omega⟩]
 have Y:TK 10=some (⟨0,10,10⟩,true):=rfl;have Z:Cb p.weights=(p.weights.map nK,true):=by unfold Cb;rw[O,aq]
 unfold MU bQ;rw[afb C D,au,bI,av,Ub,au,adO E,au,as2 E,au,as7 D,au,TZ,au,jo,au,U,au,T0 _ (by omega),au,Y,au,Z];dsimp only;rw[as8 _ _ c p n I (by omega) T rfl rfl,au];unfold rm grow;rw[I];rfl
def Vl(g:aF)(sp:Int):aF:=⟨g.bD,g.aD,g.rows-sp,g.aM⟩
def Of(g:aF)(sp:Int):Bool:=kA g (kC g)&&(jU g (ur g)&&(lM g (AA g)&&(mC g (vw g sp).1&&((vw g sp).1.bR==sp&&(cg (Vl g sp)&&(decide (0<eK (Vl g sp))&&(W6 (W6 ((eK g).tdiv g.rows)*W6 (g.rows-sp))==eK (Vl g sp)&&(decide (1<=eK g)&&decide ((vw g sp).1.map.length<=1048576)))))))))
def ata:(([1,2]:aa Int).all λG=>([1,2]:aa Int).all λB=>([4,5,6]:aa Int).all λR=>([1,2]:aa Int).all λC=>([0,1,2]:aa Int).all λsp=>Of ⟨G,B,R,C⟩ sp)=true:=by kernel_rfl
def afc{g:aF}{sp:Int}(h:NA g)(C:0 <= sp)(D:sp <= 2):Of g sp=true:=by
 have⟨⟨E,I⟩,⟨O,T⟩,⟨U,Y⟩,d1,d2⟩:=h;have e:=ata;simp only[bN]at e;exact e _ (by simp;omega) _ (by simp;omega) _ (by simp;omega) _ (by simp;omega) sp (by simp;omega)
def atb:lO EX=true:=by kernel_rfl
def atc{c:fq}{p:eo}(C:lR c)(I:vB p):cB (rm c p):=by
 have hb:=ef c.ak;have hl:=oF c.ak;have O:=sD c.ak;have⟨_,_,T⟩:=EY I;have E:=afc C.1 C.2.2.2.1.1 C.2.2.2.1.2;simp only[Of,aJ,fI]at E
 refine⟨⟨?_,?_⟩,?_,⟨?_,?_⟩,⟨⟨?_,λy D=>?_⟩,?_,?_⟩,E.2.2.2.2.2.2.2.2.2,?_,⟨?_,λy D=>?_⟩,?_,?_,?_,?_,?_,?_,?_⟩
 ·show p.weights.length <= _;omega
 ·show p.weights.length <= _;omega
 ·show (List.replicate _ _).length <= _;rw[jX];omega
 ·show (List.replicate _ _).length <= _;rw[jX];omega
 ·exact Nat.zero_le _
 ·show (List.replicate _ _).length <= _;rw[jX];omega
 ·obtain rfl:=List.eq_of_mem_replicate D;exact cr rfl
 ·show (List.replicate _ _).length <= _;rw[jX];omega
 ·show (List.replicate _ _).length <= _;rw[jX];omega
 ·show (List.replicate _ _).length <= _;rw[jX];omega
 ·show (List.replicate _ _).length <= _;rw[jX];omega
 ·obtain rfl:=List.eq_of_mem_replicate D;exact⟨cr rfl,cr rfl⟩
 ·show (List.replicate _ _).length <= _;rw[jX];omega
 ·exact Nat.zero_le _
 ·exact Nat.zero_le _
 ·show (p.weights.map nK).length <= _;rw[eN];omega
 ·exact Nat.zero_le _
 ·exact Nat.zero_le _
 ·exact Nat.zero_le _
def atd{c:fq}{p:eo}(C:lR c)(D:vB p):cy (rm c p)=true:=by
 have hb:=ef c.ak;have Ri:=M9 (EZ C.1);have hl:=oF c.ak;obtain⟨_,O,T⟩:=EY D;have E:=afc C.1 C.2.2.2.1.1 C.2.2.2.1.2;simp only[Of,aJ,fI]at E;obtain⟨U,Y,Z,g4,g5,g6,g7,g8,g9,g10⟩:=E;have I:m8 c p=true:=by unfold m8;rw[afb C D];rfl
 have Jd:200<=c.interval/\c.interval<=259:=C.2.2.2.2.1;obtain⟨⟨_,_,⟨l1,l2⟩,⟨l3,l4⟩,_⟩,p1,p2⟩:=D;have e1:fj (rm c p).aE=true:=by
  unfold fj;simp only[rm,jX,aQ,aJ,fI,List.all_replicate];refine⟨?_,by omega,aZ,aZ⟩;split<;>rfl
 have e2:sH (rm c p)=true:=by
  unfold sH;simp only[rm,jX,aJ,fl,List.length_nil,List.range_zero,List.all_nil];refine⟨by omega,by omega,by omega,rfl,?_,trivial⟩;rw[bN];intro i hi;have hi:i<(aL c.ak).toNat:=fA.1 hi;unfold partAt;simp only[List.getElem?_replicate,hi,if_true,atb,cP];exact bh.2 ⟨by omega,by omega⟩
 have e3:p6 (rm c p).drain=true:=by
  unfold p6;simp only[rm,aJ];exact⟨aZ l1,aZ l3,aZ⟩
 have e4:aQ 0 0 (W6 (eK c.ak-1))=true:=by
  rw[bf];exact bh.2 ⟨by omega,by omega⟩
 have e5:((p.weights.map nK).length:Int)==4:=by rw[eN,T];rfl
 unfold cy;simp only[aJ];exact⟨I,I,rfl,U,Y,Z,g4,g5,⟨e1,e2⟩,rfl,O,e5,e3,rfl,rfl,rfl,rfl,rfl,e4,rfl,rfl,rfl⟩
def ate{g:aF}{a:cN}(h:lM g a=true)(t:aN)(D n:Int):∃ y,Eo g a t D n=some y/\lM g y=true/\((dU g t&&(aQ D 0 10&&aQ n 0 15))=false->y=a)/\y.bq=a.bq/\y.aY=a.aY:=by
 have T:cg g=true:=(Nz h).1;have C:=eA.ri h;by_cases E:(dU g t&&(aQ D 0 10&&aQ n 0 15))=true
 ·simp only[aJ]at E;obtain⟨I,U,Y⟩:=E;have b2:=bh.1 U;have Z:=bh.1 Y;obtain⟨k,rfl⟩:=fk b2.1;have hl:=C.lt I;have O:=C.syms _ (dg hl);have hk:k<a.cells[iP g t].symbols.length:=by rw[O.1];omega
  have hx:=TW (O.get hk) Z
  refine⟨_,aqa C (eW _) I hl (by omega) hk Z,yc T (C.Ci _ (c:=⟨_,_⟩) (O.set ⟨hx.1,hx.2.1⟩)),λhe=>?_,rfl,rfl⟩
  rw[I,U,Y]at he;cases he
 ·refine⟨a,?_,h,λ_=>rfl,rfl,rfl⟩
  unfold Eo sv xC xL xM;rw[C.copy,au,C.ok T (eW _),au,aq,B7,au];cases e1:dU g t with
  |false=>rfl
  | true=>
   rw[aq,cI,au];cases e2:aQ D 0 10 with
   |false=>rfl
   | true=>
    rw[aq,cI,au,au];cases e3:aQ n 0 15 with
    |false=>rfl
    |true=>exact absurd (by rw[e1,e2,e3];rfl) E
def atf(b:jZ)(C:IL b)(p:eo)(D:p.weights.length<=1048576):MZ b p=some (bif sG p then ⟨b.bS,p,true⟩else b,sG p):=by
 unfold MZ;rw[Us b C,au,Ex _ (by omega),au];cases sG p with
 |false=>rfl
 | true=>
  unfold sq xA xZ;rw[bI,av,m9 _,aq,List.nil_append];rfl
def atg{c:ax}(C:cy c=true)(r:bg):cy (qb c r).1=true/\((qb c r).2=false -> (qb c r).1=c):=by
 have h:=Ck.of C;have p:=fM.of h.pa;unfold qb;cases hb:((!cy c) ||((!(nP c r).2) ||(c.cx.any λx=>x.id==r.id)))with
 |true=>simp_all
 | false=>
  refine⟨?_,λh=>by cases h⟩
  rw[av];simp only[nh,Bool.not_eq_false']at hb;have D:gK (eK (fP c.config.ak c.spare)) (nP c r).1=true:=by
   have E:=hb.2.1;unfold nP EI at E ⊢
   grind
  exact Ck.ok ⟨h.f1,h.f2,h.nw,h.rk,h.rd,h.ar,h.sp,h.se,h.rf,(show fM { c with queue:=(nP c r).1 } from ⟨p.dl,p.tl,p.gl,p.t,p.g,p.pd,p.u⟩).ok,D,h.sh,h.sl,h.dr,h.pw,h.ps,h.si,h.s1,h.s2,h.s3,h.er,h.tr,h.rp⟩
def ath{b:aa Int}{c:bz}(E:jS b c):Dr b (MM c) λ_=>True:=by
 unfold MM;rw[E.eq]
 refine(fh E 4).bind λx T U D=>?_
 rw[D.eta];cases hb:(x==0)with
 | true=>
  refine(Nb D _ (by decide)).bind λy I _ C=>?_
  rw[C.eta];exact Dr.pure C trivial
 | false=>
  cases Y:(x==1)with
  | true=>
   refine(fh D 200).bind λy I _ C=>?_
   rw[C.eta];exact Dr.pure C trivial
  | false=>
   refine(fh D 65536).bind λy I _ C=>?_
   rw[C.eta]
   refine(fh C 65536).bind λy Z _ O=>?_
   rw[O.eta];exact Dr.pure O trivial
def ati{b:aa Int}{c:bz}(D:jS b c)(n:Int):Dr b (MN c n) λ_=>True:=by
 unfold MN;rw[D.eq]
 refine(fh D 60).bind λZ k1 h1 E=>?_
 dsimp only;rw[E.eta]
 refine(fh E 3).bind λx2 k2 h2 I=>?_
 dsimp only;rw[I.eta]
 refine(fh I n).bind λx3 k3 h3 O=>?_
 dsimp only;rw[O.eta]
 refine(fh O 50).bind λx4 k4 h4 T=>?_
 dsimp only;rw[T.eta]
 refine(Nc T 2).bind λY k5 h5 C=>?_
 dsimp only;rw[C.eta];cases Y with
 | true=>
  refine(ath C).bind λx6 k6 h6 U=>?_
  rw[U.eta];exact Dr.pure U trivial
 |false=>exact Dr.pure C trivial
def Tq(c:ax)(u:Nat):Prop:=EW c/\c.queue.length+c.cx.length<=u
def Tq.up{c:ax}{u:Nat}(h:Tq c u):Tq c (u+1):=⟨h.1,Nat.le_succ_of_le h.2⟩
def Tq.adv{c y:ax}{u:Nat}{n:Int}(h:Tq c u)(T:cy c=true)(U:0<=n/\n<=1000000)(O:y.config=c.config)(Y:Adv n c y)(hl:y.queue.length+y.cx.length=c.queue.length+c.cx.length):Tq y u:=by
 have k:=Ck.of T;have C:=h.1;unfold EW at C;refine⟨?_,by rw[hl];exact h.2⟩;unfold EW;rcases Y with ⟨D,E,I⟩|⟨x,D,E,I,a4,Z,a6⟩
 ·rw[O,D,E,I];exact C
 ·rw[O,D,E,I];exact C.add k.rk k.rd a4 Z a6 U
def Tq.nx{c y:ax}{u:Nat}(h:Tq c u)(D:cy c=true)(C:Nx c y):Tq y u:=h.adv D (bh.1 (Ck.of D).nw) C.2.1 C.2.2.2.2.1 C.2.2.2.2.2
def atj{c:ax}{u:Nat}(h:Tq c u)(r:bg):Tq (qb c r).1 (u+1)/\(qb c r).1.now=c.now/\(qb c r).1.config=c.config:=by
 unfold qb;cases hb:((!cy c) ||((!(nP c r).2) ||(c.cx.any λx=>x.id==r.id)))with
 |true=>exact⟨h.up,rfl,rfl⟩
 | false=>
  have C:=h.2;refine⟨⟨h.1,?_⟩,rfl,rfl⟩;show (nP c r).1.length+c.cx.length<=u+1;unfold nP EI;cases (gK (eK (fP c.config.ak c.spare)) c.queue&&gK (eK (fP c.config.ak c.spare)) (kE (λx=>fX (Uu c r) x) c.queue (Uu c r)))with
  |false=>exact Nat.le_succ_of_le C
  | true=>
   rw[aq];dsimp only;rw[Uo];omega
def Je(c:ax)(x:aR):Prop:=cQ c.config.ak x=true/\x.kind≠2/\x.kind≠3
def Vm{c:ax}{x:aR}(h:Je c x)(D:c8 c x=true)(E:¬ (c.trace.length:Int) >= 2000):mG c x (-1)=true/\x.kind≠0:=by
 obtain⟨C,I,O⟩:=h;have T:=(q6 C).2.1;refine⟨?_,by omega⟩;unfold mG;rw[C,D,bu E,kS I,kS O];rfl
def Vn{c:ax}(h:Pq c){b:Int}(hb:0<=b/\b<aL c.config.ak){x:aR}(C:Je c x):Je c (oO c b x):=by
 refine⟨N7 h hb C.1,?_⟩;unfold oO;cases (eT c.aS b).open_ with
 |true=>exact⟨(by decide:(4:Int)≠2),(by decide:(4:Int)≠3)⟩
 |false=>exact C.2
def atk{c:ax}(h:Pq c):∀ x∈I8 c++I9 c c.pending.length,Je c x:=λx hx=>by
 rcases kX.1 hx with hx|hx
 ·obtain⟨b,hb,rfl⟩:=List.mem_map.1 hx;have C:=(U9 h hb).1;exact Vn h C ⟨xV h.p.R.sM (.inr rfl) C,by dsimp only;omega,by dsimp only;omega⟩
 ·obtain⟨i,hi,rfl⟩:=List.mem_map.1 hx;obtain⟨o,D,_,_,E⟩:=U8 h (fA.1 (List.mem_filter.1 hi).1);exact Vn h ⟨D,E⟩ ⟨aen o,by dsimp only;omega,by dsimp only;omega⟩
def atl{c:ax}(h:Pq c):∀ x∈uD c++(oP c++nS c),Je c x:=λx hx=>by
 have U:=Cz c;have I:=h.p.R.sM;rcases kX.1 hx with hx|hx
 ·have Y:=h.dl;have hb:-1<=fG c/\fG c<c.aE.aC.length:=Va _ _;unfold uD at hx;by_cases C:fG c >= 0
  ·have D:0<=fG c/\fG c<aL c.config.ak:=by omega
   rw[aZ C,cP]at hx;cases hu:sR c (fG c)with
   |true=>rw[hu]at hx;cases hx
   | false=>
    rw[hu]at hx;rw[gF.1 hx];exact Vn h D ⟨xV I (.inr rfl) D,by dsimp only;omega,by dsimp only;omega⟩
  ·rw[bu C]at hx;cases hx
 ·have O:=(ass h).2;have T:=(asr h).2;rcases kX.1 hx with hx | hx
  ·refine⟨O x hx,?_⟩;unfold oP at hx;cases C:decide (qj c >= 0)with
   |false=>rw[C]at hx;cases hx
   |true=>rw[C]at hx;rw[gF.1 hx];exact⟨by dsimp only;omega,by dsimp only;omega⟩
  ·refine⟨T x hx,?_⟩;unfold nS at hx;cases C:cJ c==8&&decide (((opens 0 c.aS.aD).length:Int) > 0)with
   |true=>rw[C]at hx;rw[gF.1 hx];exact⟨by dsimp only;omega,by dsimp only;omega⟩
   | false=>
    rw[C,av]at hx;cases E:cJ c != 0 with
    |false=>rw[E]at hx;cases hx
    |true=>rw[E]at hx;rw[gF.1 hx];exact⟨by dsimp only;omega,by dsimp only;omega⟩
def afd{old hit eV:Nat->Bool}{n:Nat}:Ax old hit eV n = -1\/∃ j:Nat,j<n/\Ax old hit eV n=(j:Int)/\eV j=true:=by
 unfold Ax;rcases vI (λi=>eV i&&old i) n with ⟨E,_⟩|⟨j,E,I,C,_⟩
 ·rw[E,aZ,aq];rcases vI (λi=>eV i&&hit i) n with ⟨C,_⟩ | ⟨j,C,O,D,_⟩
  ·rw[C,aZ,aq];rcases vI eV n with ⟨D,_⟩ | ⟨j,D,T,U,_⟩
   ·exact .inl D
   ·exact .inr ⟨j,D,T,U⟩
  ·rw[O,bu,av];exact .inr ⟨j,C,rfl,(aJ _ _ ▸ D).1⟩
 ·rw[I,bu,av];exact .inr ⟨j,E,rfl,(aJ _ _ ▸ C).1⟩
def atm{c:ax}(h:Pq c)(I:¬ (c.trace.length:Int) >= 2000)(U:c.cx.length<400):((oN c).1.kind=0/\(oN c).2 = -1)\/mG c (oN c).1 (oN c).2=true/\(oN c).1.kind≠0:=by
 unfold oN;rcases afd (old:=yd c) (hit:=gi c) (eV:=uA c (Cx c)) (n:=c.queue.length)with e|⟨j,C,e,D⟩
 ·rw[show rj c = -1 from e];exact .inl ⟨rfl,rfl⟩
 ·rw[show rj c=(j:Int)from e,bu,av];dsimp only;rw[bA];simp only[uA,oM,aJ]at D;have E:=aeJ h C;have Y:=(q6 E).2.1;refine .inr ⟨?_,by omega⟩;have O:oI c.aS (iQ c (c.queue.getD (j:Int).toNat qe).line) (c.queue.getD (j:Int).toNat qe).write=kV c j:=by
   unfold kV;rw[bA,iw _ C,NW C,<-NY (by rw[EO];exact C),aez C]
  have hi:aQ (j:Int) 0 ((c.queue.length:Int)-1)=true:=bh.2 ⟨by omega,by omega⟩;have T:I4 (kV c j) (kV c j)=true:=by
   unfold I4;simp only[kH,Bool.and_self]
  unfold mG I5;rw[E,D.1.2.2.1,bu I,O,T,hi,aZ (show (c.cx.length:Int)<400 by omega),Bool.or_true];cases (kV c j).kind==2 ||(kV c j).kind==3<;>rfl
def atn{c:ax}(h:Pq c)(C:¬ (c.trace.length:Int) >= 2000)(I:c.cx.length<400):((iR c).1.kind=0/\(iR c).2 = -1)\/mG c (iR c).1 (iR c).2=true/\(iR c).1.kind≠0:=by
 have O:=Cz c;unfold iR;cases c.aU.state != 0 with
 | true=>
  rw[aq];by_cases D:cJ c=0
  ·rw[D];exact .inl ⟨rfl,rfl⟩
  ·rw[gU D,aq];cases hb:c8 c ⟨cJ c,0,0,0⟩with
   |false=>exact .inl ⟨rfl,rfl⟩
   |true=>exact .inr (Vm ⟨NO h.p.R.sM (by omega),by show cJ c≠2;omega,by show cJ c≠3;omega⟩ hb C)
 | false=>
  rw[av];cases hu:Jb c with
  | some x=>
   unfold Jb at hu;exact .inr (Vm (atk h x (List.mem_of_find?_eq_some hu)) (List.find?_some hu) C)
  | none=>
   dsimp only;cases T:decide ((oN c).2 >= 0)with
   |true=>exact atm h C I
   | false=>
    rw[av];unfold sS;cases E:(uD c++(oP c++nS c)).find? (c8 c)with
    |none=>exact .inl ⟨rfl,rfl⟩
    |some x=>exact .inr (Vm (atl h x (List.mem_of_find?_eq_some E)) (List.find?_some E) C)
def Mc(l C:aa cu)(e D:aa cC):Prop:=(C=l/\D=e)\/∃(n:Nat) (h:n<l.length),C=l.set n (q7 l[n])/\D=bif kF l[n] != 0 then sQ e (n:Int) (kF l[n])else e
def Qs(s j:ax):Prop:=∃l e,j=⟨s.config,s.box,s.now,s.aS,s.ready,⟨l,s.array.bq,s.array.aY⟩,s.spare,s.aE,s.bE,s.guard,s.pending,s.queue,s.shares,s.drain,s.aU,s.dD,e,s.trace,s.cx⟩/\Mc s.array.cells l s.errors e
def Fn(j y:ax):Prop:=((iR j).1.kind=0/\y=j)\/(mG j (iR j).1 (iR j).2=true/\y=eH j (iR j).1 (iR j).2)
def Ke(j:ax)(o:aj ax):Prop:=∃y,o=some y/\cB y/\cy y=true/\cB j/\cy j=true/\Fn j y
def Kf(s:ax)(o:aj ax):Prop:=∃j,Qs s j/\Ke j o
def Vo{x:ax}(C:cB x)(D:cy x=true)(Z:x.trace.length<2000)(O:x.cx.length<400):Ke x (Ob x):=by
 have h:=Pq.of C D;have T:¬ (x.trace.length:Int) >= 2000:=by omega
 have e:sA x=some (iR x):=by
  unfold sA;rw[xQ x C,au,D,bI,av,asv h,bu T];rfl
 unfold Ob;rw[e,au];rcases atn h T O with ⟨E,_⟩|⟨I,E⟩
 ·rw[E];exact⟨x,rfl,C,D,C,D,.inl ⟨E,rfl⟩⟩
 ·obtain⟨hb,U,Y,O⟩:=I6 C h I;rw[gU E,aq,arT C h,I,aq,arJ hb U Y];exact⟨_,rfl,arQ C hb O U Y,(Ck.Ve C (Ck.of D) I).ok,C,D,.inr ⟨I,rfl⟩⟩
def afe{x:ax}(Z:cB x)(h:cy x=true)(I:x.trace.length<2000)(O:x.cx.length<400){n:Int}(hn:n<eK x.config.ak):Kf x (Oc x n):=by
 unfold Oc;by_cases T:n >= 0
 ·have C:=Ck.of h;have U:=eA.ri C.ar;have hg:=(uo C.rk).1;have hl:=U.cells;have hb:=oF x.config.ak;obtain⟨j,rfl⟩:=fk T;have D:j<x.array.cells.length:=by omega
  have Y:=U.syms _ (dg D);have hec:=UX Y;have E:eA x.config.ak 100000 ⟨x.array.cells.set j (q7 x.array.cells[j]),x.array.bq,x.array.aY⟩:=U.Ci _ (UQ Y);have p:=fM.of C.pa;have ic:=(Ek.of C.er).l;rw[aZ T,aq,aew D Y,au];dsimp only;rw[aeB (c:=vG x j (q7 x.array.cells[j])) C.er ⟨by omega,by omega⟩ hec,au];dsimp only;obtain⟨z1,z2,z3,z5,z6,z7,z8,z9,jQ,kU,lP,ku,lQ,nN⟩:=Z;have GF:cB (vG x j (q7 x.array.cells[j])):=⟨z1,z2,z3,vH E,z6,z7,z8,z9,jQ,kU,lP,ku,lQ,nN⟩
  have QD:Ck (vG x j (q7 x.array.cells[j])):=⟨C.f1,C.f2,C.nw,C.rk,C.rd,yc hg E,C.sp,C.se,C.rf,(show fM (vG x j (q7 x.array.cells[j]))from ⟨p.dl,p.tl,p.gl,p.t,p.g,p.pd,p.u⟩).ok,C.qu,C.sh,C.sl,C.dr,C.pw,C.ps,C.si,C.s1,C.s2,C.s3,C.er,C.tr,C.rp⟩
  unfold N1;by_cases e:kF x.array.cells[j]=0
  ·rw[e];exact⟨_,⟨_,_,rfl,.inr ⟨j,D,rfl,by rw[e];rfl⟩⟩,Vo GF QD.ok I O⟩
  ·rw[gU e,aq];have he:=aeT (l:=x.errors) C.er (n:=(j:Int)) ⟨by omega,by omega⟩ (code:=kF x.array.cells[j]) (by omega);have hle:=aeH (l:=x.errors) (j:Int) (kF x.array.cells[j]);exact⟨_,⟨_,_,rfl,.inr ⟨j,D,rfl,by rw[gU e,aq]⟩⟩,(Vo (x:=N0 (vG x j (q7 x.array.cells[j])) (sQ x.errors (j:Int) (kF x.array.cells[j]))) ⟨z1,z2,z3,vH E,z6,z7,z8,z9,jQ,kU,lP,by show (sQ x.errors (j:Int) (kF x.array.cells[j])).length<=_;omega,lQ,nN⟩ (Ck.ok ⟨C.f1,C.f2,C.nw,C.rk,C.rd,yc hg E,C.sp,C.se,C.rf,(show fM (N0 (vG x j (q7 x.array.cells[j])) (sQ x.errors (j:Int) (kF x.array.cells[j])))from ⟨p.dl,p.tl,p.gl,p.t,p.g,p.pd,p.u⟩).ok,C.qu,C.sh,C.sl,C.dr,C.pw,C.ps,C.si,C.s1,C.s2,C.s3,he,C.tr,C.rp⟩) I O)⟩
 ·rw[bu T,av];exact⟨_,⟨_,_,rfl,.inl ⟨rfl,rfl⟩⟩,Vo Z h I O⟩
def Vp(w:Bool)(i:Int):Int:=bif w then 0 else if 1000000<i+1 then 1000000 else i+1
def ato{p:iG}(h:lN p=true)(w:Bool):∃ y,Eg p w=some y/\lN y=true/\y.state=p.state/\y.since=p.since/\y.idle=Vp w p.idle:=by
 unfold Eg Vp;rw[Nj,au,h,bI,av];simp only[lN,aJ,bh]at h;cases w with
 |true=>exact⟨_,rfl,by simp only[lN,aJ,bh];omega,rfl,rfl,rfl⟩
 | false=>
  rw[bf (n:=p.idle+1)];refine⟨_,rfl,?_,rfl,rfl,rfl⟩;simp only[lN,aJ,bh];split<;>omega
structure Pr (c j:ax):Prop where
 pN:j.now=c.now+1
 pC:j.config=c.config
 pK:j.aS=c.aS
 pR:j.ready=c.ready
 pH:j.array.aY=c.array.aY
 pA:j.array.bq=bif c.aS.aU != 2 then c.array.bq.map (m6 1)else c.array.bq
 pF:j.aE=bif c.aS.aU != 2 then yh c.aE c.config.interval else c.aE
 pT:j.bE=c.bE
 pG:j.guard=c.guard
 pP:j.pending=c.pending
 pQ:j.queue=c.queue
 pS:j.aU.state=c.aU.state
 pE:j.trace=c.trace
 pY:j.cx=c.cx
 pI:j.aU.idle=Vp (vC j) c.aU.idle
 pB:j.box=c.box\/j.box=⟨c.box.next,c.box.next,false⟩
 pV:j.spare=c.spare
 pM:Mc c.array.cells j.array.cells c.errors j.errors
def aff{c:ax}(hz:cB c)(h:Ck c)(hn:c.now<1000000)(U:c.trace.length<2000)(Y:c.cx.length<400){r:dB}{a:cN}(Z:fj r=true)(QF:r.aC.length=c.aE.aC.length)(ha:lM c.config.ak a=true)
  (e1:r=bif c.aS.aU != 2 then yh c.aE c.config.interval else c.aE) (e2:a.bq=bif c.aS.aU != 2 then c.array.bq.map (m6 1)else c.array.bq) (e3:a.aY=c.array.aY) (e4:a.cells=c.array.cells):∃j y,stepT c r a=some y/\cB y/\cy y=true/\cB j/\cy j=true/\Pr c j/\Fn j y:=by
 obtain⟨C,z2,z3,z5,z6,z7,z8,z9,jQ,kU,lP,ku,lQ,nN⟩:=hz;have p:=fM.of h.pa;have hg:=(uo h.rk).1;have I7:=bh.1 h.nw;have hb:=oF c.config.ak;have hLp:1<=eK c.config.ak:=by
  have:=bh.1 h.s3;rw[bf (n:=eK c.config.ak-1)]at this;omega
 have w1:c.box.bS.weights.length<=1048576:=C.1;have w2:c.box.next.weights.length<=1048576:=C.2
 obtain⟨n,f1⟩:=asx c.queue true (by omega);obtain⟨d,f2,E⟩:=asy h.dr n;have f3:zN (uE c c.box a r c.shares d c.aU c.dD)=some (vC (uE c c.box a r c.shares d c.aU c.dD)):=aek (c:=uE c c.box a r c.shares d c.aU c.dD) Z;obtain⟨pw,f4,Sq,wV,hp3,hp4⟩:=ato h.pw (vC (uE c c.box a r c.shares d c.aU c.dD));obtain⟨t,f5⟩:=asz c.box C ((c.queue.length:Int)==(0:Int));obtain⟨u,m,f6,Pe,oq,Jf,hm⟩:=asC h.s1 h.s2 h.s3 ⟨hLp,by omega⟩;have I:W6 (c.now+1)=c.now+1:=bf;have key:∀ (b:jZ) (s:aa di) (d:mM),IL b->m8 c.config b.bS=true->m8 c.config b.next=true->kz s=true->(s.length:Int)=4->p6 d=true->cB (uE c b a r s d pw u)/\cy (uE c b a r s d pw u)=true:=λb s d Bu gy Vq Fx Vk E=>by
  refine⟨⟨Bu,z2,z3,vH (eA.ri ha),z6,by have:=z7;unfold Cj at this ⊢;show r.aC.length<=_;omega,z8,z9,jQ,kU,by show s.length<=_;omega,ku,lQ,nN⟩,Ck.ok ⟨gy,Vq,?_,h.rk,h.rd,ha,h.sp,h.se,Z,(show fM (uE c b a r s d pw u)from ⟨by show (r.aC.length:Int)=_;rw[QF];exact p.dl,p.tl,p.gl,p.t,p.g,p.pd,p.u⟩).ok,h.qu,Fx,Vk,E,Sq,wV.trans h.ps,?_,Pe,oq,Jf,h.er,h.tr,h.rp⟩⟩
  ·show aQ (W6 (c.now+1)) 0 1000000=true;rw[I];exact bh.2 ⟨by omega,by omega⟩
  ·show pw.since<=W6 (c.now+1);have:=h.si;rw[I,hp3];omega
 have A4:∀ (b:jZ) (s:aa di) (d:mM) (o:aj ax),(b=c.box\/b=⟨c.box.next,c.box.next,false⟩)->Kf (uE c b a r s d pw u) o->∃ j y,o=some y/\cB y/\cy y=true/\cB j/\cy j=true/\Pr c j/\Fn j y:=λb s d o hb ho=>by
  obtain⟨j,⟨l,e,rfl,D⟩,y,g1,g2,g3,g4,g5,g6⟩:=ho;have D:Mc a.cells l c.errors e:=D;rw[e4]at D;exact⟨_,y,g1,g2,g3,g4,g5,⟨I,rfl,rfl,rfl,e3,e2,e1,rfl,rfl,rfl,rfl,wV,rfl,rfl,hp4,hb,rfl,D⟩,g6⟩
 unfold stepT;rw[f1,au,f2,au,f3,au,f4,au,f5,au];dsimp only;cases t with
 | false=>
  rw[av,av,Ac,au,f6,au];obtain⟨O,T⟩:=key c.box c.shares d C h.f1 h.f2 h.sh h.sl E;exact A4 _ _ _ _ (.inl rfl) (afe O T U Y hm)
 | true=>
  obtain⟨l,t2,f7,qA,kM,hl3⟩:=asA (p:=c.box.next) (by omega) h.f2;rw[aq,aq];dsimp only;rw[f7,au,Ac,au,f6,au];obtain⟨O,T⟩:=key ⟨c.box.next,c.box.next,false⟩ l ⟨false,c.box.next.low,c.box.next.high⟩ ⟨C.2,C.2⟩ h.f2 h.f2 qA kM hl3;exact A4 _ _ _ _ (.inr rfl) (afe O T U Y hm)
def atp{c:ax}(C:cB c)(E:cy c=true)(I:c.now<1000000)(O:c.trace.length<2000)(T:c.cx.length<400):∃ j y,z0 c=some y/\cB y/\cy y=true/\cB j/\cy j=true/\Pr c j/\Fn j y:=by
 have h:=Ck.of E;have w1:c.box.bS.weights.length<=1048576:=C.1.1;have hi:=asE (by omega) h.f1;unfold z0;rw[IP c C,au,xQ c C,au,E,bI,av,kS (show ¬ c.now=1000000 by omega),av];cases D:c.aS.aU != (2:Int)with
 | true=>
  obtain⟨U,Y⟩:=asF h.rf hi;rw[aq,asG h.rf hi,au,asJ h.ar,au];exact aff C h I O T U Y (asH h.ar) (by rw[D];rfl) (by rw[D];rfl) rfl rfl
 | false=>
  rw[av];exact aff C h I O T h.rf rfl h.ar (by rw[D];rfl) (by rw[D];rfl) rfl rfl
def Why(c:ax)(x:aR):Prop:=
 (c.aU.state≠0/\(x=ye/\(cJ c=0\/c8 c ⟨cJ c,0,0,0⟩=false)\/x=⟨cJ c,0,0,0⟩))\/
 (c.aU.state=0/\((∃ b∈bP 0 c.aE.aC,x=fz c b)\/(∀ b∈bP 0 c.aE.aC,c8 c (fz c b)=false)/\
  ((∃k,k<c.pending.length/\qh c k=true/\x=jc c k)\/(∃j,j<c.queue.length/\oM c j=true/\x=kV c j)\/x∈uD c++(oP c++nS c)\/x=ye)))
def Og{c:ax}(h:Pq c):Why c (iR c).1:=by
 unfold iR;by_cases D:c.aU.state=0
 ·refine .inr ⟨D,?_⟩;rw[D,bne_self_eq_false,av];unfold Jb;rw[List.find?_append];cases I:(I8 c).find? (c8 c)with
  | some y=>
   obtain⟨b,hb,rfl⟩:=List.mem_map.1 (List.mem_of_find?_eq_some I);exact .inl ⟨b,hb,rfl⟩
  | none=>
   refine .inr ⟨λb hb=>Bool.eq_false_iff.2 (List.find?_eq_none.1 I _ (List.mem_map_of_mem hb)),?_⟩
   rw[Option.none_or];cases T:(I9 c c.pending.length).find? (c8 c)with
   | some y=>
    obtain⟨k,U,rfl⟩:=List.mem_map.1 (List.mem_of_find?_eq_some T);obtain⟨Y,Z⟩:=List.mem_filter.1 U;exact .inl ⟨k,fA.1 Y,Z,rfl⟩
   | none=>
    refine .inr ?_;dsimp only;cases C:decide ((oN c).2 >= 0)with
    | true=>
     rw[aq];have C:(oN c).2 >= 0:=of_decide_eq_true C;unfold oN at C ⊢;rcases afd (old:=yd c) (hit:=gi c) (eV:=uA c (Cx c)) (n:=c.queue.length)with e|⟨j,hj,e,E⟩
     ·rw[show rj c = -1 from e]at C;exact absurd (show (-1:Int) >= 0 from C) (by decide)
     ·rw[show rj c=(j:Int)from e,bu,av];dsimp only;rw[bA];unfold uA at E;rw[aJ]at E;exact .inl ⟨j,hj,E.1,rfl⟩
    | false=>
     rw[av];unfold sS;cases hf:(uD c++(oP c++nS c)).find? (c8 c)with
     |none=>exact .inr (.inr rfl)
     |some x=>exact .inr (.inl (List.mem_of_find?_eq_some hf))
 ·refine .inl ⟨D,?_⟩;rw[gU D,aq];by_cases O:cJ c=0
  ·rw[O];exact .inl ⟨rfl,.inl rfl⟩
  ·rw[gU O,aq];cases hb:c8 c ⟨cJ c,0,0,0⟩with
   |false=>exact .inl ⟨rfl,.inr rfl⟩
   |true=>exact .inr rfl
def afg{c:ax}(h:Pq c){b:Int}(hb:b∈bP 0 c.aE.aC):0<=b/\b<aL c.config.ak/\c.aE.aC.getD b.toNat 0 >= 4:=by
 have C:=(U9 h hb).1;have D:=h.dl;refine⟨C.1,C.2,?_⟩;rw[show b=((0:Nat):Int)+b by omega]at hb;exact(U0 C.1 (by omega) 0).1 hb
def Vr{c:ax}(h:Pq c){b:Int}(C:0<=b)(E:b<aL c.config.ak)(D:c.aE.aC.getD b.toNat 0 >= 4):b∈bP 0 c.aE.aC:=by
 have hl:=h.dl;have:=(U0 (l:=c.aE.aC) C (by omega) 0).2 D;rw[show ((0:Nat):Int)+b=b by omega]at this;exact this
def AB(c:ax)(b:Int)(x:aR):oO c b x=⟨4,b,0,0⟩\/oO c b x=x/\(eT c.aS b).open_=false:=by
 unfold oO;cases (eT c.aS b).open_ with
 |true=>exact .inl rfl
 |false=>exact .inr ⟨rfl,rfl⟩
def Vs(r:bL)(a:aN)(w:Bool):(oI r a w).aA=a.aA/\((oI r a w).kind=1/\(oI r a w).row=a.row\/(oI r a w).kind=4\/(oI r a w).kind=3\/(oI r a w).kind=2):=by
 unfold oI;cases (eT r a.aA).open_ with
 |false=>exact⟨rfl,.inl ⟨rfl,rfl⟩⟩
 | true=>
  rw[bI,av];cases (eT r a.aA).row != a.row with
  |true=>exact⟨rfl,.inr (.inl rfl)⟩
  | false=>
   cases w with
   |true=>exact⟨rfl,.inr (.inr (.inl rfl))⟩
   |false=>exact⟨rfl,.inr (.inr (.inr rfl))⟩
def Vt{c:ax}(h:Pq c){x:aR}(hx:x∈uD c++(oP c++nS c)):(x=⟨5,fG c,0,0⟩/\0<=fG c/\c.aE.aC.getD (fG c).toNat 0 > 0/\bP 0 c.aE.aC=[]/\EV c (fG c).toNat=true)\/x.kind=4\/(x=⟨cJ c,0,0,0⟩/\cJ c≠0):=by
 rcases kX.1 hx with hx|hx
 ·unfold uD at hx;have T:=h.dl;have hb:-1<=fG c/\fG c<c.aE.aC.length:=Va _ _;by_cases C:fG c >= 0
  ·have U:0<=fG c/\fG c<aL c.config.ak:=by omega
   rw[aZ C,cP]at hx;cases E:sR c (fG c)with
   |true=>rw[E]at hx;cases hx
   | false=>
    rw[E]at hx;have hx:=gF.1 hx;have D:=(NJ (yf (decide (((bP 0 c.aE.aC).length:Int) > 0)) c.aE.aC (EV c)) (λi=>c.aE.aC.getD i 0) c.aE.aC.length).resolve_left (λe=>by have e:fG c = -1:=e;omega);have D:yf (decide (((bP 0 c.aE.aC).length:Int) > 0)) c.aE.aC (EV c) (fG c).toNat=true:=D;unfold yf at D;unfold sR at E;have E:¬ c.aE.aC.getD (fG c).toNat 0 >= 4:=of_decide_eq_false E;by_cases O:((bP 0 c.aE.aC).length:Int) > 0
    ·rw[aZ O,aq]at D;exact absurd (of_decide_eq_true D) E
    ·rw[bu O,av,aJ]at D;have I:bP 0 c.aE.aC=[]:=List.eq_nil_of_length_eq_zero (by omega);rcases AB c (fG c) ⟨5,fG c,0,0⟩with e | ⟨e,_⟩
     ·exact .inr (.inl (by rw[hx];unfold fz;rw[e]))
     ·exact .inl ⟨by rw[hx];unfold fz;rw[e],C,of_decide_eq_true D.1,I,D.2⟩
  ·rw[bu C]at hx;cases hx
 ·refine .inr ?_;rcases kX.1 hx with hx | hx
  ·unfold oP at hx;cases C:decide (qj c >= 0)with
   |false=>rw[C]at hx;cases hx
   |true=>rw[C]at hx;rw[gF.1 hx];exact .inl rfl
  ·unfold nS at hx;cases C:cJ c==8&&decide (((opens 0 c.aS.aD).length:Int) > 0)with
   |true=>rw[C]at hx;rw[gF.1 hx];exact .inl rfl
   | false=>
    rw[C,av]at hx;by_cases I:cJ c=0
    ·rw[I]at hx;cases hx
    ·rw[gU I]at hx;exact .inr ⟨gF.1 hx,I⟩
def afh{c:ax}(h:Pq c)(C:(iR c).1.kind=5):c.aE.aC.getD (iR c).1.aA.toNat 0 >= 1/\(c.aE.aC.getD (iR c).1.aA.toNat 0 >= 4\/bP 0 c.aE.aC=[]):=by
 have I:=Cz c;rcases Og h with ⟨_,⟨e,_⟩|e⟩|⟨_,⟨b,hb,e⟩|⟨_,⟨k,_,_,e⟩|⟨j,_,_,e⟩|e|e⟩⟩
 ·rw[e]at C;exact absurd C (by decide)
 ·rw[e]at C;dsimp only at C;omega
 ·rw[e]at C ⊢;unfold fz at C ⊢;rcases AB c b ⟨5,b,0,0⟩with e | ⟨e,_⟩
  ·rw[e]at C;exact absurd C (show ¬ (4:Int)=5 by decide)
  ·rw[e];have:=(afg h hb).2.2;exact⟨by dsimp only;omega,.inl (by dsimp only;omega)⟩
 ·rw[e]at C;unfold jc at C;rcases AB c (gY c k).aA ⟨1,(gY c k).aA,(gY c k).row,0⟩with e | ⟨e,_⟩ <;>rw[e]at C
  ·exact absurd C (show ¬ (4:Int)=5 by decide)
  ·exact absurd C (show ¬ (1:Int)=5 by decide)
 ·rw[e]at C;have:=(Vs c.aS (gX c j) (q9 c.queue j)).2;unfold kV at C;omega
 ·rcases Vt h e with ⟨e,_,D,E,_⟩ | e | ⟨e,_⟩
  ·rw[e];exact⟨D,.inr E⟩
  ·omega
  ·rw[e]at C;dsimp only at C;omega
 ·rw[e]at C;exact absurd C (by decide)
def Jg(l:aa Int)(i k:Nat):(l.set i 0).getD k 0=if i=k then 0 else l.getD k 0:=by
 rw[cW,List.getElem?_set];split
 ·split<;>rfl
 ·rw[<-cW]
def afi(l:aa Int){i:Nat}(x:Int)(k:Nat)(h:i<l.length):(l.set i x).getD k 0=if i=k then x else l.getD k 0:=by
 rw[cW,List.getElem?_set,aV h];split
 ·rfl
 ·rw[<-cW]
def Vu(f:Int->Int)(l:aa Int){k:Nat}(h:k<l.length):(l.map f).getD k 0=f (l.getD k 0):=by
 rw[cW,dW,bH h,cW,bH h];rfl
def afj(l:aa Int)(k:Nat):(l.map (m6 1)).getD k 0<=l.getD k 0+1:=by
 by_cases h:k<l.length
 ·rw[Vu _ _ h];unfold m6;split<;>omega
 ·rw[cW,cW,List.getElem?_eq_none (by rw[eN];omega),List.getElem?_eq_none (by omega)];decide
def Vv(c:ax){x:aR}(i:Int)(h:x.kind=1):eH c x i=xX (cR c x) x:=by
 unfold eH;rw[h];rfl
def Vw(c:ax){x:aR}(i:Int)(h:x.kind=5):eH c x i=I3 (cR c x) x.aA:=by
 unfold eH;rw[h];rfl
def Jh(c:ax){x:aR}(i:Int)(h:x.kind=9):eH c x i=iy (Cw (cR c x) 9) c.bE.length []:=by
 unfold eH;rw[h];rfl
def Vx{c:ax}{x:aR}{i:Int}(C:1<=x.kind/\x.kind<=9)(D:x.kind≠1)(E:x.kind≠5)(I:x.kind≠9):(eH c x i).array.bq=c.array.bq/\(eH c x i).array.aY=c.array.aY/\(eH c x i).aE=c.aE/\(eH c x i).bE=c.bE/\(eH c x i).guard=c.guard/\(eH c x i).pending=c.pending:=by
 have acc:∀ i:Nat,(jW (cR c x) i).array.bq=c.array.bq/\(jW (cR c x) i).array.aY=c.array.aY/\(jW (cR c x) i).aE=c.aE/\(jW (cR c x) i).bE=c.bE/\(jW (cR c x) i).guard=c.guard/\(jW (cR c x) i).pending=c.pending:=λi=>by
  unfold jW;dsimp only;cases ((cR c x).queue.getD i qe).write<;>exact⟨rfl,rfl,rfl,rfl,rfl,rfl⟩
 unfold eH;rcases kinds C with q|q|q|q|q|q|q|q|q<;>rw[q]<;>simp only[Int.reduceBEq,Int.reduceBNe,aq,av,Bool.or_true,Bool.or_false,Bool.true_or,Bool.false_or,Bool.or_self]
 ·exact absurd q D
 ·exact acc _
 ·exact acc _
 ·exact⟨rfl,rfl,rfl,rfl,rfl,rfl⟩
 ·exact absurd q E
 ·exact⟨rfl,rfl,rfl,rfl,rfl,rfl⟩
 ·exact⟨rfl,rfl,rfl,rfl,rfl,rfl⟩
 ·exact⟨rfl,rfl,rfl,rfl,rfl,rfl⟩
 ·exact absurd q I
def Vy(g:aF)(l:kY)(a:cN)(b:Int):∀ n k:Nat,(gM g l a b n).bq.getD k 0=a.bq.getD k 0\/(gM g l a b n).bq.getD k 0=0
 |0,k=>.inl rfl
 | n+1,k=>by
  unfold gM;rw[oK];show ((gM g l a b n).bq.set _ 0).getD k 0=_\/((gM g l a b n).bq.set _ 0).getD k 0=0;rw[Jg];split
  ·exact .inr rfl
  ·exact Vy g l a b n k
def Vz(g:aF)(l:kY)(a:cN)(b:Int):∀ n r:Nat,r<n->(gM g l a b n).bq.getD (b*g.rows+(r:Int)).toNat 0=0
 | n+1,r,h=>by
  unfold gM;rw[oK];show ((gM g l a b n).bq.set (b*g.rows+(n:Int)).toNat 0).getD _ 0=0;rw[Jg];split
  ·rfl
  ·rename_i C;exact Vz g l a b n r (by
    by_cases e:r=n
    ·subst e;exact absurd rfl C
    ·omega)
def ym(g:aF)(l:kY)(a:cN)(k:Nat):cN:=(List.range k).foldl (λa (b:Nat)=>gM g l a (b:Int) g.rows.toNat) a
def afk(g:aF)(l:kY)(a:cN):∀ n b r:Nat,b<n->r<g.rows.toNat->(ym g l a n).bq.getD ((b:Int)*g.rows+(r:Int)).toNat 0=0
 | n+1,b,r,hb,C=>by
  unfold ym;rw[oK];by_cases e:b=n
  ·subst e;exact Vz g l _ _ _ r C
  ·rcases Vy g l (ym g l a n) (n:Int) g.rows.toNat ((b:Int)*g.rows+(r:Int)).toNat with e2 | e2
   ·exact e2.trans (afk g l a n b r (by omega) C)
   ·exact e2
def VA(l:aa Int):∀ n k:Nat,((List.range n).foldl (λd b=>d.set b 0) l).getD k 0=if k<n then 0 else l.getD k 0
 |0,k=>rfl
 | n+1,k=>by
  rw[oK,Jg,VA l n k];by_cases e:n=k
  ·subst e;rw[aV rfl,aV]
  ·rw[aW e];by_cases C:k<n
   ·rw[aV C,aV]
   ·rw[aW C,aW]
def Oh(r:dB){b:Int}(hb:b.toNat<r.aC.length)(k:Nat)(h:r.aC.getD b.toNat 0 >= 1):(lT r b).aC.getD k 0=(if b.toNat=k then r.aC.getD k 0-1 else r.aC.getD k 0)/\(lT r b).wait=r.wait/\(lT r b).dL=r.dL:=by
 unfold lT;rw[bu (show ¬ r.aC.getD b.toNat 0 = -2 by omega),av];refine⟨?_,rfl,rfl⟩;dsimp only;rw[afi _ _ _ hb];split
 next e=>rw[e]
 ·rfl
def jd(r:dB):Int:=bif r.dL then 2*r.wait-1 else r.wait
def rq(c:ax):Prop:=jd c.aE<=c.config.interval/\∀b r:Nat,(b:Int)<aL c.config.ak->r<c.config.ak.rows.toNat->0<=c.aE.aC.getD b 0/\c.array.bq.getD ((b:Int)*c.config.ak.rows+(r:Int)).toNat 0+jd c.aE<=(c.aE.aC.getD b 0+1)*c.config.interval
def Oi{d I w:Int}(C:0<=d)(E:w<=I)(D:0<=I):0+w<=(d+1)*I:=by
 have:=Int.mul_nonneg C D;rw[Int.add_mul,Int.one_mul];omega
def rq.pr{c j:ax}(h:rq c)(p:Pr c j)(hi:2<=c.config.interval/\c.config.interval<=10000)(hw:1<=c.aE.wait/\c.aE.wait<=10000)(hl:(c.aE.aC.length:Int)=aL c.config.ak)(O:∀ b:Nat,c.aE.aC.getD b 0<=4):rq j:=by
 unfold rq at h ⊢;rw[p.pC,p.pA,p.pF];cases hp:c.aS.aU != 2 with
 |false=>exact h
 | true=>
  rw[aq,aq];obtain⟨h1,D⟩:=h;unfold yh;by_cases E:0<c.aE.wait-1
  ·rw[aV E];have T:jd ⟨c.aE.aC,c.aE.wait-1,c.aE.dL⟩<=jd c.aE-1:=by
    unfold jd;dsimp only;cases c.aE.dL with
    |true=>rw[aq,aq];omega
    |false=>rw[av,av];omega
   refine⟨by omega,λb r hb C=>?_⟩
   obtain⟨I,U⟩:=D b r hb C;have:=afj c.array.bq ((b:Int)*c.config.ak.rows+(r:Int)).toNat;exact⟨I,by dsimp only;omega⟩
  ·rw[aW E];have T:jd c.aE=1:=by
    unfold jd;cases c.aE.dL with
    |true=>rw[aq];omega
    |false=>rw[av];omega
   have Y:jd ⟨c.aE.aC.map sU,bif c.aE.dL then c.config.interval / 2 else c.config.interval,c.aE.dL⟩<=c.config.interval:=by
    unfold jd;dsimp only;cases c.aE.dL with
    |true=>rw[aq,aq];omega
    |false=>rw[av,av];omega
   refine⟨Y,λb r hb C=>?_⟩
   obtain⟨I,U⟩:=D b r hb C;have Z:b<c.aE.aC.length:=by omega
   have hm:=O b;have ht:(c.aE.aC.map sU).getD b 0=c.aE.aC.getD b 0+1:=by
    rw[Vu _ _ Z];unfold sU;rw[bf,aW]
   have:=afj c.array.bq ((b:Int)*c.config.ak.rows+(r:Int)).toNat;dsimp only;rw[ht];refine⟨by omega,?_⟩;rw[Int.add_mul (c.aE.aC.getD b 0+1) 1,Int.one_mul];omega
def rq.Ve{c:ax}(h:rq c)(hq:Pq c){x:aR}{i:Int}(hc:cQ c.config.ak x=true)(h5:x.kind=5->c.aE.aC.getD x.aA.toNat 0 >= 1)(hi:0<=c.config.interval)(ES:(c.bE.length:Int)=aL c.config.ak):rq (eH c x i):=by
 obtain⟨hg,U,hb,_⟩:=q6 hc;have Vb:=hq.dl;obtain⟨D,I⟩:=h;have gb:=fW hg;by_cases Y:x.kind=1
 ·rw[Vv c i Y]
  refine⟨D,λb r hb C=>?_⟩
  have hb:(b:Int)<aL c.config.ak:=hb;have C:r<c.config.ak.rows.toNat:=C;obtain⟨E,O⟩:=I b r hb C;refine⟨E,?_⟩;show (c.array.bq.set (x.aA*c.config.ak.rows+x.row).toNat 0).getD ((b:Int)*c.config.ak.rows+(r:Int)).toNat 0+jd c.aE<=(c.aE.aC.getD b 0+1)*c.config.interval;rw[Jg];split
  ·exact Oi E D hi
  ·exact O
 ·by_cases T:x.kind=5
  ·have Z:=h5 T;obtain⟨b0,b1⟩:=hb (by omega);have ig:x.aA.toNat<c.aE.aC.length:=by omega
   obtain⟨_,w1,w2⟩:=Oh c.aE ig 0 Z;have hw:jd (lT c.aE x.aA)=jd c.aE:=by unfold jd;rw[w1,w2]
   rw[Vw c i T]
   refine⟨by show jd (lT c.aE x.aA)<=_;rw[hw];exact D,λb r hb C=>?_⟩
   have hb:(b:Int)<aL c.config.ak:=hb;have C:r<c.config.ak.rows.toNat:=C;obtain⟨E,O⟩:=I b r hb C;show 0<=(lT c.aE x.aA).aC.getD b 0/\(gM c.config.ak c.config.dJ c.array x.aA c.config.ak.rows.toNat).bq.getD ((b:Int)*c.config.ak.rows+(r:Int)).toNat 0+jd (lT c.aE x.aA)<=((lT c.aE x.aA).aC.getD b 0+1)*c.config.interval;rw[(Oh c.aE ig b Z).1,hw];by_cases e:x.aA.toNat=b
   ·subst e;rw[aV rfl,Int.toNat_of_nonneg b0,Vz _ _ _ _ _ r C];exact⟨by omega,Oi (by omega) D hi⟩
   ·rw[aW e];refine⟨E,?_⟩;rcases Vy c.config.ak c.config.dJ c.array x.aA c.config.ak.rows.toNat ((b:Int)*c.config.ak.rows+(r:Int)).toNat with e2 | e2
    ·rw[e2];exact O
    ·rw[e2];exact Oi E D hi
  ·by_cases k9:x.kind=9
   ·rw[Jh c i k9]
    refine⟨D,λb r hb C=>?_⟩
    have hb:(b:Int)<aL c.config.ak:=hb;have C:r<c.config.ak.rows.toNat:=C;show 0<=((List.range c.bE.length).foldl (λd b=>d.set b 0) c.aE.aC).getD b 0/\(ym c.config.ak c.config.dJ c.array c.bE.length).bq.getD ((b:Int)*c.config.ak.rows+(r:Int)).toNat 0+jd c.aE<=(((List.range c.bE.length).foldl (λd b=>d.set b 0) c.aE.aC).getD b 0+1)*c.config.interval;rw[VA,aV,afk _ _ _ _ _ _ (by omega) C];exact⟨eW _,Oi (eW _) D hi⟩
   ·obtain⟨e1,_,e3,_⟩:=Vx (c:=c) (i:=i) U Y T k9;have e4:(eH c x i).config=c.config:=by
     unfold eH;rcases kinds U with q|q|q|q|q|q|q|q|q<;>rw[q]<;>first|rfl|(unfold jW;dsimp only;cases ((cR c x).queue.getD i.toNat qe).write<;>rfl)
    unfold rq;rw[e1,e3,e4];exact⟨D,I⟩
def La(q:dP)(b k:Nat):Int:=q.last.getD (9*b+k-1) (-1)
def atq{g:aF}{r w:Int}(D:1<=r/\r<=4)(E:4<=w/\w<=8){a:aR}(C:1<=a.kind/\a.kind<=9)(B:Int):gp g (nO r w) a ⟨4,B,0,0⟩<=16/\(a.kind=7->gp g (nO r w) a ⟨4,B,0,0⟩<=4)/\(a.kind≠7->a.kind≠9->(a.aA≠B\/4<=a.kind)->gp g (nO r w) a ⟨4,B,0,0⟩<=1):=by
 unfold gp Ah sI xN Ag nO;dsimp only;rcases kinds C with h|h|h|h|h|h|h|h|h<;>rw[h]<;>cases hb:a.aA==B<;>simp[aQ]at *<;>omega
def atr{g:aF}{r w:Int}(O:1<=r/\r<=4)(T:4<=w/\w<=8){a:aR}(C:1<=a.kind/\a.kind<=9)(B:Int):gp g (nO r w) a ⟨5,B,0,0⟩<=16/\(a.kind=7->gp g (nO r w) a ⟨5,B,0,0⟩<=4)/\(a.kind=4->gp g (nO r w) a ⟨5,B,0,0⟩<=3)/\(a.kind=5->a.aA≠B->gp g (nO r w) a ⟨5,B,0,0⟩<=3)/\(a.kind≠7->a.kind≠9->a.kind≠5->a.aA≠B\/5<a.kind->gp g (nO r w) a ⟨5,B,0,0⟩<=1):=by
 have D:W6 (r+3)=r+3:=bf;have E:W6 (w+3)=w+3:=bf;have I:W6 (7+3)=10:=by decide
 unfold gp Ah sI xN Ag nO;dsimp only;rw[D,E,I];rcases kinds C with h|h|h|h|h|h|h|h|h<;>rw[h]<;>cases hb:a.aA==B<;>simp[aQ]at *<;>omega
def att{g:aF}{r w:Int}{a:aR}(C:1<=a.kind/\a.kind<=9):gp g (nO r w) a ⟨7,0,0,0⟩<=16:=by
 unfold gp Ah sI xN Ag nO;dsimp only;rcases kinds C with h|h|h|h|h|h|h|h|h<;>rw[h]<;>simp[aQ]<;>omega
def afl(g:aF)(t:bW)(l:aa Int)(c:aR){n:Int}(C:0<=n)(h:∀ (i:Nat) (hi:i<l.length),0<=l[i]->l[i]+gp g t (jV i) c<=n):∀ k,k<=l.length->sL g t l c k<=n
 |0,_=>C
 | k+1,I=>by
  have E:=afl g t l c C h k (by omega);rw[NG,NH (by omega)];by_cases D:l[k]<0
  ·rw[aZ D];exact E
  ·rw[bu D,av];have:=h k (by omega) (by omega);unfold sK;split<;>omega
def VB{c:ax}(h:Pq c){x:aR}(U:x.kind=1->c.ready.aX.length≠4)(Y:iO c.aS x=true)(Z:∀ (b k:Nat),1<=k->k<=9->((k<=5/\(b:Int)<aL c.config.ak)\/(5<k/\(b:Int)=aL c.config.ak))->0<=La c.ready b k->La c.ready b k+gp c.config.ak c.config.bU ⟨(k:Int),if k<=5 then (b:Int)else 0,0,0⟩ x<=c.now):c8 c x=true:=by
 have hn:=h.nw;have hl:=(ED h.p.UB).2.1;have ha:lS c.config.ak c.config.bU c.ready x<=c.now:=by
  unfold lS;have e4:(x.kind==1&&(c.ready.aX.length:Int)==4)=false:=by
   by_cases E:x.kind=1
   ·rw[kS (show ¬ (c.ready.aX.length:Int)=4 from λe=>U E (by omega)),Bool.and_false]
   ·rw[kS E,Bool.false_and]
  rw[e4,av]
  refine afl _ _ _ _ hn.1 (λi hi h0=>?_) _ (dz _)
  have C:=((h.p.R.last i hi).2).resolve_left (by omega);unfold p9 at C;have C:=fl.1 C;obtain⟨b,k,rfl,k1,k9⟩:∃b k:Nat,i=9*b+k-1/\1<=k/\k<=9:=⟨i / 9,i % 9+1,by omega,by omega,by omega⟩
  have I:((9*b+k-1:Nat):Int) % 9+1=(k:Int):=by omega
  have O:((9*b+k-1:Nat):Int) / 9=(b:Int):=by omega
  rw[I,O]at C;have T:La c.ready b k=c.ready.last[9*b+k-1]:=iw _ hi;have e3:jV (9*b+k-1)=⟨(k:Int),if k<=5 then (b:Int)else 0,0,0⟩:=by
   unfold jV;rw[I,O];by_cases D:k<=5
   ·rw[aV,aV D]
   ·rw[aW,aW D]
  rw[e3,<-T];refine Z b k k1 k9 ?_ (by rw[T];exact h0);by_cases D:k<=5
  ·refine .inl ⟨D,?_⟩;rw[aZ (show (k:Int)<=5 by omega)]at C;exact of_decide_eq_true C
  ·refine .inr ⟨by omega,?_⟩;rw[bu (show ¬ (k:Int)<=5 by omega)]at C;have:=of_decide_eq_false C;omega
 unfold c8;rw[Y,aZ ha,aZ (show lS c.config.ak c.config.bU c.ready x<=1000000 by omega)];rfl
def Ji{q:dP}{n:Int}(h:∀i:Nat,q.last.getD i (-1)<=n)(b k:Nat):La q b k<=n:=h _
def atu(g:aF)(q:dP)(e:bK)(C:cQ g e.cmd=true)(b k:Nat)(I:1<=k/\k<=9):La (gL g q e) b k=La q b k\/(La (gL g q e) b k=e.at_/\(k:Int)=e.cmd.kind/\(b:Int)=if k<=5 then e.cmd.aA else aL g):=by
 obtain⟨_,D,E,_⟩:=q6 C;obtain⟨O,_⟩:=EC C;unfold gL La;cases jU g q&&(cQ g e.cmd&&(aQ e.at_ 0 1000000 && !(e.cmd.kind==1&&vA q e.at_)))with
 |false=>exact .inl rfl
 | true=>
  rw[aq];dsimp only;rw[cW,List.getElem?_set,cW];by_cases hi:(gA g e.cmd).toNat=9*b+k-1
  ·rw[aV hi];by_cases hl:(gA g e.cmd).toNat<q.last.length
   ·rw[aV hl];refine .inr ⟨rfl,?_⟩;have hi:gA g e.cmd=9*(b:Int)+(k:Int)-1:=by omega
    unfold gA at hi;cases hu:aQ e.cmd.kind 1 5 with
    | true=>
     rw[hu,aq]at hi;have:=bh.1 hu;have:=E this.2;refine⟨by omega,?_⟩;rw[aV];omega
    | false=>
     rw[hu,av]at hi;have T:¬ e.cmd.kind<=5:=λh=>by rw[bh.2 ⟨D.1,h⟩]at hu;cases hu
     refine⟨by omega,?_⟩;rw[aW];omega
   ·rw[aW hl];refine .inl ?_;rw[<-hi,List.getElem?_eq_none (by omega)]
  ·rw[aW hi];exact .inl rfl
def afm(g:aF)(q:dP)(e:bK){n:Int}(h:∀ i:Nat,q.last.getD i (-1)<=n)(C:e.at_<=n)(i:Nat):(gL g q e).last.getD i (-1)<=n:=by
 unfold gL;cases jU g q&&(cQ g e.cmd&&(aQ e.at_ 0 1000000 && !(e.cmd.kind==1&&vA q e.at_)))with
 |false=>exact h i
 | true=>
  rw[aq];dsimp only;rw[cW,List.getElem?_set];have:=h i;rw[cW]at this;split
  ·split
   ·exact C
   next D E=>rw[<-D,List.getElem?_eq_none (by omega)]at this;exact this
  ·exact this
def count_le{p q:Nat->Bool}:∀ n,(∀ b,b<n->q b=true->p b=true)->(List.range n).countP q<=(List.range n).countP p
 |0,_=>dz _
 | n+1,h=>by
  have E:=count_le (p:=p) (q:=q) n λb hb=>h b (by omega)
  have e:=h n (by omega);rw[List.range_succ,List.countP_append,List.countP_append,List.countP_singleton,List.countP_singleton];cases C:q n<;>cases D:p n<;>simp[C,D]at e ⊢<;>omega
def VC{p q:Nat->Bool}{b:Nat}:∀ n,b<n->(∀ b,b<n->q b=true->p b=true)->p b=true->q b=false->(List.range n).countP q+1<=(List.range n).countP p
 | n+1,hb,h,C,D=>by
  rw[List.range_succ,List.countP_append,List.countP_append,List.countP_singleton,List.countP_singleton];by_cases e:b=n
  ·subst e;have:=count_le (p:=p) (q:=q) b λb hb=>h b (by omega)
   rw[C,D,aV rfl,aW (by decide)];omega
  ·have O:=VC (p:=p) (q:=q) (b:=b) n (by omega) (λb hb=>h b (by omega)) C D;have e:=h n (by omega);cases E:q n<;>cases I:p n<;>simp[E,I]at e ⊢<;>omega
def afn{p:Nat->Bool}{b n:Nat}(hb:b<n)(h:p b=true):1<=(List.range n).countP p:=List.countP_pos_iff.2 ⟨b,fA.2 hb,h⟩
def afo(p:Nat->Bool)(n:Nat):(List.range n).countP p<=n:=by
 have:=List.countP_le_length (p:=p) (l:=List.range n)
 rwa [eB]at this
def nc(r:dB):Int:=bif r.dL then r.wait else (r.wait+1) / 2
def uB(d:aa Int)(b:Nat):Bool:=decide (d.getD b 0 >= 4)
def oB(r:bL)(b:Nat):Bool:=(eT r (b:Int)).open_
def cU(g:aF)(d:aa Int):Int:=((List.range (aL g).toNat).countP (uB d):Nat)
def cO(g:aF)(r:bL)(d:aa Int):Int:=((List.range (aL g).toNat).countP (λb=>uB d b&&oB r b):Nat)
structure Du (n t:Int) (g:aF) (r:bL) (q:dP) (d:List Int) (B:Nat):Prop where
 u1:r.aU≠2
 u2:La q (aL g).toNat 7<=t+16/\La q (aL g).toNat 9<=t
 u3:r.aU=1->n<=t+15/\∀i:Nat,q.last.getD i (-1)<=t
 u4:La q B 1<=t/\La q B 2<=t/\La q B 3<=t/\La q B 5<=t/\La q B 4<=t+48
 u5:oB r B=true->n+cU g d+cO g r d<=t+48
 u6:n+3*cU g d<=t+90
 u7:∀b:Nat,(b:Int)<aL g->La q b 5+3*cU g d<=t+88
structure Dx (n t:Int) (c:ax):Prop where
 d1:∀i:Nat,c.ready.last.getD i (-1)<=n
 d2:0<=t/\t<=c.now
 d3:100<=nc c.aE+(c.now-t)
 d4:∀b:Nat,c.aE.aC.getD b 0<=4
 d5:∀B:Nat,(B:Int)<aL c.config.ak->uB c.aE.aC B=true->Du n t c.config.ak c.aS c.ready c.aE.aC B
def Oj(g:aF)(d:aa Int):0<=cU g d/\cU g d<=aL g:=by
 have C:=ef g;have:=afo (uB d) (aL g).toNat;unfold cU;omega
def Jj(g:aF)(r:bL)(d:aa Int):0<=cO g r d/\cO g r d<=aL g:=by
 have C:=ef g;have:=afo (λb=>uB d b&&oB r b) (aL g).toNat;unfold cO;omega
def afp{g:aF}{d:aa Int}{B:Nat}(hB:(B:Int)<aL g)(h:uB d B=true):1<=cU g d:=by
 have:=afn (p:=uB d) (n:=(aL g).toNat) (b:=B) (by omega) h;unfold cU;omega
def afq{g:aF}{r:bL}{d:aa Int}{B:Nat}(hB:(B:Int)<aL g)(h:uB d B=true)(C:oB r B=true):1<=cO g r d:=by
 have:=afn (p:=λb=>uB d b&&oB r b) (n:=(aL g).toNat) (b:=B) (by omega) (by rw[h,C];rfl);unfold cO;omega
def Dx.pr{c j:ax}{t:Int}(h:Dx c.now t c)(p:Pr c j)(O:cy c=true)(hi:200<=c.config.interval/\c.config.interval<=10000):∃ T,Dx c.now T j:=by
 have k:=Ck.of O;have Y:=bh.1 k.nw;have E:=k.rf;have Z:=(fM.of k.pa).dl;simp only[fj,aJ,bh]at E;have hw:=E.2.2;have pN:=p.pN;have b1:=ef c.config.ak;have d2:=h.d2;have d3:=h.d3;have pF:=p.pF;cases D:c.aS.aU != 2 with
 | false=>
  rw[D,av]at pF;refine⟨t,⟨by rw[p.pR];exact h.d1,by omega,by rw[pF];omega,by rw[pF];exact h.d4,?_⟩⟩;rw[p.pC,p.pK,p.pR,pF];exact h.d5
 | true=>
  rw[D,aq]at pF;unfold yh at pF;by_cases I:0<c.aE.wait-1
  ·rw[aV I]at pF;have hg:nc c.aE<=nc ⟨c.aE.aC,c.aE.wait-1,c.aE.dL⟩+1:=by
    unfold nc;dsimp only;cases c.aE.dL with
    |true=>rw[aq,aq];omega
    |false=>rw[av,av];omega
   refine⟨t,⟨by rw[p.pR];exact h.d1,by omega,by rw[pF];omega,by rw[pF];exact h.d4,?_⟩⟩;rw[p.pC,p.pK,p.pR,pF];exact h.d5
  ·rw[aW I]at pF;have h1:nc c.aE<=1:=by
    unfold nc;cases c.aE.dL with
    |true=>rw[aq];omega
    |false=>rw[av];omega
   have U:∀ b:Nat,c.aE.aC.getD b 0<=3:=λb=>by
    by_cases hb:b<c.aE.aC.length
    ·by_cases C:c.aE.aC.getD b 0 >= 4
     ·have C:uB c.aE.aC b=true:=aZ C;have hB:(b:Int)<aL c.config.ak:=by omega
      have:=(h.d5 b hB C).u6;have:=afp hB C;omega
     ·omega
    ·rw[cW,List.getElem?_eq_none (by omega)];decide
   have uO:100<=nc ⟨c.aE.aC.map sU,bif c.aE.dL then c.config.interval / 2 else c.config.interval,c.aE.dL⟩:=by
    unfold nc;dsimp only;cases c.aE.dL with
    |true=>rw[aq,aq];omega
    |false=>rw[av,av];omega
   refine⟨c.now+1,⟨by rw[p.pR];exact h.d1,by omega,by rw[pF];omega,λb=>?_,λB hB C=>?_⟩⟩
   ·rw[pF];dsimp only;by_cases hb:b<c.aE.aC.length
    ·rw[Vu _ _ hb];have:=U b;have:=IX k.rf _ (dg hb);rw[<-iw 0 hb]at this;unfold sU;rw[bf];split<;>omega
    ·rw[cW,List.getElem?_eq_none (by rw[eN];omega)];decide
   ·rw[p.pC]at hB ⊢;rw[p.pK,p.pR];have a1:=Oj c.config.ak j.aE.aC;have a2:=Jj c.config.ak c.aS j.aE.aC;have l:=Ji h.d1;have l1:=l B 1;have l2:=l B 2;have l3:=l B 3;have l4:=l B 4;have l5:=l B 5;have l7:=l (aL c.config.ak).toNat 7;have l9:=l (aL c.config.ak).toNat 9
    refine⟨bne_iff_ne.1 D,by omega,λ_=>⟨by omega,λi=>by have:=h.d1 i;omega⟩,by omega,λ_=>by omega,by omega,λb hb=>?_⟩
    have:=l b 5;omega
def afr{c:ax}{x:aR}{i:Int}(C:1<=x.kind/\x.kind<=9):(eH c x i).aS=dx c.aS x/\(eH c x i).ready=gL c.config.ak c.ready ⟨c.now,x⟩/\(eH c x i).now=c.now/\(eH c x i).config=c.config:=by
 have acc:∀ i:Nat,(jW (cR c x) i).aS=dx c.aS x/\(jW (cR c x) i).ready=gL c.config.ak c.ready ⟨c.now,x⟩/\(jW (cR c x) i).now=c.now/\(jW (cR c x) i).config=c.config:=λi=>by
  unfold jW;dsimp only;cases ((cR c x).queue.getD i qe).write<;>exact⟨rfl,rfl,rfl,rfl⟩
 unfold eH;rcases kinds C with q|q|q|q|q|q|q|q|q<;>rw[q]<;>simp only[Int.reduceBEq,Int.reduceBNe,aq,av,Bool.or_true,Bool.or_false,Bool.true_or,Bool.false_or,Bool.or_self]
 ·exact⟨rfl,rfl,rfl,rfl⟩
 ·exact acc _
 ·exact acc _
 ·exact⟨rfl,rfl,rfl,rfl⟩
 ·exact⟨rfl,rfl,rfl,rfl⟩
 ·exact⟨rfl,rfl,rfl,rfl⟩
 ·exact⟨rfl,rfl,rfl,rfl⟩
 ·exact⟨rfl,rfl,rfl,rfl⟩
 ·exact⟨rfl,rfl,rfl,rfl⟩
def atv{c:ax}{x:aR}{i:Int}(O:1<=x.kind/\x.kind<=9)(hb:x.kind=5->x.aA.toNat<c.aE.aC.length)(E:x.kind=5->c.aE.aC.getD x.aA.toNat 0 >= 1):(eH c x i).aE.wait=c.aE.wait/\(eH c x i).aE.dL=c.aE.dL/\(x.kind≠5->x.kind≠9->(eH c x i).aE.aC=c.aE.aC)/\(x.kind=5->∀ b,(eH c x i).aE.aC.getD b 0=if x.aA.toNat=b then c.aE.aC.getD b 0-1 else c.aE.aC.getD b 0)/\(x.kind=9->∀ b,b<c.bE.length->(eH c x i).aE.aC.getD b 0=0)/\∀ b,(eH c x i).aE.aC.getD b 0<=max 0 (c.aE.aC.getD b 0):=by
 by_cases C:x.kind=5
 ·have e:∀ b,(lT c.aE x.aA).aC.getD b 0=if x.aA.toNat=b then c.aE.aC.getD b 0-1 else c.aE.aC.getD b 0:=λb=>(Oh c.aE (hb C) b (E C)).1
  obtain⟨_,w1,T⟩:=Oh c.aE (hb C) 0 (E C);rw[Vw c i C]
  refine⟨w1,T,λh=>absurd C h,λ_=>e,λh=>by omega,λb=>?_⟩
  show (lT c.aE x.aA).aC.getD b 0<=_;rw[e b];split<;>omega
 ·by_cases D:x.kind=9
  ·have e:∀ b,(eH c x i).aE.aC.getD b 0=if b<c.bE.length then 0 else c.aE.aC.getD b 0:=λb=>by
    rw[Jh c i D];exact VA c.aE.aC c.bE.length b
   refine⟨by rw[Jh c i D];rfl,by rw[Jh c i D];rfl,λ_ h=>absurd D h,λh=>absurd h C,λ_ b hb=>by rw[e b,aV hb],λb=>?_⟩
   rw[e b];split<;>omega
  ·have e:(eH c x i).aE=c.aE:=by
    by_cases I:x.kind=1
    ·rw[Vv c i I];rfl
    ·exact(Vx O I C D).2.2.1
   rw[e];exact⟨rfl,rfl,λ_ _=>rfl,λh=>absurd h C,λh=>absurd h D,λb=>by omega⟩
def afs{r:bL}{x:aR}{b:Nat}(h:b≠x.aA.toNat):eT (dx r x) (b:Int)=eT r (b:Int):=by
 have key:∀ v:dK,eT ⟨r.aD.set x.aA.toNat v,r.aU⟩ (b:Int)=eT r (b:Int):=λv=>by
  unfold eT;rw[bA,cW,List.getElem?_set_ne (λe=>h e.symm),<-cW]
 unfold dx;cases x.kind==1 with
 |true=>exact key _
 | false=>
  cases x.kind==4 with
  |true=>exact key _
  |false=>cases x.kind==6<;>cases x.kind==8<;>cases (x.kind==7 ||x.kind==9)<;>rfl
def aft{r:bL}{x:aR}{b:Nat}(C:x.kind=4)(h:b=x.aA.toNat):(eT (dx r x) (b:Int)).open_=false:=by
 unfold dx eT;rw[C];show ((r.aD.set x.aA.toNat (⟨false,0⟩:dK)).getD (b:Int).toNat ⟨false,0⟩).open_=false;rw[bA,h,cW,List.getElem?_set,aV rfl];split<;>rfl
def E0(t:bW):Prop:=∃r w:Int,1<=r/\r<=4/\4<=w/\w<=8/\t=nO r w
def atw{j:ax}{n t:Int}(E:Pq j)(I:E0 j.config.bU)(hn:n=j.now-1)(d1:∀ i:Nat,j.ready.last.getD i (-1)<=n){B:Nat}(u:Du n t j.config.ak j.aS j.ready j.aE.aC B)(O:j.aS.aU=0)(T:oB j.aS B=true)(hT:t+33<=j.now):c8 j ⟨4,(B:Int),0,0⟩=true:=by
 obtain⟨r,w,U,Y,w1,Z,et⟩:=I
 refine VB E (λh=>absurd (show (4:Int)=1 from h) (by decide)) ?_ λb k k1 k9 hu h0=>?_
 ·show (j.aS.aU==0&&(eT j.aS (B:Int)).open_)=true;rw[O,show (eT j.aS (B:Int)).open_=true from T];rfl
 ·rw[et];obtain⟨g1,C,D⟩:=atq (g:=j.config.ak) (a:=⟨(k:Int),if k<=5 then (b:Int)else 0,0,0⟩) ⟨U,Y⟩ ⟨w1,Z⟩ ⟨by dsimp only;omega,by dsimp only;omega⟩ (B:Int);dsimp only at C D;have hl:=Ji d1 b k;have oq:=u.u2;have hu4:=u.u4;by_cases h7:k=7
  ·obtain rfl:b=(aL j.config.ak).toNat:=by omega
   have:=C (by omega);subst h7;omega
  ·by_cases h9:k=9
   ·obtain rfl:b=(aL j.config.ak).toNat:=by omega
    subst h9;omega
   ·by_cases hb:b=B/\k<=3
    ·obtain⟨rfl,h3⟩:=hb;have:k=1\/k=2\/k=3:=by omega
     rcases this with rfl|rfl|rfl<;>omega
    ·have:=D (by omega) (by omega) (by
      by_cases h5:k<=5
      ·rw[aV h5];omega
      ·exact .inr (by omega))
     omega
def atx{j:ax}{n t:Int}(T:Pq j)(U:E0 j.config.bU)(hn:n=j.now-1)(d1:∀ i:Nat,j.ready.last.getD i (-1)<=n){B:Nat}(u:Du n t j.config.ak j.aS j.ready j.aE.aC B)(Y:j.aS.aU=0)(Z:oB j.aS B=false)(hT:t+67<=j.now)(C:∀ b:Nat,(b:Int)<aL j.config.ak->La j.ready b 5+3<=j.now):c8 j ⟨5,(B:Int),0,0⟩=true:=by
 obtain⟨r,w,r1,r2,w1,w2,et⟩:=U
 refine VB T (λh=>absurd (show (5:Int)=1 from h) (by decide)) ?_ λb k k1 k9 hu h0=>?_
 ·show (j.aS.aU==0 && !(eT j.aS (B:Int)).open_)=true;rw[Y,show (eT j.aS (B:Int)).open_=false from Z];rfl
 ·rw[et];obtain⟨g1,D,E,I,O⟩:=atr (g:=j.config.ak) (a:=⟨(k:Int),if k<=5 then (b:Int)else 0,0,0⟩) ⟨r1,r2⟩ ⟨w1,w2⟩ ⟨by dsimp only;omega,by dsimp only;omega⟩ (B:Int);dsimp only at D E I O;have hl:=Ji d1 b k;have oq:=u.u2;have hu4:=u.u4;by_cases h7:k=7
  ·obtain rfl:b=(aL j.config.ak).toNat:=by omega
   have:=D (by omega);subst h7;omega
  ·by_cases h9:k=9
   ·obtain rfl:b=(aL j.config.ak).toNat:=by omega
    subst h9;omega
   ·by_cases hb:b=B/\k<=5
    ·obtain⟨rfl,h3⟩:=hb;have:k=1\/k=2\/k=3\/k=4\/k=5:=by omega
     rcases this with rfl|rfl|rfl|rfl|rfl
     ·omega
     ·omega
     ·omega
     ·have:=E rfl;omega
     ·omega
    ·by_cases e5:k=5
     ·subst e5;have:=I rfl (by rw[aV];omega);have:=C b (by omega);omega
     ·have:=O (by omega) (by omega) (by omega) (by
       by_cases C:k<=5
       ·rw[aV C];exact .inl (by omega)
       ·exact .inr (by omega))
      omega
def aty{j:ax}{t:Int}(C:Pq j)(D:E0 j.config.bU)(E:j.aS.aU=1)(hl:∀ i:Nat,j.ready.last.getD i (-1)<=t)(O:t+16<=j.now):c8 j ⟨7,0,0,0⟩=true:=by
 obtain⟨r,w,T,U,w1,Y,I⟩:=D
 refine VB C (λh=>absurd (show (7:Int)=1 from h) (by decide)) ?_ λb k Z k9 hu h0=>?_
 ·show (j.aS.aU==1)=true;rw[E];rfl
 ·rw[I];have:=att (g:=j.config.ak) (r:=r) (w:=w) (a:=⟨(k:Int),if k<=5 then (b:Int)else 0,0,0⟩) ⟨by dsimp only;omega,by dsimp only;omega⟩;have:=Ji hl b k;omega
def atz{g:aF}{x:aR}(h:cQ g x=true)(C:x.kind=4):x=⟨4,x.aA,0,0⟩:=by
 simp only[cQ,aJ]at h;obtain⟨_,_,_,D,E⟩:=h;rw[C]at D E;have I:x.row=0:=fl.1 D;have O:x.bX=0:=fl.1 E;clear D E;obtain⟨k,b,r,c⟩:=x;dsimp only at C I O;subst C I O;rfl
def afu{c:ax}(h:vC c=true):cJ c=bif c.aU.state==1 then 7 else bif c.aU.state==2 then 9 else 0:=by
 unfold cJ xT;rw[h];rfl
def afv{c:ax}{b:Int}(h:b∈bP 0 c.aE.aC):vC c=true:=by
 have:0<(bP 0 c.aE.aC).length:=List.length_pos_of_mem h;unfold vC;rw[aZ (show ((bP 0 c.aE.aC).length:Int) > 0 by omega),Bool.or_true,Bool.or_true]
def Dx.core{j:ax}{t:Int}(h:Dx (j.now-1) t j)(E:Pq j)(T:E0 j.config.bU)(U:j.aS.aU=0)(Z:∀ b∈bP 0 j.aE.aC,c8 j (fz j b)=false){B:Nat}(hB:(B:Int)<aL j.config.ak)(I:uB j.aE.aC B=true):(oB j.aS B=true->j.now+cU j.config.ak j.aE.aC+cO j.config.ak j.aS j.aE.aC<=t+48)/\j.now+3*cU j.config.ak j.aE.aC<=t+90:=by
 have u:=h.d5 B hB I;have b1:=ef j.config.ak;have a1:=Oj j.config.ak j.aE.aC;have a2:=Jj j.config.ak j.aS j.aE.aC;have C:=Z _ (Vr E (b:=(B:Int)) (by omega) hB (of_decide_eq_true I));unfold fz oO at C
 refine⟨λD=>?_,?_⟩
 ·rw[show (eT j.aS (B:Int)).open_=true from D,aq]at C;by_cases O:t+33<=j.now
  ·rw[atw E T rfl h.d1 u U D O]at C;cases C
  ·omega
 ·by_cases O:t+67<=j.now
  ·cases D:oB j.aS B with
   | true=>
    have:=u.u5 D;have:=afq hB I D;omega
   | false=>
    rw[show (eT j.aS (B:Int)).open_=false from D,av]at C;by_cases Y:∀b:Nat,(b:Int)<aL j.config.ak->La j.ready b 5+3<=j.now
    ·rw[atx E T rfl h.d1 u U D O Y]at C;cases C
    ·obtain⟨b,hb⟩:=Classical.not_forall.1 Y;obtain⟨hb,gy⟩:=Classical.not_imp.1 hb;have:=u.u7 b hb;omega
  ·omega
def Du.stay{n n' t:Int}{g:aF}{r D:bL}{q E:dP}{d:aa Int}{B:Nat}(u:Du n t g r q d B)(hB:(B:Int)<aL g)(hp:D.aU=0)
  (C:∀b k:Nat,1<=k->k<=9->(b=B/\k<=5\/k=5\/k=7\/k=9)->La E b k=La q b k) (I:oB D B=true->n'+cU g d+cO g D d<=t+48) (O:n'+3*cU g d<=t+90):Du n' t g D E d B:=by
 have T:=C B 1 (by omega) (by omega) (by omega);have U:=C B 2 (by omega) (by omega) (by omega);have Y:=C B 3 (by omega) (by omega) (by omega);have Z:=C B 4 (by omega) (by omega) (by omega);have e5:=C B 5 (by omega) (by omega) (by omega);have e7:=C (aL g).toNat 7 (by omega) (by omega) (by omega);have e9:=C (aL g).toNat 9 (by omega) (by omega) (by omega)
 refine⟨by omega,by rw[e7,e9];exact u.u2,λh=>by omega,by rw[T,U,Y,Z,e5];exact u.u4,I,O,λb hb=>?_⟩
 rw[C b 5 (by omega) (by omega) (by omega)];exact u.u7 b hb
def Dx.fn{j y:ax}{t:Int}(h:Dx (j.now-1) t j)(hz:cB j)(hk:cy j=true)(ht:E0 j.config.bU)(hf:Fn j y):Dx j.now t y:=by
 have E:=Pq.of hz hk;have b1:=ef j.config.ak;have ps:=E.ps;have Vb:=E.dl;have ES:=(fM.of (Ck.of hk).pa).tl;have hpw:=(uo E.p.rk).2.2.1;have up:∀{B:Nat},(B:Int)<aL j.config.ak->uB j.aE.aC B=true->(B:Int)∈bP 0 j.aE.aC:=λhB Y=>Vr E (by omega) hB (of_decide_eq_true Y)
 have b8:aL j.config.ak<=8:=by have:=E.rf;have:=uw this;omega
 rcases hf with ⟨k0,rfl⟩|⟨hm,rfl⟩
 ·refine⟨λi=>by have:=h.d1 i;omega,h.d2,h.d3,h.d4,λB hB Y=>?_⟩
  have u:=h.d5 B hB Y;have a1:=Oj y.config.ak y.aE.aC;have a2:=Jj y.config.ak y.aS y.aE.aC;have T:=afu (afv (up hB Y));rcases Og E with ⟨hs,Z⟩|⟨hs,⟨b,hb,e⟩|⟨vc,_⟩⟩
  ·have O:y.aS.aU=1:=by have:=u.u1;omega
   rw[ps,O]at T;have T:cJ y=7:=T;have Jf:=u.u3 O;have hT:¬ t+16<=y.now:=λhT=>by
    have hr:=aty E ht O Jf.2 hT;rcases Z with ⟨_,e|e⟩|e
    ·omega
    ·rw[T,hr]at e;cases e
    ·rw[e]at k0;dsimp only at k0;omega
   exact⟨u.u1,u.u2,λ_=>⟨by omega,Jf.2⟩,u.u4,λ_=>by omega,by omega,u.u7⟩
  ·exfalso;rw[e]at k0;unfold fz at k0;rcases AB y b ⟨5,b,0,0⟩with e|⟨e,_⟩<;>rw[e]at k0<;>dsimp only at k0<;>omega
  ·have O:y.aS.aU=0:=by omega
   obtain⟨c1,c2⟩:=h.core E ht O vc hB Y;exact u.stay hB O (λ_ _ _ _ _=>rfl) c1 c2
 ·have afw:=Og E;have hpr:=afh E;generalize hX:(iR j).1=x at hm afw hpr ⊢;generalize (iR j).2=i at hm ⊢;obtain⟨_,ha,_,_⟩:=I6 hz E hm;obtain⟨_,_,Z,Ay⟩:=Cd ha;simp only[mG,c8,aJ]at hm;have hc:=hm.1;have wI:=hm.2.1.1;have tq:c8 j x=true:=by
   simp only[c8,aJ];exact hm.2.1
  obtain⟨e1,e2,e3,e4⟩:=afr (c:=j) (x:=x) (i:=i) Z;have hb5:x.kind=5->x.aA.toNat<j.aE.aC.length:=λk=>by have:=Ay (by omega);have:=E.p.bl;omega
  obtain⟨w1,w2,w3,w4,w5,w6⟩:=atv (c:=j) (x:=x) (i:=i) Z hb5 λk=>(hpr k).1
  refine⟨by rw[e2];exact afm _ _ _ (λi=>by have:=h.d1 i;omega) (eW _),by rw[e3];exact h.d2,?_,λb=>by have:=w6 b;have:=h.d4 b;omega,λB hB Y=>?_⟩
  ·have:nc (eH j x i).aE=nc j.aE:=by unfold nc;rw[w1,w2]
   rw[this,e3];exact h.d3
  ·rw[e4]at hB ⊢;rw[e1,e2];have og:uB j.aE.aC B=true:=aZ (by have:=of_decide_eq_true Y;have:=w6 B;omega);have u:=h.d5 B hB og;have a1:=Oj j.config.ak j.aE.aC;have a2:=Jj j.config.ak j.aS j.aE.aC;have T:=afu (afv (up hB og));have la:=atu j.config.ak j.ready ⟨j.now,x⟩ hc;have hBb:∀ {b k:Nat},(k:Int)=x.kind->k<=5->(b:Int)=(if k<=5 then x.aA else aL j.config.ak)->b=x.aA.toNat:=λh1 U h3=>by rw[aV U]at h3;omega
   rcases afw with ⟨hs,hx7⟩|⟨hs,⟨b,hb,e⟩|⟨vc,atA⟩⟩
   ·-- the power comes back
    have O:j.aS.aU=1:=by have:=u.u1;omega
    rw[ps,O]at T;have T:cJ j=7:=T;have ex:x=⟨7,0,0,0⟩:=by
     rcases hx7 with ⟨e,_⟩|e
     ·rw[e]at Z;exact absurd Z.1 (by decide)
     ·rw[e,T]
    have k7:x.kind=7:=by rw[ex]
    have Jf:=u.u3 O;rw[w3 (by omega) (by omega)];have D:∀ b k:Nat,1<=k->k<=9->k≠7->La (gL j.config.ak j.ready ⟨j.now,x⟩) b k=La j.ready b k:=λb k h1 h9 hk=>by
     rcases la b k ⟨h1,h9⟩with e|⟨_,e,_⟩
     ·exact e
     ·dsimp only at e;omega
    have Fy:(dx j.aS x).aU=0:=by rw[ex];rfl
    have l7:La (gL j.config.ak j.ready ⟨j.now,x⟩) (aL j.config.ak).toNat 7<=t+16:=by
     have:=Ji (afm j.config.ak j.ready ⟨j.now,x⟩ (n:=j.now) (λi=>by have:=h.d1 i;omega) (eW _)) (aL j.config.ak).toNat 7;omega
    refine⟨by omega,⟨l7,by rw[D _ 9 (by omega) (by omega) (by omega)];exact u.u2.2⟩,λh=>by omega,?_,λ_=>?_,by omega,λb hb=>by rw[D b 5 (by omega) (by omega) (by omega)];exact u.u7 b hb⟩
    ·rw[D B 1 (by omega) (by omega) (by omega),D B 2 (by omega) (by omega) (by omega),D B 3 (by omega) (by omega) (by omega),D B 4 (by omega) (by omega) (by omega),D B 5 (by omega) (by omega) (by omega)];exact u.u4
    ·have:=Jj j.config.ak (dx j.aS x) j.aE.aC;omega
   ·-- an urgent bank
    have O:j.aS.aU=0:=by omega
    obtain⟨v1,v2,v3⟩:=afg E hb;have CA:uB j.aE.aC b.toNat=true:=aZ v3;have IB:((b.toNat:Nat):Int)=b:=Int.toNat_of_nonneg v1;unfold fz at e;rcases AB j b ⟨5,b,0,0⟩with e5|⟨e5,e6⟩
    ·-- it closes
     have ho:oB j.aS b.toNat=true:=by
      unfold oO at e5;unfold oB;rw[IB];cases I:(eT j.aS b).open_ with
      |true=>rfl
      |false=>rw[I]at e5;cases e5
     have ex:x=⟨4,b,0,0⟩:=e.trans e5;have k4:x.kind=4:=by rw[ex]
     have xb:x.aA=b:=by rw[ex]
     have Fy:(dx j.aS x).aU=0:=by rw[ex];exact O
     have hu5:=(h.d5 b.toNat (by omega) CA).u5 ho;have cu1:=afp (g:=j.config.ak) (by omega) CA;have co1:=afq (g:=j.config.ak) (by omega) CA ho;have hco:cO j.config.ak (dx j.aS x) j.aE.aC+1<=cO j.config.ak j.aS j.aE.aC:=by
      have:=VC (p:=λb=>uB j.aE.aC b&&oB j.aS b) (q:=λb=>uB j.aE.aC b&&oB (dx j.aS x) b) (b:=b.toNat) (aL j.config.ak).toNat (by omega) (λC _ rH=>by
       rw[aJ]at rH ⊢;refine⟨rH.1,?_⟩;by_cases eb:C=x.aA.toNat
       ·have:=aft (r:=j.aS) k4 eb;have U:=rH.2;unfold oB at U;rw[this]at U;cases U
       ·have:=afs (r:=j.aS) eb;have U:=rH.2;unfold oB at U ⊢;rw[this]at U;exact U) (by rw[CA,ho];rfl) (by
       have:=aft (r:=j.aS) (b:=b.toNat) k4 (by rw[xb]);unfold oB;rw[this,Bool.and_false])
      unfold cO;omega
     rw[w3 (by omega) (by omega)];have D:∀ b k:Nat,1<=k->k<=9->k≠4->La (gL j.config.ak j.ready ⟨j.now,x⟩) b k=La j.ready b k:=λb k h1 h9 hk=>by
      rcases la b k ⟨h1,h9⟩with e|⟨_,e,_⟩
      ·exact e
      ·dsimp only at e;omega
     have l4:La (gL j.config.ak j.ready ⟨j.now,x⟩) B 4<=t+48:=by
      rcases la B 4 ⟨by omega,by omega⟩with e|⟨e,_,_⟩
      ·rw[e];exact u.u4.2.2.2.2
      ·rw[e];dsimp only;omega
     refine⟨by omega,by rw[D _ 7 (by omega) (by omega) (by omega),D _ 9 (by omega) (by omega) (by omega)];exact u.u2,λh=>by omega,?_,λhB'=>by omega,by omega,λb hb=>by rw[D b 5 (by omega) (by omega) (by omega)];exact u.u7 b hb⟩
     rw[D B 1 (by omega) (by omega) (by omega),D B 2 (by omega) (by omega) (by omega),D B 3 (by omega) (by omega) (by omega),D B 5 (by omega) (by omega) (by omega)];exact⟨u.u4.1,u.u4.2.1,u.u4.2.2.1,u.u4.2.2.2.1,l4⟩
    ·-- it is refreshed
     have ex:x=⟨5,b,0,0⟩:=e.trans e5;have k5:x.kind=5:=by rw[ex]
     have xb:x.aA=b:=by rw[ex]
     have w4:=w4 k5;rw[xb]at w4;have er:dx j.aS x=j.aS:=by rw[ex];rfl
     have Xw:=h.d4 b.toNat;have ck:B≠b.toNat:=λeb=>by
      have:=of_decide_eq_true Y;rw[w4 B,aV eb.symm,eb]at this;omega
     have O7:∀ C,uB (eH j x i).aE.aC C=true->uB j.aE.aC C=true:=λC I=>aZ (by
      have:=of_decide_eq_true I;have:=w6 C;omega)
     have Jk:uB (eH j x i).aE.aC b.toNat=false:=bu (by rw[w4 b.toNat,aV rfl];omega);have J3:cU j.config.ak (eH j x i).aE.aC+1<=cU j.config.ak j.aE.aC:=by
      have:=VC (p:=uB j.aE.aC) (q:=uB (eH j x i).aE.aC) (b:=b.toNat) (aL j.config.ak).toNat (by omega) (λC _ I=>O7 C I) CA Jk;unfold cU;omega
     have hco:cO j.config.ak j.aS (eH j x i).aE.aC<=cO j.config.ak j.aS j.aE.aC:=by
      have:=count_le (p:=λb=>uB j.aE.aC b&&oB j.aS b) (q:=λb=>uB (eH j x i).aE.aC b&&oB j.aS b) (aL j.config.ak).toNat λC _ I=>by
       rw[aJ]at I ⊢;exact⟨O7 C I.1,I.2⟩
      unfold cO;omega
     rw[er];have D:∀ C k:Nat,1<=k->k<=9->(k≠5\/C≠b.toNat)->La (gL j.config.ak j.ready ⟨j.now,x⟩) C k=La j.ready C k:=λC k h1 h9 hk=>by
      rcases la C k ⟨h1,h9⟩with e|⟨_,e,e'⟩
      ·exact e
      ·dsimp only at e e';have:=hBb e (by omega) e';rw[xb]at this;omega
     have hu6:=u.u6;have hu7:=u.u7
     refine⟨by omega,by rw[D _ 7 (by omega) (by omega) (by omega),D _ 9 (by omega) (by omega) (by omega)];exact u.u2,λh=>by omega,?_,λhB'=>by have:=u.u5 hB';omega,by omega,λC wh=>?_⟩
     ·rw[D B 1 (by omega) (by omega) (by omega),D B 2 (by omega) (by omega) (by omega),D B 3 (by omega) (by omega) (by omega),D B 4 (by omega) (by omega) (by omega),D B 5 (by omega) (by omega) (by omega)];exact u.u4
     ·rcases la C 5 ⟨by omega,by omega⟩with e | ⟨e,_,_⟩
      ·rw[e];have:=hu7 C wh;omega
      ·rw[e];dsimp only;omega
   ·-- another command
    have O:j.aS.aU=0:=by omega
    obtain⟨c1,c2⟩:=h.core E ht O vc hB og;have hwn:cJ j=0:=by
     rw[hs]at T;exact T
    have VD:x.kind<=4/\uB j.aE.aC x.aA.toNat=false:=by
     have cl:∀ (b:Int) (z:aR),z.kind=1->z.aA=b->uB j.aE.aC b.toNat=false->x=oO j b z->x.kind<=4/\uB j.aE.aC x.aA.toNat=false:=λb z z1 z2 z3 z4=>by
      rcases AB j b z with e|⟨e,_⟩
      ·rw[z4,e];exact⟨by dsimp only;omega,z3⟩
      ·rw[z4,e,z1,z2];exact⟨by omega,z3⟩
     rcases atA with ⟨k,hkl,qP,e⟩|⟨k,hkl,VE,e⟩|e|e
     ·unfold qh at qP;rw[aJ,fH]at qP;exact cl (gY j k).aA ⟨1,(gY j k).aA,(gY j k).row,0⟩ rfl rfl qP.1 e
     ·unfold oM at VE;simp only[aJ,fH]at VE;obtain⟨n1,n2⟩:=Vs j.aS (gX j k) (q9 j.queue k);rw[e];unfold kV;rw[n1];exact⟨by omega,VE.2.1⟩
     ·rcases Vt E e with ⟨_,_,_,atB,_⟩ | k4 | ⟨_,e⟩
      ·have:=up hB og;rw[atB]at this;cases this
      ·refine⟨by omega,?_⟩;cases CA:uB j.aE.aC x.aA.toNat with
       |false=>rfl
       | true=>
        obtain⟨x0,x1⟩:=Ay (by omega);have ig:=E.p.bl;have r8:=vc _ (Vr E (b:=x.aA) x0 (by omega) (of_decide_eq_true CA));have r9:(eT j.aS x.aA).open_=true:=by
         unfold iO at wI;rw[k4]at wI;have wI:(j.aS.aU==0&&(eT j.aS x.aA).open_)=true:=wI;rw[aJ]at wI;exact wI.2
        unfold fz oO at r8;rw[r9,aq,<-atz hc k4,tq]at r8;cases r8
      ·exact absurd hwn e
     ·rw[e]at Z;exact absurd Z.1 (by decide)
    rw[w3 (by omega) (by omega)];have hoB:∀ C,uB j.aE.aC C=true->oB (dx j.aS x) C=oB j.aS C:=λC I=>by
     unfold oB;rw[afs (λeb=>by rw[eb,VD.2]at I;cases I)]
    have hco:cO j.config.ak (dx j.aS x) j.aE.aC<=cO j.config.ak j.aS j.aE.aC:=by
     have:=count_le (p:=λb=>uB j.aE.aC b&&oB j.aS b) (q:=λb=>uB j.aE.aC b&&oB (dx j.aS x) b) (aL j.config.ak).toNat λC _ I=>by
      rw[aJ]at I ⊢;exact⟨I.1,by rw[<-hoB C I.1];exact I.2⟩
     unfold cO;omega
    have Fy:(dx j.aS x).aU=0:=(ae1 (by omega)).trans O
    refine u.stay hB Fy (λC k h1 h9 hk=>?_) (λho=>?_) c2
    ·rcases la C k ⟨h1,h9⟩with e | ⟨_,e,e'⟩
     ·exact e
     ·dsimp only at e e';exfalso;rcases hk with ⟨hk,wW⟩ | hk | hk | hk
      ·have:=hBb e wW e';rw[<-this,hk]at VD;rw[VD.2]at og;cases og
      ·omega
      ·omega
      ·omega
    ·have:=c1 (by rw[<-hoB B og];exact ho);omega
structure qk (R:Nat) (t:cK) (f:Nat->Nat):Prop where
 tr:t.rows.length=16
 tc:t.counts.length=16
 ts:t.eX=0
 te:∀i,i<16->(t.rows.getD i (-1) = -1/\t.counts.getD i 0=0)\/∃r,r<R/\t.rows.getD i (-1)=(r:Int)/\t.counts.getD i 0=(f r:Int)/\1<=f r
 tf:∀r,r<R->1<=f r->∃i,i<16/\t.rows.getD i (-1)=(r:Int)
 td:∀i j,i<16->j<16->t.rows.getD i (-1)=t.rows.getD j (-1)->t.rows.getD i (-1) ≠ -1->i=j
def qk.new(R:Nat):qk R (oJ 16) λ_=>0:=by
 have C:∀i,i<16->(oJ 16).rows.getD i (-1) = -1/\(oJ 16).counts.getD i 0=0:=by decide
 exact⟨by decide,by decide,rfl,λi hi=>.inl (C i hi),λr _ h=>absurd h (by decide),λi j hi _ _ h=>absurd (C i hi).1 h⟩
def qk.afx{R:Nat}{t:cK}{f:Nat->Nat}(h:qk R t f)(hR:R<=16)(T:∀ r,r<R->f r<=100000):lO t=true:=by
 have U:=h.tr;have Y:=h.tc;unfold lO;rw[U,Y,h.ts];simp only[aJ];refine⟨by decide,by decide,by decide,?_⟩;rw[bN];intro i hi;have hi:=fA.1 hi;have D:t.rows.getD i (-1)=t.rows[i]:=iw _ (by omega);have Z:t.counts.getD i 0=t.counts[i]:=iw _ (by omega);rw[Nm (by omega) (by omega),h.ts];have O:=h.te i hi;rw[D,Z]at O;rcases O with ⟨C,E⟩|⟨r,hr,C,E,e3⟩
 ·rw[C,E];rfl
 ·have:=T r hr;rw[C,E,bh.2 ⟨by omega,by omega⟩,bh.2 ⟨by omega,by omega⟩,gU (show ¬ (r:Int) = -1 by omega),kS (show ¬ (r:Int) = -1 by omega)];have hn:((t.rows.take i).any λx=>(r:Int)==x)=false:=by
   rw[mJ];intro x hx I;obtain⟨j,hj,rfl⟩:=List.mem_take_iff_getElem.1 hx;have I:=fl.1 I;have g3:t.rows.getD j (-1)=t.rows[j]:=iw _ (by omega);have:=h.td i j hi (by omega) (by rw[D,g3,C];exact I) (by rw[D,C];omega);omega
  rw[hn];rfl
def qk.room{R:Nat}{t:cK}{f:Nat->Nat}(h:qk R t f)(hR:R<16):∃ i,i<16/\t.counts.getD i 0=0:=by
 refine Classical.byContradiction λT=>?_
 have I:∀ i,i<16->∃ r,r<R/\t.rows.getD i (-1)=(r:Int):=λi hi=>by
  rcases h.te i hi with ⟨_,D⟩|⟨r,E,C,_⟩
  ·exact absurd ⟨i,hi,D⟩ T
  ·exact⟨r,E,C⟩
 have:=U3 R ((List.range 16).map λi=>(t.rows.getD i (-1)).toNat) (λx U=>by
  obtain⟨i,hi,rfl⟩:=List.mem_map.1 U;obtain⟨r,E,e⟩:=I i (fA.1 hi);rw[e,bA];exact E) (by
  rw[List.pairwise_iff_getElem];intro i j hi O Y e;rw[eN,eB]at hi O;rw[List.getElem_map,List.getElem_map,lV,lV]at e;obtain⟨r,E,C⟩:=I i hi;obtain⟨Z,th,D⟩:=I j O;rw[C,D,bA,bA]at e;have:=h.td i j hi O (by rw[C,D,e]) (by rw[C];omega);omega)
 rw[eN,eB]at this;omega
def qk.trk{R:Nat}{t:cK}{f:Nat->Nat}(h:qk R t f)(hR:R<16){row:Nat}(hr:row<R):qk R (jb t (row:Int)) (λr=>if r=row then f r+1 else f r)/\∃ i,qd t (row:Int)=some i/\(jb t (row:Int)).counts.getD i 0=((f row+1:Nat):Int):=by
 have h1:=h.tr;have h2:=h.tc;unfold jb qd;cases hf:t.rows.findIdx? (λe=>e==(row:Int))with
 | some i=>
  obtain⟨hi,hp⟩:=Cr hf;have T:i<16:=by omega
  have er:t.rows.getD i (-1)=(row:Int):=(iw _ hi).trans (fl.1 hp);have ec:t.counts.getD i 0=(f row:Int):=by
   rcases h.te i T with ⟨C,_⟩|⟨r,_,C,I,_⟩
   ·omega
   ·rw[I];congr 1;congr 1;omega
  have U:(t.counts.set i (t.counts.getD i 0+1)).getD i 0=((f row+1:Nat):Int):=by
   rw[yl _ (by omega),ec];rfl
  dsimp only
  refine⟨⟨h1,by rw[iS];exact h2,h.ts,λj D=>?_,λr th O=>?_,h.td⟩,i,rfl,U⟩
  ·dsimp only;by_cases e:i=j
   ·subst e;exact .inr ⟨row,hr,er,by rw[aV rfl];exact U,by rw[aV rfl];omega⟩
   ·rw[getD_set_ne _ e];rcases h.te j D with C | ⟨r,k1,Y,k3,k4⟩
    ·exact .inl C
    ·have Z:r≠row:=λE=>e (h.td i j T D (by rw[er,Y,E]) (by rw[er];omega))
     exact .inr ⟨r,k1,Y,by rw[aW Z];exact k3,by rw[aW Z];exact k4⟩
  ·by_cases e:r=row
   ·subst e;exact⟨i,T,er⟩
   ·rw[aW e]at O;exact h.tf r th O
 | none=>
  have hn:∀ i,i<16->t.rows.getD i (-1)≠(row:Int):=λi hi e=>by
   have g1:t.rows.getD i (-1)=t.rows[i]:=iw _ (by omega);have:=List.findIdx?_eq_none_iff.1 hf t.rows[i] (dg _);rw[<-g1,e,kH]at this;cases this
  have f0:f row=0:=by
   cases hz:f row with
   |zero=>rfl
   | succ k=>
    obtain⟨i,hi,e⟩:=h.tf row hr (by omega);exact absurd e (hn i hi)
  cases O:t.counts.findIdx? (λe=>e==t.eX)with
  | none=>
   obtain⟨i,hi,e⟩:=h.room hR;have g2:t.counts.getD i 0=t.counts[i]:=iw _ (by omega);have:=List.findIdx?_eq_none_iff.1 O t.counts[i] (dg _);rw[<-g2,e,h.ts,kH]at this;cases this
  | some i=>
   obtain⟨hi,hp⟩:=Cr O;have T:i<16:=by omega
   have ec:t.counts.getD i 0=0:=(iw _ hi).trans (by rw[fl.1 hp];exact h.ts);have er:t.rows.getD i (-1) = -1:=by
    rcases h.te i T with ⟨C,_⟩|⟨r,_,_,I,e3⟩
    ·exact C
    ·omega
   have U:(t.counts.set i (t.eX+1)).getD i 0=((f row+1:Nat):Int):=by
    rw[yl _ (by omega),h.ts,f0];rfl
   have gO:(t.rows.set i (row:Int)).getD i (-1)=(row:Int):=yl _ (by omega);dsimp only
   refine⟨⟨by rw[iS];exact h1,by rw[iS];exact h2,h.ts,λj D=>?_,λr th O=>?_,λj k D hk=>?_⟩,i,rfl,U⟩
   ·dsimp only;by_cases e:i=j
    ·subst e;exact .inr ⟨row,hr,gO,by rw[aV rfl];exact U,by rw[aV rfl];omega⟩
    ·rw[getD_set_ne _ e,getD_set_ne _ e];rcases h.te j D with C | ⟨r,k1,Y,k3,k4⟩
     ·exact .inl C
     ·have Z:r≠row:=λE=>hn j D (by rw[Y,E])
      exact .inr ⟨r,k1,Y,by rw[aW Z];exact k3,by rw[aW Z];exact k4⟩
   ·by_cases e:r=row
    ·subst e;exact⟨i,T,gO⟩
    ·rw[aW e]at O;obtain⟨j,D,ej⟩:=h.tf r th O;exact⟨j,D,(getD_set_ne _ (λE=>by subst E;omega)).trans ej⟩
   ·dsimp only;by_cases C:i=j
    ·subst C;by_cases I:i=k
     ·exact λ_ _=>I
     ·rw[gO,getD_set_ne _ I];exact λE=>absurd E.symm (hn k hk)
    ·by_cases I:i=k
     ·subst I;rw[gO,getD_set_ne _ C];exact λE=>absurd E (hn j D)
     ·rw[getD_set_ne _ C,getD_set_ne _ I];exact h.td j k D hk
def qk.step{R:Nat}{t:cK}{f:Nat->Nat}(h:qk R t f)(hR:R<16){row:Nat}(C:row<R){L:Nat}(Y:2<=L)(Z:L<=1000)(D:∀ r,r<R->f r<100000):nQ t (row:Int) (L:Int)=(jb t (row:Int),decide ((f row+1) % L=0))/\qk R (jb t (row:Int)) (λr=>if r=row then f r+1 else f r):=by
 obtain⟨E,i,I,O⟩:=h.trk hR C;refine⟨?_,E⟩;have T:=h.afx (by omega) λr C=>by have:=D r C;omega
 have U:=E.afx (by omega) λr C=>by
  have:=D r C;split<;>omega
 unfold nQ;rw[T,U,bh.2 ⟨by omega,by omega⟩,bh.2 ⟨by omega,by omega⟩,I];show (jb t (row:Int),((jb t (row:Int)).counts.getD i 0).tmod (L:Int)==0)=_;rw[O,ru (by omega),<-Int.natCast_emod];congr 1;rw[Bool.eq_iff_iff,fl,fI];omega
def je(b r:Nat)(a:aN):Bool:=eF ⟨(b:Int),(r:Int),0⟩ a
def CB{b r:Nat}{a:aN}:je b r a=true ↔ (⟨(b:Int),(r:Int),0⟩:aN)=a:=IY
def afy{b r C D:Nat}{a:aN}(h:je b r a=true)(E:je C D a=true):b=C/\r=D:=by
 have e:=(CB.1 h).trans (CB.1 E).symm;simp only[aN.mk.injEq]at e;omega
def mH(P:aa aN)(b r:Nat):Bool:=P.any (je b r)
def ng(P:aa aN)(b n r:Nat):Bool:=(P.takeWhile λa=>!je b r a).any (je b n)
def wT(c L:Nat):Nat:=if c % L=0/\0<c then L else c % L
def wH(f:Nat->Nat)(L:Nat)(P:aa aN)(b n r:Nat):Nat:=if mH P b r=true/\ng P b n r=false then wT (f n) L else f n % L
def wS(R:Nat)(f:Nat->Nat)(L:Nat)(P:aa aN)(b r:Nat):Nat:=(if 0<r then wH f L P b (r-1) r else 0)+(if r+1<R then wH f L P b (r+1) r else 0)
def atC(c:Nat){L:Nat}(h:0<L):c % L<=wT c L/\wT c L<=L:=by
 have:=Nat.mod_lt c h;unfold wT;split<;>omega
def atD(c:Nat){L:Nat}(h:0<L):wT (c+1) L=c % L+1/\((c+1) % L≠0->(c+1) % L=c % L+1):=by
 have e:(c+1) % L=(c % L+1) % L:=(Nat.mod_add_mod c L 1).symm;have:=Nat.mod_lt c h;by_cases E:c % L+1=L
 ·have C:(c+1) % L=0:=by rw[e,E,Nat.mod_self]
  unfold wT;rw[aV ⟨C,by omega⟩];exact⟨by omega,λI=>absurd C I⟩
 ·have D:(c+1) % L=c % L+1:=by rw[e];exact Nat.mod_eq_of_lt (by omega)
  unfold wT;rw[aW];exact⟨D,λ_=>D⟩
def VF(f:Nat->Nat){L:Nat}(h:0<L)(P:aa aN)(b n r:Nat):f n % L<=wH f L P b n r/\wH f L P b n r<=L:=by
 have:=atC (f n) h;have:=Nat.mod_lt (f n) h;unfold wH;split<;>omega
def atE(R:Nat)(f:Nat->Nat){L:Nat}(h:0<L)(P:aa aN)(b r:Nat):wS R f L P b r<=2*L:=by
 have:=(VF f h P b (r-1) r).2;have:=(VF f h P b (r+1) r).2;unfold wS;split<;>split<;>omega
def afz{f f':Nat->Nat}{L:Nat}(D:0<L){P P':aa aN}{b n r:Nat}(C:f' n=f n)(E:mH P b r=true->mH P' b r=true)(I:mH P b r=true->ng P' b n r=true->ng P b n r=true):wH f L P b n r<=wH f' L P' b n r:=by
 by_cases c:mH P b r=true/\ng P b n r=false
 ·have O:mH P' b r=true/\ng P' b n r=false:=⟨E c.1,Bool.eq_false_iff.2 λh=>by rw[I c.1 h]at c;exact absurd c.2 (by decide)⟩
  unfold wH;rw[aV c,aV O,C];exact dz _
 ·have:=(VF f' D P' b n r).1;unfold wH at this ⊢;rw[aW c,<-C];exact this
def afA{p:aN->Bool}{b r:Nat}(D:∀ a,je b r a=true->p a=true){P:aa aN}(new:aa aN)(h:mH P b r=true):mH (P.filter p++new) b r=true:=by
 unfold mH at h ⊢;obtain⟨a,E,C⟩:=List.any_eq_true.1 h;exact List.any_eq_true.2 ⟨a,List.mem_append_left _ (List.mem_filter.2 ⟨E,D a C⟩),C⟩
def Ok{p:aN->Bool}{b n r:Nat}(D:∀ a,je b r a=true->p a=true)(new:aa aN):∀ (P:aa aN),mH P b r=true->ng (P.filter p++new) b n r=true->ng P b n r=true
 |[],h,_=>by cases h
 | a :: l,h,hb=>by
  unfold ng at hb ⊢;by_cases C:je b r a=true
  ·rw[List.filter_cons_of_pos (D a C),List.cons_append,List.takeWhile_cons,C]at hb;cases hb
  ·have C:=Bool.eq_false_iff.2 C;have hl:mH l b r=true:=by
    unfold mH at h ⊢;rw[List.any_cons,C,Bool.false_or]at h;exact h
   rw[List.takeWhile_cons,C];show ((a::l.takeWhile λa=>!je b r a).any (je b n))=true;rw[List.any_cons];by_cases pa:p a=true
   ·rw[List.filter_cons_of_pos pa,List.cons_append,List.takeWhile_cons,C]at hb;have hb:((a :: (l.filter p++new).takeWhile λa=>!je b r a).any (je b n))=true:=hb;rw[List.any_cons]at hb;cases E:je b n a with
    |true=>rfl
    | false=>
     rw[E,Bool.false_or]at hb;exact Ok D new l hl hb
   ·rw[List.filter_cons_of_neg pa]at hb;have:=Ok D new l hl hb;unfold ng at this;rw[this,Bool.or_true]
def afB{b row r:Nat}(O:row≠r):∀ (P:aa aN) (k:Nat) (D:k<P.length),je b row P[k]=true->((P.take k).any λa=>a.aA==(b:Int))=false->ng P b row r=true
 | a :: l,0,D,h,_=>by
  unfold ng;have E:je b r a=false:=Bool.eq_false_iff.2 λI=>O (afy h I).2
  have h:je b row a=true:=h;rw[List.takeWhile_cons,E];show ((a::l.takeWhile λa=>!je b r a).any (je b row))=true;rw[List.any_cons,h];rfl
 | a :: l,k+1,D,h,C=>by
  have C:((a :: l.take k).any λa=>a.aA==(b:Int))=false:=C;rw[List.any_cons,nh]at C;have T:=afB O l k (by simpa using D) h C.2;unfold ng at T ⊢;have E:je b r a=false:=Bool.eq_false_iff.2 λI=>by
   rw[<-CB.1 I]at C;dsimp only at C;rw[kH]at C;exact absurd C.1 (by decide)
  rw[List.takeWhile_cons,E];show ((a::l.takeWhile λa=>!je b r a).any (je b row))=true;rw[List.any_cons,T,Bool.or_true]
def VG(b:Int):∀ (ns:aa Int) (P:aa aN),∃ new,ns.foldl (jr b) P=P++new/\(∀ a∈new,∃ n∈ns,a=⟨b,n,0⟩)/\∀ n∈ns,(ns.foldl (jr b) P).any (eF ⟨b,n,0⟩)=true
 |[],P=>⟨[],(List.append_nil P).symm,λa h=>(by cases h),λn h=>(by cases h)⟩
 | n :: ns,P=>by
  obtain⟨new,C,D,E⟩:=VG b ns (jr b P n);have key:∃ m,jr b P n=P++m/\(∀ a∈m,a=⟨b,n,0⟩)/\(jr b P n).any (eF ⟨b,n,0⟩)=true:=by
   unfold jr;cases h:P.any (eF ⟨b,n,0⟩)with
   |true=>exact⟨[],(List.append_nil P).symm,λa h=>(by cases h),h⟩
   |false=>exact⟨[⟨b,n,0⟩],rfl,λa h=>gF.1 h,by rw[av,List.any_append,h];simp[eF]⟩
  obtain⟨m,I,O,T⟩:=key
  refine⟨m++new,?_,λa ha=>?_,λx hx=>?_⟩
  ·rw[List.foldl_cons,C,I,List.append_assoc]
  ·rcases kX.1 ha with ha | ha
   ·exact⟨n,.head _,O a ha⟩
   ·obtain⟨x,hx,e⟩:=D a ha;exact⟨x,.tail _ hx,e⟩
  ·rw[List.foldl_cons];rcases gk.1 hx with rfl | hx
   ·rw[C,List.any_append,T,Bool.true_or]
   ·exact E x hx
def afC(k m:Nat)(h:aa Int):(nJ k h).getD m 0<=if k=m then h.getD m 0+1 else h.getD m 0:=by
 unfold nJ;by_cases e:k=m
 ·subst e;rw[aV rfl];by_cases C:k<h.length
  ·rw[afi _ _ _ C,aV rfl];unfold m6;split<;>omega
  ·rw[cW,cW,List.getElem?_eq_none (by rw[iS];omega),List.getElem?_eq_none (by omega)];decide
 ·rw[aW e,getD_set_ne _ e];exact eW _
def Ol{b B r s R:Nat}(h:b≠B)(C:r<R)(D:s<R):b*R+r≠B*R+s:=λe=>by
 rcases Nat.lt_or_gt_of_ne h with h|h
 ·have:=iB R h;rw[iC]at this;omega
 ·have:=iB R h;rw[iC]at this;omega
def VH{R B row b r:Nat}(Z:row<R)(U:r<R)(h:aa Int):(oG (R:Int) (row:Int) (B*R+row) h).getD (b*R+r) 0<=if b=B/\r=row then 0 else if b=B/\(r+1=row\/r=row+1)then h.getD (b*R+r) 0+1 else h.getD (b*R+r) 0:=by
 have Y:=Jg h (B*R+row) (b*R+r);have I:(vu (row:Int) (B*R+row) h).getD (b*R+r) 0<=if b=B/\r=row then 0 else if b=B/\r+1=row then h.getD (b*R+r) 0+1 else h.getD (b*R+r) 0:=by
  unfold vu;by_cases c:0<row
  ·rw[aZ (show 0<(row:Int) by omega),aq];have D:=afC (B*R+row-1) (b*R+r) (h.set (B*R+row) 0);by_cases hb:b=B
   ·subst hb;by_cases E:r=row
    ·subst E;rw[aV ⟨rfl,rfl⟩];rw[aW,Y,aV rfl]at D;exact D
    ·rw[aW (λC=>E C.2)];rw[Y,aW (show ¬ b*R+row=b*R+r by omega)]at D;by_cases O:r+1=row
     ·rw[aV ⟨rfl,O⟩];rw[aV]at D;exact D
     ·rw[aW (λC=>O C.2)];rw[aW]at D;exact D
   ·have T:=Ol hb U Z;have n2:=Ol (s:=row-1) hb U (by omega);rw[aW (λC=>hb C.1),aW (λC=>hb C.1)];rw[aW,Y,aW (λC=>T C.symm)]at D;exact D
  ·rw[bu (show ¬ 0<(row:Int) by omega),av,Y];by_cases hb:b=B
   ·subst hb;by_cases E:r=row
    ·subst E;rw[aV rfl,aV ⟨rfl,rfl⟩];exact eW _
    ·rw[aW,aW (λC=>E C.2),aW];exact eW _
   ·have T:=Ol hb U Z;rw[aW (λC=>T C.symm),aW (λC=>hb C.1),aW (λC=>hb C.1)];exact eW _
 unfold oG;by_cases c:row+1<R
 ·rw[aZ (show (row:Int)<(R:Int)-1 by omega),aq];have D:=afC (B*R+row+1) (b*R+r) (vu (row:Int) (B*R+row) h);by_cases hb:b=B
  ·subst hb;by_cases E:r=row
   ·subst E;rw[aV ⟨rfl,rfl⟩]at I ⊢;rw[aW]at D;omega
   ·rw[aW (λC=>E C.2)]at I ⊢;by_cases O:r+1=row
    ·rw[aV ⟨rfl,O⟩]at I;rw[aV ⟨rfl,.inl O⟩];rw[aW]at D;omega
    ·rw[aW (λC=>O C.2)]at I;by_cases k3:r=row+1
     ·rw[aV ⟨rfl,.inr k3⟩];rw[aV]at D;omega
     ·rw[aW];rw[aW]at D;omega
  ·have T:=Ol (s:=row+1) hb U c;rw[aW (λC=>hb C.1),aW (λC=>hb C.1)]at I ⊢;rw[aW (λC=>T (by omega))]at D;omega
 ·rw[bu (show ¬ (row:Int)<(R:Int)-1 by omega),av];refine Int.le_trans I ?_;split
  ·exact eW _
  ·split
   next C=>rw[aV ⟨C.1,.inl C.2⟩];exact eW _
   ·split<;>omega
def VI{g:aF}{R:Nat}(I:g.rows=(R:Int))(l:kY)(a:cN)(B:Nat):∀ n,n<=R->∀ b r,r<R->(b≠B->(gM g l a (B:Int) n).aY.getD (b*R+r) 0<=a.aY.getD (b*R+r) 0)/\(b=B->r<n->(gM g l a (B:Int) n).aY.getD (b*R+r) 0<=if r+1=n then 0 else 1)
 |0,_,b,r,_=>⟨λ_=>eW _,λ_ h=>absurd h (Nat.not_lt_zero _)⟩
 | n+1,hn,b,r,T=>by
  obtain⟨Y,E⟩:=VI I l a B n (by omega) b r T;unfold gM;rw[oK];show (b≠B->(oG g.rows (n:Int) ((B:Int)*g.rows+(n:Int)).toNat (gM g l a (B:Int) n).aY).getD (b*R+r) 0<=a.aY.getD (b*R+r) 0)/\(b=B->r<n+1->(oG g.rows (n:Int) ((B:Int)*g.rows+(n:Int)).toNat (gM g l a (B:Int) n).aY).getD (b*R+r) 0<=if r+1=n+1 then 0 else 1);have Z:((B:Int)*g.rows+(n:Int)).toNat=B*R+n:=by
   rw[I,<-Int.natCast_mul];omega
  rw[Z,I];have C:=VH (R:=R) (B:=B) (row:=n) (b:=b) (r:=r) (by omega) T (gM g l a (B:Int) n).aY
  refine⟨λhb=>?_,λhb hrn=>?_⟩
  ·rw[aW (λD=>hb D.1),aW (λD=>hb D.1)]at C;exact Int.le_trans C (Y hb)
  ·by_cases U:r=n
   ·rw[aV ⟨hb,U⟩]at C;rw[aV];exact C
   ·have E:=E hb (by omega);rw[aW (λD=>U D.2)]at C;rw[aW];by_cases O:r+1=n
    ·rw[aV O]at E;rw[aV ⟨hb,.inl O⟩]at C;omega
    ·rw[aW O]at E;rw[aW]at C;omega
def atF(g:aF)(l:kY)(a:cN)(n:Nat):ym g l a (n+1)=gM g l (ym g l a n) (n:Int) g.rows.toNat:=oK _ _ _
def afD{g:aF}{R:Nat}(D:g.rows=(R:Int))(l:kY)(a:cN):∀ n b r,b<n->r<R->(ym g l a n).aY.getD (b*R+r) 0<=1
 | n+1,b,r,hb,C=>by
  rw[atF,show g.rows.toNat=R by omega];obtain⟨E,I⟩:=VI D l (ym g l a n) n R (dz _) b r C;by_cases e:b=n
  ·have:=I e C;refine Int.le_trans this ?_;split<;>omega
  ·exact Int.le_trans (E e) (afD D l a n b r (by omega) C)
def Hb(R:Nat)(cD now:Int)(t:cK)(C:Int)(P:aa aN)(aY:aa Int)(b:Nat):Prop:=∃(f:Nat->Nat) (L:Nat),qk R t f/\(∀r,r<R->(f r:Int)<=now)/\C=(L:Int)/\3<=L/\L<=1000/\2*(L:Int)+4<=cD/\∀r,r<R->aY.getD (b*R+r) 0<=1+((wS R f L P b r:Nat):Int)
def Ht(n:Int)(c:ax):Prop:=∀b:Nat,(b:Int)<aL c.config.ak->Hb c.config.ak.rows.toNat c.config.dJ.aY n (c.bE.getD b zT) (c.guard.getD b 0) c.pending c.array.aY b
def afE{R:Nat}{f f':Nat->Nat}{L:Nat}{P P':aa aN}{b r:Nat}(h:∀ n,n+1=r\/n=r+1->wH f L P b n r<=wH f' L P' b n r):wS R f L P b r<=wS R f' L P' b r:=by
 unfold wS;refine Nat.add_le_add ?_ ?_
 ·split
  ·exact h _ (by omega)
  ·exact dz _
 ·split
  ·exact h _ (by omega)
  ·exact dz _
def Hb.iW{R:Nat}{cD n n':Int}{t:cK}{D:Int}{P:aa aN}{aY VJ:aa Int}{b:Nat}(h:Hb R cD n t D P aY b)(I:n<=n'){p:aN->Bool}(new:aa aN)(O:∀ a:aN,a.aA=(b:Int)->p a=true)(T:∀ r,r<R->VJ.getD (b*R+r) 0<=aY.getD (b*R+r) 0):Hb R cD n' t D (P.filter p++new) VJ b:=by
 obtain⟨f,L,U,Y,Z,h4,h5,h6,h7⟩:=h
 refine⟨f,L,U,λr C=>Int.le_trans (Y r C) I,Z,h4,h5,h6,λr C=>?_⟩
 have E:∀a,je b r a=true->p a=true:=λa ha=>O a (by rw[<-CB.1 ha])
 have:=afE (R:=R) (f:=f) (f':=f) (L:=L) (P:=P) (P':=P.filter p++new) (b:=b) (r:=r) λn _=>afz (by omega) rfl (afA E new) (Ok E new P)
 have:=T r C;have:=h7 r C;omega
def Hb.same{R:Nat}{cD n n':Int}{t:cK}{C:Int}{P:aa aN}{aY:aa Int}{b:Nat}(h:Hb R cD n t C P aY b)(D:n<=n'):Hb R cD n' t C P aY b:=by
 have:=h.iW (VJ:=aY) D (p:=λ_=>true) [] (λ_ _=>rfl) λr _=>eW _
 rwa [List.append_nil,List.filter_eq_self.2 λ_ _=>rfl]at this
def Hb.new{R:Nat}{cD n L:Int}{P:aa aN}{aY:aa Int}{b:Nat}(C:0<=n)(I:3<=L/\L<=1000)(hl:2*L+4<=cD)(D:∀ r,r<R->aY.getD (b*R+r) 0<=1):Hb R cD n (oJ 16) L P aY b:=by
 refine⟨λ_=>0,L.toNat,qk.new R,λr _=>C,by omega,by omega,by omega,by omega,λr E=>?_⟩
 have:=D r E;omega
def Ht.pr{c j:ax}{n:Int}(h:Ht n c)(p:Pr c j):Ht n j:=by
 unfold Ht at h ⊢;rw[p.pC,p.pT,p.pG,p.pP,p.pH];exact h
def atG{f f':Nat->Nat}{L:Nat}(D:0<L){P P':aa aN}{b row r:Nat}(E:f' row=f row+1)(I:mH P b r=true->ng P b row r=true)(O:(f row+1) % L=0->mH P' b r=true)(T:ng P' b row r=false):wH f L P b row r+1<=wH f' L P' b row r:=by
 obtain⟨w1,U⟩:=atD (f row) D;have Y:wH f L P b row r=f row % L:=by
  unfold wH;exact aW λC=>by
   rw[I C.1]at C;exact absurd C.2 (by decide)
 rw[Y];unfold wH;rw[E];cases hm:mH P' b r with
 | true=>
  rw[aV ⟨rfl,T⟩,w1];exact dz _
 | false=>
  rw[aW (λC=>absurd C.1 (by decide)),U (λZ=>by rw[O Z]at hm;cases hm)];exact dz _
def Hb.Vc{R:Nat}(hR:R<16){cD n:Int}{t:cK}{O:Int}{P:aa aN}{aY:aa Int}{B row:Nat}(Z:row<R)(h:Hb R cD n t O P aY B)(hn:n+1<100000)(Om:∀ r,r≠row->mH P B r=true->ng P B row r=true):
  Hb R cD (n+1) (nQ t (row:Int) O).1 O (bif (nQ t (row:Int) O).2 then (gW (R:Int) (row:Int)).foldl (jr (B:Int)) (P.filter λa=>!eF ⟨(B:Int),(row:Int),0⟩ a)else P.filter λa=>!eF ⟨(B:Int),(row:Int),0⟩ a) (oG (R:Int) (row:Int) (B*R+row) aY) B:=by
 obtain⟨f,L,h1,h2,rfl,h4,h5,h6,h7⟩:=h;obtain⟨k1,k2⟩:=h1.step hR Z (L:=L) (by omega) h5 λr C=>by have:=h2 r C;omega
 have hL:0<L:=by omega
 -- the pending rows behind it
 obtain⟨new,e1,e2,e3⟩:∃ new,(bif (nQ t (row:Int) (L:Int)).2 then (gW (R:Int) (row:Int)).foldl (jr (B:Int)) (P.filter λa=>!eF ⟨(B:Int),(row:Int),0⟩ a)else P.filter λa=>!eF ⟨(B:Int),(row:Int),0⟩ a)=(P.filter λa=>!eF ⟨(B:Int),(row:Int),0⟩ a)++new/\(∀ a∈new,∃ m∈gW (R:Int) (row:Int),a=⟨(B:Int),m,0⟩)/\((f row+1) % L=0->∀ m∈gW (R:Int) (row:Int),((P.filter λa=>!eF ⟨(B:Int),(row:Int),0⟩ a)++new).any (eF ⟨(B:Int),m,0⟩)=true):=by
  rw[k1];by_cases D:(f row+1) % L=0
  ·rw[aZ D,aq];obtain⟨new,q1,q2,q3⟩:=VG (B:Int) (gW (R:Int) (row:Int)) (P.filter λa=>!eF ⟨(B:Int),(row:Int),0⟩ a);exact⟨new,q1,q2,λ_ m hm=>by rw[<-q1];exact q3 m hm⟩
  ·rw[bu D,av];exact⟨[],(List.append_nil _).symm,λa ha=>(by cases ha),λE=>absurd E D⟩
 rw[e1,k1];have nb:∀ m∈gW (R:Int) (row:Int),m≠(row:Int):=λm hm=>by
  unfold gW at hm;rcases kX.1 hm with hm|hm
  ·cases I:decide (0<(row:Int))with
   |false=>rw[I]at hm;cases hm
   |true=>rw[I]at hm;rw[gF.1 hm];omega
  ·cases I:decide ((row:Int)<(R:Int)-1)with
   |false=>rw[I]at hm;cases hm
   |true=>rw[I]at hm;rw[gF.1 hm];omega
 refine⟨_,L,k2,λr C=>?_,rfl,h4,h5,h6,λr C=>?_⟩
 ·have:=h2 r C;split<;>omega
 ·have T:=VH (R:=R) (B:=B) (row:=row) (b:=B) (r:=r) Z C aY;have h8:=h7 r C;by_cases er:r=row
  ·rw[aV ⟨rfl,er⟩]at T;omega
  ·rw[aW (λE=>er E.2)]at T;have hp:∀ a,je B r a=true->(!eF ⟨(B:Int),(row:Int),0⟩ a)=true:=λa ha=>by
    rw[fH];exact Bool.eq_false_iff.2 λU=>er (afy ha (U:je B row a=true)).2
   have Y:∀m,m≠row->wH f L P B m r<=wH (λr=>if r=row then f r+1 else f r) L ((P.filter λa=>!eF ⟨(B:Int),(row:Int),0⟩ a)++new) B m r:=λm hm=>afz hL (aW hm) (afA hp new) (Ok hp new P)
   by_cases en:r+1=row\/r=row+1
   ·rw[aV ⟨rfl,en⟩]at T;have vY:(r:Int)∈gW (R:Int) (row:Int):=by
     unfold gW;rcases en with en|en
     ·rw[aZ (show 0<(row:Int) by omega)];exact List.mem_append_left _ (gF.2 (by omega))
     ·rw[aZ (show (row:Int)<(R:Int)-1 by omega)];exact List.mem_append_right _ (gF.2 (by omega))
    have Vq:ng ((P.filter λa=>!eF ⟨(B:Int),(row:Int),0⟩ a)++new) B row r=false:=by
     refine mJ.2 λa ha U=>?_
     have ha:=(List.takeWhile_sublist _).subset ha;rcases kX.1 ha with ha|ha
     ·have:=(List.mem_filter.1 ha).2;rw[show eF ⟨(B:Int),(row:Int),0⟩ a=true from U]at this;cases this
     ·obtain⟨m,hm,rfl⟩:=e2 a ha;have:=CB.1 U;simp only[aN.mk.injEq]at this;exact nb m hm this.2.1.symm
    have hw:=atG (f:=f) (f':=λr=>if r=row then f r+1 else f r) hL (P:=P) (P':=(P.filter λa=>!eF ⟨(B:Int),(row:Int),0⟩ a)++new) (b:=B) (r:=r) (aV rfl) (Om r er) (λD=>e3 D _ vY) Vq;have aup:wS R f L P B r+1<=wS R (λr=>if r=row then f r+1 else f r) L ((P.filter λa=>!eF ⟨(B:Int),(row:Int),0⟩ a)++new) B r:=by
     unfold wS;rcases en with en|en
     ·rw[aV (show r+1<R by omega),aV (show r+1<R by omega),en];have:=Y (r-1) (by omega);split<;>omega
     ·rw[aV (show 0<r by omega),aV (show 0<r by omega),show r-1=row by omega];have:=Y (r+1) (by omega);split<;>omega
    omega
   ·rw[aW (λE=>en E.2)]at T;have:=afE (R:=R) (f:=f) (f':=λr=>if r=row then f r+1 else f r) (L:=L) (P:=P) (P':=(P.filter λa=>!eF ⟨(B:Int),(row:Int),0⟩ a)++new) (b:=B) (r:=r) λm hm=>Y m (by omega)
    omega
def atH{c:fq}{p:eo}(hl:p.weights.length<1073741823)(h:m8 c p=true):2*p.ey+4<=c.dJ.aY:=by
 have hb:=N5 hl h;obtain⟨C,D⟩:=Au hl h;have e:=EG c p hl;rw[h]at e;have E:zH p.ey=some (2*p.ey+2):=by
  unfold zH;rw[cI,au,bh.2 hb,bI,av,bf (n:=2*p.ey),bf]
 unfold qX at e;simp only[Nf,Ex _ hl,E,au,C,D,aq]at e;rw[bf (n:=2*p.ey+2+2)]at e;by_cases I:2*p.ey+2+2<=c.dJ.aY
 ·omega
 ·rw[bu I]at e;exact absurd e (by simp)
def VK{T:Type}(x d:T)(l:aa T):∀ n k:Nat,k<n->k<l.length->((List.range n).foldl (λd b=>d.set b x) l).getD k d=x
 | n+1,k,h,hl=>by
  have hlen:=vE x l n;rw[oK];by_cases e:n=k
  ·subst e;exact yl _ (by omega)
  ·rw[getD_set_ne _ e];exact VK x d l n k (by omega) hl
def atI{c:ax}(h:Pq c)(hu:c.pending.Pairwise (λx y=>x≠y))(Z:∀ a∈c.pending,a.bX=0)(C:(iR c).1.kind=1){B row:Nat}(hB:(iR c).1.aA=(B:Int))(D:(iR c).1.row=(row:Int)):∀ r,r≠row->mH c.pending B r=true->ng c.pending B row r=true:=λr hr Y=>by
 have hw:=Cz c;rcases Og h with ⟨_,⟨e,_⟩|e⟩|⟨_,⟨b,hb,e⟩|⟨_,⟨k,E,O,e⟩|⟨j,hj,I,e⟩|e|e⟩⟩
 ·rw[e]at C;exact absurd C (by decide)
 ·rw[e]at C;dsimp only at C;omega
 ·rw[e]at C;unfold fz at C;rcases AB c b ⟨5,b,0,0⟩with e|⟨e,_⟩<;>rw[e]at C<;>dsimp only at C<;>omega
 ·rw[e]at C hB D;unfold jc at C hB D;rcases AB c (gY c k).aA ⟨1,(gY c k).aA,(gY c k).row,0⟩with T | ⟨T,_⟩
  ·rw[T]at C;dsimp only at C;omega
  ·rw[T]at hB D;have hB:(gY c k).aA=(B:Int):=hB;have D:(gY c k).row=(row:Int):=D;unfold qh at O;rw[aJ,fH,fH,hB]at O
   refine afB (λe=>hr e.symm) c.pending k E ?_ O.2
   rw[CB,N8 E];have qH:(gY c k).bX=0:=by rw[<-N8 E];exact Z _ (dg E)
   rw[<-hB,<-D,<-qH]
 ·have hB2:(gX c j).aA=(B:Int):=by
   rw[e]at hB;unfold kV at hB;rw[(Vs c.aS (gX c j) (q9 c.queue j)).1]at hB;exact hB
  rw[e]at C;unfold oM at I;rw[C]at I;simp only[aJ,fH,kH,Bool.true_or,cP]at I;have U:=I.2.2.2.1;unfold UZ at U;rw[hB2]at U;unfold mH at Y;obtain⟨a,ha,h1⟩:=List.any_eq_true.1 Y;have:=mJ.1 U a ha;rw[<-CB.1 h1]at this;exact absurd (kH _) this
 ·rcases Vt h e with ⟨e,_⟩ | e | ⟨e,_⟩
  ·rw[e]at C;dsimp only at C;omega
  ·omega
  ·rw[e]at C;dsimp only at C;omega
 ·rw[e]at C;exact absurd C (by decide)
def Ht.fn{j y:ax}(h:Ht (j.now-1) j)(Y:cB j)(hk:cy j=true)(On:j.config.iU=16)(hR:j.config.ak.rows<16)(hn:1<=j.now/\j.now<50000)(hf:Fn j y):Ht j.now y:=by
 have O:=Pq.of Y hk;have k:=Ck.of hk;have p:=fM.of k.pa;have b1:=ef j.config.ak;have hw:j.box.bS.weights.length<1073741823:=by
  have:=Y.1.1;unfold IJ at this;omega
 have zv:=atH hw k.f1;have J7:=N5 hw k.f1;rcases hf with ⟨k0,rfl⟩|⟨E,rfl⟩
 ·exact λb hb=>(h b hb).same (by omega)
 ·have Om:=λB row=>atI O p.u (λa Z=>(p.pd a Z).2) (B:=B) (row:=row)
  generalize hX:(iR j).1=x at E Om ⊢;generalize (iR j).2=i at E ⊢;obtain⟨_,Z,_,_⟩:=I6 Y O E;obtain⟨hg,_,hx,Ay⟩:=Cd Z;simp only[mG,aJ]at E;have hc:=E.1;have gb:=fW hg;obtain⟨R,VL⟩:=fk (show 0<=j.config.ak.rows by omega);have VM:j.config.ak.rows.toNat=R:=by omega
  have ES:=p.tl;have hgl:=p.gl;by_cases T:x.kind=1
  ·obtain⟨JS,Bu⟩:=Ay (by omega);obtain⟨r0,r1⟩:=N3 hc T;have ig:=O.p.bl;obtain⟨B,hB⟩:=fk JS;obtain⟨row,afF⟩:=fk r0;have D:=Om B row T hB afF;have ei:((B:Int)*(R:Int)+(row:Int)).toNat=B*R+row:=by rw[<-Int.natCast_mul];omega
   rw[Vv j i T];intro b hb;have hb:(b:Int)<aL j.config.ak:=hb;have hold:=h b hb;show Hb j.config.ak.rows.toNat j.config.dJ.aY j.now ((j.bE.set x.aA.toNat (nQ (j.bE.getD x.aA.toNat zT) x.row (j.guard.getD x.aA.toNat 0)).1).getD b zT) (j.guard.getD b 0) (bif (nQ (j.bE.getD x.aA.toNat zT) x.row (j.guard.getD x.aA.toNat 0)).2 then (gW j.config.ak.rows x.row).foldl (jr x.aA) (j.pending.filter λa=>!eF ⟨x.aA,x.row,0⟩ a)else j.pending.filter λa=>!eF ⟨x.aA,x.row,0⟩ a) (oG j.config.ak.rows x.row (x.aA*j.config.ak.rows+x.row).toNat j.array.aY) b;rw[VM]at hold ⊢;rw[hB,afF,VL,ei,bA];by_cases e:B=b
   ·subst e;rw[yl _ (by omega)];have:=Hb.Vc (R:=R) (by omega) (row:=row) (by omega) hold (by omega) D;rw[show j.now-1+1=j.now by omega]at this;exact this
   ·rw[getD_set_ne _ e];have I:∀ r,r<R->(oG (R:Int) (row:Int) (B*R+row) j.array.aY).getD (b*R+r) 0<=j.array.aY.getD (b*R+r) 0:=λr C=>by
     have:=VH (R:=R) (B:=B) (row:=row) (b:=b) (r:=r) (by omega) C j.array.aY;rw[aW (λD=>e D.1.symm),aW (λD=>e D.1.symm)]at this;exact this
    have Ko:∀ a:aN,a.aA=(b:Int)->(!eF ⟨(B:Int),(row:Int),0⟩ a)=true:=λa U=>by
     rw[fH]
     refine Bool.eq_false_iff.2 λh9=>e ?_
     have:=IY.1 h9;rw[<-this]at U;dsimp only at U;omega
    cases (nQ (j.bE.getD B zT) (row:Int) (j.guard.getD B 0)).2 with
    | true=>
     rw[aq];obtain⟨new,q1,_,_⟩:=VG (B:Int) (gW (R:Int) (row:Int)) (j.pending.filter λa=>!eF ⟨(B:Int),(row:Int),0⟩ a);rw[q1];exact hold.iW (by omega) new Ko I
    | false=>
     rw[av];have:=hold.iW (n':=j.now) (by omega) [] Ko I
     rwa [List.append_nil]at this
  ·by_cases k5:x.kind=5
   ·obtain⟨JS,Bu⟩:=Ay (by omega);have ig:=O.p.bl;obtain⟨B,hB⟩:=fk JS;rw[Vw j i k5];intro b hb;have hb:(b:Int)<aL j.config.ak:=hb;have hold:=h b hb;show Hb j.config.ak.rows.toNat j.config.dJ.aY j.now ((j.bE.set x.aA.toNat (oJ j.config.iU)).getD b zT) ((j.guard.set x.aA.toNat j.box.bS.ey).getD b 0) (j.pending.filter λa=>!(a.aA==x.aA)) (gM j.config.ak j.config.dJ j.array x.aA j.config.ak.rows.toNat).aY b;rw[VM]at hold ⊢;rw[hB,On,bA];have I:=λr C=>VI VL j.config.dJ j.array B R (dz _) b r C
    by_cases e:B=b
    ·subst e;rw[yl _ (by omega),yl _ (by omega)]
     refine Hb.new (by omega) J7 zv λr C=>?_
     refine Int.le_trans ((I r C).2 rfl C) ?_;split<;>omega
    ·rw[getD_set_ne _ e,getD_set_ne _ e];have:=hold.iW (n':=j.now) (by omega) (p:=λa=>!(a.aA==(B:Int))) [] (λa U=>by
      rw[U,kS (show ¬ (b:Int)=(B:Int) by omega)];rfl) λr C=>(I r C).1 (λD=>e D.symm)
     rwa [List.append_nil]at this
   ·by_cases k9:x.kind=9
    ·rw[Jh j i k9];intro b hb;have hb:(b:Int)<aL j.config.ak:=hb;show Hb j.config.ak.rows.toNat j.config.dJ.aY j.now (((List.range j.bE.length).foldl (λd b=>d.set b (oJ j.config.iU)) j.bE).getD b zT) (((List.range j.bE.length).foldl (λd b=>d.set b j.box.bS.ey) j.guard).getD b 0) [] (ym j.config.ak j.config.dJ j.array j.bE.length).aY b;rw[VM,VK _ _ _ _ _ (by omega) (by omega),VK _ _ _ _ _ (by omega) (by omega),On];exact Hb.new (by omega) J7 zv λr C=>afD VL j.config.dJ j.array j.bE.length b r (by omega) C
    ·obtain⟨_,e2,_,e4,e5,e6⟩:=Vx (c:=j) (i:=i) hx T k5 k9;have e7:=(afr (c:=j) (x:=x) (i:=i) hx).2.2.2;unfold Ht;rw[e2,e4,e5,e6,e7];exact λb hb=>(h b hb).same (by omega)
structure Iv (u:Nat) (c:ax):Prop where
 iT:Tq c u
 iA:rq c
 iD:∃t,Dx c.now t c
 iH:Ht c.now c
 iE:(c.trace.length:Int)<=c.now
def Iv.up{u:Nat}{c:ax}(h:Iv u c):Iv (u+1) c:=⟨h.iT.up,h.iA,h.iD,h.iH,h.iE⟩
def atJ{c:fq}(h:lR c):E0 c.bU:=by
 obtain⟨r,w,C,D,E,I,O⟩:=h.2.1;exact⟨r,w,C,D,E,I,O⟩
def Fn.nx{j y:ax}(C:cB j)(E:cy j=true)(h:Fn j y):Nx j y:=by
 rcases h with ⟨_,rfl⟩|⟨D,rfl⟩
 ·exact Nx.refl _
 ·obtain⟨_,I,O,_⟩:=I6 C (Pq.of C E) D;exact asw D (Cd I).2.2.1 λq=>(O q).1.i
def Okj(j:ax):Prop:=rq j/\(∀b:Nat,j.aE.aC.getD b 0<=4)/\Ht (j.now-1) j
def atK{c:ax}{u:Nat}(h:Iv u c)(hz:cB c)(O:cy c=true)(I:lR c.config)(hn:c.now<1900)(hu:u<400):∃ y,z0 c=some y/\cB y/\cy y=true/\Iv u y/\y.config=c.config/\y.now=c.now+1/\∃ j,cB j/\cy j=true/\Pr c j/\Fn j y/\Okj j:=by
 have k:=Ck.of O;have I7:=bh.1 k.nw;have wm:=h.iT.2;have hE:=h.iE;obtain⟨j,y,e,z1,k1,D,C,p,E⟩:=atp hz O (by omega) (by omega) (by omega);have pN:=p.pN;have Jd:200<=c.config.interval/\c.config.interval<=259:=I.2.2.2.2.1;have On:c.config.iU=16:=I.2.2.2.2.2.1;have hrw:c.config.ak.rows<=6:=I.1.2.2.1.2;have nx:=E.nx D C;have VN:y.config=c.config:=nx.2.1.trans p.pC;have hny:y.now=c.now+1:=nx.1.trans pN;have Z:=k.rf;simp only[fj,aJ,bh]at Z;have hqj:=Pq.of D C;obtain⟨t,hD⟩:=h.iD;have hTj:Tq j u:=by
  refine⟨?_,by rw[p.pQ,p.pY];exact wm⟩;have:=h.iT.1;unfold EW at this ⊢;rw[p.pC,p.pE,p.pK,p.pR];exact this
 have T:rq j:=h.iA.pr p ⟨by omega,by omega⟩ Z.2.2 (fM.of k.pa).dl hD.d4;obtain⟨t',U⟩:=hD.pr p O ⟨by omega,by omega⟩;rw[show c.now=j.now-1 by omega]at U;have hHj:Ht (j.now-1) j:=by
  have:=h.iH.pr p
  rwa [show c.now=j.now-1 by omega]at this
 have hAy:rq y:=by
  rcases E with ⟨_,rfl⟩|⟨hm,rfl⟩
  ·exact T
  ·simp only[mG,aJ]at hm;exact T.Ve hqj hm.1 (λh5=>(afh hqj h5).1) (by rw[p.pC];omega) (fM.of (Ck.of C).pa).tl
 refine⟨y,e,z1,k1,⟨hTj.nx C nx,hAy,⟨t',?_⟩,?_,?_⟩,VN,hny,j,D,C,p,E,T,U.d4,hHj⟩
 ·have:=U.fn D C (by rw[p.pC];exact atJ I) E
  rwa [show j.now=y.now by omega]at this
 ·have:=hHj.fn D C (by rw[p.pC];exact On) (by rw[p.pC];omega) ⟨by omega,by omega⟩ E
  rwa [show j.now=y.now by omega]at this
 ·rcases nx.2.2.2.2.1 with ⟨Y,_⟩ | ⟨x,Y,_⟩
  ·rw[Y,p.pE];omega
  ·rw[Y,p.pE,List.length_append,List.length_singleton];omega
def atM{c:ax}{u:Nat}(h:Iv u c)(C:cB c)(D:cy c=true)(E:lR c.config)(I:c.now<1900)(O:u<400):∃ y,z0 c=some y/\cB y/\cy y=true/\Iv u y/\y.config=c.config/\y.now=c.now+1:=by
 obtain⟨y,T,U,Y,Z,h5,h6,_⟩:=atK h C D E I O;exact⟨y,T,U,Y,Z,h5,h6⟩
def atO{J:ax->Prop}{c:ax}{u:Nat}(h:Iv u c)(hJ:J c)(U:cB c)(Y:cy c=true)(hc:lR c.config)(hu:u<400){n:Int}(h0:0<=n)(hn:c.now+n<=1900)(hs:∀ x y,cB x->cy x=true->Iv u x->x.config=c.config->c.now<=x.now->x.now<c.now+n->J x->z0 x=some y->J y):∃ y,Eh c n=some y/\cB y/\cy y=true/\Iv u y/\y.config=c.config/\y.now=c.now+n/\J y:=by
 have I7:=bh.1 (Ck.of Y).nw;obtain⟨m,rfl⟩:=fk h0;have h5:aQ (m:Int) 0 5000=true:=bh.2 ⟨by omega,by omega⟩;unfold Eh bQ;rw[IP c U,au];generalize (⟨⟨⟨(0:Int),(0:Int),(0:Int),(0:Int)⟩,⟨(0:Int),(0:Int),(0:Int),(0:Int),(0:Int),(0:Int),(0:Int),(0:Int),(0:Int),(0:Int),(0:Int),(0:Int),(0:Int),(0:Int),(0:Int),(0:Int),(0:Int)⟩,⟨(0:Int),false⟩,(0:Int),(0:Int),(0:Int),⟨(0:Int),(0:Int)⟩⟩,_,_,_,_,_,_,_,_,_,_,_,_,_,_,_,_,_,_⟩:ax)=Z;obtain⟨z,e,y,rfl,D,E,I,C,T,O⟩:=TN (step:=H8) m (λk x=>∃ y:ax,x=(((m:Int),(),(),(k:Int),()),(Z,y,()))/\cB y/\cy y=true/\Iv u y/\y.config=c.config/\y.now=c.now+(k:Int)/\J y) (λz=>∃ y:ax,z = .inl (((),(),()),(Z,y,()))/\cB y/\cy y=true/\Iv u y/\y.config=c.config/\y.now=c.now+(m:Int)/\J y) br (x:=(((m:Int),(),(),(0:Int),()),(Z,c,()))) ⟨c,rfl,U,Y,h,rfl,(Int.add_zero _).symm,hJ⟩ (by
  rintro k hkk x ⟨y,rfl,D,E,I,C,T,O⟩;obtain⟨v,f1,f2,f3,f4,f5,f6⟩:=atM I D E (by rw[C];exact hc) (by omega) hu;unfold H8 aK xG;dsimp only;rw[aZ (show (k:Int)<(m:Int) by omega),aq,cI,au,h5,aq,f1,au,bT];exact⟨_,rfl,v,rfl,f2,f3,f4,f5.trans C,by omega,hs y v D E I C (by omega) (by omega) O f1⟩) (by
  rintro x ⟨y,rfl,D,E,I,C,T,O⟩;unfold H8 aK xG;dsimp only;rw[bu (show ¬ (m:Int)<(m:Int) by omega),av];exact⟨_,rfl,y,rfl,D,E,I,C,T,O⟩) (bZ)
 rw[e,au];exact⟨y,rfl,D,E,I,C,T,O⟩
def afG{c:ax}{u:Nat}(h:Iv u c)(C:cB c)(D:cy c=true)(E:lR c.config)(I:u<400){n:Int}(O:0<=n)(T:c.now+n<=1900):∃ y,Eh c n=some y/\cB y/\cy y=true/\Iv u y/\y.config=c.config/\y.now=c.now+n:=by
 obtain⟨y,e,U,Y,Z,y4,y5,_⟩:=atO (J:=λ_=>True) h trivial C D E I O T λ_ _ _ _ _ _ _ _ _ _=>trivial
 exact⟨y,e,U,Y,Z,y4,y5⟩
def atP{r:dB}(h:fj r=true)(C:jd r<=10000)(x:Bool):∃ y,MY r x=some y/\fj y=true/\y.aC=r.aC/\jd y<=jd r/\nc y=nc r:=by
 have hl:=uw h;have E:=h;simp only[fj,aJ,bh]at h;have mk:∀ (w:Int) (b:Bool),1<=w/\w<=10000->fj ⟨r.aC,w,b⟩=true:=λw b I=>by
  simp only[fj,aJ,bh];exact⟨h.1,h.2.1,I⟩
 have O:W6 ((W6 (r.wait+1)).tdiv 2)=(r.wait+1) / 2:=by
  rw[bf (n:=r.wait+1),sV (by omega)];exact bf
 have T:W6 (W6 (2*r.wait)-1)=2*r.wait-1:=by
  rw[bf (n:=2*r.wait)];exact bf
 unfold MY xm xA xZ;rw[fe (by simp;omega),aq,List.nil_append,au,Ey _ (by omega),au,E,bI,av];dsimp only;rw[O,T];unfold jd nc at *
 cases x with
 | true=>
  cases D:r.dL with
  | false=>
   rw[D]at C;exact⟨_,rfl,mk _ _ (by omega),rfl,by show 2*((r.wait+1) / 2)-1<=r.wait;omega,rfl⟩
  |true=>exact⟨_,rfl,mk _ _ h.2.2,rfl,eW _,rfl⟩
 | false=>
  cases D:r.dL with
  |false=>exact⟨_,rfl,mk _ _ h.2.2,rfl,eW _,rfl⟩
  | true=>
   rw[D]at C;have C:2*r.wait-1<=10000:=C;have key:∀ v:Int,v=2*r.wait-1->jd ⟨r.aC,v,false⟩<=jd ⟨r.aC,r.wait,true⟩/\nc ⟨r.aC,v,false⟩=nc ⟨r.aC,r.wait,true⟩:=λv U=>by
    subst U;exact⟨eW _,by show (2*r.wait-1+1) / 2=r.wait;omega⟩
   refine⟨_,rfl,mk _ _ (by split<;>omega),rfl,(key _ ?_).1,(key _ ?_).2⟩<;>exact aW
def atQ(c:ax)(r:bg):∃ l,(qb c r).1 = { c with queue:=l }:=by
 unfold qb;cases ((!cy c) ||((!(nP c r).2) ||(c.cx.any λx=>x.id==r.id)))with
 |true=>exact⟨c.queue,rfl⟩
 |false=>exact⟨_,rfl⟩
def Sv(u:Nat)(c:ax)(o:aj (ax×Bool)):Prop:=∃y t,o=some (y,t)/\cB y/\cy y=true/\(t=false->y=c)/\Iv (u+1) y/\y.config=c.config/\c.now<=y.now/\y.now<=c.now+40
def atT{c:ax}{u:Nat}(D:Iv u c)(hz:cB c)(T:cy c=true)(hc:lR c.config)(hu:u<400)(hn9:c.now<=1800)(a:jE)(hw:a.kZ.weights.length<=1048576)(hwt:a.kind=2->a.n<=40):Sv u c (M4 c a):=by
 have h:=Ck.of T;have p:=fM.of h.pa;have E:=hz;have I7:=bh.1 h.nw;obtain⟨I,C⟩:=D.iD;obtain⟨z1,z2,z3,z5,z6,z7,z8,z9,jQ,kU,lP,ku,lQ,nN⟩:=hz;have no:∀t:Bool,t=false->Sv u c (some (c,t)):=λt ht=>⟨c,t,rfl,E,T,λ_=>rfl,D.up,rfl,eW _,by omega⟩
 unfold M4;rw[IP c E,au,xQ c E,au,T,bI,av];cases a.kind==(1:Int)with
 | true=>
  obtain⟨q1,q2⟩:=atg T a.request;rw[aq,aqI c a.request E,au];obtain⟨v1,v2,v3⟩:=atj D.iT a.request;obtain⟨l,el⟩:=atQ c a.request;refine⟨_,_,rfl,aqK c a.request E,q1,q2,⟨v1,?_,?_,?_,?_⟩,v3,Int.le_of_eq v2.symm,by rw[v2];omega⟩
  ·rw[el];exact D.iA
  ·rw[el];exact⟨I,C.d1,C.d2,C.d3,C.d4,C.d5⟩
  ·rw[el];exact D.iH
  ·rw[el];exact D.iE
 |false=>
 rw[av];cases h2:a.kind==(2:Int)with
 | true=>
  rw[aq,cI,au];cases hn:aQ a.n 0 500 with
  |false=>exact no _ rfl
  | true=>
   have hb:=bh.1 hn;have h40:=hwt (fl.1 h2);obtain⟨y,e,U,Y,O,y4,y5⟩:=afG D E T hc hu hb.1 (by omega);rw[aq,e,au];exact⟨y,true,rfl,U,Y,λh=>(by cases h),O.up,y4,by omega,by omega⟩
 |false=>
 rw[av];cases a.kind==(3:Int)with
 | true=>
  obtain⟨x,e,hx,Jk,xa,xh⟩:=ate h.ar a.addr a.AD a.n;have VO:cB (dO c x):=⟨z1,z2,z3,vH (eA.ri hx),z6,z7,z8,z9,jQ,kU,lP,ku,lQ,nN⟩
  have VP:cy (dO c x)=true:=Ck.ok ⟨h.f1,h.f2,h.nw,h.rk,h.rd,hx,h.sp,h.se,h.rf,(show fM (dO c x)from ⟨p.dl,p.tl,p.gl,p.t,p.g,p.pd,p.u⟩).ok,h.qu,h.sh,h.sl,h.dr,h.pw,h.ps,h.si,h.s1,h.s2,h.s3,h.er,h.tr,h.rp⟩;have Z:Iv (u+1) (dO c x):=⟨D.iT.up,by
   have:=D.iA;unfold rq at this ⊢;rw[show (dO c x).array.bq=c.array.bq from xa];exact this,⟨I,C.d1,C.d2,C.d3,C.d4,C.d5⟩,by
   have:=D.iH;unfold Ht at this ⊢;rw[show (dO c x).array.aY=c.array.aY from xh];exact this,D.iE⟩
  rw[aq,B7,au];cases e1:dU c.config.ak a.addr with
  | false=>
   rw[av,e,au]
   refine⟨dO c x,false,rfl,VO,VP,λ_=>?_,Z,rfl,eW _,(by show c.now<=c.now+40;omega)⟩
   rw[Jk (by rw[e1];rfl)];rfl
  | true=>
   rw[aq,cI,au];cases e2:aQ a.AD 0 10 with
   | false=>
    rw[av,e,au]
    refine⟨dO c x,false,rfl,VO,VP,λ_=>?_,Z,rfl,eW _,(by show c.now<=c.now+40;omega)⟩
    rw[Jk (by rw[e1,e2];rfl)];rfl
   | true=>
    unfold sv;rw[aq,cI,au,au,e,au]
    refine⟨dO c x,aQ a.n 0 15,rfl,VO,VP,λh3=>?_,Z,rfl,eW _,(by show c.now<=c.now+40;omega)⟩
    rw[Jk (by rw[e1,e2,h3];rfl)];rfl
 |false=>
 rw[av];cases a.kind==(4:Int)with
 | true=>
  rw[aq,cI,au];cases hn:aQ a.n 0 1 with
  |false=>exact no _ rfl
  | true=>
   have Jd:200<=c.config.interval/\c.config.interval<=259:=hc.2.2.2.2.1;obtain⟨y,e,U,Oo,O,y4⟩:=atP h.rf (by have:=D.iA.1;omega) (a.n==(1:Int));have Y:y.aC.length=c.aE.aC.length:=by rw[Oo]
   have Z:Iv (u+1) (N2 c y):=⟨D.iT.up,by
    obtain⟨g1,g2⟩:=D.iA
    refine⟨Int.le_trans O g1,λb r hb hr=>?_⟩
    obtain⟨g3,g4⟩:=g2 b r hb hr;show 0<=y.aC.getD b 0/\c.array.bq.getD ((b:Int)*c.config.ak.rows+(r:Int)).toNat 0+jd y<=(y.aC.getD b 0+1)*c.config.interval;rw[Oo];exact⟨g3,by omega⟩,⟨I,C.d1,C.d2,by show 100<=nc y+(c.now-I);rw[y4];exact C.d3,by show ∀b:Nat,y.aC.getD b 0<=4;rw[Oo];exact C.d4,by
    show ∀B:Nat,(B:Int)<aL c.config.ak->uB y.aC B=true->Du c.now I c.config.ak c.aS c.ready y.aC B;rw[Oo];exact C.d5⟩,D.iH,D.iE⟩
   rw[aq,e,au]
   refine⟨N2 c y,true,rfl,⟨z1,z2,z3,z5,z6,by unfold Cj at z7 ⊢;show y.aC.length<=_;omega,z8,z9,jQ,kU,lP,ku,lQ,nN⟩,Ck.ok ⟨h.f1,h.f2,h.nw,h.rk,h.rd,h.ar,h.sp,h.se,U,(show fM (N2 c y)from ⟨by show (y.aC.length:Int)=_;rw[Y];exact p.dl,p.tl,p.gl,p.t,p.g,p.pd,p.u⟩).ok,h.qu,h.sh,h.sl,h.dr,h.pw,h.ps,h.si,h.s1,h.s2,h.s3,h.er,h.tr,h.rp⟩,λh=>(by cases h),Z,rfl,eW _,(by show c.now<=c.now+40;omega)⟩
 |false=>
 rw[av];cases a.kind==(5:Int)with
 | true=>
  rw[aq,EG _ _ (by omega),au];cases hf:m8 c.config a.kZ with
  |false=>exact no _ rfl
  | true=>
   have hp:=(Au (by omega) hf).2;rw[aq,atf c.box z1 a.kZ hw,au,hp,aq]
   refine⟨⟨c.config,⟨c.box.bS,a.kZ,true⟩,c.now,c.aS,c.ready,c.array,c.spare,c.aE,c.bE,c.guard,c.pending,c.queue,c.shares,c.drain,c.aU,c.dD,c.errors,c.trace,c.cx⟩,true,rfl,⟨⟨z1.1,hw⟩,z2,z3,z5,z6,z7,z8,z9,jQ,kU,lP,ku,lQ,nN⟩,Ck.ok ⟨h.f1,hf,h.nw,h.rk,h.rd,h.ar,h.sp,h.se,h.rf,(show fM ⟨c.config,⟨c.box.bS,a.kZ,true⟩,c.now,c.aS,c.ready,c.array,c.spare,c.aE,c.bE,c.guard,c.pending,c.queue,c.shares,c.drain,c.aU,c.dD,c.errors,c.trace,c.cx⟩from ⟨p.dl,p.tl,p.gl,p.t,p.g,p.pd,p.u⟩).ok,h.qu,h.sh,h.sl,h.dr,h.pw,h.ps,h.si,h.s1,h.s2,h.s3,h.er,h.tr,h.rp⟩,λh=>(by cases h),⟨D.iT.up,D.iA,⟨I,C.d1,C.d2,C.d3,C.d4,C.d5⟩,D.iH,D.iE⟩,rfl,eW _,(by show c.now<=c.now+40;omega)⟩
 |false=>
 rw[av];cases a.kind==(6:Int)with
 | true=>
  obtain⟨t,y,e,U,Y,O⟩:=asZ E T a.addr.aA a.addr.row;rw[aq,e,au];obtain⟨O,l,s,rfl⟩:=O;exact⟨_,t,rfl,U,Y,O,⟨D.iT.up,D.iA,⟨I,C.d1,C.d2,C.d3,C.d4,C.d5⟩,D.iH,D.iE⟩,rfl,eW _,(by show c.now<=c.now+40;omega)⟩
 |false=>exact no _ rfl
def Iv.new{c:fq}{p:eo}(E:lR c)(O:vB p):Iv 0 (rm c p):=by
 have Y:=EZ E.1;have Z:=ef c.ak;have Jd:200<=c.interval/\c.interval<=259:=E.2.2.2.2.1;have hl:c.dJ=⟨6*c.interval,40⟩:=E.2.2.2.2.2.2;have C:∀ (n k:Nat),(List.replicate n (0:Int)).getD k 0=0:=λn k=>by
  rw[cW,List.getElem?_replicate];split<;>rfl
 have I:(AA c.ak).bq=List.replicate (fF c.ak).toNat 0/\(AA c.ak).aY=List.replicate (fF c.ak).toNat 0:=⟨rfl,rfl⟩
 refine⟨⟨yj.new _ _,dz _⟩,⟨eW _,λb r _ _=>?_⟩,⟨0,λi=>?_,⟨eW _,eW _⟩,?_,λb=>?_,λB _ D=>?_⟩,λb hb=>?_,eW _⟩
 ·show 0<=(List.replicate (aL c.ak).toNat (0:Int)).getD b 0/\(AA c.ak).bq.getD ((b:Int)*c.ak.rows+(r:Int)).toNat 0+c.interval<=((List.replicate (aL c.ak).toNat (0:Int)).getD b 0+1)*c.interval;rw[I.1,C,C];exact⟨eW _,by omega⟩
 ·show (List.replicate (9*(aL c.ak+1)).toNat (-1:Int)).getD i (-1)<=0;rw[cW,List.getElem?_replicate];split<;>decide
 ·show 100<=(c.interval+1) / 2+((0:Int)-0)
  omega
 ·show (List.replicate (aL c.ak).toNat (0:Int)).getD b 0<=4;rw[C];decide
 ·have D:(List.replicate (aL c.ak).toNat (0:Int)).getD B 0 >= 4:=of_decide_eq_true D;rw[C]at D;exact absurd D (by decide)
 ·have hb:(b:Int)<aL c.ak:=hb;show Hb c.ak.rows.toNat c.dJ.aY 0 ((List.replicate (aL c.ak).toNat EX).getD b zT) ((List.replicate (aL c.ak).toNat p.ey).getD b 0) [] (AA c.ak).aY b;have T:(List.replicate (aL c.ak).toNat EX).getD b zT=oJ 16:=by
   rw[cW,List.getElem?_replicate,aV];rfl
  have U:(List.replicate (aL c.ak).toNat p.ey).getD b 0=p.ey:=by
   rw[cW,List.getElem?_replicate,aV];rfl
  have wV:=O.2;rw[T,U,hl,I.2];exact Hb.new (eW _) ⟨by omega,by omega⟩ (by dsimp only;omega) λr _=>by rw[C];decide
def atU{c:fq}{p:eo}(D:lR c)(T:vB p){aX:aa jE}(hw:∀ a∈aX,a.kZ.weights.length<=1048576/\(a.kind=2->a.n<=40))(hl:aX.length<=31):∃ y n,M5 c p aX=some (y,n)/\cB y/\cy y=true/\Iv aX.length y/\y.config=c/\y.now<=1240:=by
 unfold M5 bQ;rw[as9 D T,au];dsimp only;rw[bI,av,bu (show ¬ (aX.length:Int) > 60 by omega),av];generalize (⟨⟨⟨(0:Int),(0:Int),(0:Int),(0:Int)⟩,⟨(0:Int),(0:Int),(0:Int),(0:Int),(0:Int),(0:Int),(0:Int),(0:Int),(0:Int),(0:Int),(0:Int),(0:Int),(0:Int),(0:Int),(0:Int),(0:Int),(0:Int)⟩,⟨(0:Int),false⟩,(0:Int),(0:Int),(0:Int),⟨(0:Int),(0:Int)⟩⟩,⟨⟨(0:Int),(0:Int),(0:Int),(0:Int),(0:Int),([]:aa Int),⟨(0:Int),(0:Int)⟩⟩,⟨(0:Int),(0:Int),(0:Int),(0:Int),(0:Int),([]:aa Int),⟨(0:Int),(0:Int)⟩⟩,false⟩,(0:Int),⟨([]:aa dK),(0:Int)⟩,⟨([]:aa Int),([]:aa Int)⟩,⟨([]:aa cu),([]:aa Int),([]:aa Int)⟩,⟨(0:Int),([]:aa Int)⟩,⟨([]:aa Int),(0:Int),false⟩,([]:aa cK),([]:aa Int),([]:aa aN),([]:aa bg),([]:aa di),⟨false,(0:Int),(0:Int)⟩,⟨(0:Int),(0:Int),(0:Int)⟩,⟨(0:Int),(0:Int),(0:Int)⟩,([]:aa cC),([]:aa bK),([]:aa fN)⟩:ax)=Z;obtain⟨z,e,y,n,rfl,E,I,O,C,U⟩:=TN (step:=Iw) aX.length (λk x=>∃ (y:ax) (n:Int),x=(((),(),n,aX,(aX.length:Int),(k:Int),()),(Z,y,()))/\cB y/\cy y=true/\Iv k y/\y.config=c/\y.now<=40*(k:Int)) (λz=>∃ (y:ax) (n:Int),z = .inl (((),(),n,()),(Z,y,()))/\cB y/\cy y=true/\Iv aX.length y/\y.config=c/\y.now<=1240) br (x:=(((),(),(0:Int),aX,(aX.length:Int),(0:Int),()),(Z,rm c p,()))) ⟨rm c p,0,rfl,atc D T,atd D T,Iv.new D T,rfl,eW _⟩ (by
  rintro k hkk x ⟨y,n,rfl,E,I,O,C,U⟩;obtain⟨w1,w2⟩:=hw _ (dg hkk);obtain⟨v,t,f1,f2,Y,f4,f5,f6,f7,f8⟩:=atT O E I (by rw[C];exact D) (by omega) (by omega) aX[k] w1 w2;unfold Iw aK xG xI;dsimp only;rw[aZ (show (k:Int)<(aX.length:Int) by omega),aq,aO ⟨by omega,by omega⟩];simp only[bA];rw[f1,au,bT (i:=k)];dsimp only;cases t with
  |true=>exact⟨_,rfl,v,_,rfl,f2,Y,f5,f6.trans C,by omega⟩
  | false=>
   have:=f4 rfl;subst this;exact⟨_,rfl,_,_,rfl,f2,Y,f5,C,by omega⟩) (by
  rintro x ⟨y,n,rfl,E,I,O,C,U⟩;unfold Iw aK xG xI;dsimp only;rw[bu (show ¬ (aX.length:Int)<(aX.length:Int) by omega),av];exact⟨_,rfl,y,n,rfl,E,I,O,C,by omega⟩) (bZ)
 refine⟨y,n,?_,E,I,O,C,U⟩;exact(bx (λo=>Option.bind o _) e).trans rfl
def uC(c:ax):ax:=(z0 c).getD c
def E1(a:jE):Prop:=a.kZ.weights.length<=1048576/\(a.kind=2->a.n<=40)
def atV{b:aa Int}{c:bz}(O:jS b c){x:fq}(hx:lR x)(i:Int):Dr b (MO c x i) E1:=by
 have T:=EZ hx.1;have gb:=fW T;unfold MO;rw[aoM,au,aW,O.eq];dsimp only
 refine(fh O 12).bind λD k2 h2 C=>?_
 dsimp only;rw[C.eta];have U:∀ l:aa Int,0<l.length->(∀ x∈l,x<=40)->Dr b ((Ab k2 l).bind λE=>some ((⟨(2:Int),⟨(0:Int),(0:Int),(0:Int),false,(0:Int),(0:Int)⟩,E.1,(0:Int),⟨(0:Int),(0:Int),(0:Int)⟩,⟨(0:Int),(0:Int),(0:Int),(0:Int),(0:Int),[],⟨(0:Int),(0:Int)⟩⟩⟩:jE),((⟨b,E.2.1.i,E.2.1.h⟩:bz),()))) E1:=λl hl h40=>by
  refine(Nb C l hl).bind λy k hy Y=>?_
  dsimp only;rw[Y.eta];exact Dr.pure Y ⟨by show (0:Nat)<=1048576;omega,λ_=>h40 _ hy⟩
 cases h0:D==(0:Int)with
 | true=>
  rw[aq,aq];exact U _ (by simp) (by decide)
 |false=>
 rw[av];cases h1:D==(1:Int)with
 | true=>
  rw[aq];exact U _ (by simp) (by decide)
 |false=>
 rw[av];cases D==(2:Int)with
 | true=>
  rw[aq]
  refine(ao5 C T).bind λy5 k5 h5 Z=>?_
  dsimp only;rw[Z.eta]
  refine(fh Z 11).bind λy6 k6 h6 Am=>?_
  dsimp only;rw[Am.eta]
  refine(fh Am 16).bind λy7 k7 h7 An=>?_
  dsimp only;rw[An.eta];exact Dr.pure An ⟨by show (0:Nat)<=1048576;omega,λh=>absurd (show (3:Int)=2 from h) (by decide)⟩
 |false=>
 rw[av];cases D==(3:Int)with
 | true=>
  rw[aq]
  refine(Nb C _ (by simp)).bind λy8 k8 h8 IM=>?_
  dsimp only;rw[IM.eta]
  refine(fh IM 2).bind λy9 k9 h9 IN=>?_
  rw[TR,au];dsimp only;rw[IN.eta]
  refine(fh IN _).bind λoD S9 xO afH=>?_
  dsimp only;rw[afH.eta]
  refine(fh afH _).bind λzG S8 o9 afI=>?_
  dsimp only;rw[afI.eta]
  refine(aea afI).bind λjR DV oH afJ=>?_
  dsimp only;rw[afJ.eta];have hl:=(EY oH).2.2;exact Dr.pure afJ ⟨by show jR.weights.length<=1048576;omega,λ_=>by show y9<=40;have:=h9.2.2 (by decide);omega⟩
 |false=>
 rw[av]
 refine(ati C _).bind λmq S7 uk afK=>?_
 dsimp only;rw[afK.eta]
 refine(Nc afK 2).bind λmw S6 vz I=>?_
 dsimp only;rw[I.eta];cases mw with
 | true=>
  rw[aq]
  refine(fh I 3).bind λpL k16 pJ afL=>?_
  dsimp only;rw[afL.eta];exact Dr.pure afL ⟨by show (0:Nat)<=1048576;omega,λh=>absurd (show (1:Int)=2 from h) (by decide)⟩
 |false=>exact Dr.pure I ⟨by show (0:Nat)<=1048576;omega,λh=>absurd (show (1:Int)=2 from h) (by decide)⟩
def atW{b:aa Int}{c:bz}(U:jS b c){x:fq}(hx:lR x)(m:Nat)(hm:m<=100):Dr b (MP c x (m:Int)) λl=>l.length<=m+1/\∀ a∈l,E1 a:=by
 unfold MP bQ;rw[U.eq];obtain⟨z,e,C,aX,D,hl,E,rfl⟩:=acZ (step:=Io) (m+1) (λk s=>∃ (C:bz) (aX:aa jE),jS b C/\aX.length=k/\(∀ a∈aX,E1 a)/\s=(((),(m:Int),(),(),(k:Int),()),(((),C.i,C.h,()),x,aX,b,())))
  (λz=>∃(C:bz) (aX:aa jE),jS b C/\aX.length<=m+1/\(∀a∈aX,E1 a)/\z = .inl (((),()),(aX,((),C.i,C.h,()),b,()))) br (x:=(((),(m:Int),(),(),(0:Int),()),(((),c.i,c.h,()),x,([]:aa jE),b,()))) ⟨c,[],U,rfl,λa ha=>(by cases ha),rfl⟩ (by
  rintro k hk s ⟨C,aX,D,hl,E,rfl⟩;unfold Io aK xG;dsimp only;rw[D.eta,bf (n:=(m:Int)+1)];obtain⟨Y,O,T,I,Z⟩:=fh D ((m:Int)+1);rw[T,au];dsimp only;by_cases c9:(k:Int)<Y
  ·obtain⟨y2,k2,e2,qT,h2⟩:=atV I hx (W6 ((k:Int)+1));rw[aZ c9,aq,I.eta,e2,au];dsimp only;rw[fe (by rw[List.length_singleton];omega),aq,bT]
   refine .inl ⟨_,rfl,k2,aX++[y2],qT,by rw[List.length_append,List.length_singleton,hl],λa ha=>?_,rfl⟩
   rcases kX.1 ha with ha|ha
   ·exact E a ha
   ·rw[gF.1 ha];exact h2
  ·rw[bu c9,av];exact .inr ⟨_,rfl,O,aX,I,by omega,E,rfl⟩) (by
  rintro s ⟨C,aX,D,hl,E,rfl⟩;unfold Io aK xG;dsimp only;rw[D.eta,bf (n:=(m:Int)+1)];obtain⟨Y,O,T,I,Z⟩:=fh D ((m:Int)+1);have h31:=Z.2.2 (by omega);rw[T,au];dsimp only;rw[bu,av];exact⟨_,rfl,O,aX,I,by omega,E,rfl⟩) (bZ)
 rw[e,au];simp only[gw];rw[D.eta];exact Dr.pure D ⟨hl,E⟩
def atX(l:aa Int)(h:l.length<=1073741823):∃ c p aX,MQ l=some (c,p,aX)/\lR c/\vB p/\aX.length<=31/\∀ a∈aX,E1 a:=by
 unfold MQ;obtain⟨I,O⟩:=aoN l h;obtain⟨x,k,T,C,D⟩:=aqv (aoO l I h);obtain⟨p,k2,U,E,Y⟩:=aea C;obtain⟨aX,k3,Z,tQ,ha,hw⟩:=atW E D 30 (by decide);refine⟨x,p,aX,?_,D,Y,ha,hw⟩;rw[O,au,T,au];dsimp only;rw[C.eta,U,au];dsimp only;rw[E.eta];exact(bx (λo=>Option.bind o _) Z).trans rfl
def Iv.rows{u:Nat}{c:ax}(h:Iv u c)(O:cy c=true)(C:lR c.config):(List.range c.array.bq.length).all (xR c)=true:=by
 have k:=Ck.of O;have T:=eA.ri k.ar;have D:=EZ C.1;have U:=ef c.config.ak;have gb:=fW D;have Jd:200<=c.config.interval/\c.config.interval<=259:=C.2.2.2.2.1;have hl:c.config.dJ=⟨6*c.config.interval,40⟩:=C.2.2.2.2.2.2;obtain⟨t,Y⟩:=h.iD;obtain⟨g1,Z⟩:=h.iA;have hrf:=k.rf;simp only[fj,aJ,bh]at hrf;have hgw:1<=jd c.aE:=by
  unfold jd;cases c.aE.dL with
  |true=>rw[aq];omega
  |false=>rw[av];omega
 obtain⟨R,hR⟩:=fk (show 0<=c.config.ak.rows by omega);obtain⟨nb,ze⟩:=fk U.1;have Qx:0<R:=by omega
 have hlen:c.array.bq.length=nb*R:=by
  have:=T.bq;have e:fF c.config.ak=aL c.config.ak*c.config.ak.rows:=by simp[fF,D]
  rw[e,hR,ze,<-Int.natCast_mul]at this;omega
 rw[bN];intro i hi;have hi:=fA.1 hi;rw[hlen]at hi;have hb:i / R<nb:=Nat.div_lt_of_lt_mul (by rw[Nat.mul_comm];exact hi);have hr:i % R<R:=Nat.mod_lt _ Qx;have NP:i / R*R+i % R=i:=by rw[Nat.mul_comm];exact Nat.div_add_mod i R
 obtain⟨a1,a2⟩:=Z (i / R) (i % R) (by omega) (by omega);rw[hR,<-Int.natCast_mul,show (((i / R*R:Nat):Int)+((i % R:Nat):Int)).toNat=i by omega]at a2;obtain⟨f,L,_,_,_,h3,_,E,h6⟩:=h.iH (i / R) (by omega);have I:=h6 (i % R) (by omega);rw[show c.config.ak.rows.toNat=R by omega]at I;rw[NP]at I;have h8:=atE R f (L:=L) (by omega) c.pending (i / R) (i % R);have h4:=Y.d4 (i / R);have hm:(c.aE.aC.getD (i / R) 0+1)*c.config.interval<=5*c.config.interval:=Int.mul_le_mul_of_nonneg_right (by omega) (by omega);rw[hl]at E;dsimp only at E;unfold xR ue;rw[hl];dsimp only;rw[bu,bu];rfl
def atY(l:aa Int)(h:l.length<=maxLen):TM l=some true:=by
 unfold TM SK;rw[au];by_cases T:(l.length:Int) > 1048576
 ·rw[aZ T];rfl
 ·rw[bu T,av];obtain⟨c,p,aX,Z,E,hp,hl,hw⟩:=atX l (by omega);obtain⟨x,n,e2,x1,U,x3,Y,x5⟩:=atU E hp hw hl;have x0:=bh.1 (Ck.of U).nw;obtain⟨y,e3,D,C,I,y4,y5⟩:=afG x3 x1 U (by rw[Y];exact E) (by omega) (n:=300) (by decide) (by omega);have VN:lR y.config:=by rw[y4,Y];exact E
  obtain⟨t,hD⟩:=I.iD;have O:y.aE.aC.all EH=true:=by
   rw[bN];intro d O;obtain⟨i,hi,rfl⟩:=jf.1 O;have:=hD.d4 i;rw[iw _ hi]at this;unfold EH;rw[bu];rfl
  rw[Z,au];dsimp only;rw[e2,au];dsimp only;rw[e3,au,xQ _ D,au,C,aq,aqP _ D,au,C,I.iT.1.saf,Bool.and_self,aq,aqr _ D,au,C,I.rows C VN,Bool.and_self,aq,aqo _ D,au,C,O,Bool.and_self,aq,aZ (show y.now >= 300 by omega)]
def atZ(C:Value)(w:World)(D:ZB .u8 (λx:Int=>0<=x/\x<=255) w C):Calls Tryz.prog 4 #[C] w λe w'=>e = .returned (.bool true)/\Below w.heap.size w w':=by
 obtain⟨l,hl,_,E⟩:=D;exact aj7 aoK (aj8 (ai:=[(false,.sl .u8)]) (x:=(l,())) (by kernel_rfl) (atY l hl)) (aj9 E)
end Go.Proofs.YtgjfmljpdnnihaaGreat
