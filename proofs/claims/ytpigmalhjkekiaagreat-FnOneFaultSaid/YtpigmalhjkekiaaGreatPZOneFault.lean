/-
  Plain laws. Nothing here is a claim.
-/
import Derived.Test.YtpigmalhjkekiaaGreatPYOneFault
namespace Go.Proofs.YtpigmalhjkekiaaGreat
set_option linter.defProp false
open Go.RowKit
set_option linter.unusedVariables false
set_option linter.unusedSimpArgs false
set_option maxRecDepth 100000
def awv{l:aa cQ}(w:aa Bool)(hl:l.length<1073741823)(D:iM l=true)(hw:l.length=w.length):∃ y t,rC l w=some (y,t)/\y.length=l.length/\iM y=true:=by
 have mk:∀ y:aa cQ,y.length=l.length -> (∀ s∈y,om s=true) -> y.length=l.length/\iM y=true:=λy C h2=>by
  refine⟨C,?_⟩;simp[iM,aM,bT]at D ⊢;exact⟨h2,by rw[C];exact D.2⟩
 have E:∀ s∈l,om s=true:=by
  simp only[iM,aM,bT]at D;exact D.1
 unfold rC xA xC bR xL xZ;have hb:=vO (λi=>w.getD i false) (λi=>(l.getD i ⟨0,0⟩).fP) (min l.length w.length);have T:(gy l).length=l.length:=by simp[gy]
 have gX:=vO (λi=>w.getD i false) (λi=>((gy l).getD i ⟨0,0⟩).fP) (min (gy l).length w.length);have hm:=DH (λi=>w.getD i false) (λi=>(l.getD i ⟨0,0⟩).fP) (min l.length w.length);rw[List.nil_append,Gg l w (by omega),au,KP _ (by omega),au,D,bE,av,List.length_nil,fO,eE,aq];unfold pn;generalize hr:mP (λi=>w.getD i false) (λi=>(l.getD i ⟨0,0⟩).fP) (min l.length w.length)=b at *
 by_cases U:b<0
 ·rw[bf U];exact⟨_,_,rfl,mk _ rfl E⟩
 ·have C:b.toNat<l.length:=by omega
  rw[br U,av,aK ⟨by omega,C⟩,aK C];dsimp only;have hsb:=E _ (cX C);simp only[om,aM,bu]at hsb;cases Y:l[b.toNat].fP==0 with
  | false=>
   have Y:¬ l[b.toNat].fP=0:=by simpa using Y
   rw[ aK ⟨by omega,C⟩,aK C,aK ⟨by omega,C⟩,aK C];exact⟨_,_,rfl,mk _ (by simp) (aia E C (by omega))⟩
  | true=>
   have Yd:∀ s∈gy l,om s=true:=λs D=>by
    obtain⟨x,O,rfl⟩:=List.mem_map.1 D;have:=E x O;simp[om,aM,bu,DI]at this ⊢;omega
   rw[aq,XQ l w (by omega),au];simp only[gq];rw[Gg _ w (by omega),au];have Z:0 <= pn (gy l) w:=Lb _ (i:=b.toNat) (by rcases hm with h|h;exact absurd h (by omega);exact h) _ (by rw[T];omega);have hq:pn (gy l) w<((min (gy l).length w.length:Nat):Int):=gX.2;have I:(pn (gy l) w).toNat<(gy l).length:=by omega
   have h4:1 <= (gy l)[(pn (gy l) w).toNat].fP:=by
    have dK:(pn (gy l) w).toNat<l.length:=by omega
    have O:=E _ (cX dK);simp only[om,aM,bu]at O;simp only[gy,List.getElem_map,DI];simp only[gy]at O;omega
   rw[aK ⟨Z,I⟩,aK I,aK ⟨Z,I⟩,aK I];exact⟨_,_,rfl,mk _ (by simp[T]) (aia Yd I h4)⟩
def aib{r:dI}(h:fD r=true)(k:Nat){d:Int}(C:-2 <= d/\d <= 5):fD ⟨r.aB.set k d,r.wait,r.dP⟩=true:=by
 simp only[fD,aM]at h ⊢;refine⟨Xw h.1 ?_,by rw[gR];exact h.2.1,h.2.2⟩;exact bu.2 C
def aww{r:dI}(h:fD r=true){b:Int}(hb:b.toNat<r.aB.length):fD (mQ r b)=true:=by
 have C:=Lh h _ (cX hb);unfold mQ;rw[gQ _ hb];by_cases e:r.aB[b.toNat] = -2
 ·simp_all
 ·rw[br e];exact aib h _ (by omega)
def awx{r:cg}{p:iF}{x:aT}{now:Int}(E:kO p=true)(C:p.state=r.aR)(I:p.since <= now)(O:now <= 1000000)(U:6 <= x.kind/\x.kind <= 9)(D:lG r x=true):kO (zD p x.kind now)=true/\(zD p x.kind now).state=(cH r x).aR/\(zD p x.kind now).since <= now:=by
 have hb:0 <= p.since:=by
  simp[kO,aM,bu]at E;omega
 have hi:0 <= p.idle/\p.idle <= 1000000:=by
  simp[kO,aM,bu]at E;omega
 have T:=bu.2 ⟨I,O⟩;unfold zD;rw[E,T,Bool.and_self];have mk:∀ s:Int,0 <= s/\s <= 2 -> kO ⟨s,now,p.idle⟩=true:=λs C=>by
  simp[kO,aM,bu];omega
 have:x.kind=6 \/ x.kind=7 \/ x.kind=8 \/ x.kind=9:=by omega
 rcases this with h|h|h|h
 ·have e:r.aR=0:=by simpa [lG,h]using D
  simp[cH,h,C,e,mk]
 ·have e:r.aR=1:=by simpa [lG,h]using D
  simp[cH,h,C,e,mk]
 ·have e:r.aR=0:=by have:=D;simp[lG,h]at this;exact this.1
  simp[cH,h,C,e,mk]
 ·have e:r.aR=2:=by simpa [lG,h]using D
  simp[cH,h,C,e,mk]
def awy{c:ax}(h:Pq c)(Z:Int×Int×Int×Int×ah)(P:Int×Int×Int×Int×Int×(aa Int)×Int×Int×ah)(I:P.2.1=c.box.bW.cap):iter Dl bq ((bV 0 c.aD.aB,ir c,(),(),(),(),(),(),(),(),(),c.queue,(c.queue.length:Int),(0:Int),()),(c,Z,P,(List.range c.queue.length).map (ox c),(List.range c.queue.length).map (gz c),uD c c.queue.length,([]:aa aT),List.replicate c.queue.length false,List.replicate 4 false,()))=some (.inl (((),(),(),(),(),(),(),()),(c,Z,P,(List.range c.queue.length).map (gz c),(List.range c.queue.length).map (gp c),(List.range c.queue.length).map (l6 c),xE c c.queue.length,()))):=by
 have O:=h.ql;have zV:=h.pl;have T:=vN h.rf;have U:=Gs h;have e:=eV (step:=Dl) c.queue.length (λi=>((bV 0 _,ir c,(),(),(),(),(),(),(),(),(),c.queue,c.queue.length,i,()),(c,Z,P,(List.range _).map (ox c),(List.range c.queue.length).map (gz c),uD c _,(List.range i).map (gp c),sU (l6 c) c.queue.length i,xE c i,()))) _ bq (λk C=>by
  have hl:=QT (f:=l6 c) (n:=c.queue.length) (k:=k) (by omega);have Lw:=DL c;have hwl:=Lt c k;have⟨ho,D,Y,o3,o4,o5⟩:=Gr h C;have⟨q1,q2,E⟩:=h.q _ (cX C);rw[Gq C]at q1 q2 E;have Vr:(rM c k).write=rL c.queue k:=by rw[Ln C,Gq C]
  refine(awl (r:=rM c k) (a:=cD c k) (nd:=gp c k) (ct:=rO c (cD c k).ay) (rd:=de c (gp c k)) (ib:=Ls c (cD c k).ay) O C (Gq C) (by omega) (Lo _) (by simp;exact C) (by omega) (by simp) (by omega) (by omega) (by rw[Vr];exact ahA _ D Y U) (Ya T.1 D o3) (zz h.p (ahZ h C)) (XW _ _ (by omega)) E h.nw).trans ?_;rw[Ll C,ahQ,I,<- QU C,List.range_succ,List.map_append];rfl) (by
  unfold Dl aE xG xI xL;dsimp only;rw[br,av,QV]) (bS)
 exact e
def vR(f g:Nat->Bool)(n k:Nat):aa Bool:=(List.range n).map λi=>bif Nat.blt i k then f i else g i
def awz(f g:Nat->Bool)(n:Nat):vR f g n 0=(List.range n).map g:=rfl
def awA(f g:Nat -> Bool)(n:Nat):vR f g n n=(List.range n).map f:=by
 refine pW λi hi=>?_
 have hi:=fS.1 hi;rw[show Nat.blt i n=true from ja hi];rfl
def Ye(f g:Nat->Bool)(n k:Nat):(vR f g n k).length=n:=by unfold vR;simp
def awB(k:Nat):Nat.blt k k=false:=by
 cases h:Nat.blt k k with
 |false=>rfl
 |true=>simp_all
def awC{f g:Nat->Bool}{n k:Nat}(C:k<(vR f g n k).length):(vR f g n k)[k]=g k:=by
 simp only[vR,List.getElem_map,jD,awB,av]
def awD{f g:Nat -> Bool}{n k:Nat}(h:k<n):(vR f g n k).set k (f k)=vR f g n (k+1):=by
 apply List.ext_getElem
 ·rw[gR,Ye,Ye]
 ·intro i E I;rw[List.getElem_set];simp only[vR,List.getElem_map,jD];by_cases e:k=i
  ·subst e;rw[aW rfl,show Nat.blt k _=true from ja (dg _)];rfl
  ·rw[aX e];rcases Nat.lt_or_gt_of_ne e with h3 | h3
   ·have C:Nat.blt i k=false:=by
     cases hb:Nat.blt i k with
     |false=>rfl
     |true=>have:=cE hb;omega
    have D:Nat.blt i (k+1)=false:=by
     cases hb:Nat.blt i (k+1)with
     |false=>rfl
     |true=>have:=cE hb;omega
    rw[C,D]
   ·rw[show Nat.blt i k=true from ja h3,show Nat.blt i _=true from ja (by omega)]
def pJ(c:ax)(t:Int)(i:Nat):Bool:=l6 c i&&(rM c i).eG==t
def awE{c:ax}(I:c.queue.length <= 12)(t:Int)(Z:Int×Int×Int×Int×ah)(P:Int×Int×Int×Int×Int×(aa Int)×Int×Int×ah)(hit:aa Bool)(C:aa aT):iter FM bq (((),(),(),(),(),(),t,c.queue,(c.queue.length:Int),(0:Int),()),(c,Z,P,hit,C,(List.range c.queue.length).map (l6 c),()))=some (.inl (((),(),(),(),(),(),()),(c,Z,P,hit,C,(List.range c.queue.length).map (pJ c t),()))):=by
 have e:=eV (step:=FM) c.queue.length (λi=>(((),(),(),(),(),(),t,c.queue,(c.queue.length:Int),(i:Int),()),(c,Z,P,hit,C,vR (pJ c t) (l6 c) c.queue.length i,()))) _ bq (λk D=>by
  have hl:=Ye (pJ c t) (l6 c) c.queue.length k;rw[<- awD D];unfold FM aE xG xI xL;dsimp only;rw[bf,aq,aK ⟨by omega,by omega⟩,aK ⟨by omega,by omega⟩,aK,bN];simp only[bz,awC,Gq];have E:pJ c t k=(l6 c k&&(rM c k).eG==t):=rfl;rw[E];cases l6 c k with
  |false=>rw[av,aK ⟨by omega,by omega⟩,aK];rfl
  |true=>rw[ aK ⟨by omega,by omega⟩,aK];rfl) (by
  unfold FM aE xG xI xL;dsimp only;rw[br,av,awA]) (bS)
 rw[cY,awz]at e;exact e
def gL(p:Nat->Bool):Nat->Int
 |0=>-1
 |k+1=>bif decide (gL p k<0)&&p k then (k:Int)else gL p k
def Q4(p:Nat->Bool)(k:Nat):gL p (k+1)=bif decide (gL p k<0)&&p k then (k:Int)else gL p k:=rfl
def vS(p:Nat -> Bool):∀ n,(gL p n = -1 /\ ∀ k,k<n -> p k=false) \/ ∃ j:Nat,j<n/\gL p n=(j:Int)/\p j=true /\ ∀ k,k<j -> p k=false
 |0=>.inl ⟨rfl,λk C=>absurd C (Nat.not_lt_zero k)⟩
 | n+1=>by
  rw[Q4];rcases vS p n with ⟨D,E⟩|⟨j,D,E,I,O⟩
  ·grind
  ·grind
def xH(old hit fI:Nat->Bool)(n:Nat):Int:=
 bif decide (gL (λi=>fI i&&old i) n<0)then (bif decide (gL (λi=>fI i&&hit i) n<0)then gL fI n else gL (λi=>fI i&&hit i) n)else gL (λi=>fI i&&old i) n
def vT(c:ax)(i:Nat):Bool:=decide ((rM c i).at_<=c.now-c.box.bW.cap)
def awF{c:ax}(h:Pq c)(fI:Nat->Bool):PC c.queue ((List.range c.queue.length).map fI) ((List.range c.queue.length).map (gz c)) c.box.bW.cap c.now=some (xH (vT c) (gz c) fI c.queue.length):=by
 have hq:=h.ql;have Lx:=h.nw;have hcp:=h.cap;have U:W6 (c.now-c.box.bW.cap)=c.now-c.box.bW.cap:=aZ;have vU:∀ (k:Nat),k<c.queue.length->(fI k&&vT c k)=false->Bh (((List.range c.queue.length).map fI,(List.range c.queue.length).map (gz c),c.box.bW.cap,c.now,gL fI k,gL (λi=>fI i&&gz c i) k,c.queue,(c.queue.length:Int),(k:Int),()),())=some (.inl (((List.range c.queue.length).map fI,(List.range c.queue.length).map (gz c),c.box.bW.cap,c.now,gL fI (k+1),gL (λi=>fI i&&gz c i) (k+1),c.queue,(c.queue.length:Int),((k+1:Nat):Int),()),())):=by
  intro k C D;rw[Q4,Q4];unfold Bh aE bk xG xI;dsimp only;rw[bf,aq,aK ⟨by omega,by omega⟩];simp only[fy,dw];rw[br,av,aK ⟨by omega,by omega⟩];simp only[bz,Ll C,U,Gq];rw[bN];cases E:fI k with
  |false=>simp[E]
  | true=>
   rw[E,cw]at D;unfold vT at D;rw[D,bf (by omega:(k:Int)<(c.queue.length:Int)),aK ⟨by omega,by omega⟩];simp only[bE,av,aq,E,cw];cases gz c k<;>cases decide (gL fI k<0)<;>cases decide (gL (λi=>fI i&&gz c i) k<0)<;>simp
 unfold PC xH bY;rw[cV,au,bu.2 ⟨hcp.1,by omega⟩,bE,av,cV,au,bu.2 Lx,bE,av];rcases vS (λi=>fI i&&vT c i) c.queue.length with ⟨I,O⟩|⟨j,I,O,T,h4⟩
 ·have e:=eV (step:=Bh) c.queue.length (λk=>(((List.range c.queue.length).map fI,(List.range c.queue.length).map (gz c),c.box.bW.cap,c.now,gL fI k,gL (λi=>fI i&&gz c i) k,c.queue,(c.queue.length:Int),(k:Int),()),())) (.inr (.inl ((gL fI c.queue.length,gL (λi=>fI i&&gz c i) c.queue.length,()),()))) bq (λk C=>vU k C (O k C)) (by
   unfold Bh aE bk xG xI;dsimp only;rw[br,av]) (bS)
  rw[cY]at e
  refine(bB (λo=>Option.bind o _) e).trans ?_
  rw[au,I];simp only[Sum.elim_inr,gq];by_cases Y:gL (λi=>fI i&&gz c i) c.queue.length<0
  ·rw[br (by omega:¬ gL (λi=>fI i&&gz c i) c.queue.length >= 0),bf Y];rfl
  ·rw[bf (by omega:gL (λi=>fI i&&gz c i) c.queue.length >= 0),br Y];rfl
 ·have e:=eV (step:=Bh) j (λk=>(((List.range c.queue.length).map fI,(List.range c.queue.length).map (gz c),c.box.bW.cap,c.now,gL fI k,gL (λi=>fI i&&gz c i) k,c.queue,(c.queue.length:Int),(k:Int),()),())) (.inl (((j:Int),()),())) bq (λk C=>vU k (by omega) (h4 k C)) (by
   rw[aM]at T;have Z:=T.2;unfold vT at Z;unfold Bh aE bk xG xI;dsimp only;rw[bf,aq,aK ⟨by omega,by omega⟩];simp only[fy,dw];rw[br,av,aK ⟨by omega,by omega⟩];simp only[bz,Ll I,U,Gq,T.1,Z,bE,av,aq]) (bS)
  rw[cY]at e
  refine(bB (λo=>Option.bind o _) e).trans ?_
  rw[au,O,br];rfl
def uE:aT:=⟨0,0,0,0⟩
def uF(c:ax):Int:=match rC c.shares (xE c c.queue.length)with
 |some y=>y.2
 |none=>0
def qQ(c:ax):Int:=xH (vT c) (gz c) (pJ c (uF c)) c.queue.length
def pL(c:ax):aT×Int:=bif decide (qQ c<0)then (uE,-1)else (gp c (qQ c).toNat,qQ c)
def awG{c:ax}(h:Pq c):∃ l,rC c.shares (xE c c.queue.length)=some (l,uF c):=by
 have⟨y,t,e,_⟩:=XR (xE c c.queue.length) (by have:=h.shl;omega) h.sh (by rw[Lt,h.shl]);refine⟨y,?_⟩;unfold uF;rw[e]
def awH(c:ax):-1 <= qQ c/\qQ c<c.queue.length:=by
 unfold qQ xH;rcases vS _ _ with ⟨C,_⟩|⟨j,C,I,_⟩
 ·rw[C,bf,aq];rcases vS _ _ with ⟨D,_⟩ | ⟨j,D,O,_⟩
  ·rw[D,bf,aq];rcases vS (pJ c (uF c)) c.queue.length with ⟨E,_⟩|⟨j,E,T,_⟩<;>omega
  ·grind
 ·grind
def awI{c:ax}(h:Pq c):PG c (bV 0 c.aD.aB) (ir c)=some (pL c):=by
 have E:=h.ql;have⟨l,hl⟩:=awG h;have hb:=awH c;unfold PG bR xL;rw[aW ⟨by omega,by omega,by omega⟩,bz,av6 h,au];simp only[gq];rw[aW ⟨by omega,by omega,by omega⟩,aW ⟨by omega,by omega,by omega⟩,bz,av7 h,au];simp only[gq];rw[aW ⟨by omega,by omega,by omega⟩,aW (by decide),bz,show (4:Int).toNat=4 from rfl,awy h _ _ rfl,au];simp only[gq];rw[hl,au];dsimp only;rw[awE E,au];simp only[gq];rw[awF h,au];show (bif decide (qQ c<0)then _ else _)=_;unfold pL;by_cases C:qQ c<0
 ·rw[bf C];rfl
 ·have I:(qQ c).toNat<c.queue.length:=by omega
  rw[br C,av,av];have O:¬ xH (vT c) (gz c) (pJ c (uF c)) c.queue.length<0:=C;have D:=I;rw[aK ⟨by omega,by simp only[fy,dw];exact D⟩,aK (by simp only[fy,dw];exact D)];simp only[List.getElem_map,jD];rfl
def Yf{α:Type}(p:α -> Bool)(l:aa α):(fH p l=l.length/\l.find? p=none) \/ ∃ h:fH p l<l.length,l.find? p=some l[fH p l]:=by
 have E:=Ge p l;rcases Nat.lt_or_ge _ _ with h|h
 ·refine .inr ⟨h,?_⟩;rw[List.find?_eq_some_iff_getElem]
  refine⟨BO h,_,h,rfl,λj C=>?_⟩
  rw[vL C];rfl
 ·refine .inl ⟨by omega,?_⟩;rw[List.find?_eq_none];intro x D;obtain⟨j,C,rfl⟩:=ki.1 D;rw[vL (p:=p) (by omega) C];simp
def qR(c:ax)(b:Int)(x:aT):aT:=bif (cu c.aN b).open_ then ⟨4,b,0,0⟩else x
def Yg{c:ax}{b:Int}(x:aT)(C:0 <= b)(h:b.toNat<c.aN.aI.length):Bc c b x=some (qR c b x):=by
 unfold Bc qR xI;rw[aK ⟨C,h⟩,Lg h]
 grind
def Q5{c:ax}{b:Int}{x:aT}(h:Pq c)(C:0 <= b/\b<aJ c.config.ak)(D:dz c.config.ak x=true):dz c.config.ak (qR c b x)=true:=by
 unfold qR;cases (cu _ b).open_ with
 |false=>exact D
 |true=>exact zC h.p.R.uC (.inl rfl) C
def fX(c:ax)(b:Int):aT:=qR c b ⟨5,b,0,0⟩
def iX(c:ax)(i:Nat):aO:=c.pending.getD i zA
def Q6{c:ax}{i:Nat}(h:i<c.pending.length):c.pending[i]=iX c i:=by
 unfold iX;rw[cK,bK h];rfl
def rP(c:ax)(i:Nat):Bool:=!rO c (iX c i).ay && !((c.pending.take i).any λa=>a.ay==(iX c i).ay)
def jA(c:ax)(i:Nat):aT:=qR c (iX c i).ay ⟨1,(iX c i).ay,(iX c i).row,0⟩
def Gv(c:ax):aa aT:=(bV 0 c.aD.aB).map (fX c)
def Gw(c:ax)(k:Nat):aa aT:=((List.range k).filter (rP c)).map (jA c)
def Yh{c:ax}(h:Pq c){i:Nat}(hi:i<c.pending.length):dU c.config.ak (iX c i)=true/\0 <= (iX c i).ay/\(iX c i).ay.toNat<c.aN.aI.length/\(iX c i).ay.toNat<c.aD.aB.length/\(iX c i).ay<aJ c.config.ak:=by
 have C:=h.pe _ (cX hi);rw[Q6]at C;have⟨_,D,E,I,O,T,U⟩:=oX C;have:=h.p.bl;have:=h.dl;simp_all
def Yi{c:ax}(h:Pq c){b:Int}(hb:b∈bV 0 c.aD.aB):(0 <= b/\b<aJ c.config.ak)/\dz c.config.ak (fX c b)=true:=by
 obtain⟨j,rfl,C,_⟩:=ahv hb;have:=h.dl;have hb:0 <= ((0+j):Int)/\((0+j):Int)<aJ c.config.ak:=by omega
 exact⟨hb,Q5 h hb (zC h.p.R.uC (.inr rfl) hb)⟩
def awJ{c:ax}(h:Pq c){i:Nat}(hi:i<c.pending.length):dz c.config.ak (jA c i)=true:=by
 have⟨C,D,I,O,E⟩:=Yh h hi;exact Q5 h ⟨D,E⟩ (ahB C)
def uG(u:Bool)(l:aa Int)(idle:Nat->Bool)(i:Nat):Bool:=bif u then decide (l.getD i 0 >= 4)else decide (l.getD i 0 > 0)&&idle i
def Ly(r:dI)(idle:Nat->Bool):Int:=mP (uG (decide (((bV 0 r.aB).length:Int) > 0)) r.aB idle) (λi=>r.aB.getD i 0) r.aB.length
def Yj(r:dI)(idle:Nat->Bool):-1<=Ly r idle/\Ly r idle<r.aB.length:=vO _ _ _
def awK{r:dI}(D:fD r=true)(idle:Nat -> Bool):Kl r ((List.range r.aB.length).map idle)=some (Ly r idle):=by
 have hl:=vN D;unfold Kl bR;rw[F0 _ (by omega),au,D,bE,av,XP D,au];generalize T:decide (((bV 0 r.aB).length:Int) > 0)=u;have e:=eV (step:=Kk) r.aB.length (λi=>(((List.range r.aB.length).map idle,(),u,mP (uG u r.aB idle) (λi=>r.aB.getD i 0) i,r.aB,(r.aB.length:Int),(i:Int),()),((r.aB,r.wait,r.dP,()),()))) (.inl ((mP (uG u r.aB idle) (λi=>r.aB.getD i 0) r.aB.length,()),())) bq (λk E=>by
  have hb:=vO (uG u r.aB idle) (λi=>r.aB.getD i 0) k;rw[K9];generalize mP (uG u r.aB idle) (λi=>r.aB.getD i 0) k=C at hb;have U:r.aB.getD k 0=r.aB[k]:=by rw[cK,bK E];rfl
  unfold Kk DG uG aE xG xI;dsimp only;rw[bf,aq,aK ⟨by omega,by omega⟩];simp only[bz,U,fy,dw];rw[bN,bf (by omega:(k:Int)<(r.aB.length:Int)),aq,aK ⟨by omega,by omega⟩];simp only[Ll E];by_cases I:C<0
  ·rw[bf I,Bool.true_or];cases u<;>cases decide (r.aB[k] > 0)<;>cases decide (r.aB[k] >= 4)<;>cases idle k<;>rfl
  ·have O:C.toNat<r.aB.length:=by omega
   have Y:r.aB.getD C.toNat 0=r.aB[C.toNat]:=by rw[cK,bK O];rfl
   have Z:0 <= C/\C.toNat<r.aB.length:=⟨by omega,O⟩
   rw[br I,Y];simp only[aK Z,av];cases u<;>cases decide (r.aB[k] > 0)<;>cases decide (r.aB[k] >= 4)<;>cases idle k<;>cases decide (r.aB[k] > r.aB[C.toNat])<;>rfl) (by
  unfold Kk aE xG xI;dsimp only;rw[br,av]) (bS)
 rw[cY]at e
 refine(bB (λo=>Option.bind o _) e).trans ?_
 unfold Ly;rw[T];rfl
def pO(w:aa aO)(r:cg)(b:Nat):Bool:=w.any λa=>a.ay==(b:Int)&&a.row==(cu r (b:Int)).row
def vV(w:aa aO)(r:cg)(b:Nat):Bool:=(cu r (b:Int)).open_ && !pO w r b
def BV(r:cg)(eK:Int)(w:aa aO):Int:=bif eK != 1 then -1 else gL (vV w r) r.aI.length
def aic(r:cg)(eK:Int)(w:aa aO):-1 <= BV r eK w/\BV r eK w<r.aI.length:=by
 unfold BV;cases eK != 1 with
 |true=>grind
 | false=>
  rw[av];rcases vS (vV w r) r.aI.length with ⟨C,_⟩|⟨j,C,D,_⟩<;>omega
def awL{w:aa aO}{r:cg}{L:aa Int}{b:Nat}{i n:Int}(hb:b<r.aI.length)(hl:r.aI.length<=1048576)(D:w.length<=1000):iter FN bq ((w,(),(b:Int),false,(),n,i,w,(w.length:Int),(0:Int),()),((r.aI,r.aR,()),L,()))=some (.inl ((w,(),(b:Int),pO w r b,(),n,i,()),((r.aI,r.aR,()),L,()))):=by
 have e:=eV (step:=FN) w.length (λk=>((w,(),(b:Int),((w.take k).any λa=>a.ay==(b:Int)&&a.row==(cu r (b:Int)).row),(),n,i,w,(w.length:Int),(k:Int),()),((r.aI,r.aR,()),L,()))) (.inl ((w,(),(b:Int),pO w r b,(),n,i,()),((r.aI,r.aR,()),L,()))) bq (λk C=>by
  rw[Dv C,List.any_append,List.any_cons,List.any_nil,Bool.or_false,Lg (by rw[bz];exact hb)];unfold FN aE xG xI;dsimp only;rw[bf,aq,aK ⟨by omega,by omega⟩,bN];simp only[bz];cases (w.take k).any λa=>a.ay==(b:Int)&&a.row==r.aI[b].row with
  |true=>rfl
  | false=>
   rw[av,Bool.false_or];cases w[k].ay==(b:Int)with
   |false=>rfl
   |true=>rw[aq,aK ⟨by omega,hb⟩,cw]) (by
  unfold FN aE xG xI;dsimp only;rw[br,av,List.take_length];rfl) (bS)
 rw[cY]at e;exact e
def aid(w:aa aO)(r:cg):∀ k,k <= r.aI.length -> (opens 0 (r.aI.take k)).find? (λb=>!pO w r b.toNat)=bif decide (gL (vV w r) k<0)then none else some (gL (vV w r) k)
 |0,_=>rfl
 | k+1,E=>by
  have C:=aid w r k (by omega);have hb:(cu r (k:Int)).open_=r.aI[k].open_:=by rw[Lg (by rw[bz];omega)];simp only[bz]
  have D:vV w r k=(r.aI[k].open_ && !pO w r k):=by unfold vV;rw[hb]
  rw[Dv (show k<r.aI.length by omega),agp,kU,Nat.min_eq_left (by omega),fO,List.find?_append,C,Q4,D];have I:opens k [r.aI[k]]=bif r.aI[k].open_ then [(k:Int)]else []:=rfl
  grind
def aie(i:Nat)(l:aa gN)(x:Int)(h:x∈opens i l):∃ j:Nat,j<l.length/\x=((i+j:Nat):Int):=by
 induction l generalizing i with
 |nil=>cases h
 | cons d l C=>
  have e:opens i (d :: l)=bif d.open_ then (i:Int) :: opens (i+1) l else opens (i+1) l:=rfl;rw[e]at h;have tl:x∈opens (i+1) l -> ∃ j:Nat,j<(d :: l).length/\x=((i+j:Nat):Int):=λh=>by
   have⟨j,D,E⟩:=C _ h;exact⟨j+1,by simpa using D,by rw[E];omega⟩
  cases I:d.open_ with
  |false=>grind
  | true=>
   rw[I,aq]at h;rcases gU.1 h with rfl|h
   ·exact⟨0,by simp,rfl⟩
   ·exact tl h
def awM{r:cg}(eK:Int){w:aa aO}(hl:r.aI.length <= 1048576)(O:w.length <= 1000):Km r eK w=some (BV r eK w):=by
 unfold Km BV bY;cases eK != 1 with
 |true=>rfl
 | false=>
  rw[av,av,Qe r (by omega),au];have I:=aid w r r.aI.length (dg _);rw[List.take_length]at I;have Z:=agq 0 r.aI;have T:=aie 0 r.aI;generalize hL:opens 0 r.aI=L at *
  have hi:=Ge (λb:Int=>!pO w r b.toNat) L;have vU:∀ (k:Nat) (C:k<L.length),Dn ((w,(),(),(L.length:Int),(k:Int),()),((r.aI,r.aR,()),L,()))=some (bif !pO w r L[k].toNat then .inr (.inl ((L[k],()),()))else .inl ((w,(),(),(L.length:Int),((k+1:Nat):Int),()),((r.aI,r.aR,()),L,()))):=by
   intro k C;have⟨j,E,D⟩:=T _ (cX C);rw[fO]at D;unfold Dn aE bk xG bR xL;dsimp only;rw[bf,aq,aK ⟨by omega,by omega⟩,aK];simp only[bz,D];rw[awL E hl O,au];simp only[gq];rw[bN];cases pO w r j<;>rfl
  rcases Yf (λb:Int=>!pO w r b.toNat) L with ⟨E,D⟩|⟨E,D⟩
  ·have e:=eV (step:=Dn) L.length (λk=>((w,(),(),(L.length:Int),(k:Int),()),((r.aI,r.aR,()),L,()))) (.inr (.inl ((),()))) bq (λk C=>by
    have:=vL (p:=λb:Int=>!pO w r b.toNat) (q:=L) (i:=k) (by omega) C;rw[vU k C,this];rfl) (by
    unfold Dn aE bk xG bR xL;dsimp only;rw[br,av]) (bS)
   rw[cY]at e
   refine(bB (λo=>Option.bind o _) e).trans ?_
   rw[D]at I;by_cases U:gL (vV w r) r.aI.length<0
   ·rcases vS (vV w r) r.aI.length with ⟨Y,_⟩ | ⟨j,_,k2,_⟩
    ·rw[Y];rfl
    ·omega
   ·grind
  ·have e:=eV (step:=Dn) (fH (λb:Int=>!pO w r b.toNat) L) (λk=>((w,(),(),(L.length:Int),(k:Int),()),((r.aI,r.aR,()),L,()))) (.inl ((L[fH (λb:Int=>!pO w r b.toNat) L],()),())) bq (λk C=>by
    have:=vL (p:=λb:Int=>!pO w r b.toNat) (q:=L) (i:=k) C (by omega);rw[vU k (by omega),this];rfl) (by
    have:=BO (p:=λb:Int=>!pO w r b.toNat) (q:=L) E;rw[vU _ E,this];rfl) (bS)
   rw[cY]at e
   refine(bB (λo=>Option.bind o _) e).trans ?_
   rw[D]at I;by_cases U:gL (vV w r) r.aI.length<0
   ·grind
   ·simp[*]
def cP(c:ax):Int:=xo c.box.bW.cZ c.aR (mO c)
def zH(c:ax)(i:Nat):Bool:=!((ir c).any λa=>a.ay==(i:Int))
def fh(c:ax):Int:=Ly c.aD (zH c)
def mS(c:ax):Int:=BV c.aN c.box.bW.eK (ir c)
def qS(c:ax):aa aT:=bif decide (fh c >= 0) && !rO c (fh c)then [fX c (fh c)]else []
def oy(c:ax):aa aT:=bif decide (mS c >= 0)then [⟨4,mS c,0,0⟩]else []
def nN(c:ax):aa aT:=bif cP c==8&&decide (((opens 0 c.aN.aI).length:Int) > 0)then [⟨4,(opens 0 c.aN.aI).headD 0,0,0⟩]else bif cP c != 0 then [⟨cP c,0,0,0⟩]else []
def uH(c:ax)(l:aa aT):aT:=(l.find? (de c)).getD uE
def fnd_nil(c:ax):uH c []=uE:=rfl
def fnd_cons(c:ax)(x:aT)(l:aa aT):uH c (x :: l)=bif de c x then x else uH c l:=by
 unfold uH;rw[List.find?_cons];cases de c x<;>rfl
def Q7(c:ax)(w:Int):aj aT:=
 let D:Int->Int->Int->Int->aj (aT):=λE I O T=>(let U:Bool->aj (aT):=λY=>bif Y then some (⟨E,I,O,T⟩:aT)else some (⟨(0:Int),(0:Int),(0:Int),(0:Int)⟩:aT);bif (E != (0:Int))then (jn c (⟨E,I,O,T⟩:aT)).bind λZ=>(U Z)else (U false));bif (w==(8:Int))then (A8 c.aN).bind λC=>bif (decide ((C.length:Int) > (0:Int)))then if qz:0<=(0:Int)/\(0:Int).toNat<C.length then if rF:(0:Int).toNat<C.length then (let wX:=C[(0:Int).toNat]'rF;(D (4:Int) wX (0:Int) (0:Int)))else none else none else (D w 0 0 0)else (D w 0 0 0)
def DN(c:ax)(D:aa aO)(w:Int):aj aT:=
 (Km c.aN c.box.bW.eK D).bind λC=>bif (C != (-1:Int))then (jn c (⟨(4:Int),C,(0:Int),(0:Int)⟩:aT)).bind λE=>bif E then some (⟨(4:Int),C,(0:Int),(0:Int)⟩:aT)else Q7 c w else Q7 c w
def aif(c:ax)(O:aa Int)(D:aa aO)(w:Int)(idle:aa Bool):aj aT:=
 (Kl c.aD idle).bind λC=>(let E:Bool->aj (aT):=λT=>bif T then (Bc c C (⟨(5:Int),C,(0:Int),(0:Int)⟩:aT)).bind λI=>(jn c I).bind λU=>bif U then some I else DN c D w else DN c D w;bif (C != (-1:Int))then (wY O C).bind λY=>(E (!Y))else (E false))
def DO(c:ax):cP c=0\/6<=cP c/\cP c<=9:=avx _ _ _
def awN(l:aa Int)(h:0<l.length):l.headD 0=l[0]:=by
 cases l with
 |nil=>cases h
 |cons x l=>rfl
def aih(c:ax)(h:Pq c)(C:0<(opens 0 c.aN.aI).length):(0 <= (opens 0 c.aN.aI)[0]/\(opens 0 c.aN.aI)[0]<aJ c.config.ak)/\(opens 0 c.aN.aI).headD 0=(opens 0 c.aN.aI)[0]:=by
 have⟨j,D,E⟩:=aie 0 _ _ (cX C);have:=h.p.bl;exact⟨by omega,awN _ C⟩
def awO{c:ax}(h:Pq c):Q7 c (cP c)=some (uH c (nN c)):=by
 have jc:=Gs h;have hw:=DO c;have D:=h.p.R.uC;have O:cP c≠0 -> jn c ⟨cP c,0,0,0⟩=some (de c ⟨cP c,0,0,0⟩):=λhn=>zz h.p (QK D (by omega))
 have T:(bif (cP c != (0:Int))then (jn c (⟨cP c,0,0,0⟩:aT)).bind λU=>(bif U then some (⟨cP c,0,0,0⟩:aT)else some uE)else some uE)=some (uH c (bif cP c != 0 then [⟨cP c,0,0,0⟩]else [])):=by
  by_cases C:cP c=0
  ·rw[C];rfl
  ·rw[fR C,aq,aq,O C,fnd_cons,fnd_nil]
   grind
 unfold Q7 nN;dsimp only;by_cases E:cP c=8
 ·have Y:(cP c==8)=true:=by rw[E];rfl
  rw[Y,aq,Qe _ (by omega),au,cw];by_cases I:0<(opens 0 c.aN.aI).length
  ·have⟨Z,k2⟩:=aih c h I;rw[bf,aq,aq,aK ⟨by omega,I⟩,aK,k2];show (bif ((4:Int) != 0)then (jn c ⟨4,(opens 0 c.aN.aI)[0],0,0⟩).bind _ else _)=_;rw[zz h.p (zC D (.inl rfl) Z),fnd_cons,fnd_nil];cases de c ⟨4,(opens 0 c.aN.aI)[0],0,0⟩<;>rfl
  ·rw[br,av];exact T
 ·rwa [jw E,av,Bool.false_and,av]
def awP{c:ax}(h:Pq c):DN c (ir c) (cP c)=some (uH c (oy c++nN c)):=by
 have C:=Gs h;have E:=h.ql;have I:=h.p.bl;have hb:-1 <= mS c/\mS c<c.aN.aI.length:=aic _ _ _;unfold DN oy;rw[awM _ C (by rw[DL];omega),au];show (bif mS c != -1 then (jn c ⟨4,mS c,0,0⟩).bind _ else _)=_;rw[awO h];by_cases D:mS c >= 0
 ·rw[fR (by omega:¬ mS c = -1),aq,bf D,aq,zz h.p (zC h.p.R.uC (.inl rfl) (by omega)),au,List.singleton_append,fnd_cons];cases de c ⟨4,mS c,0,0⟩<;>rfl
 ·grind
def awQ{c:ax}(h:Pq c):aif c (bV 0 c.aD.aB) (ir c) (cP c) ((List.range c.aD.aB.length).map (zH c))=some (uH c (qS c++(oy c++nN c))):=by
 have Y:=Gs h;have I:=vN h.rf;have Z:=h.p.bl;have hdn:=h.dl;have hb:-1 <= fh c/\fh c<c.aD.aB.length:=Yj _ _;unfold aif qS;rw[awK h.rf,au];show (bif fh c != -1 then (wY (bV 0 c.aD.aB) (fh c)).bind λO=>(bif !O then (Bc c (fh c) ⟨5,fh c,0,0⟩).bind λD=>(jn c D).bind λC=>bif C then some D else DN c (ir c) (cP c)else DN c (ir c) (cP c))else DN c (ir c) (cP c))=_;rw[awP h];by_cases T:fh c >= 0
 ·have E:0 <= fh c/\fh c<aJ c.config.ak:=by omega
  rw[fR (by omega:¬ fh c = -1),aq,bf T,cw,(Ya I.1 (by omega) (by omega)),au];cases rO c (fh c)with
  |true=>rfl
  | false=>
   have U:dz c.config.ak (fX c (fh c))=true:=Q5 h E (zC h.p.R.uC (.inr rfl) E);rw[Bool.not_false,aq,aq,Yg _ (by omega) (by omega),au];show ((jn c (fX c (fh c))).bind λC=>bif C then some (fX c (fh c))else _)=_;rw[zz h.p U,au,List.singleton_append,fnd_cons]
   grind
 ·grind
def awR{c:ax}(h:Pq c):Ko c (bV 0 c.aD.aB) (ir c) ⟨cP c,0,0,0⟩=some (uH c (qS c++(oy c++nN c))):=by
 have D:=Gs h;have E:=h.ql;have I:=h.p.bl;have O:=h.dl;have T:=vN h.rf;have C:c.aN.aI.length=c.aD.aB.length:=by omega
 have e:=eV (step:=Kn) c.aN.aI.length (λi=>((bV 0 c.aD.aB,ir c,(),(),(),(),(c.aN.aI.length:Int),(i:Int),()),(c,(cP c,(0:Int),(0:Int),(0:Int),()),((0:Int),(0:Int),(0:Int),(0:Int),()),(List.range i).map (zH c),()))) _ bq (λk U=>by
  unfold Kn aE xG;dsimp only;rw[bf,aq,XW _ _ (by rw[DL];omega),au,fy,dw,List.length_singleton,eE,aq,bN,List.range_succ,List.map_append];rfl) (by
  unfold Kn aE xG;dsimp only;rw[br,av]) (bS)
 rw[cY]at e;unfold Ko bR xL
 refine(bB (λo=>Option.bind o _) e).trans ?_
 rw[au,C];exact awQ h
def awS{c:ax}(h:Pq c):(nN c).length <= 1 /\ ∀ x∈nN c,dz c.config.ak x=true:=by
 have Y:=DO c;have D:=h.p.R.uC;have E:(bif cP c != 0 then [(⟨cP c,0,0,0⟩:aT)]else []).length <= 1 /\ ∀ x∈(bif cP c != 0 then [⟨cP c,0,0,0⟩]else []),dz c.config.ak x=true:=by
  by_cases I:cP c=0
  ·simp_all
  ·rw[fR I];exact⟨dg _,λx C=>by rw[iw.1 C];exact QK D (by omega)⟩
 unfold nN;cases cP c==8 with
 |false=>exact E
 | true=>
  by_cases O:0<(opens 0 c.aN.aI).length
  ·have⟨T,U⟩:=aih c h O;rw[bf,U];exact⟨dg _,λx C=>by rw[iw.1 C];exact zC D (.inl rfl) T⟩
  ·simp_all
def awT{c:ax}(h:Pq c):(oy c).length <= 1 /\ ∀ x∈oy c,dz c.config.ak x=true:=by
 have E:=h.p.bl;have hb:-1 <= mS c/\mS c<c.aN.aI.length:=aic _ _ _;unfold oy;by_cases C:mS c >= 0
 ·rw[bf C];exact⟨dg _,λx D=>by rw[iw.1 D];exact zC h.p.R.uC (.inl rfl) (by omega)⟩
 ·grind
def DP(c:ax):aj aT:=(Gv c++Gw c c.pending.length).find? (de c)
def fJ(c:ax):aT×Int:=
 bif c.aR.state != 0 then (bif cP c != 0 then (bif de c ⟨cP c,0,0,0⟩then (⟨cP c,0,0,0⟩,-1)else (uE,-1))else (uE,-1))else
 match DP c with
 |some x=>(x,-1)
 |none=>bif decide ((pL c).2 >= 0)then pL c else (uH c (qS c++(oy c++nN c)),-1)
def awU(p:Nat -> Bool)(n:Nat):fH p (List.range n) <= n/\(∀ k,k<fH p (List.range n) -> p k=false)/\(fH p (List.range n)<n -> p (fH p (List.range n))=true):=by
 have C:=Ge p (List.range n);rw[dw]at C
 refine⟨C,λk D=>?_,λE=>?_⟩
 ·have:=vL D (by rw[dw];omega);simp_all
 ·have:=BO (p:=p) (q:=List.range n) (by rw[dw];exact E)
  rwa [jD]at this
def awV(c:ax)(n:Nat):(Gw c n).find? (de c)=if fH (λi=>rP c i&&de c (jA c i)) (List.range n)<n then some (jA c (fH (λi=>rP c i&&de c (jA c i)) (List.range n)))else none:=by
 unfold Gw;rw[List.find?_map,List.find?_filter];have e:(List.range n).find? (λa=>decide (rP c a=true/\(de c ∘ jA c) a=true))=(List.range n).find? (λi=>rP c i&&de c (jA c i)):=by
  simp_all
 rw[e];rcases Yf (λi=>rP c i&&de c (jA c i)) (List.range n)with ⟨C,D⟩|⟨C,D⟩
 ·simp_all
 ·grind
def awW{c:ax}(h:Pq c):PI c=some (fJ c):=by
 have Z:=h.p.R.uC;have hw:=DO c;have zV:=h.pl;have K0:=vN h.rf;have ul:=XO 0 c.aD.aB;have Dy:=h.p.bl;have hdn:=h.dl;unfold PI bY;rw[XP h.rf,au,ahw h.rf,au,avw _ _ _ h.cZ h.pw,au];have ew:xo c.box.bW.cZ c.aR (mO c)=cP c:=rfl;rw[ew];unfold fJ;cases c.aR.state != 0 with
 | true=>
  rw[aq,aq];by_cases T:cP c=0
  ·rw[T];rfl
  ·rw[fR T,aq,aq,zz h.p (QK Z (by omega)),au];cases de c ⟨cP c,0,0,0⟩<;>rfl
 | false=>
  rw[av,av];have vU:∀ (k:Nat) (C:k<(bV 0 c.aD.aB).length),Dp (((),(),(),(),(),((bV 0 c.aD.aB).length:Int),(k:Int),()),(c,((0:Int),(0:Int),(0:Int),(0:Int),()),bV 0 c.aD.aB,(cP c,(0:Int),(0:Int),(0:Int),()),()))=some (bif de c (fX c (bV 0 c.aD.aB)[k])then .inr (.inl (((),(-1:Int),()),(((fX c (bV 0 c.aD.aB)[k]).kind,(fX c (bV 0 c.aD.aB)[k]).ay,(fX c (bV 0 c.aD.aB)[k]).row,(fX c (bV 0 c.aD.aB)[k]).bZ,()),())))else .inl (((),(),(),(),(),((bV 0 c.aD.aB).length:Int),((k+1:Nat):Int),()),(c,((0:Int),(0:Int),(0:Int),(0:Int),()),bV 0 c.aD.aB,(cP c,(0:Int),(0:Int),(0:Int),()),()))):=by
   intro k C;have⟨k1,k2⟩:=Yi h (cX C);unfold Dp aE bk xG xL;dsimp only;rw[bf,aq,aK ⟨by omega,by omega⟩,aK];simp only[bz];rw[Yg _ (by omega) (by omega),au];show ((jn c (fX c (bV 0 c.aD.aB)[k])).bind _)=_;rw[zz h.p k2,au,bN];cases de c (fX c (bV 0 c.aD.aB)[k])<;>rfl
  have hfu:(Gv c).find? (de c)=((bV 0 c.aD.aB).find? (λb=>de c (fX c b))).map (fX c):=by
   unfold Gv;rw[List.find?_map];rfl
  unfold DP;rw[List.find?_append,hfu,awV];rcases Yf (λb=>de c (fX c b)) (bV 0 c.aD.aB)with ⟨I,U⟩|⟨I,U⟩
  ·have e:=eV (step:=Dp) (bV 0 c.aD.aB).length (λk=>(((),(),(),(),(),((bV 0 c.aD.aB).length:Int),(k:Int),()),(c,((0:Int),(0:Int),(0:Int),(0:Int),()),bV 0 c.aD.aB,(cP c,(0:Int),(0:Int),(0:Int),()),()))) (.inr (.inl (((),(),(),(),()),(c,((0:Int),(0:Int),(0:Int),(0:Int),()),bV 0 c.aD.aB,(cP c,(0:Int),(0:Int),(0:Int),()),())))) bq (λk C=>by
    have:=vL (p:=λb=>de c (fX c b)) (q:=bV 0 c.aD.aB) (i:=k) (by omega) C;rw[vU k C,this];rfl) (by
    unfold Dp aE bk xG xL;dsimp only;rw[br,av]) (bS)
   rw[cY]at e
   refine(bB (λo=>Option.bind o _) e).trans ?_
   rw[au,U];simp only[Sum.elim_inr,gq,Option.map_none,Option.none_or];have⟨i1,i2,i3⟩:=awU (λi=>rP c i&&de c (jA c i)) c.pending.length;have O:∀ (k:Nat) (C:k<c.pending.length),Dq (((),(),(),(),c.pending,(c.pending.length:Int),(k:Int),()),(c,((0:Int),(0:Int),(0:Int),(0:Int),()),bV 0 c.aD.aB,(cP c,(0:Int),(0:Int),(0:Int),()),()))=some (bif rP c k&&de c (jA c k)then .inr (.inl (((),(-1:Int),()),(((jA c k).kind,(jA c k).ay,(jA c k).row,(jA c k).bZ,()),())))else .inl (((),(),(),(),c.pending,(c.pending.length:Int),((k+1:Nat):Int),()),(c,((0:Int),(0:Int),(0:Int),(0:Int),()),bV 0 c.aD.aB,(cP c,(0:Int),(0:Int),(0:Int),()),()))):=by
    intro k C;have⟨ho,Y,o2,o3,o4⟩:=Yh h C;unfold Dq aE bk xG xI;dsimp only;rw[bf,aq,aK ⟨by omega,by omega⟩,bN];simp only[bz,Q6,(Ya K0.1 Y o3),au,Int.toNat_zero,List.drop_zero];have ek:rP c k=(!rO c (iX c k).ay && !((c.pending.take k).any λa=>a.ay==(iX c k).ay)):=rfl;rw[ek];cases rO c (iX c k).ay with
    |true=>rfl
    | false=>
     rw[av,aW ⟨by omega,by omega,by omega⟩,XW _ _ (by rw[kU];omega),au];cases (c.pending.take k).any λa=>a.ay==(iX c k).ay with
     |true=>rfl
     | false=>
      rw[av,Yg _ Y o2,au];show ((jn c (jA c k)).bind _)=_;rw[zz h.p (awJ h C)];cases de c (jA c k)<;>rfl
   by_cases E:fH (λi=>rP c i&&de c (jA c i)) (List.range c.pending.length)<c.pending.length
   ·rw[aW E];generalize hN:fH (λi=>rP c i&&de c (jA c i)) (List.range c.pending.length)=N at *
    have D:=eV (step:=Dq) N (λk=>(((),(),(),(),c.pending,(c.pending.length:Int),(k:Int),()),(c,((0:Int),(0:Int),(0:Int),(0:Int),()),bV 0 c.aD.aB,(cP c,(0:Int),(0:Int),(0:Int),()),()))) (.inl (((),(-1:Int),()),(((jA c N).kind,(jA c N).ay,(jA c N).row,(jA c N).bZ,()),()))) bq (λk C=>by
     rw[O k (by omega),i2 k C];rfl) (by
     rw[O N E,i3 E];rfl) (bS)
    rw[cY]at D
    refine(bB (λo=>Option.bind o _) D).trans ?_
    rfl
   ·rw[aX E];have D:=eV (step:=Dq) c.pending.length (λk=>(((),(),(),(),c.pending,(c.pending.length:Int),(k:Int),()),(c,((0:Int),(0:Int),(0:Int),(0:Int),()),bV 0 c.aD.aB,(cP c,(0:Int),(0:Int),(0:Int),()),()))) (.inr (.inl (((),(),(),(),()),(c,((0:Int),(0:Int),(0:Int),(0:Int),()),bV 0 c.aD.aB,(cP c,(0:Int),(0:Int),(0:Int),()),())))) bq (λk C=>by
     rw[O k C,i2 k (by omega)];rfl) (by
     unfold Dq aE bk xG xI;dsimp only;rw[br,av]) (bS)
    rw[cY]at D
    refine(bB (λo=>Option.bind o _) D).trans ?_
    rw[au];simp only[Sum.elim_inr,gq];rw[av5 h,au,awI h,au];cases decide ((pL c).2 >= 0)with
    |true=>rfl
    | false=>
     rw[av,av];show ((Ko c (bV 0 c.aD.aB) (ir c) ⟨cP c,0,0,0⟩).bind _)=_;rw[awR h,au]
  ·have e:=eV (step:=Dp) (fH (λb=>de c (fX c b)) (bV 0 c.aD.aB)) (λk=>(((),(),(),(),(),((bV 0 c.aD.aB).length:Int),(k:Int),()),(c,((0:Int),(0:Int),(0:Int),(0:Int),()),bV 0 c.aD.aB,(cP c,(0:Int),(0:Int),(0:Int),()),()))) (.inl (((),(-1:Int),()),(((fX c (bV 0 c.aD.aB)[fH (λb=>de c (fX c b)) (bV 0 c.aD.aB)]).kind,(fX c (bV 0 c.aD.aB)[fH (λb=>de c (fX c b)) (bV 0 c.aD.aB)]).ay,(fX c (bV 0 c.aD.aB)[fH (λb=>de c (fX c b)) (bV 0 c.aD.aB)]).row,(fX c (bV 0 c.aD.aB)[fH (λb=>de c (fX c b)) (bV 0 c.aD.aB)]).bZ,()),()))) bq (λk C=>by
    have:=vL (p:=λb=>de c (fX c b)) (q:=bV 0 c.aD.aB) (i:=k) C (by omega);rw[vU k (by omega),this];rfl) (by
    have:=BO (p:=λb=>de c (fX c b)) (q:=bV 0 c.aD.aB) I;rw[vU _ I,this];rfl) (bS)
   simp_all
def Q8{r:cg}{x:aT}(C:x.kind <= 5):(cH r x).aR=r.aR:=by
 unfold cH
 grind
def fN.bU{c:ax}(p:fN c)(x:aT):fN (bU c x):=⟨p.dl,p.tl,p.gl,p.t,p.g,p.pd,p.u⟩
def Ck.bU{c:ax}(h:Ck c){x:aT}(C:nG c.config.ak c.aN x=true)(D:x.kind<=5)(E:c.trace.length<2000):Ck (bU c x):=by
 simp only[nG,aM]at C;exact⟨h.f1,h.f2,h.nw,ag2 C.1 C.2.1 C.2.2,ah7 _ h.rd,h.ar,h.sp,h.se,h.rf,((fN.of h.pa).bU x).ok,h.qu,h.sh,h.sl,h.dr,h.pw,h.ps.trans (Q8 D).symm,h.si,h.s1,h.s2,h.s3,h.er,by simp[Proofs.YtpigmalhjkekiaaGreat.bU];omega,h.rp⟩
def Ck.Yk{c:ax}(h:Ck c){x:aT}(E:0 <= x.ay)(I:x.ay<aJ c.config.ak)(O:0 <= x.row)(T:x.row<c.config.ak.rows):Ck (vP c x):=by
 have C:=(xm h.rk).1;have gb:=fL C;have p:=fN.of h.pa;have zF:=p.tl;have hgl:=p.gl;have U:x.ay.toNat<c.bA.length:=by omega
 have D:eY c.config.ak 100000 (rI c.config.ak c.config.di c.array x.ay x.row):=XJ C c.config.di (by decide) (eY.sV h.ar) E I O T;have Y:∀a∈rK c x,dU c.config.ak a=true/\a.bZ=0:=λa D=>p.pd a (List.mem_filter.1 D).1
 have Z:(rK c x).Pairwise (λx y=>x≠y):=p.u.filter _;have q:(∀ a∈(vP c x).pending,dU c.config.ak a=true/\a.bZ=0)/\(vP c x).pending.Pairwise (λx y=>x≠y):=by
  show (∀a∈(bif (sS c x).2 then (iN c.config.ak.rows x.row).foldl (jz x.ay) (rK c x)else rK c x),dU c.config.ak a=true/\a.bZ=0)/\(bif (sS c x).2 then (iN c.config.ak.rows x.row).foldl (jz x.ay) (rK c x)else rK c x).Pairwise (λx y=>x≠y);cases (sS c x).2 with
  |false=>simp_all
  | true=>
   refine ah2 _ (λn hn=>?_) Y Z
   have:=ahb O T n hn;exact xd C E I this.1 this.2 (eW 0) (by show 0<_;omega)
 have hp:fN (vP c x):=⟨p.dl,by show ((c.bA.set x.ay.toNat (sS c x).1).length:Int)=_;rw[gR];exact p.tl,p.gl,Gu p.t (by unfold sS;rw[gQ _ U];exact awp (p.t _ (cX U)) _ _),p.g,q.1,q.2⟩
 exact⟨h.f1,h.f2,h.nw,h.rk,h.rd,zG C D,h.sp,h.se,h.rf,hp.ok,h.qu,h.sh,h.sl,h.dr,h.pw,h.ps,h.si,h.s1,h.s2,h.s3,h.er,h.tr,h.rp⟩
def Ck.ref{c:ax}(h:Ck c)(hl:c.box.bW.weights.length<1073741823)(E:aP c.config.gV 1 16=true){b:Int}(I:0 <= b)(O:b<aJ c.config.ak):Ck (Lq c b):=by
 have C:=(xm h.rk).1;have gb:=fL C;have p:=fN.of h.pa;have U:=p.dl;have D:eY _ 100000 (fW _ c.config.di c.array b c.config.ak.rows.toNat):=Lj C _ (by decide) (eY.sV h.ar) I O _ (by omega);have T:fN (Lq c b):=⟨by show ((mQ c.aD b).aB.length:Int)=_;rw[ahV];exact p.dl,by show ((c.bA.set b.toNat _).length:Int)=_;rw[gR];exact p.tl,by show ((c.guard.set b.toNat _).length:Int)=_;rw[gR];exact p.gl,Gu p.t (ah3 E),Gu p.g (Q3 hl h.f1),λa D=>p.pd a (List.mem_filter.1 D).1,p.u.filter _⟩
 exact⟨h.f1,h.f2,h.nw,h.rk,h.rd,zG C D,h.sp,h.se,aww h.rf (by omega),T.ok,h.qu,h.sh,h.sl,h.dr,h.pw,h.ps,h.si,h.s1,h.s2,h.s3,h.er,h.tr,h.rp⟩
def Yl{T:Type}{p:T->Prop}{l:aa T}{x:T}(h:∀ y∈l,p y)(C:p x):∀ k:Nat,∀ y∈(List.range k).foldl (λd b=>d.set b x) l,p y
 |0=>h
 | k+1=>by
  rw[pz];exact Gu (Yl h C k) C
def aii{r:dI}(h:fD r=true):∀ k:Nat,fD ⟨(List.range k).foldl (λd b=>d.set b 0) r.aB,r.wait,r.dP⟩=true
 |0=>h
 | k+1=>by
  rw[pz];exact aib (aii h k) k (by omega)
def Ck.X0{c:ax}(h:Ck c)(hl:c.box.bW.weights.length<1073741823)(E:aP c.config.gV 1 16=true)(n:Nat)(I:(n:Int) <= aJ c.config.ak):Ck (jg c n []):=by
 have D:=(xm h.rk).1;have p:=fN.of h.pa;have C:=QN D c.config.di (by decide) (eY.sV h.ar) n I;have O:fN (jg c n []):=⟨by show (((List.range n).foldl _ c.aD.aB).length:Int)=_;rw[xu];exact p.dl,by show (((List.range n).foldl _ c.bA).length:Int)=_;rw[xu];exact p.tl,by show (((List.range n).foldl _ c.guard).length:Int)=_;rw[xu];exact p.gl,Yl p.t (ah3 E) n,Yl p.g (Q3 hl h.f1) n,λa C=>(by cases C),List.Pairwise.nil⟩
 exact⟨h.f1,h.f2,h.nw,h.rk,h.rd,zG D C,h.sp,h.se,aii h.rf n,O.ok,h.qu,h.sh,h.sl,h.dr,h.pw,h.ps,h.si,h.s1,h.s2,h.s3,h.er,h.tr,h.rp⟩
def Ck.acc{c:ax}(h:Ck c){i:Nat}(C:qP c i 100000)(hr:c.bF.length<400):Ck (gH c i):=by
 have T:=(xm h.rk).1;have p:=fN.of h.pa;have hi:=C.i;have⟨f1,f3,f4,f5,f6,f7,f8⟩:=C.facts (cX hi);have D:c.queue.getD i mR=c.queue[i]:=gQ _ hi;have E:=C.d _ (cX hi);have U:=C.shl;have I:iM (DM c.shares c.queue[i].eG)=true/\((DM c.shares c.queue[i].eG).length:Int)=4:=by
  have⟨y,t,e,hl,ho⟩:=awv ((List.replicate 4 false).set c.queue[i].eG.toNat true) (by omega) h.sh (by simp[U])
  grind
 have Y:gK (dB (dN c.config.ak c.spare)) (c.queue.take i++c.queue.drop (i+1))=true:=((Qk.of h.qu).sub (ah8 _ _)).ok;have key:∀ (a:cL) (e:aa cr) (x:ey),eY c.config.ak 100000 a -> nE e=true -> Ck (rN c i a e x):=λa e x Z he=>
  ⟨h.f1,h.f2,h.nw,h.rk,h.rd,zG T Z,h.sp,h.se,h.rf,(show fN (rN c i a e x)from ⟨p.dl,p.tl,p.gl,p.t,p.g,p.pd,p.u⟩).ok,Y,by unfold rN;rw[D];exact I.1,by unfold rN;rw[D];exact I.2,h.dr,h.pw,h.ps,h.si,h.s1,h.s2,h.s3,he,h.tr,by simp[rN];omega⟩
 unfold gH;rw[D];dsimp only;cases c.queue[i].write with
 |true=>exact key _ _ _ (C.a.DD _ (c:=⟨_,false⟩) (Gl E.1 E.2).2.1) h.er
 | false=>
  have O:=C.a.syms _ (cX f4);rw[av,gQ _ f4];refine key _ _ _ (C.a.DD _ (X3 O)) ?_;have Q9:=X7 O;by_cases e:jh c.array.cells[dG c.config.ak (cW c c.queue[i].line)]=0
  ·rw[e];exact h.er
  ·rw[fR e,aq];exact ah9 h.er ⟨by omega,f5⟩ (by omega)
def Ck.Ra{c:ax}(h:Ck c){x:aT}(C:nG c.config.ak c.aN x=true)(D:6 <= x.kind/\x.kind <= 9)(U:c.trace.length<2000):Ck (BU (Proofs.YtpigmalhjkekiaaGreat.bU c x) x.kind):=by
 simp[nG,aM]at C;have E:=bu.1 h.nw;have⟨I,O,T⟩:=awx h.pw h.ps h.si E.2 D C.2.2;have p:=fN.of h.pa;exact⟨h.f1,h.f2,h.nw,ag2 C.1 C.2.1 C.2.2,ah7 _ h.rd,h.ar,h.sp,h.se,h.rf,(show fN _ from ⟨p.dl,p.tl,p.gl,p.t,p.g,p.pd,p.u⟩).ok,h.qu,h.sh,h.sl,h.dr,I,O,T,h.s1,h.s2,h.s3,h.er,by simp[BU,ahT,Proofs.YtpigmalhjkekiaaGreat.bU];omega,h.rp⟩
def Ck.Ym{c:ax}(I:cv c)(h:Ck c){x:aT}{i:Int}(E:kT c x i=true):Ck (cN c x i):=by
 have Y:=Pq.of I h.ok;have O:c.box.bW.weights.length<1073741823:=by
  have:=I.1.1;unfold Gb at this;omega
 have Z:aP c.config.gV 1 16=true:=by
  have:=(BR O h.f1).1;simp[nD,aM]at this;exact this.2.2.2.2.2.1
 have⟨hb,C,hs,hr⟩:=xF I Y E;have D:c.trace.length<2000:=by
  simp only[kT,aM,gd,pZ]at E;omega
 have Rb:x.kind=2 \/ x.kind=3 -> c.bF.length<400:=λT=>by
  simp only[kT,aM]at E;have e:(x.kind==2 ||x.kind==3)=true:=by rcases T with q|q<;>rw[q]<;>rfl
  rw[e,aq]at E;simp[Lv,aM,gB]at E;omega
 have⟨hg,hlen,T,sW⟩:=uv C;have hc:dz c.config.ak x=true:=by
  simp only[nG,aM]at C
  grind
 have zF:=(fN.of h.pa).tl;have jc:=Y.p.bl;unfold cN;rcases kinds T with q|q|q|q|q|q|q|q|q<;>rw[q]<;>simp only[Int.reduceBEq,Int.reduceBNe,aq,av,Bool.or_true,Bool.or_false,Bool.true_or,Bool.false_or,Bool.or_self]
 ·have⟨U,vA⟩:=sW (by omega);have⟨r0,r1⟩:=Gt hc q;exact(h.bU C (by omega) D).Yk U (by show x.ay<aJ c.config.ak;omega) r0 r1
 ·exact(h.bU C (by omega) D).acc ((hs (.inl q)).1.bU x) (Rb (.inl q))
 ·exact(h.bU C (by omega) D).acc ((hs (.inr q)).1.bU x) (Rb (.inr q))
 ·exact h.bU C (by omega) D
 ·have⟨U,vA⟩:=sW (by omega);exact(h.bU C (by omega) D).ref O Z U (by show x.ay<aJ c.config.ak;omega)
 ·have:=h.Ra C (by omega) D;rw[q]at this;exact this
 ·have:=h.Ra C (by omega) D;rw[q]at this;exact this
 ·have:=h.Ra C (by omega) D;rw[q]at this;exact this
 ·have:=h.Ra C (by omega) D;rw[q]at this;exact this.X0 O Z _ (by show (c.bA.length:Int) <= aJ c.config.ak;omega)
def Adv(n:Int)(c y:ax):Prop:=(y.trace=c.trace/\y.aN=c.aN/\y.ready=c.ready)\/∃x,y.trace=c.trace++[⟨n,x⟩]/\y.aN=cH c.aN x/\y.ready=gG c.config.ak c.ready ⟨n,x⟩/\dz c.config.ak x=true/\lG c.aN x=true/\mN c.config.ak c.config.bQ c.ready x<=n
def Nx(c y:ax):Prop:=y.now=c.now/\y.config=c.config/\y.queue.Sublist c.queue/\(∀r∈y.bF,r∈c.bF\/∃q∈c.queue,r.id=q.id)/\Adv c.now c y/\y.queue.length+y.bF.length=c.queue.length+c.bF.length
def Nx.refl(c:ax):Nx c c:=⟨rfl,rfl,List.Sublist.refl _,λr C=>.inl C,.inl ⟨rfl,rfl,rfl⟩,rfl⟩
def aij{c:ax}{x:aT}(C:dz c.config.ak x=true/\lG c.aN x=true/\mN c.config.ak c.config.bQ c.ready x<=c.now){i:Nat}(hi:i<c.queue.length):Nx c (gH (bU c x) i):=by
 have key:∀ (a:cL) (e:aa cr) (t:ey),t.id=c.queue[i].id->Nx c (rN (bU c x) i a e t):=λa e t D=>by
  refine⟨rfl,rfl,ah8 _ _,λr hr=>?_,.inr ⟨x,rfl,rfl,rfl,C⟩,?_⟩
  ·rcases List.mem_append.1 hr with hr | hr
   ·exact .inl hr
   ·rw[iw.1 hr];exact .inr ⟨_,cX hi,D⟩
  ·show (c.queue.take i++c.queue.drop (i+1)).length+(c.bF++[t]).length=_;rw[List.length_append,List.length_append,kU,List.length_drop,List.length_singleton];omega
 have E:(bU c x).queue.getD i mR=c.queue[i]:=gQ _ hi;unfold gH;rw[E];dsimp only;cases c.queue[i].write with
 |true=>exact key _ _ _ rfl
 |false=>exact key _ _ _ rfl
def awX{c:ax}{x:aT}{i:Int}(D:kT c x i=true)(Y:1<=x.kind/\x.kind<=9)(I:x.kind=2\/x.kind=3->i.toNat<c.queue.length):Nx c (cN c x i):=by
 have E:dz c.config.ak x=true/\lG c.aN x=true/\mN c.config.ak c.config.bQ c.ready x<=c.now:=by
  simp only[kT,de,aM,gB]at D;exact⟨D.1,D.2.1.1,D.2.1.2.2⟩
 have C:∀y:ax,y.now=c.now->y.config=c.config->y.queue=c.queue->y.bF=c.bF->y.trace=c.trace++[⟨c.now,x⟩]->y.aN=cH c.aN x->y.ready=gG c.config.ak c.ready ⟨c.now,x⟩->Nx c y:=λy Z h2 O T h5 h6 h7=>⟨Z,h2,by rw[O];exact List.Sublist.refl _,λr U=>by rw[T]at U;exact .inl U,.inr ⟨x,h5,h6,h7,E⟩,by rw[O,T]⟩
 unfold cN;rcases kinds Y with q|q|q|q|q|q|q|q|q<;>rw[q]<;>simp only[Int.reduceBEq,Int.reduceBNe,aq,av,Bool.or_true,Bool.or_false,Bool.true_or,Bool.false_or,Bool.or_self]
 ·exact C _ rfl rfl rfl rfl rfl rfl rfl
 ·exact aij E (I (.inl q))
 ·exact aij E (I (.inr q))
 ·exact C _ rfl rfl rfl rfl rfl rfl rfl
 ·exact C _ rfl rfl rfl rfl rfl rfl rfl
 ·exact C _ rfl rfl rfl rfl rfl rfl rfl
 ·exact C _ rfl rfl rfl rfl rfl rfl rfl
 ·exact C _ rfl rfl rfl rfl rfl rfl rfl
 ·exact C _ rfl rfl rfl rfl rfl rfl rfl
def uI(d:Int):Int:=if (5:Int)<W6 (d+1)then 5 else W6 (d+1)
def awY(q:aa aU)(w:Bool)(hl:q.length<1073741824):∃ n,Fy q w=some n:=by
 unfold Fy bR;have e:=eV (step:=J3) q.length (λi=>((w,(((q.take i).countP λr=>r.write==w:Nat):Int),q,(q.length:Int),(i:Int),()),())) (.inl (((((q.take q.length).countP λr=>r.write==w:Nat):Int),()),())) bq (λk C=>by
  have D:=List.countP_le_length (p:=λr:aU=>r.write==w) (l:=q.take k);rw[kU]at D;unfold J3 aE xG xI;dsimp only;rw[bf,aq,aK ⟨by omega,by omega⟩,bN];simp only[bz];rw[Dv C,List.countP_append,List.countP_singleton];cases q[k].write==w with
  |true=>rw[ bN];rfl
  |false=>rw[ bN];rfl) (by
  unfold J3 aE xG xI;dsimp only;rw[br,av]) (bS)
 rw[cY]at e;exact⟨_,(bB (λo=>Option.bind o _) e).trans rfl⟩
def awZ{d:lM}(h:o7 d=true)(n:Int):∃ y,Fx d n=some y/\o7 y=true:=by
 unfold Fx;rw[Qp,au,h,bE];cases decide (n >= d.high)with
 |true=>exact⟨_,rfl,h⟩
 | false=>
  cases decide (n <= d.low)with
  |true=>exact⟨_,rfl,h⟩
  |false=>simp_all
def aw0(b:jE)(h:K3 b)(x:Bool):∃ t,J5 b x=some (bif t then ⟨b.next,b.next,false⟩else b,t):=by
 have C:b.next.weights.length <= 1048576:=h.2
 unfold J5;rw[XF b h];cases x with
 |false=>simp_all
 | true=>
  cases b.waits with
  |false=>simp_all
  | true=>
   refine⟨true,?_⟩;unfold ue xA xZ;rw[ou _];rfl
def aw1{c:eo}{p:cR}(hl:p.weights.length<1073741823)(h:mL c p=true):∃ l t,zg p.weights=some (l,t)/\iM l=true/\(l.length:Int)=4/\o7 ⟨false,p.low,p.high⟩=true:=by
 have⟨_,f2⟩:=BR hl h;simp[qM,aM,eZ]at f2;have⟨f3,f4,f5,f6,f7,f8,f9⟩:=f2;refine⟨p.weights.map jP,true,?_,f8,by rw[fy];exact f7,f6⟩;rw[Xf _ hl];unfold vG;simp_all
def aw2{s:qT}{n:Int}(C:aP s.every 1 100000=true)(E:aP s.wait 1 s.every=true)(D:aP s.next 0 (W6 (n-1))=true)(Z:1<=n/\n<=1000000):∃ y m,zm s n=some (y,m)/\aP y.every 1 100000=true/\aP y.wait 1 y.every=true/\aP y.next 0 (W6 (n-1))=true/\m<n:=by
 have T:=bu.1 C;have b2:=bu.1 E;have I:W6 (n-1)=n-1:=aZ;have U:=bu.1 D;rw[I]at U;unfold zm;rw[cV,au,C,bE,av,cV,au,E,bE,av,br,av,cV,au,D,bE,av,aZ (n:=s.wait-1)];by_cases O:s.wait-1 > 0
 ·rw[bf O,aq];exact⟨_,_,rfl,C,bu.2 ⟨by dsimp only;omega,by dsimp only;omega⟩,D,by omega⟩
 ·rw[br O,av,aX,aZ (n:=s.next+1)];refine⟨_,_,rfl,C,bu.2 ⟨T.1,eW _⟩,?_,by omega⟩;rw[I,rT (by omega)];have Y:=Int.emod_nonneg (s.next+1) (show n≠0 by omega);have e2:=Int.emod_lt_of_pos (s.next+1) (show 0<n by omega);exact bu.2 ⟨Y,by dsimp only;omega⟩
def vW(c:ax)(b:jE)(a:cL)(r:dI)(s:aa cQ)(d:lM)(p:iF)(u:qT):ax:=⟨c.config,b,W6 (c.now+1),c.aN,c.ready,a,c.spare,r,c.bA,c.guard,c.pending,c.queue,s,d,p,u,c.errors,c.trace,c.bF⟩
def Rc(x:ax):aj ax:=(ug x).bind λC=>bif (C.1.kind != (0:Int))then (uh x C.1 C.2).bind λD=>some D.1 else some x
def Rd(x:ax)(n:Int):aj ax:=bif (decide (n >= (0:Int)))then (zo x n).bind λC=>(zn C.2.1 n C.1.2).bind λD=>Rc D.2.1 else Rc x
def stepT(c:ax)(r:dI)(a:cL):aj ax:=(Fy c.queue true).bind λT=>(Fx c.drain T).bind λI=>(Bb (vW c c.box a r c.shares I c.aR c.dJ)).bind λU=>(Fz c.aR U).bind λO=>(J5 c.box ((c.queue.length:Int)==(0:Int))).bind λC=>bif C.2 then (zg C.1.bW.weights).bind λY=>(ud c.config.ak).bind λE=>(zm c.dJ E).bind λD=>Rd (vW c C.1 a r Y.1 ⟨false,C.1.bW.low,C.1.bW.high⟩ O D.1) D.2 else (ud c.config.ak).bind λE=>(zm c.dJ E).bind λD=>Rd (vW c C.1 a r c.shares I O D.1) D.2
def xJ(r:dI)(n:Int):dI:=if 0<r.wait-1 then ⟨r.aB,r.wait-1,r.dP⟩else ⟨r.aB.map uI,bif r.dP then n / 2 else n,r.dP⟩
def aw3{t:c8}(h:jN t=true):2<=By t:=by
 have q:=Xc t;unfold zf at q;rw[KM,au,h,bE,av]at q;simp only[jN,aM,bT]at h;have k:∀ x∈o6 t,0<=x/\x<=1000:=λx C=>by
  have:=h.1 x C;simp only[zv,bu]at this;omega
 simp only[o6,List.forall_mem_cons]at k;injection q with q;rw[<-q];simp (disch:=omega) only [aZ];omega
def aw4{c:eo}{p:cR}(hl:p.weights.length<1073741823)(h:mL c p=true):2<=c.interval/\c.interval<=10000:=by
 have q:=(BR hl h).1;have t:=aw3 (Xe q).2.1;simp only[nD,aM,bu]at q;omega
def aw5{r:dI}(h:fD r=true){n:Int}(E:2<=n/\n<=10000):fD (xJ r n)=true/\(xJ r n).aB.length=r.aB.length:=by
 have hl:=vN h;have C:=Lh h;simp only[fD,aM,bu]at h;unfold xJ;split
 ·refine⟨?_,rfl⟩;simp only[fD,aM,bu];exact⟨h.1,by omega⟩
 ·refine⟨?_,fy _⟩;simp only[fD,aM,bT,BA,bu,fy,List.mem_map,forall_exists_index,and_imp,forall_apply_eq_imp_iff₂]
  refine⟨λd D=>?_,by omega,?_⟩
  ·have:=C d D;unfold uI;rw[aZ (n:=d+1)];split<;>omega
  ·cases r.dP<;>simp<;>omega
def aw6{r:dI}(h:fD r=true){n:Int}(D:2<=n/\n<=10000):O9 r n=some (xJ r n):=by
 have hl:=vN h;have I:=Lh h;have O:1<=r.wait/\r.wait<=10000:=by
  simp only[fD,aM,bu]at h;exact h.2.2
 have E:W6 (n.tdiv 2)=n / 2:=by rw[sX (by omega)];exact aZ
 unfold O9 zh xJ bR xA xZ;rw[eE (by simp;omega),aq,List.nil_append,au,F0 _ (by omega),au,h,bE,av,cV,au,bu.2 D,bE,av];dsimp only;rw[aZ (n:=r.wait-1)];by_cases C:r.wait-1 > 0
 ·rw[bf C,aq,aW C]
 ·rw[br C,av,aX C];have e:=eV (step:=J0) r.aB.length (λi=>((n,(),(),(),(r.aB.length:Int),(i:Int),()),((r.aB,r.wait,r.dP,()),((),(0:Int),false,()),((),r.wait-1,r.dP,()),([]:aa Int),upto uI r.aB i,()))) (.inl ((n,(),(),(),()),((r.aB,r.wait,r.dP,()),((),(0:Int),false,()),((),r.wait-1,r.dP,()),([]:aa Int),r.aB.map uI,()))) bq (λi hi=>by
   have hlen:=Qb uI r.aB i;unfold J0 aE xG xL;dsimp only;rw[bf,aq,aK ⟨by omega,by omega⟩,aK,aK ⟨by omega,by omega⟩,aK,bN];simp only[bz];rw[W0 uI r.aB i hi,<-W2 uI r.aB i hi];rfl) (by
   unfold J0 aE xG xL;dsimp only;rw[br,av,WZ]) (bS)
  rw[cY,agk]at e
  refine(bB (λo=>Option.bind o _) e).trans ?_
  rw[au];simp only[gq];rw[E];cases r.dP<;>rfl
def aik(a:cL):cL:=⟨a.cells,a.bh.map (oh 1),a.aY⟩
def aw7{g:aF}{a:cL}(h:lX g a=true):lX g (aik a)=true:=by
 have C:=eY.sV h
 refine zG (Xz h).1 ⟨C.cells,C.syms,(bB (λn:Nat=>(n:Int)) (fy _)).trans C.bh,C.aY,λx D=>?_,C.hit⟩
 obtain⟨y,E,rfl⟩:=List.mem_map.1 D;exact agA (C.FZ y E) (by decide)
def aw8{g:aF}{a:cL}(h:lX g a=true):J2 g a 1=some (aik a):=auQ (Xz h).1 (eY.sV h) (by decide) (by decide) (by decide)
def Yn{A T:Type}(f:Nat->A->T->aj A)(e:T):∀ (l:aa T) (k:Nat) (a:A),vJ f k (l++[e]) a=(vJ f k l a).bind λC=>f (k+l.length) C e
 | [],k,a=>by
  show (match f k a e with|some C=>some C|none=>none)=f k a e;cases f k a e<;>rfl
 | x :: l,k,a=>by
  show (match f k a x with|some C=>vJ f (k+1) (l++[e]) C|none=>none)=(match f k a x with|some C=>vJ f (k+1) l C|none=>none).bind λC=>f (k+(l.length+1)) C e
  cases f k a x with
  |none=>rfl
  | some C=>
   rw[show k+(l.length+1)=k+1+l.length by omega];exact Yn f e l (k+1) C
def ail{A T:Type}{f f':Nat->A->T->aj A}:∀ (l:aa T) (k:Nat) (a:A),(∀ i (h:i<l.length) a,f (k+i) a l[i]=f' (k+i) a l[i])->vJ f k l a=vJ f' k l a
 |[],_,_,_=>rfl
 | x :: l,k,a,h=>by
  have D:f k a x=f' k a x:=h 0 (Nat.zero_lt_succ _) a;show (match f k a x with|some C=>vJ f (k+1) l C|none=>none)=(match f' k a x with|some C=>vJ f' (k+1) l C|none=>none)
  rw[D];cases f' k a x with
  |none=>rfl
  | some C=>
   exact ail l (k+1) C λi hi b=>by
    have:=h (i+1) (Nat.succ_lt_succ hi) b;rw[show k+(i+1)=k+1+i by omega]at this;exact this
def aw9{l:aa dO}{e x:dO}:∀ {k:Nat},k<=l.length->Ga (l++[e]) k x=Ga l k x
 |0,_=>rfl
 | k+1,h=>by
  simp only[Ga];rw[List.getElem?_append_left (by omega)]
def aim(g:aF)(t:c8){l:aa dO}(e x:dO){k:Nat}(h:k<=l.length)(r:cg):fT g t (l++[e]) k r x=fT g t l k r x:=by
 unfold fT;rw[aw9 h,List.take_append_of_le_length h]
def axa(g:aF)(t:c8)(l:aa dO)(e:dO):runT g t (l++[e])=(runT g t l).bind λr=>fT g t l l.length r e:=by
 unfold runT;rw[Yn,fO,ail (f':=fT g t l) l 0 (xk g) λi hi a=>aim g t e _ (by omega) a];congr 1;funext r;exact aim g t e e (dg _) r
structure zI (g:aF) (t:c8) (l:List dO) (r:cg) (q:ef):Prop where
 tkR:runT g t l=some r
 tkF:ag8 g l=some r
 tkY:ag7 g l=q
 tkV:∀e∈l,Qx g e=true/\e.at_<=q.last.getD (iq g e.cmd).toNat (-1)
 tkA:q.bg=(pg l).drop ((pg l).length-4)
def zI.new(g:aF)(t:c8):zI g t [] (xk g) (BF g):=⟨rfl,rfl,rfl,λe h=>(by cases h),rfl⟩
def axb(g:aF)(t:c8){a b:aT}(c:aT)(C:a.kind=b.kind)(hb:a.kind<=5->a.ay=b.ay):ij g t a c=ij g t b c:=by
 have e:sR a c=sR b c:=by unfold sR;rw[C]
 unfold ij zy;rw[<-e,C];cases D:sR a c with
 |false=>rfl
 | true=>
  simp only[sR,aM,bu]at D;rw[hb D.1.2]
def axc{g:aF}{c:aT}(h:dz g c=true):(kR (iq g c).toNat).kind=c.kind/\((kR (iq g c).toNat).kind<=5->(kR (iq g c).toNat).ay=c.ay):=by
 obtain⟨_,D,hb,_⟩:=ur h;obtain⟨E,_⟩:=F7 h;have e:((iq g c).toNat:Int)=iq g c:=Int.toNat_of_nonneg E;have I:iq g c % 9+1=c.kind:=by unfold iq;omega
 unfold kR;dsimp only;rw[e,I]
 refine⟨rfl,λC=>?_⟩
 have O:aP c.kind 1 5=true:=bu.2 ⟨D.1,C⟩;rw[aW C];unfold iq;rw[O,aq];omega
def ain(g:aF)(t:c8)(l:aa Int)(c:aT):∀ (k:Nat),k<=l.length->∀ (i:Nat) (hi:i<l.length),i<k->0<=l[i]->l[i]+ij g t (kR i) c<=uA g t l c k
 |0,_,_,_,h,_=>absurd h (Nat.not_lt_zero _)
 | k+1,E,i,hi,h,C=>by
  rw[QF,QG (by omega)];by_cases e:i=k
  ·subst e;rw[br,av];unfold uz;split<;>omega
  ·have D:=ain g t l c k (by omega) i hi (by omega) C;cases decide (l[k]<0)with
   |true=>exact D
   | false=>
    rw[av];unfold uz;split<;>omega
def axd(g:aF)(t:c8)(r:ef)(c:aT):uA g t r.last c r.last.length<=mN g t r c:=by
 unfold mN uz;cases c.kind==1&&(r.bg.length:Int)==4 with
 |false=>exact eW _
 | true=>
  rw[aq];split<;>omega
def zI.gap{g:aF}{t:c8}{l:aa dO}{r:cg}{q:ef}(h:zI g t l r q)(E:jo g q=true){x:aT}{n:Int}(ha:mN g t q x<=n):∀ e∈l,e.at_+ij g t e.cmd x<=n/\e.at_<n:=λe I=>by
 obtain⟨O,T⟩:=h.tkV e I;obtain⟨D,h0,_⟩:=auE O;obtain⟨p0,p1⟩:=F7 D;have hl:=(F8 E).2.1;have C:(iq g e.cmd).toNat<q.last.length:=by omega
 rw[cK,bK C,Option.getD_some]at T;have U:=ain g t q.last x q.last.length (dg _) _ C C (by omega);have h4:=axd g t q x;obtain⟨Y,Z⟩:=axc D;rw[axb g t x Y Z]at U;have h5:=auy g t e.cmd x;omega
def axe(l:aa dO)(e:dO):pg (l++[e])=bif e.cmd.kind==1 then pg l++[e.at_]else pg l:=by
 unfold pg;rw[List.filter_append,List.map_append];cases h:e.cmd.kind==1<;>simp[List.filter_cons,h]
def axf{l:aa dO}{y:Int}(h:y∈pg l):∃ e∈l,e.at_=y:=by
 obtain⟨e,C,rfl⟩:=List.mem_map.1 h;exact⟨e,(List.mem_filter.1 C).1,rfl⟩
def uJ{T:Type}{l:aa T}{i:Nat}{x:T}(d:T)(h:i<l.length):(l.set i x).getD i d=x:=by
 rw[cK,List.getElem?_set_self h];rfl
def getD_set_ne{T:Type}{l:aa T}{i j:Nat}{x:T}(d:T)(h:i≠j):(l.set i x).getD j d=l.getD j d:=by
 rw[cK,List.getElem?_set_ne h,<-cK]
def zI.add{g:aF}{t:c8}{l:aa dO}{r:cg}{q:ef}(h:zI g t l r q)(hr:lF g r=true)(I:jo g q=true){x:aT}{n:Int}(C:dz g x=true)(T:lG r x=true)(ha:mN g t q x<=n)(hn:0<=n/\n<=1000000):zI g t (l++[⟨n,x⟩]) (cH r x) (gG g q ⟨n,x⟩):=by
 have E:=h.gap I ha;have hl:=(F8 I).2.1;obtain⟨p0,p1⟩:=F7 C;have hi:aP n 0 1000000=true:=bu.2 hn;have D:=h.tkA;have h1:Ga l l.length ⟨n,x⟩=true:=by
  cases e:l.length with
  |zero=>rfl
  | succ k=>
   simp only[Ga];rw[bK (by omega)];exact bf (E _ (cX (by omega))).2
 have h2:Xu g t l ⟨n,x⟩=false:=by
  unfold Xu
  refine l8.2 λe he=>?_
  have:=(E e he).1;rw[gB];dsimp only;omega
 have h3:(x.kind==1&&Xv t (pg l) n)=false:=by
  cases U:x.kind==1 with
  |false=>rfl
  | true=>
   rw[cw];unfold Xv;by_cases O:4<=(pg l).length
   ·have e4:q.bg.length=4:=by rw[D,List.length_drop];omega
    have e0:q.bg.getD 0 0=(pg l).getD ((pg l).length-4) 0:=by
     rw[D,cK,List.getElem?_drop,Nat.add_zero,<-cK]
    have e5:q.bg.getD 0 0+t.mg<=mN g t q x:=by
     unfold mN uz;rw[U,e4,show ((4:Nat):Int)==4 from rfl,Bool.and_self,aq];split<;>omega
    rw[<-e0,br (show ¬ n-q.bg.getD 0 0<t.mg by omega),Bool.and_false]
   ·rw[br O,Bool.false_and]
 have O:(x.kind==1&&uw q n)=false:=by
  cases U:x.kind==1 with
  |false=>rfl
  | true=>
   rw[cw];unfold uw;cases hL:q.bg.getLast? with
   |none=>rfl
   | some y=>
    have Y:y∈q.bg:=List.mem_of_getLast? hL;rw[D]at Y;obtain⟨e,he,rfl⟩:=axf (List.mem_of_mem_drop Y);exact br (by have:=(E e he).2;omega)
 have Z:gG g q ⟨n,x⟩=⟨q.last.set (iq g x).toNat n,bif x.kind==1 then BE q.bg n else q.bg⟩:=by
  unfold gG;dsimp only;rw[I,C,hi,O];rfl
 refine⟨?_,?_,?_,?_,?_⟩
 ·rw[axa,h.tkR,Option.bind_some];unfold fT;dsimp only;rw[C,hi,h1,T,List.take_length,h2,h3];rfl
 ·have e:=h.tkF;unfold ag8 at e ⊢;rw[Yn,e,Option.bind_some];unfold fE nG;dsimp only;rw[hr,C,T];rfl
 ·have e:=h.tkY;unfold ag7 at e ⊢;rw[List.foldl_append,e];rfl
 ·rw[Z];dsimp only;intro e he;rcases List.mem_append.1 he with he | he
  ·obtain⟨e1,e2⟩:=h.tkV e he;refine⟨e1,?_⟩;by_cases ep:(iq g x).toNat=(iq g e.cmd).toNat
   ·rw[<-ep,uJ _ (by omega)];have:=(E e he).2;omega
   ·rw[getD_set_ne _ ep];exact e2
  ·obtain rfl:=iw.1 he;dsimp only;rw[uJ _ (by omega)];refine⟨?_,eW _⟩;unfold Qx;rw[C,hi];rfl
 ·rw[Z,axe];dsimp only;cases x.kind==1 with
  |false=>exact D
  | true=>
   rw[aq,aq];unfold BE;rw[D,List.length_append,List.length_singleton,List.length_drop];by_cases hs:(pg l).length<=3
   ·rw[show (pg l).length-4=0 by omega,List.drop_zero];rfl
   ·rw[<-List.drop_append_of_le_length (l₂:=[n]) (show (pg l).length-4<=(pg l).length by omega),List.drop_drop];congr 1;omega
def Re(c:ax):Prop:=zI c.config.ak c.config.bQ c.trace c.aN c.ready
def Rf(R:Nat)(M:Int)(m:aa Int)(b j:Nat):Prop:=m.getD (b*R+j) 0=(j:Int)\/((R:Int)<=m.getD (b*R+j) 0/\m.getD (b*R+j) 0<=M/\∀k,k<j->m.getD (b*R+k) 0≠m.getD (b*R+j) 0)
def Lz{m:aa Int}{R b k:Nat}(C:k<R)(hl:(b+1)*R <= m.length):(fG m R b)[k]?=some (m.getD (b*R+k) 0):=by
 rw[iZ]at hl;rw[F4,List.getElem?_take_of_lt C,List.getElem?_drop,bK (by omega),gQ]
def aio{R:Nat}{M:Int}{m:aa Int}{b j:Nat}(D:j<R)(hl:(b+1)*R <= m.length):xj (R:Int) M (fG m R b) j=true ↔ Rf R M m b j:=by
 unfold xj Rf;rw[Lz D hl];simp only[dY,aM,eZ,bu,gd,l8];have key:(∀ x∈(fG m R b).take j,¬ x=m.getD (b*R+j) 0) ↔ ∀ k,k<j -> m.getD (b*R+k) 0≠m.getD (b*R+j) 0:=by
  constructor
  ·intro h k C;refine h _ ?_;rw[List.mem_iff_getElem?];exact⟨k,by rw[List.getElem?_take_of_lt C,Lz (by omega) hl]⟩
  ·intro h x E;have⟨k,C⟩:=List.mem_iff_getElem?.1 E;have I:k<j:=by
    grind
   rw[List.getElem?_take_of_lt I,Lz (by omega) hl]at C
   grind
 rw[key,and_assoc]
structure Sp (g:aF) (s:eP) (bn R:Nat):Prop where
 sb:jO g s.bL=true
 hb:aJ g=(bn:Int)
 hR:g.rows-s.bL=(R:Int)
 hl:s.map.length=bn*R
 f:∀b,b<bn->∀j,j<R->Rf R (g.rows-1) s.map b j
def Sp.of{g:aF}{s:eP}(h:kQ g s=true):∃ C R,Sp g s C R:=by
 have⟨_,hg,_,_,E,h2,h3,h4⟩:=Gi h;have Y:=eI g;simp only[kQ,aM,eZ,bT,fS]at h;have⟨Z,hl,O⟩:=h;have⟨R,hR⟩:=dH (show 0 <= g.rows-s.bL by omega);have⟨C,I⟩:=dH Y.1;rw[hR,I,bz,bz]at hl;have hl:s.map.length=C*R:=by exact_mod_cast hl
 rw[hR,I,bz,bz]at O
 refine⟨C,R,Z,I,hR,hl,λb hb j D=>?_⟩
 have T:(b+1)*R <= s.map.length:=by rw[hl];exact iP R hb
 have U:=F5 T;have e:=Xm (R:Int) (g.rows-1) (fG s.map R b) (by rw[U]);rw[U]at e;have E:=bT.2 λj D=>O b hb j (fS.1 D)
 rw[e]at E;exact(aio D T).1 (bT.1 E j (fS.2 D))
def Sp.ok{g:aF}{s:eP}{I R:Nat}(h:Sp g s I R):kQ g s=true:=by
 have⟨O,T,hR,hl,U⟩:=h;simp only[kQ,aM,eZ,bT,fS];rw[hR,T,bz,bz]
 refine⟨O,by exact_mod_cast hl,λb hb=>?_⟩
 have C:(b+1)*R <= s.map.length:=by rw[hl];exact iP R hb
 have D:=F5 C;have e:=Xm (R:Int) (g.rows-1) _ (by rw[D]);rw[D]at e;have Y:=bT.2 λj E=>(aio (fS.1 E) C).2 (U b hb j (fS.1 E))
 simp_all
def axg{R b c r j:Nat}(C:r<R)(E:j<R)(h:b*R+r=c*R+j):b=c/\r=j:=by
 have key:∀ {b c r j:Nat},r<R -> b*R+r=c*R+j -> ¬ b<c:=λ{b c r j} C h D=>by
  have:=iP R (show b+1 <= c from D)
  grind
 grind
def Rg{m:aa Int}{p:Nat}(C:p<m.length)(i:Int)(q:Nat):(m.set p i).getD q 0=if q=p then i else m.getD q 0:=by grind
def Sp.set{g:aF}{s:eP}{D R:Nat}(h:Sp g s D R){b r:Nat}(hb:b<D)(I:r<R){i:Int}(U:(R:Int) <= i)(Y:i <= g.rows-1)(hn:∀ k,k<R -> s.map.getD (b*R+k) 0≠i):Sp g ⟨s.bL,s.map.set (b*R+r) i⟩ D R:=by
 have C:b*R+r<s.map.length:=by
  have:=BB hb (show r+1 <= R from I);rw[h.hl];omega
 refine⟨h.sb,h.hb,h.hR,by rw[gR];exact h.hl,λc Z j O=>?_⟩
 have old:=h.f c Z j O;unfold Rf at old ⊢;dsimp only;by_cases e:c=b
 ·subst e;by_cases ej:j=r
  ·subst ej;refine .inr ?_;rw[Rg C,aW rfl]
   refine⟨U,Y,λk E=>?_⟩
   rw[Rg C,aX]
   grind
  ·grind
 ·have T:∀ k,k<R -> ¬ c*R+k=b*R+r:=λk E he=>e (axg E I he).1
  rw[Rg C,aX (T j O)];rcases old with old|⟨o1,o2,o3⟩
  ·grind
  ·refine .inr ⟨o1,o2,λk E=>?_⟩
   rw[Rg C,aX (T k (by omega))];simp_all
def Sp.BW{g:aF}{s:eP}{C R:Nat}(h:Sp g s C R):cq g=true/\cq (dN g s)=true/\dN g s=⟨g.cm,g.aI,(R:Int),g.aQ⟩/\aJ (dN g s)=(C:Int)/\C <= 8/\R <= 16/\2 <= R/\1 <= g.aQ/\g.rows <= 16/\0 <= s.bL:=by
 have⟨e,D,E,I,O,T,U,Y⟩:=Gi h.ok;have Z:=eI g;have gb:=fL D;have:=h.hb;have hR:=h.hR
 grind
def Sp.bound{g:aF}{s:eP}{C R:Nat}(h:Sp g s C R){b r:Nat}(hb:b<C)(D:r<R):0<=s.map.getD (b*R+r) 0/\s.map.getD (b*R+r) 0<g.rows:=by
 have hR:=h.hR;have E:=h.BW.2.2.2.2.2.2.2.2.2;rcases h.f b hb r D with e|⟨I,O,_⟩
 ·omega
 ·omega
def Yo(g:aF)(b r:Int):Be g b r=some (dU g ⟨b,r,0⟩):=by
 unfold Be;rw[Bq,au]
def Sp.ex{g:aF}{s:eP}{C R:Nat}(h:Sp g s C R)(b r:Int):dU (dN g s) ⟨b,r,0⟩=true ↔ (0 <= b/\b<(C:Int))/\0 <= r/\r<(R:Int):=by
 have⟨_,O,e,T,_,_,_,Z,_⟩:=h.BW;have er:(dN g s).rows=R:=by rw[e]
 have U:(dN g s).aQ=g.aQ:=by rw[e]
 constructor
 ·intro Y;have⟨_,D,E,I,a4,_⟩:=oX Y;simp_all
 ·rintro⟨⟨D,E⟩,I,a4⟩;exact xd O D (by rw[T];exact E) I (by rw[er];exact a4) (eW 0) (by rw[U];show (0:Int)<_;omega)
def Sp.lens{g:aF}{s:eP}{D R:Nat}(h:Sp g s D R){b:Nat}(hb:b<D):(b+1)*R <= s.map.length/\s.map.length <= 128/\(fG s.map R b).length=R/\Nat.ble (b*R) ((b+1)*R)=true/\Nat.ble ((b+1)*R) s.map.length=true:=by
 have hl:=h.hl;have E:=h.BW.2.2.2.2.1;have I:=h.BW.2.2.2.2.2.1;have C:(b+1)*R <= s.map.length:=by rw[hl];exact iP R hb
 have O:=Nat.mul_le_mul E I;exact⟨C,by omega,F5 C,ja (by rw[iZ];omega),ja C⟩
def axh{g:aF}{s:eP}{C R:Nat}(h:Sp g s C R){b:Nat}(hb:b<C)(x:Int):P6 g s (b:Int) x=some (gP (λe=>e==x) (fG s.map R b)):=by
 obtain⟨U,Y,Z,D,E⟩:=h.lens hb;obtain⟨hg,uR,eg,eb,I,O,kZ,hc,KZ,_⟩:=h.BW;have T:((s.map.take ((b+1)*R)).drop (b*R))=fG s.map R b:=rfl;unfold P6 bY;rw[DC,au,Yo,au,(h.ex (b:Int) 0).2 ⟨⟨by omega,by omega⟩,by omega,by omega⟩,bE,av,Qv h.hR O I hb h.hl,au];dsimp only;rw[D,E,cw,aq,T];have e:=zw (step:=KD) (fG s.map R b) (λe=>e==x) (λi=>((x,fG s.map R b,((fG s.map R b).length:Int),(i:Int),()),())) (λi=>.inl (((i:Int),()),())) (.inr (.inl ((),()))) bq (λk hk=>by
  unfold KD aE bk xG xI;dsimp only;rw[bf,aq,aK ⟨by omega,by omega⟩];simp only[bz];rw[bN];cases (fG s.map R b)[k]==x<;>rfl) (by
  unfold KD aE bk xG xI;dsimp only;rw[br,av]) (bS)
 rw[cY]at e;rw[e];unfold gP;cases (fG s.map R b).findIdx? (λe=>e==x)<;>rfl
def aip{g:aF}{s:eP}{D R:Nat}(h:Sp g s D R)(b r:Int):∃ y,Dh g s b r=some y/\(dU (dN g s) ⟨b,r,0⟩=true->0<=y/\y<g.rows):=by
 unfold Dh xI;rw[DC,au,Yo,au];cases I:dU (dN g s) ⟨b,r,0⟩with
 |false=>exact⟨-1,rfl,λh=>by cases h⟩
 | true=>
  obtain⟨⟨O,a2⟩,T,a4⟩:=(h.ex b r).1 I;obtain⟨b,rfl⟩:=dH O;obtain⟨r,rfl⟩:=dH T;have hb:b<D:=by omega
  have C:r<R:=by omega
  obtain⟨U,axi,Y,Z,n2⟩:=h.lens hb;obtain⟨hg,uR,eg,eb,h8,sJ,kZ,hc,KZ,_⟩:=h.BW;have E:((s.map.take ((b+1)*R)).drop (b*R))=fG s.map R b:=rfl;have XV:(fG s.map R b)[r]'(by omega)=s.map.getD (b*R+r) 0:=by
   have:=bK (l:=fG s.map R b) (i:=r) (by omega);rw[Lz C U]at this;injection this with this;exact this.symm
  rw[bE,av,Qv h.hR sJ h8 hb h.hl,au];dsimp only;rw[Z,n2,cw,aq,aK ⟨by omega,by rw[E,Y,bz];exact C⟩];simp only[bz,E,XV];exact⟨_,rfl,λ_=>h.bound hb C⟩
def axj{g:aF}{s:eP}{C R:Nat}(h:Sp g s C R)(b r:Int):∃ y t,P7 g s b r=some (y,t)/\Sp g y C R/\y.bL=s.bL/\(t=true->dU (dN g s) ⟨b,r,0⟩=true):=by
 obtain⟨hg,uR,T,eb,U,Y,kZ,hc,KZ,S5⟩:=h.BW;have hm:s.map.length<=128:=by
  rw[h.hl];exact Nat.mul_le_mul U Y
 have hR:=h.hR;unfold P7 xA bY xZ;rw[eE (by simp;omega),aq,List.nil_append,DC,au,Yo,au];cases Z:dU (dN g s) ⟨b,r,0⟩with
 |false=>exact⟨s,false,rfl,h,rfl,λh=>by cases h⟩
 | true=>
  obtain⟨⟨a1,a2⟩,a3,a4⟩:=(h.ex b r).1 Z;obtain⟨b,rfl⟩:=dH a1;obtain⟨r,rfl⟩:=dH a3;have hb:b<C:=by omega
  have hr:r<R:=by omega
  obtain⟨I,axi,jc,n1,n2⟩:=h.lens hb;have hp:b*R+r<s.map.length:=by
   rw[iZ]at I;omega
  have Lc:W6 ((b:Int)*(R:Int))=((b*R:Nat):Int):=by rw[<-Int.natCast_mul];exact aZ
  have Ld:W6 (((b*R:Nat):Int)+(r:Int))=((b*R+r:Nat):Int):=by rw[<-Int.natCast_add];exact aZ
  rw[bE,av,T];dsimp only;obtain⟨n,hn⟩:=dH (show 0<=g.rows-(R:Int) by omega);obtain⟨z,e,hz⟩:=agj (step:=KE) n (λk x=>x=(((b:Int),(r:Int),(),(),(),(),(),(R:Int)+(k:Int),()),((g.cm,g.aI,g.rows,g.aQ,()),(s.bL,s.map,()),((0:Int),(),()),(s.bL,(),()),(g.cm,g.aI,(R:Int),g.aQ,()),([]:aa Int),s.map,())))
   (λz=>(∃i:Int,z = .inl (((),true,()),((s.bL,(),()),s.map.set (b*R+r) i,()))/\(R:Int)<=i/\i<=g.rows-1/\∀k,k<R->s.map.getD (b*R+k) 0≠i)\/z = .inr (.inl (((),(),()),(((0:Int),(),()),(s.bL,(),()),([]:aa Int),s.map,())))) bq (x:=(((b:Int),(r:Int),(),(),(),(),(),(R:Int),()),((g.cm,g.aI,g.rows,g.aQ,()),(s.bL,s.map,()),((0:Int),(),()),(s.bL,(),()),(g.cm,g.aI,(R:Int),g.aQ,()),([]:aa Int),s.map,()))) (by rw[cY,Int.add_zero]) (by
   rintro k hk x rfl;unfold KE aE bk xG xL;dsimp only;rw[mH,bf (show (R:Int)+(k:Int)<g.rows by omega),aq];rw[show (⟨s.bL,s.map⟩:eP)=s from rfl,axh h hb,au];by_cases D:gP (λe=>e==(R:Int)+(k:Int)) (fG s.map R b)<0
   ·rw[bf D,aq,Lc,Ld,aK ⟨by omega,by omega⟩,aK]
    refine .inr ⟨_,rfl,.inl ⟨(R:Int)+(k:Int),?_,by omega,by omega,λj hj e=>?_⟩⟩
    ·simp only[bz]
    ·have E:=(ahF (λe=>e==(R:Int)+(k:Int)) (fG s.map R b)).1;rw[bf D]at E;have O:(fG s.map R b).any (λe=>e==(R:Int)+(k:Int))=false:=by
      cases hq:(fG s.map R b).any (λe=>e==(R:Int)+(k:Int))with
      |false=>rfl
      |true=>rw[hq]at E;cases E
     rw[l8]at O;have tM:s.map.getD (b*R+j) 0∈fG s.map R b:=List.mem_iff_getElem?.2 ⟨j,Lz hj I⟩;exact O _ tM (by rw[e];exact iQ _)
   ·rw[br D,av,aZ (n:=(R:Int)+(k:Int)+1)];exact .inl ⟨_,rfl,by rw[Int.natCast_add,Int.natCast_one,Int.add_assoc]⟩) (by
   rintro x rfl;unfold KE aE bk xG xL;dsimp only;rw[br (show ¬ (R:Int)+(n:Int)<g.rows by omega),av];exact⟨_,rfl,.inr rfl⟩) (bS)
  rw[e,au];rcases hz with ⟨i,rfl,i1,i2,i3⟩|rfl
  ·exact⟨_,true,rfl,h.set hb hr i1 i2 i3,rfl,λ_=>rfl⟩
  ·exact⟨_,false,rfl,h,rfl,λh=>by cases h⟩
def axk{c:ax}(T:cv c)(D:cz c=true)(b r:Int):∃ t y,P8 c b r=some (t,(y,()))/\cv y/\cz y=true/\(t=false->y=c)/\∃ l s,y=⟨c.config,c.box,c.now,c.aN,c.ready,⟨l,c.array.bh,c.array.aY⟩,s,c.aD,c.bA,c.guard,c.pending,c.queue,c.shares,c.drain,c.aR,c.dJ,c.errors,c.trace,c.bF⟩:=by
 have h:=Ck.of D;obtain⟨bn,R,E⟩:=Sp.of h.sp;obtain⟨U,uR,eg,eb,h8,sJ,kZ,hc,KZ,S5⟩:=E.BW;obtain⟨f,e1,hf⟩:=aip E b r;obtain⟨y,t,e2,I,Ak,ht⟩:=axj E b r;unfold P8 bR xL;rw[e1,au,e2,au];cases t with
 |false=>exact⟨false,c,rfl,T,D,λ_=>rfl,_,_,rfl⟩
 | true=>
  have Y:=ht rfl;obtain⟨⟨a1,a2⟩,a3,a4⟩:=(E.ex b r).1 Y;have jc:=(xm h.rk).2.1;have Dy:=E.hb;have hR:=E.hR;obtain⟨f1,f2⟩:=hf Y;have egy:dN c.config.ak y=dN c.config.ak c.spare:=by
   unfold dN;rw[I.ok,h.sp,Ak]
  obtain⟨q,e3,O⟩:=aip I b r;have O:=O (by rw[egy];exact Y);rw[bE,av,aK ⟨a1,by omega⟩,aK];dsimp only;cases c.aN.aI[b.toNat].open_ with
  |true=>exact⟨false,c,rfl,T,D,λ_=>rfl,_,_,rfl⟩
  | false=>
   rw[av,e3,au];obtain⟨n,hn⟩:=dH (show 0<=c.config.ak.aQ by omega);have gb:=fL U;have QD:∀(row:Int) (k:Nat),0<=row->row<c.config.ak.rows->k<n->dU c.config.ak ⟨b,row,(k:Int)⟩=true:=λrow k r1 r2 D=>xd U a1 (by rw[Dy];exact a2) r1 r2 (by dsimp only;omega) (by dsimp only;omega)
   obtain⟨z,e,Ax⟩:=WY (step:=FV) n (λk x=>∃ a:cL,eY c.config.ak 100000 a/\(a.bh=c.array.bh/\a.aY=c.array.aY)/\x=(((),b,(),f,(),q,(k:Int),()),(dX c a,(c.config.ak.cm,c.config.ak.aI,c.config.ak.rows,c.config.ak.aQ,()),(y.bL,(),()),y.map,())))
    (λz=>∃a:cL,eY c.config.ak 100000 a/\(a.bh=c.array.bh/\a.aY=c.array.aY)/\z = .inl (((),(),()),(dX c a,(y.bL,(),()),y.map,()))) bq (x:=(((),b,(),f,(),q,(0:Int),()),(c,(c.config.ak.cm,c.config.ak.aI,c.config.ak.rows,c.config.ak.aQ,()),(y.bL,(),()),y.map,()))) ⟨c.array,eY.sV h.ar,⟨rfl,rfl⟩,rfl⟩ (by
    rintro k D x ⟨a,C,Z,rfl⟩;have at1:=QD q k O.1 O.2 D;have at2:=QD f k f1 f2 D;obtain⟨i1,_⟩:=Gc at1;obtain⟨i2,_⟩:=Gc at2;have l1:=C.lt at1;have l2:=C.lt at2;have hsy:=C.syms _ (cX l2);have st:FV (((),b,(),f,(),q,(k:Int),()),(dX c a,(c.config.ak.cm,c.config.ak.aI,c.config.ak.rows,c.config.ak.aQ,()),(y.bL,(),()),y.map,()))=some (.inl (((),b,(),f,(),q,((k+1:Nat):Int),()),(dX c ⟨a.cells.set (dG c.config.ak ⟨b,q,(k:Int)⟩) a.cells[dG c.config.ak ⟨b,f,(k:Int)⟩],a.bh,a.aY⟩,(c.config.ak.cm,c.config.ak.aI,c.config.ak.rows,c.config.ak.aQ,()),(y.bL,(),()),y.map,()))):=by
     unfold FV aE xG xL xM;dsimp only;rw[mH,bf (show (k:Int)<c.config.ak.aQ by omega),aq,FX,au,FX,au,i1,i2];have c1:0<=(dG c.config.ak ⟨b,f,(k:Int)⟩:Int)/\(dG c.config.ak ⟨b,f,(k:Int)⟩:Int).toNat<(dX c a).array.cells.length:=⟨by omega,by simpa [dX]using l2⟩
     have c2:0<=(dG c.config.ak ⟨b,q,(k:Int)⟩:Int)/\(dG c.config.ak ⟨b,q,(k:Int)⟩)<(dX c a).array.cells.length:=⟨by omega,by simpa [dX]using l1⟩
     rw[aK c1,aK c1.2,aK c1.2];simp only[bz];rw[agv _ (by simp only[dX];rw[hsy.1];omega),au,aK c2,aK c2.2,bN];rfl
    exact⟨_,st,_,C.DD _ hsy,Z,rfl⟩) (by
    rintro x ⟨a,C,Z,rfl⟩;unfold FV aE xG xL xM;dsimp only;rw[br (show ¬ (n:Int)<c.config.ak.aQ by omega),av];exact⟨_,rfl,a,C,Z,rfl⟩) (bS)
   rw[e,au];obtain⟨a,C,⟨ha1,ha2⟩,rfl⟩:=Ax;have p:=fN.of h.pa;obtain⟨z1,z2,z3,z5,z6,z7,z8,z9,kL,lH,lY,kK,lZ,ot⟩:=T;have hml:y.map.length<=128:=by
    rw[I.hl];exact Nat.mul_le_mul h8 sJ
   refine⟨true,⟨c.config,c.box,c.now,c.aN,c.ready,a,y,c.aD,c.bA,c.guard,c.pending,c.queue,c.shares,c.drain,c.aR,c.dJ,c.errors,c.trace,c.bF⟩,rfl,⟨z1,z2,z3,xD C,by show y.map.length<=1048576;omega,z7,z8,z9,kL,lH,lY,kK,lZ,ot⟩,Ck.ok ⟨h.f1,h.f2,h.nw,h.rk,h.rd,zG U C,I.ok,Ak.trans h.se,h.rf,(show fN ⟨c.config,c.box,c.now,c.aN,c.ready,a,y,c.aD,c.bA,c.guard,c.pending,c.queue,c.shares,c.drain,c.aR,c.dJ,c.errors,c.trace,c.bF⟩from ⟨p.dl,p.tl,p.gl,p.t,p.g,p.pd,p.u⟩).ok,?_,h.sh,h.sl,h.dr,h.pw,h.ps,h.si,h.s1,h.s2,h.s3,h.er,h.tr,h.rp⟩,λh=>(by cases h),a.cells,y,by rw[<-ha1,<-ha2]⟩
   show gK (dB (dN c.config.ak y)) c.queue=true;rw[egy];exact h.qu
def zJ:cI:=⟨List.replicate 16 (-1),List.replicate 16 0,0⟩
def axl:Fg 16=some (zJ,true):=by kernel_rfl
def aiq:A6 0=some (List.replicate 11 0):=by kernel_rfl
def DR:bO:=⟨List.replicate 11 0,false⟩
def vX(g:aF):cL:=⟨List.replicate (dB g).toNat DR,List.replicate (fM g).toNat 0,List.replicate (fM g).toNat 0⟩
def axm{g:aF}(D:cq g=true):OP g=some (vX g):=by
 have E:=lD g;have O:=rD g;have er:aJ g*g.rows=fM g:=by simp[fM,D]
 obtain⟨n,C⟩:=dH E.1;unfold OP bR;rw[uj,au,D,bE,av,kM,au,er,aZ (n:=fM g),aW ⟨by omega,by omega,by omega⟩,aW ⟨by omega,by omega,by omega⟩];generalize I:List.replicate (fM g).toNat (0:Int)=A;have e:=eV (step:=JA) n (λi=>(((),(),(),(i:Int),()),((g.cm,g.aI,g.rows,g.aQ,()),((),(),(),()),((),(),(),()),([]:aa bO),([]:aa Int),([]:aa Int),List.replicate i DR,A,A,())))
  (.inl (((),(),()),(((),(),(),()),((),(),(),()),([]:aa bO),([]:aa Int),([]:aa Int),List.replicate n DR,A,A,()))) bq (λk h=>by
  unfold JA aE xG;dsimp only;rw[mH,Bn,au,C,bf,aq,aiq,au,eE (by simp;omega),aq,bN,List.replicate_succ' (n:=k)];rfl) (by
  unfold JA aE xG;dsimp only;rw[mH,Bn,au,C,br,av]) (bS)
 rw[cY,List.replicate_zero]at e;rw[e,au];unfold vX;rw[C,I,bz];rfl
def fj(c:eo)(p:cR):ax:=⟨c,⟨p,p,false⟩,0,xk c.ak,BF c.ak,vX c.ak,(uq c.ak c.bL).1,⟨List.replicate (aJ c.ak).toNat 0,c.interval,false⟩,List.replicate (aJ c.ak).toNat zJ,List.replicate (aJ c.ak).toNat p.dn,[],[],p.weights.map jP,⟨false,p.low,p.high⟩,⟨0,0,0⟩,⟨0,10,10⟩,[],[],[]⟩
def zK{p:cR}(h:rG p):qM p=true/\iM (p.weights.map jP)=true/\p.weights.length=4:=by
 have⟨⟨⟨D,E⟩,⟨I,O⟩,⟨T,U⟩,⟨Y,Z⟩,⟨i,w,hi,Lc,Ld,hw⟩,⟨h9,F6⟩,zq,qz⟩,rF,vE⟩:=h;have hl:p.weights.length=4:=by rw[hw,gR];rfl
 have C:iM (p.weights.map jP)=true:=by
  rw[hw];rcases(by omega:i=0 \/ i=1 \/ i=2 \/ i=3)with rfl|rfl|rfl|rfl<;>rcases(by omega:w=1 \/ w=2 \/ w=3 \/ w=4)with rfl|rfl|rfl|rfl<;>rfl
 refine⟨?_,C,hl⟩;unfold qM o7 Bz;rw[C,hl];simp only[aP,aM,gB]
 grind
def axn{n:Int}(C:8<=n)(D:n<=17):wU n=some (2*n+2):=by
 unfold wU;rw[cV,au,bu.2 ⟨by omega,by omega⟩,bE,av,aZ (n:=2*n),aZ]
def BX{g:aF}(h:QB g):cq g=true:=by
 have⟨⟨C,D⟩,⟨E,I⟩,⟨O,T⟩,U,Y⟩:=h;simp[cq,aP,aM,gB];omega
def axo:∀ r∈[(1:Int),2,3,4],∀ w∈[(4:Int),5,6,7,8],jN (lI r w)=true/\decide (By (lI r w) <= 200)=true:=by
 intro r C w D;simp at C D;rcases C with rfl|rfl|rfl|rfl<;>rcases D with rfl|rfl|rfl|rfl|rfl<;>exact⟨by kernel_rfl,by kernel_rfl⟩
def axp{c:eo}(h:jq c):nD c=true:=by
 have⟨C,⟨r,w,T,U,Y,Z,E⟩,⟨Ig,rq⟩,⟨G5,Yp⟩,⟨hi1,hi2⟩,I,hl⟩:=h;have O:=BX C;have⟨t1,D⟩:=axo r (by simp;omega) w (by simp;omega);have D:=oD D;have⟨⟨h1,h2⟩,⟨h3,h4⟩,⟨h5,h6⟩,h7,h8⟩:=C;unfold nD jO;rw[O,E,t1,hl,I];rw[aZ];simp only[aP,aM,gB,true_and];omega
def Yq{c:eo}{p:cR}(C:jq c)(D:rG p):qJ c p=some true:=by
 have I:=axp C;have⟨O,_,h3⟩:=zK D;have⟨hg,⟨r,w,Yr,kY,Lc,Ld,E⟩,⟨Ig,rq⟩,⟨G5,Yp⟩,⟨hi1,hi2⟩,T,hl⟩:=C;have⟨_,U,Y⟩:=D;have Z:c.bQ.ji=7:=by rw[E];rfl
 have e2:c.bQ.rp=3:=by rw[E];rfl
 unfold qJ;rw[KO,au,I,aq,Dz _ (by omega),au,O,aq,axn U Y,au,hl,T,Z,e2,aZ (n:=2*p.dn+2+2)];dsimp only;rw[bf,aq,aZ (n:=7+3),aX,aZ (n:=5*c.interval),sX (by omega),aZ (n:=16+1),aZ (n:=(16+1)*p.dn),aZ (n:=5*c.interval / (7+3)),aZ,bf]
def axq{p:cR}(h:p.weights.length=4):ue p=some p:=by
 unfold ue xA xZ;rw[eE (by simp[h]),aq,List.nil_append]
def axr{p:cR}(C:rG p):OR p=some (⟨p,p,false⟩,true):=by
 obtain⟨D,_,E⟩:=zK C;unfold OR;rw[Dz _ (by omega),au,D,bE,av,axq E,au,au]
def grow(x:ax)(l:Int)(i:Nat):ax:=⟨x.config,x.box,x.now,x.aN,x.ready,x.array,x.spare,x.aD,x.bA++List.replicate i zJ,x.guard++List.replicate i l,x.pending,x.queue,x.shares,x.drain,x.aR,x.dJ,x.errors,x.trace,x.bF⟩
def axt(Z C:ax)(c:eo)(p:cR)(n:Nat)(D:aJ c.ak=(n:Int))(U:n<=8)(E:c.gV=16)(I:C.bA=[])(O:C.guard=[]):
  iter Fh bq (((),(),(),(),(),(0:Int),()),(Z,C,c,(p.eK,p.cap,p.dn,p.low,p.high,p.weights,p.cZ.down,p.cZ.sleep,()),(c.ak.cm,c.ak.aI,c.ak.rows,c.ak.aQ,()),()))=some (.inl (((),(),()),(Z,grow C p.dn n,()))):=by
 have e:=eV (step:=Fh) n (λi=>(((),(),(),(),(),(i:Int),()),(Z,grow C p.dn i,c,(p.eK,p.cap,p.dn,p.low,p.high,p.weights,p.cZ.down,p.cZ.sleep,()),(c.ak.cm,c.ak.aI,c.ak.rows,c.ak.aQ,()),()))) (.inl (((),(),()),(Z,grow C p.dn n,()))) bq (λk h=>by
  unfold Fh grow aE xG;dsimp only;rw[mH,kM,au,D,bf,aq,E,axl,au,I,O,eE (by simp;omega),aq,eE (by simp;omega),aq,bN,List.replicate_succ' (n:=k),List.replicate_succ' (n:=k),List.append_assoc,List.append_assoc]) (by
  unfold Fh aE xG;dsimp only;rw[mH,kM,au,D,br,av]) (bS)
 have T:grow C p.dn 0=C:=by
  unfold grow;simp only[List.replicate_zero,List.append_nil]
 rw[cY,T]at e;exact e
def axu{c:eo}{p:cR}(C:jq c)(D:rG p):OT c p=some (fj c p,true):=by
 have E:=BX C.1;have hb:=eI c.ak;have Nb:=FW E;obtain⟨h2,O,h3⟩:=zK D;obtain⟨n,I⟩:=dH hb.1;have T:c.gV=16:=C.2.2.2.2.2.1;have zL:200<=c.interval/\c.interval<=259:=C.2.2.2.2.1;have U:OS (aJ c.ak) c.interval=some (⟨List.replicate (aJ c.ak).toNat 0,c.interval,false⟩,true):=by
  unfold OS;rw[cV,au,bu.2 ⟨by omega,by omega⟩,bE,av,cV,au,bu.2 ⟨by omega,by omega⟩,bE,av,aW ⟨by omega,by omega,by omega⟩]
 have Y:V8 10=some (⟨0,10,10⟩,true):=rfl;have Z:vG p.weights=(p.weights.map jP,true):=by unfold vG;rw[O,aq]
 unfold OT bR;rw[Yq C D,au,bE,av,aur,au,auH E,au,axm E,au,axr D,au,Xb,au,kM,au,U,au,Xf _ (by omega),au,Y,au,Z];dsimp only;rw[axt _ _ c p n I (by omega) T rfl rfl,au];unfold fj grow;rw[I];rfl
def Ys(g:aF)(sp:Int):aF:=⟨g.cm,g.aI,g.rows-sp,g.aQ⟩
def Rh(g:aF)(sp:Int):Bool:=lF g (xk g)&&(jo g (BF g)&&(lX g (vX g)&&(kQ g (uq g sp).1&&((uq g sp).1.bL==sp&&(cq (Ys g sp)&&(decide (0<dB (Ys g sp))&&(W6 (W6 ((dB g).tdiv g.rows)*W6 (g.rows-sp))==dB (Ys g sp)&&(decide (1<=dB g)&&decide ((uq g sp).1.map.length<=1048576)))))))))
def axv:(([1,2]:aa Int).all λG=>([1,2]:aa Int).all λB=>([4,5,6]:aa Int).all λR=>([1,2]:aa Int).all λC=>([0,1,2]:aa Int).all λsp=>Rh ⟨G,B,R,C⟩ sp)=true:=by kernel_rfl
def air{g:aF}{sp:Int}(h:QB g)(C:0 <= sp)(D:sp <= 2):Rh g sp=true:=by
 have⟨⟨E,I⟩,⟨O,T⟩,⟨U,Y⟩,d1,d2⟩:=h;have e:=axv;simp only[bT]at e;exact e _ (by simp;omega) _ (by simp;omega) _ (by simp;omega) _ (by simp;omega) sp (by simp;omega)
def axw:kP zJ=true:=by kernel_rfl
def ais{c:eo}{p:cR}(C:jq c)(I:rG p):cv (fj c p):=by
 have hb:=eI c.ak;have hl:=lD c.ak;have O:=rD c.ak;have⟨_,_,T⟩:=zK I;have E:=air C.1 C.2.2.2.1.1 C.2.2.2.1.2;simp only[Rh,aM,gB]at E
 refine⟨⟨?_,?_⟩,?_,⟨?_,?_⟩,⟨⟨?_,λy D=>?_⟩,?_,?_⟩,E.2.2.2.2.2.2.2.2.2,?_,⟨?_,λy D=>?_⟩,?_,?_,?_,?_,?_,?_,?_⟩
 ·show p.weights.length <= _;omega
 ·show p.weights.length <= _;omega
 ·show (List.replicate _ _).length <= _;rw[mT];omega
 ·show (List.replicate _ _).length <= _;rw[mT];omega
 ·exact Nat.zero_le _
 ·show (List.replicate _ _).length <= _;rw[mT];omega
 ·obtain rfl:=List.eq_of_mem_replicate D;exact cE rfl
 ·show (List.replicate _ _).length <= _;rw[mT];omega
 ·show (List.replicate _ _).length <= _;rw[mT];omega
 ·show (List.replicate _ _).length <= _;rw[mT];omega
 ·show (List.replicate _ _).length <= _;rw[mT];omega
 ·obtain rfl:=List.eq_of_mem_replicate D;exact⟨cE rfl,cE rfl⟩
 ·show (List.replicate _ _).length <= _;rw[mT];omega
 ·exact Nat.zero_le _
 ·exact Nat.zero_le _
 ·show (p.weights.map jP).length <= _;rw[fy];omega
 ·exact Nat.zero_le _
 ·exact Nat.zero_le _
 ·exact Nat.zero_le _
def ait{c:eo}{p:cR}(C:jq c)(D:rG p):cz (fj c p)=true:=by
 have hb:=eI c.ak;have Nb:=FW (BX C.1);have hl:=lD c.ak;obtain⟨_,O,T⟩:=zK D;have E:=air C.1 C.2.2.2.1.1 C.2.2.2.1.2;simp only[Rh,aM,gB]at E;obtain⟨U,Y,Z,g4,g5,g6,g7,g8,g9,g10⟩:=E;have I:mL c p=true:=by unfold mL;rw[Yq C D];rfl
 have zL:200<=c.interval/\c.interval<=259:=C.2.2.2.2.1;obtain⟨⟨_,_,⟨l1,l2⟩,⟨l3,l4⟩,_⟩,p1,p2⟩:=D;have e1:fD (fj c p).aD=true:=by
  unfold fD;simp only[fj,mT,aP,aM,gB,List.all_replicate];refine⟨?_,by omega,bf,bf⟩;split<;>rfl
 have e2:rE (fj c p)=true:=by
  unfold rE;simp only[fj,mT,aM,eZ,List.length_nil,List.range_zero,List.all_nil];refine⟨by omega,by omega,by omega,rfl,?_,trivial⟩;rw[bT];intro i hi;have hi:i<(aJ c.ak).toNat:=fS.1 hi;unfold partAt;simp only[List.getElem?_replicate,hi,if_true,axw,cw];exact bu.2 ⟨by omega,by omega⟩
 have e3:o7 (fj c p).drain=true:=by
  unfold o7;simp only[fj,aM];exact⟨bf l1,bf l3,bf⟩
 have e4:aP 0 0 (W6 (dB c.ak-1))=true:=by
  rw[aZ];exact bu.2 ⟨by omega,by omega⟩
 have e5:((p.weights.map jP).length:Int)==4:=by rw[fy,T];rfl
 unfold cz;simp only[aM];exact⟨I,I,rfl,U,Y,Z,g4,g5,⟨e1,e2⟩,rfl,O,e5,e3,rfl,rfl,rfl,rfl,rfl,e4,rfl,rfl,rfl⟩
def axx{g:aF}{a:cL}(h:lX g a=true)(t:aO)(ch n:Int):∃ y,FU g a t ch n=some y/\lX g y=true/\((dU g t&&(aP ch 0 10&&aP n 0 15))=false->y=a)/\y.bh=a.bh/\y.aY=a.aY:=by
 have O:cq g=true:=(Xz h).1;have C:=eY.sV h;by_cases D:(dU g t&&(aP ch 0 10&&aP n 0 15))=true
 ·simp only[aM]at D;obtain⟨E,T,U⟩:=D;have b2:=bu.1 T;have Y:=bu.1 U;obtain⟨k,rfl⟩:=dH b2.1;have hl:=C.lt E;have I:=C.syms _ (cX hl);have Z:k<a.cells[dG g t].symbols.length:=by rw[I.1];omega
  have hx:=Qi (I.get Z) Y
  refine⟨_,ag9 C (eW _) E hl (by omega) Z Y,zG O (C.DD _ (c:=⟨_,_⟩) (I.set ⟨hx.1,hx.2.1⟩)),λhe=>?_,rfl,rfl⟩
  rw[E,T,U]at he;cases he
 ·refine⟨a,?_,h,λ_=>rfl,rfl,rfl⟩
  unfold FU sK xC xL xM;rw[C.copy,au,C.ok O (eW _),au,aq,Bq,au];cases e1:dU g t with
  |false=>rfl
  | true=>
   rw[aq,cV,au];cases e2:aP ch 0 10 with
   |false=>rfl
   | true=>
    rw[aq,cV,au,au];cases e3:aP n 0 15 with
    |false=>rfl
    |true=>exact absurd (by rw[e1,e2,e3];rfl) D
def axy(b:jE)(C:K3 b)(p:cR)(D:p.weights.length<=1048576):P5 b p=some (bif qM p then ⟨b.bW,p,true⟩else b,qM p):=by
 unfold P5;rw[XF b C,au,Dz _ (by omega),au];cases qM p with
 |false=>rfl
 | true=>
  unfold ue xA xZ;rw[bE,av,ou _,aq,List.nil_append];rfl
def axz{c:ax}(C:cz c=true)(r:aU):cz (mM c r).1=true/\((mM c r).2=false -> (mM c r).1=c):=by
 have h:=Ck.of C;have p:=fN.of h.pa;unfold mM;cases hb:((!cz c) ||((!(ov c r).2) ||(c.bF.any λx=>x.id==r.id)))with
 |true=>simp_all
 | false=>
  refine⟨?_,λh=>by cases h⟩
  rw[av];simp only[nQ,Bool.not_eq_false']at hb;have D:gK (dB (dN c.config.ak c.spare)) (ov c r).1=true:=by
   have E:=hb.2.1;unfold ov DF at E ⊢
   grind
  exact Ck.ok ⟨h.f1,h.f2,h.nw,h.rk,h.rd,h.ar,h.sp,h.se,h.rf,(show fN { c with queue:=(ov c r).1 } from ⟨p.dl,p.tl,p.gl,p.t,p.g,p.pd,p.u⟩).ok,D,h.sh,h.sl,h.dr,h.pw,h.ps,h.si,h.s1,h.s2,h.s3,h.er,h.tr,h.rp⟩
def axA{b:aa Int}{c:bC}(E:kN b c):Dr b (NW c) λ_=>True:=by
 unfold NW;rw[E.eq]
 refine(fC E 4).bind λx T U D=>?_
 rw[D.eta];cases hb:(x==0)with
 | true=>
  refine(Qj D _ (by decide)).bind λy I _ C=>?_
  rw[C.eta];exact Dr.pure C trivial
 | false=>
  cases Y:(x==1)with
  | true=>
   refine(fC D 200).bind λy I _ C=>?_
   rw[C.eta];exact Dr.pure C trivial
  | false=>
   refine(fC D 65536).bind λy I _ C=>?_
   rw[C.eta]
   refine(fC C 65536).bind λy Z _ O=>?_
   rw[O.eta];exact Dr.pure O trivial
def axB{b:aa Int}{c:bC}(D:kN b c)(n:Int):Dr b (NX c n) λ_=>True:=by
 unfold NX;rw[D.eq]
 refine(fC D 60).bind λZ k1 h1 E=>?_
 dsimp only;rw[E.eta]
 refine(fC E 3).bind λx2 k2 h2 I=>?_
 dsimp only;rw[I.eta]
 refine(fC I n).bind λx3 k3 h3 O=>?_
 dsimp only;rw[O.eta]
 refine(fC O 50).bind λx4 k4 h4 T=>?_
 dsimp only;rw[T.eta]
 refine(Ql T 2).bind λY k5 h5 C=>?_
 dsimp only;rw[C.eta];cases Y with
 | true=>
  refine(axA C).bind λx6 k6 h6 U=>?_
  rw[U.eta];exact Dr.pure U trivial
 |false=>exact Dr.pure C trivial
def axC{g:aF}(D:cq g=true):Oh g=some (vX g):=by
 have E:=lD g;have I:=rD g;have er:aJ g*g.rows=fM g:=by simp[fM,D]
 have⟨n,C⟩:=dH E.1;unfold Oh bR;have e:=eV (step:=I8) n (λi=>(((),(),(),(i:Int),()),((g.cm,g.aI,g.rows,g.aQ,()),((),(),(),()),((),(),(),()),([]:aa bO),([]:aa Int),([]:aa Int),List.replicate i DR,([]:aa Int),([]:aa Int),()))) _ bq (λk h=>by
  unfold I8 aE xG;dsimp only;rw[mH,Bp,au,C,bf,aq,eE (by simp;omega),aq,bN,List.replicate_succ' (n:=k)];rfl) (by
  unfold I8 aE xG;dsimp only;rw[mH,Bp,au,C,br,av]) (bS)
 rw[cY,List.replicate_zero]at e
 refine(bB (λo=>Option.bind o _) e).trans ?_
 rw[au];simp only[gq];rw[mH,og,au,er,aZ (n:=fM g),br,av,Bm,au,D,bE,av,aW ⟨by omega,by omega,by omega⟩,aW ⟨by omega,by omega,by omega⟩];unfold vX;rw[C,bz]
def axD{p:cR}(C:rG p):Oj p=some (⟨p,p,false⟩,true):=by
 have⟨D,_,E⟩:=zK C;unfold Oj Oi xA xZ;rw[agJ _ (by omega),au,D,bE,av,eE (by simp[E]),aq,List.nil_append,au,au]
def axE:VS 16=some (zJ,true):=by kernel_rfl
def axF(Z C:ax)(c:eo)(p:cR)(n:Nat)(T:n <= 8)(D:c.gV=16)(E:C.bA=[])(I:C.guard=[]):
  iter E4 bq (((),(),(),(),(n:Int),(0:Int),()),(Z,C,c,(p.eK,p.cap,p.dn,p.low,p.high,p.weights,p.cZ.down,p.cZ.sleep,()),()))=some (.inl (((),(),(),()),(Z,grow C p.dn n,(p.eK,p.cap,p.dn,p.low,p.high,p.weights,p.cZ.down,p.cZ.sleep,()),()))):=by
 have e:=eV (step:=E4) n (λi=>(((),(),(),(),n,i,()),(Z,grow C _ i,c,(p.eK,p.cap,p.dn,p.low,p.high,p.weights,p.cZ.down,p.cZ.sleep,()),()))) _ bq (λk h=>by
  unfold E4 grow aE xG;dsimp only;rw[bf,aq,D,axE,au,E,I,eE (by simp;omega),aq,eE (by simp;omega),aq,bN,List.replicate_succ' (n:=k),List.replicate_succ' (n:=k),List.append_assoc,List.append_assoc]) (by
  unfold E4 grow aE xG;dsimp only;rw[br,av]) (bS)
 have O:grow C p.dn 0=C:=by
  unfold grow;simp only[List.replicate_zero,List.append_nil]
 rw[cY,O]at e;exact e
def axG{c:eo}{p:cR}(D:jq c)(C:rG p):A3 c p=some true:=by
 have⟨_,_,E⟩:=zK C;have e:=Yq D C;rw[DE _ _ (by omega)]at e
 rwa [Xy _ _ (by omega)]
def axH{c:eo}{p:cR}(C:jq c)(D:rG p):Ol c p=some (fj c p,true):=by
 have E:=BX C.1;have hb:=eI c.ak;have Nb:=FW E;have⟨h2,O,h3⟩:=zK D;have⟨n,I⟩:=dH hb.1;have T:c.gV=16:=C.2.2.2.2.2.1;have zL:200 <= c.interval/\c.interval <= 259:=C.2.2.2.2.1;have U:Ok (n:Int) c.interval=some (⟨List.replicate n 0,c.interval,false⟩,true):=by
  unfold Ok;rw[ic,au,bu.2 ⟨by omega,by omega⟩,bE,av,ic,au,bu.2 ⟨by omega,by omega⟩,bE,av,aW ⟨by omega,by omega,by omega⟩,bz]
 have Y:VT 10=some (⟨0,10,10⟩,true):=rfl;have Z:vG p.weights=(p.weights.map jP,true):=by unfold vG;rw[O,aq]
 unfold Ol bR;rw[axG C D,au,bE,av,aus,au,auI E,au,axC E,au,og,au,axD D,au,Xa,au,I,U,au];dsimp only;rw[axF _ _ c p n (by omega) T rfl rfl,au];simp only[gq];rw[agF _ (by omega),au,Y,au,Z];unfold fj grow;rw[I,bz];rfl
def Rv(c:ax)(N:Int):Prop:=(∀r∈c.queue,r.id<=N/\r.at_<=c.now)/\∀r∈c.bF,r.id<=N
def Tq(c:ax)(u:Nat):Prop:=Re c/\c.queue.length+c.bF.length<=u
def Tq.up{c:ax}{u:Nat}(h:Tq c u):Tq c (u+1):=⟨h.1,Nat.le_succ_of_le h.2⟩
def Tq.adv{c y:ax}{u:Nat}{n:Int}(h:Tq c u)(T:cz c=true)(U:0<=n/\n<=1000000)(O:y.config=c.config)(Y:Adv n c y)(hl:y.queue.length+y.bF.length=c.queue.length+c.bF.length):Tq y u:=by
 have k:=Ck.of T;have C:=h.1;unfold Re at C;refine⟨?_,by rw[hl];exact h.2⟩;unfold Re;rcases Y with ⟨D,E,I⟩|⟨x,D,E,I,a4,Z,a6⟩
 ·rw[O,D,E,I];exact C
 ·rw[O,D,E,I];exact C.add k.rk k.rd a4 Z a6 U
def Tq.nx{c y:ax}{u:Nat}(h:Tq c u)(D:cz c=true)(C:Nx c y):Tq y u:=h.adv D (bu.1 (Ck.of D).nw) C.2.1 C.2.2.2.2.1 C.2.2.2.2.2
def axI{c:ax}{u:Nat}(h:Tq c u)(r:aU):Tq (mM c r).1 (u+1)/\(mM c r).1.now=c.now/\(mM c r).1.config=c.config:=by
 unfold mM;cases hb:((!cz c) ||((!(ov c r).2) ||(c.bF.any λx=>x.id==r.id)))with
 |true=>exact⟨h.up,rfl,rfl⟩
 | false=>
  have C:=h.2;refine⟨⟨h.1,?_⟩,rfl,rfl⟩;show (ov c r).1.length+c.bF.length<=u+1;unfold ov DF;cases (gK (dB (dN c.config.ak c.spare)) c.queue&&gK (dB (dN c.config.ak c.spare)) (jQ (λx=>fF (nI c r) x) c.queue (nI c r)))with
  |false=>exact Nat.le_succ_of_le C
  | true=>
   rw[aq];dsimp only;rw[XB];omega
def LA(c:ax)(x:aT):Prop:=dz c.config.ak x=true/\x.kind≠2/\x.kind≠3
def Yt{c:ax}{x:aT}(h:LA c x)(D:de c x=true)(E:¬ (c.trace.length:Int) >= 2000):kT c x (-1)=true/\x.kind≠0:=by
 obtain⟨C,I,O⟩:=h;have T:=(ur C).2.1;refine⟨?_,by omega⟩;unfold kT;rw[C,D,br E,jw I,jw O];rfl
def Yu{c:ax}(h:Pq c){b:Int}(hb:0<=b/\b<aJ c.config.ak){x:aT}(C:LA c x):LA c (qR c b x):=by
 refine⟨Q5 h hb C.1,?_⟩;unfold qR;cases (cu c.aN b).open_ with
 |true=>exact⟨(by decide:(4:Int)≠2),(by decide:(4:Int)≠3)⟩
 |false=>exact C.2
def axJ{c:ax}(h:Pq c):∀ x∈Gv c++Gw c c.pending.length,LA c x:=λx hx=>by
 rcases List.mem_append.1 hx with hx|hx
 ·obtain⟨b,hb,rfl⟩:=List.mem_map.1 hx;have C:=(Yi h hb).1;exact Yu h C ⟨zC h.p.R.uC (.inr rfl) C,by dsimp only;omega,by dsimp only;omega⟩
 ·obtain⟨i,hi,rfl⟩:=List.mem_map.1 hx;obtain⟨o,D,_,_,E⟩:=Yh h (fS.1 (List.mem_filter.1 hi).1);exact Yu h ⟨D,E⟩ ⟨ahB o,by dsimp only;omega,by dsimp only;omega⟩
def axK{c:ax}(h:Pq c):∀ x∈qS c++(oy c++nN c),LA c x:=λx hx=>by
 have U:=DO c;have I:=h.p.R.uC;rcases List.mem_append.1 hx with hx|hx
 ·have Y:=h.dl;have hb:-1<=fh c/\fh c<c.aD.aB.length:=Yj _ _;unfold qS at hx;by_cases C:fh c >= 0
  ·have D:0<=fh c/\fh c<aJ c.config.ak:=by omega
   rw[bf C,cw]at hx;cases hu:rO c (fh c)with
   |true=>rw[hu]at hx;cases hx
   | false=>
    rw[hu]at hx;rw[iw.1 hx];exact Yu h D ⟨zC I (.inr rfl) D,by dsimp only;omega,by dsimp only;omega⟩
  ·rw[br C]at hx;cases hx
 ·have O:=(awT h).2;have T:=(awS h).2;rcases List.mem_append.1 hx with hx | hx
  ·refine⟨O x hx,?_⟩;unfold oy at hx;cases C:decide (mS c >= 0)with
   |false=>rw[C]at hx;cases hx
   |true=>rw[C]at hx;rw[iw.1 hx];exact⟨by dsimp only;omega,by dsimp only;omega⟩
  ·refine⟨T x hx,?_⟩;unfold nN at hx;cases C:cP c==8&&decide (((opens 0 c.aN.aI).length:Int) > 0)with
   |true=>rw[C]at hx;rw[iw.1 hx];exact⟨by dsimp only;omega,by dsimp only;omega⟩
   | false=>
    rw[C,av]at hx;cases E:cP c != 0 with
    |false=>rw[E]at hx;cases hx
    |true=>rw[E]at hx;rw[iw.1 hx];exact⟨by dsimp only;omega,by dsimp only;omega⟩
def aiu{old hit fI:Nat->Bool}{n:Nat}:xH old hit fI n = -1\/∃ j:Nat,j<n/\xH old hit fI n=(j:Int)/\fI j=true:=by
 unfold xH;rcases vS (λi=>fI i&&old i) n with ⟨E,_⟩|⟨j,E,I,C,_⟩
 ·rw[E,bf,aq];rcases vS (λi=>fI i&&hit i) n with ⟨C,_⟩ | ⟨j,C,O,D,_⟩
  ·rw[C,bf,aq];rcases vS fI n with ⟨D,_⟩ | ⟨j,D,T,U,_⟩
   ·exact .inl D
   ·exact .inr ⟨j,D,T,U⟩
  ·rw[O,br,av];exact .inr ⟨j,C,rfl,(aM _ _ ▸ D).1⟩
 ·rw[I,br,av];exact .inr ⟨j,E,rfl,(aM _ _ ▸ C).1⟩
def axL{c:ax}(h:Pq c)(I:¬ (c.trace.length:Int) >= 2000)(U:c.bF.length<400):((pL c).1.kind=0/\(pL c).2 = -1)\/kT c (pL c).1 (pL c).2=true/\(pL c).1.kind≠0:=by
 unfold pL;rcases aiu (old:=vT c) (hit:=gz c) (fI:=pJ c (uF c)) (n:=c.queue.length)with e|⟨j,C,e,D⟩
 ·rw[show qQ c = -1 from e];exact .inl ⟨rfl,rfl⟩
 ·rw[show qQ c=(j:Int)from e,br,av];dsimp only;rw[bz];simp only[pJ,l6,aM]at D;have E:=ahZ h C;have Y:=(ur E).2.1;refine .inr ⟨?_,by omega⟩;have O:ow c.aN (cW c (c.queue.getD (j:Int).toNat mR).line) (c.queue.getD (j:Int).toNat mR).write=gp c j:=by
   unfold gp;rw[bz,gQ _ C,Ln C,<-Lo (by rw[DL];exact C),ahP C]
  have hi:aP (j:Int) 0 ((c.queue.length:Int)-1)=true:=bu.2 ⟨by omega,by omega⟩;have T:Lu (gp c j) (gp c j)=true:=by
   unfold Lu;simp only[iQ,Bool.and_self]
  unfold kT Lv;rw[E,D.1.2.2.1,br I,O,T,hi,bf (show (c.bF.length:Int)<400 by omega),Bool.or_true];cases (gp c j).kind==2 ||(gp c j).kind==3<;>rfl
def axM{c:ax}(h:Pq c)(C:¬ (c.trace.length:Int) >= 2000)(I:c.bF.length<400):((fJ c).1.kind=0/\(fJ c).2 = -1)\/kT c (fJ c).1 (fJ c).2=true/\(fJ c).1.kind≠0:=by
 have O:=DO c;unfold fJ;cases c.aR.state != 0 with
 | true=>
  rw[aq];by_cases D:cP c=0
  ·rw[D];exact .inl ⟨rfl,rfl⟩
  ·rw[fR D,aq];cases hb:de c ⟨cP c,0,0,0⟩with
   |false=>exact .inl ⟨rfl,rfl⟩
   |true=>exact .inr (Yt ⟨QK h.p.R.uC (by omega),by show cP c≠2;omega,by show cP c≠3;omega⟩ hb C)
 | false=>
  rw[av];cases hu:DP c with
  | some x=>
   unfold DP at hu;exact .inr (Yt (axJ h x (List.mem_of_find?_eq_some hu)) (List.find?_some hu) C)
  | none=>
   dsimp only;cases T:decide ((pL c).2 >= 0)with
   |true=>exact axL h C I
   | false=>
    rw[av];unfold uH;cases E:(qS c++(oy c++nN c)).find? (de c)with
    |none=>exact .inl ⟨rfl,rfl⟩
    |some x=>exact .inr (Yt (axK h x (List.mem_of_find?_eq_some E)) (List.find?_some E) C)
def Mc(l C:aa bO)(e D:aa cr):Prop:=(C=l/\D=e)\/∃(n:Nat) (h:n<l.length),C=l.set n (kS l[n])/\D=bif jh l[n] != 0 then nM e (n:Int) (jh l[n])else e
def Qs(s j:ax):Prop:=∃l e,j=⟨s.config,s.box,s.now,s.aN,s.ready,⟨l,s.array.bh,s.array.aY⟩,s.spare,s.aD,s.bA,s.guard,s.pending,s.queue,s.shares,s.drain,s.aR,s.dJ,e,s.trace,s.bF⟩/\Mc s.array.cells l s.errors e
def Fn(j y:ax):Prop:=((fJ j).1.kind=0/\y=j)\/(kT j (fJ j).1 (fJ j).2=true/\y=cN j (fJ j).1 (fJ j).2)
def Ke(j:ax)(o:aj ax):Prop:=∃y,o=some y/\cv y/\cz y=true/\cv j/\cz j=true/\Fn j y
def Kf(s:ax)(o:aj ax):Prop:=∃j,Qs s j/\Ke j o
def Yv{x:ax}(C:cv x)(D:cz x=true)(Z:x.trace.length<2000)(O:x.bF.length<400):Ke x (Rc x):=by
 have h:=Pq.of C D;have T:¬ (x.trace.length:Int) >= 2000:=by omega
 have e:ug x=some (fJ x):=by
  unfold ug;rw[BI x C,au,D,bE,av,awW h,br T];rfl
 unfold Rc;rw[e,au];rcases axM h T O with ⟨E,_⟩|⟨I,E⟩
 ·rw[E];exact⟨x,rfl,C,D,C,D,.inl ⟨E,rfl⟩⟩
 ·obtain⟨hb,U,Y,O⟩:=xF C h I;rw[fR E,aq,awm C h,I,aq,awc hb U Y];exact⟨_,rfl,awj C hb O U Y,(Ck.Ym C (Ck.of D) I).ok,C,D,.inr ⟨I,rfl⟩⟩
def aiv{x:ax}(Z:cv x)(h:cz x=true)(I:x.trace.length<2000)(O:x.bF.length<400){n:Int}(hn:n<dB x.config.ak):Kf x (Rd x n):=by
 unfold Rd;by_cases T:n >= 0
 ·have C:=Ck.of h;have U:=eY.sV C.ar;have hg:=(xm C.rk).1;have hl:=U.cells;have hb:=lD x.config.ak;obtain⟨j,rfl⟩:=dH T;have D:j<x.array.cells.length:=by omega
  have Y:=U.syms _ (cX D);have Q9:=X7 Y;have E:eY x.config.ak 100000 ⟨x.array.cells.set j (kS x.array.cells[j]),x.array.bh,x.array.aY⟩:=U.DD _ (X3 Y);have p:=fN.of C.pa;have hU:=(Ek.of C.er).l;rw[bf T,aq,ahM D Y,au];dsimp only;rw[ahR (c:=xx x j (kS x.array.cells[j])) C.er ⟨by omega,by omega⟩ Q9,au];dsimp only;obtain⟨z1,z2,z3,z5,z6,z7,z8,z9,kL,lH,lY,kK,lZ,ot⟩:=Z;have It:cv (xx x j (kS x.array.cells[j])):=⟨z1,z2,z3,xD E,z6,z7,z8,z9,kL,lH,lY,kK,lZ,ot⟩
  have TT:Ck (xx x j (kS x.array.cells[j])):=⟨C.f1,C.f2,C.nw,C.rk,C.rd,zG hg E,C.sp,C.se,C.rf,(show fN (xx x j (kS x.array.cells[j]))from ⟨p.dl,p.tl,p.gl,p.t,p.g,p.pd,p.u⟩).ok,C.qu,C.sh,C.sl,C.dr,C.pw,C.ps,C.si,C.s1,C.s2,C.s3,C.er,C.tr,C.rp⟩
  unfold Q0;by_cases e:jh x.array.cells[j]=0
  ·rw[e];exact⟨_,⟨_,_,rfl,.inr ⟨j,D,rfl,by rw[e];rfl⟩⟩,Yv It TT.ok I O⟩
  ·rw[fR e,aq];have he:=ah9 (l:=x.errors) C.er (n:=(j:Int)) ⟨by omega,by omega⟩ (code:=jh x.array.cells[j]) (by omega);have hle:=ahX (l:=x.errors) (j:Int) (jh x.array.cells[j]);exact⟨_,⟨_,_,rfl,.inr ⟨j,D,rfl,by rw[fR e,aq]⟩⟩,(Yv (x:=QZ (xx x j (kS x.array.cells[j])) (nM x.errors (j:Int) (jh x.array.cells[j]))) ⟨z1,z2,z3,xD E,z6,z7,z8,z9,kL,lH,lY,by show (nM x.errors (j:Int) (jh x.array.cells[j])).length<=_;omega,lZ,ot⟩ (Ck.ok ⟨C.f1,C.f2,C.nw,C.rk,C.rd,zG hg E,C.sp,C.se,C.rf,(show fN (QZ (xx x j (kS x.array.cells[j])) (nM x.errors (j:Int) (jh x.array.cells[j])))from ⟨p.dl,p.tl,p.gl,p.t,p.g,p.pd,p.u⟩).ok,C.qu,C.sh,C.sl,C.dr,C.pw,C.ps,C.si,C.s1,C.s2,C.s3,he,C.tr,C.rp⟩) I O)⟩
 ·rw[br T,av];exact⟨_,⟨_,_,rfl,.inl ⟨rfl,rfl⟩⟩,Yv Z h I O⟩
def LB(w:Bool)(i:Int):Int:=bif w then 0 else if 1000000<i+1 then 1000000 else i+1
def axN{p:iF}(h:kO p=true)(w:Bool):∃ y,Fz p w=some y/\kO y=true/\y.state=p.state/\y.since=p.since/\y.idle=LB w p.idle:=by
 unfold Fz LB;rw[Qr,au,h,bE,av];simp only[kO,aM,bu]at h;cases w with
 |true=>exact⟨_,rfl,by simp only[kO,aM,bu];omega,rfl,rfl,rfl⟩
 | false=>
  rw[aZ (n:=p.idle+1)];refine⟨_,rfl,?_,rfl,rfl,rfl⟩;simp only[kO,aM,bu];split<;>omega
structure Pr (c j:ax):Prop where
 pN:j.now=c.now+1
 pC:j.config=c.config
 pK:j.aN=c.aN
 pR:j.ready=c.ready
 pH:j.array.aY=c.array.aY
 pA:j.array.bh=bif c.aN.aR != 2 then c.array.bh.map (oh 1)else c.array.bh
 pF:j.aD=bif c.aN.aR != 2 then xJ c.aD c.config.interval else c.aD
 pT:j.bA=c.bA
 pG:j.guard=c.guard
 pP:j.pending=c.pending
 pQ:j.queue=c.queue
 pS:j.aR.state=c.aR.state
 pE:j.trace=c.trace
 pY:j.bF=c.bF
 pI:j.aR.idle=LB (mO j) c.aR.idle
 pB:j.box=c.box\/j.box=⟨c.box.next,c.box.next,false⟩
 pV:j.spare=c.spare
 pM:Mc c.array.cells j.array.cells c.errors j.errors
def aiw{c:ax}(hz:cv c)(h:Ck c)(hn:c.now<1000000)(U:c.trace.length<2000)(Y:c.bF.length<400){r:dI}{a:cL}(Z:fD r=true)(TV:r.aB.length=c.aD.aB.length)(ha:lX c.config.ak a=true)
  (e1:r=bif c.aN.aR != 2 then xJ c.aD c.config.interval else c.aD) (e2:a.bh=bif c.aN.aR != 2 then c.array.bh.map (oh 1)else c.array.bh) (e3:a.aY=c.array.aY) (e4:a.cells=c.array.cells):∃j y,stepT c r a=some y/\cv y/\cz y=true/\cv j/\cz j=true/\Pr c j/\Fn j y:=by
 obtain⟨C,z2,z3,z5,z6,z7,z8,z9,kL,lH,lY,kK,lZ,ot⟩:=hz;have p:=fN.of h.pa;have hg:=(xm h.rk).1;have Lx:=bu.1 h.nw;have hb:=lD c.config.ak;have hLp:1<=dB c.config.ak:=by
  have:=bu.1 h.s3;rw[aZ (n:=dB c.config.ak-1)]at this;omega
 have w1:c.box.bW.weights.length<=1048576:=C.1;have w2:c.box.next.weights.length<=1048576:=C.2
 obtain⟨n,f1⟩:=awY c.queue true (by omega);obtain⟨d,f2,E⟩:=awZ h.dr n;have f3:Bb (vW c c.box a r c.shares d c.aR c.dJ)=some (mO (vW c c.box a r c.shares d c.aR c.dJ)):=ahw (c:=vW c c.box a r c.shares d c.aR c.dJ) Z;obtain⟨pw,f4,Vs,yS,hp3,hp4⟩:=axN h.pw (mO (vW c c.box a r c.shares d c.aR c.dJ));obtain⟨t,f5⟩:=aw0 c.box C ((c.queue.length:Int)==(0:Int));obtain⟨u,m,f6,SG,qv,LC,hm⟩:=aw2 h.s1 h.s2 h.s3 ⟨hLp,by omega⟩;have I:W6 (c.now+1)=c.now+1:=aZ;have key:∀ (b:jE) (s:aa cQ) (d:lM),K3 b->mL c.config b.bW=true->mL c.config b.next=true->iM s=true->(s.length:Int)=4->o7 d=true->cv (vW c b a r s d pw u)/\cz (vW c b a r s d pw u)=true:=λb s d vA gX Yw G5 Yp E=>by
  refine⟨⟨vA,z2,z3,xD (eY.sV ha),z6,by have:=z7;unfold BH at this ⊢;show r.aB.length<=_;omega,z8,z9,kL,lH,by show s.length<=_;omega,kK,lZ,ot⟩,Ck.ok ⟨gX,Yw,?_,h.rk,h.rd,ha,h.sp,h.se,Z,(show fN (vW c b a r s d pw u)from ⟨by show (r.aB.length:Int)=_;rw[TV];exact p.dl,p.tl,p.gl,p.t,p.g,p.pd,p.u⟩).ok,h.qu,G5,Yp,E,Vs,yS.trans h.ps,?_,SG,qv,LC,h.er,h.tr,h.rp⟩⟩
  ·show aP (W6 (c.now+1)) 0 1000000=true;rw[I];exact bu.2 ⟨by omega,by omega⟩
  ·show pw.since<=W6 (c.now+1);have:=h.si;rw[I,hp3];omega
 have Cw:∀ (b:jE) (s:aa cQ) (d:lM) (o:aj ax),(b=c.box\/b=⟨c.box.next,c.box.next,false⟩)->Kf (vW c b a r s d pw u) o->∃ j y,o=some y/\cv y/\cz y=true/\cv j/\cz j=true/\Pr c j/\Fn j y:=λb s d o hb ho=>by
  obtain⟨j,⟨l,e,rfl,D⟩,y,g1,g2,g3,g4,g5,g6⟩:=ho;have D:Mc a.cells l c.errors e:=D;rw[e4]at D;exact⟨_,y,g1,g2,g3,g4,g5,⟨I,rfl,rfl,rfl,e3,e2,e1,rfl,rfl,rfl,rfl,yS,rfl,rfl,hp4,hb,rfl,D⟩,g6⟩
 unfold stepT;rw[f1,au,f2,au,f3,au,f4,au,f5,au];dsimp only;cases t with
 | false=>
  rw[av,av,Bn,au,f6,au];obtain⟨O,T⟩:=key c.box c.shares d C h.f1 h.f2 h.sh h.sl E;exact Cw _ _ _ _ (.inl rfl) (aiv O T U Y hm)
 | true=>
  obtain⟨l,t2,f7,tE,jv,Lw⟩:=aw1 (p:=c.box.next) (by omega) h.f2;rw[aq,aq];dsimp only;rw[f7,au,Bn,au,f6,au];obtain⟨O,T⟩:=key ⟨c.box.next,c.box.next,false⟩ l ⟨false,c.box.next.low,c.box.next.high⟩ ⟨C.2,C.2⟩ h.f2 h.f2 tE jv Lw;exact Cw _ _ _ _ (.inr rfl) (aiv O T U Y hm)
def axO{c:ax}(C:cv c)(E:cz c=true)(I:c.now<1000000)(O:c.trace.length<2000)(T:c.bF.length<400):∃ j y,w7 c=some y/\cv y/\cz y=true/\cv j/\cz j=true/\Pr c j/\Fn j y:=by
 have h:=Ck.of E;have w1:c.box.bW.weights.length<=1048576:=C.1.1;have hi:=aw4 (by omega) h.f1;unfold w7;rw[BN c C,au,BI c C,au,E,bE,av,jw (show ¬ c.now=1000000 by omega),av];cases D:c.aN.aR != (2:Int)with
 | true=>
  obtain⟨U,Y⟩:=aw5 h.rf hi;rw[aq,aw6 h.rf hi,au,aw8 h.ar,au];exact aiw C h I O T U Y (aw7 h.ar) (by rw[D];rfl) (by rw[D];rfl) rfl rfl
 | false=>
  rw[av];exact aiw C h I O T h.rf rfl h.ar (by rw[D];rfl) (by rw[D];rfl) rfl rfl
def Why(c:ax)(x:aT):Prop:=
 (c.aR.state≠0/\(x=uE/\(cP c=0\/de c ⟨cP c,0,0,0⟩=false)\/x=⟨cP c,0,0,0⟩))\/
 (c.aR.state=0/\((∃ b∈bV 0 c.aD.aB,x=fX c b)\/(∀ b∈bV 0 c.aD.aB,de c (fX c b)=false)/\
  ((∃k,k<c.pending.length/\rP c k=true/\x=jA c k)\/(∃j,j<c.queue.length/\l6 c j=true/\x=gp c j)\/x∈qS c++(oy c++nN c)\/x=uE)))
def LD{c:ax}(h:Pq c):Why c (fJ c).1:=by
 unfold fJ;by_cases D:c.aR.state=0
 ·refine .inr ⟨D,?_⟩;rw[D,mU,av];unfold DP;rw[List.find?_append];cases I:(Gv c).find? (de c)with
  | some y=>
   obtain⟨b,hb,rfl⟩:=List.mem_map.1 (List.mem_of_find?_eq_some I);exact .inl ⟨b,hb,rfl⟩
  | none=>
   refine .inr ⟨λb hb=>Bool.eq_false_iff.2 (List.find?_eq_none.1 I _ (List.mem_map_of_mem hb)),?_⟩
   rw[Option.none_or];cases T:(Gw c c.pending.length).find? (de c)with
   | some y=>
    obtain⟨k,U,rfl⟩:=List.mem_map.1 (List.mem_of_find?_eq_some T);obtain⟨Y,Z⟩:=List.mem_filter.1 U;exact .inl ⟨k,fS.1 Y,Z,rfl⟩
   | none=>
    refine .inr ?_;dsimp only;cases C:decide ((pL c).2 >= 0)with
    | true=>
     rw[aq];have C:(pL c).2 >= 0:=oD C;unfold pL at C ⊢;rcases aiu (old:=vT c) (hit:=gz c) (fI:=pJ c (uF c)) (n:=c.queue.length)with e|⟨j,hj,e,E⟩
     ·rw[show qQ c = -1 from e]at C;exact absurd (show (-1:Int) >= 0 from C) (by decide)
     ·rw[show qQ c=(j:Int)from e,br,av];dsimp only;rw[bz];unfold pJ at E;rw[aM]at E;exact .inl ⟨j,hj,E.1,rfl⟩
    | false=>
     rw[av];unfold uH;cases hf:(qS c++(oy c++nN c)).find? (de c)with
     |none=>exact .inr (.inr rfl)
     |some x=>exact .inr (.inl (List.mem_of_find?_eq_some hf))
 ·refine .inl ⟨D,?_⟩;rw[fR D,aq];by_cases O:cP c=0
  ·rw[O];exact .inl ⟨rfl,.inl rfl⟩
  ·rw[fR O,aq];cases hb:de c ⟨cP c,0,0,0⟩with
   |false=>exact .inl ⟨rfl,.inr rfl⟩
   |true=>exact .inr rfl
def Yx{c:ax}(h:Pq c){b:Int}(hb:b∈bV 0 c.aD.aB):0<=b/\b<aJ c.config.ak/\c.aD.aB.getD b.toNat 0 >= 4:=by
 have C:=(Yi h hb).1;have D:=h.dl;refine⟨C.1,C.2,?_⟩;rw[show b=((0:Nat):Int)+b by omega]at hb;exact(X9 C.1 (by omega) 0).1 hb
def Yy{c:ax}(h:Pq c){b:Int}(C:0<=b)(E:b<aJ c.config.ak)(D:c.aD.aB.getD b.toNat 0 >= 4):b∈bV 0 c.aD.aB:=by
 have hl:=h.dl;have:=(X9 (l:=c.aD.aB) C (by omega) 0).2 D;rw[show ((0:Nat):Int)+b=b by omega]at this;exact this
def BY(c:ax)(b:Int)(x:aT):qR c b x=⟨4,b,0,0⟩\/qR c b x=x/\(cu c.aN b).open_=false:=by
 unfold qR;cases (cu c.aN b).open_ with
 |true=>exact .inl rfl
 |false=>exact .inr ⟨rfl,rfl⟩
def Yz(r:cg)(a:aO)(w:Bool):(ow r a w).ay=a.ay/\((ow r a w).kind=1/\(ow r a w).row=a.row\/(ow r a w).kind=4\/(ow r a w).kind=3\/(ow r a w).kind=2):=by
 unfold ow;cases (cu r a.ay).open_ with
 |false=>exact⟨rfl,.inl ⟨rfl,rfl⟩⟩
 | true=>
  rw[bE,av];cases (cu r a.ay).row != a.row with
  |true=>exact⟨rfl,.inr (.inl rfl)⟩
  | false=>
   cases w with
   |true=>exact⟨rfl,.inr (.inr (.inl rfl))⟩
   |false=>exact⟨rfl,.inr (.inr (.inr rfl))⟩
def Ri{c:ax}(h:Pq c){x:aT}(hx:x∈qS c++(oy c++nN c)):(x=⟨5,fh c,0,0⟩/\0<=fh c/\c.aD.aB.getD (fh c).toNat 0 > 0/\bV 0 c.aD.aB=[]/\zH c (fh c).toNat=true)\/x.kind=4\/(x=⟨cP c,0,0,0⟩/\cP c≠0):=by
 rcases List.mem_append.1 hx with hx|hx
 ·unfold qS at hx;have T:=h.dl;have hb:-1<=fh c/\fh c<c.aD.aB.length:=Yj _ _;by_cases C:fh c >= 0
  ·have U:0<=fh c/\fh c<aJ c.config.ak:=by omega
   rw[bf C,cw]at hx;cases E:rO c (fh c)with
   |true=>rw[E]at hx;cases hx
   | false=>
    rw[E]at hx;have hx:=iw.1 hx;have D:=(DH (uG (decide (((bV 0 c.aD.aB).length:Int) > 0)) c.aD.aB (zH c)) (λi=>c.aD.aB.getD i 0) c.aD.aB.length).resolve_left (λe=>by have e:fh c = -1:=e;omega);have D:uG (decide (((bV 0 c.aD.aB).length:Int) > 0)) c.aD.aB (zH c) (fh c).toNat=true:=D;unfold uG at D;unfold rO at E;have E:¬ c.aD.aB.getD (fh c).toNat 0 >= 4:=of_decide_eq_false E;by_cases O:((bV 0 c.aD.aB).length:Int) > 0
    ·rw[bf O,aq]at D;exact absurd (oD D) E
    ·rw[br O,av,aM]at D;have I:bV 0 c.aD.aB=[]:=List.eq_nil_of_length_eq_zero (by omega);rcases BY c (fh c) ⟨5,fh c,0,0⟩with e | ⟨e,_⟩
     ·exact .inr (.inl (by rw[hx];unfold fX;rw[e]))
     ·exact .inl ⟨by rw[hx];unfold fX;rw[e],C,oD D.1,I,D.2⟩
  ·rw[br C]at hx;cases hx
 ·refine .inr ?_;rcases List.mem_append.1 hx with hx | hx
  ·unfold oy at hx;cases C:decide (mS c >= 0)with
   |false=>rw[C]at hx;cases hx
   |true=>rw[C]at hx;rw[iw.1 hx];exact .inl rfl
  ·unfold nN at hx;cases C:cP c==8&&decide (((opens 0 c.aN.aI).length:Int) > 0)with
   |true=>rw[C]at hx;rw[iw.1 hx];exact .inl rfl
   | false=>
    rw[C,av]at hx;by_cases I:cP c=0
    ·rw[I]at hx;cases hx
    ·rw[fR I]at hx;exact .inr ⟨iw.1 hx,I⟩
def YA{c:ax}(h:Pq c)(C:(fJ c).1.kind=5):c.aD.aB.getD (fJ c).1.ay.toNat 0 >= 1/\(c.aD.aB.getD (fJ c).1.ay.toNat 0 >= 4\/bV 0 c.aD.aB=[]):=by
 have I:=DO c;rcases LD h with ⟨_,⟨e,_⟩|e⟩|⟨_,⟨b,hb,e⟩|⟨_,⟨k,_,_,e⟩|⟨j,_,_,e⟩|e|e⟩⟩
 ·rw[e]at C;exact absurd C (by decide)
 ·rw[e]at C;dsimp only at C;omega
 ·rw[e]at C ⊢;unfold fX at C ⊢;rcases BY c b ⟨5,b,0,0⟩with e | ⟨e,_⟩
  ·rw[e]at C;exact absurd C (show ¬ (4:Int)=5 by decide)
  ·rw[e];have:=(Yx h hb).2.2;exact⟨by dsimp only;omega,.inl (by dsimp only;omega)⟩
 ·rw[e]at C;unfold jA at C;rcases BY c (iX c k).ay ⟨1,(iX c k).ay,(iX c k).row,0⟩with e | ⟨e,_⟩ <;>rw[e]at C
  ·exact absurd C (show ¬ (4:Int)=5 by decide)
  ·exact absurd C (show ¬ (1:Int)=5 by decide)
 ·rw[e]at C;have:=(Yz c.aN (cD c j) (rL c.queue j)).2;unfold gp at C;omega
 ·rcases Ri h e with ⟨e,_,D,E,_⟩ | e | ⟨e,_⟩
  ·rw[e];exact⟨D,.inr E⟩
  ·omega
  ·rw[e]at C;dsimp only at C;omega
 ·rw[e]at C;exact absurd C (by decide)
def Gx(l:aa Int)(i k:Nat):(l.set i 0).getD k 0=if i=k then 0 else l.getD k 0:=by
 rw[cK,List.getElem?_set];split
 ·split<;>rfl
 ·rw[<-cK]
def aix(l:aa Int){i:Nat}(x:Int)(k:Nat)(h:i<l.length):(l.set i x).getD k 0=if i=k then x else l.getD k 0:=by
 rw[cK,List.getElem?_set,aW h];split
 ·rfl
 ·rw[<-cK]
def YB(f:Int->Int)(l:aa Int){k:Nat}(h:k<l.length):(l.map f).getD k 0=f (l.getD k 0):=by
 rw[cK,eO,bK h,cK,bK h];rfl
def aiy(l:aa Int)(k:Nat):(l.map (oh 1)).getD k 0<=l.getD k 0+1:=by
 by_cases h:k<l.length
 ·rw[YB _ _ h];unfold oh;split<;>omega
 ·rw[cK,cK,pX (by rw[fy];omega),pX (by omega)];decide
def Gy(c:ax){x:aT}(i:Int)(h:x.kind=1):cN c x i=vP (bU c x) x:=by
 unfold cN;rw[h];rfl
def LF(c:ax){x:aT}(i:Int)(h:x.kind=5):cN c x i=Lq (bU c x) x.ay:=by
 unfold cN;rw[h];rfl
def DS(c:ax){x:aT}(i:Int)(h:x.kind=9):cN c x i=jg (BU (bU c x) 9) c.bA.length []:=by
 unfold cN;rw[h];rfl
def YC{c:ax}{x:aT}{i:Int}(C:1<=x.kind/\x.kind<=9)(D:x.kind≠1)(E:x.kind≠5)(I:x.kind≠9):(cN c x i).array.bh=c.array.bh/\(cN c x i).array.aY=c.array.aY/\(cN c x i).aD=c.aD/\(cN c x i).bA=c.bA/\(cN c x i).guard=c.guard/\(cN c x i).pending=c.pending:=by
 have acc:∀ i:Nat,(gH (bU c x) i).array.bh=c.array.bh/\(gH (bU c x) i).array.aY=c.array.aY/\(gH (bU c x) i).aD=c.aD/\(gH (bU c x) i).bA=c.bA/\(gH (bU c x) i).guard=c.guard/\(gH (bU c x) i).pending=c.pending:=λi=>by
  unfold gH;dsimp only;cases ((bU c x).queue.getD i mR).write<;>exact⟨rfl,rfl,rfl,rfl,rfl,rfl⟩
 unfold cN;rcases kinds C with q|q|q|q|q|q|q|q|q<;>rw[q]<;>simp only[Int.reduceBEq,Int.reduceBNe,aq,av,Bool.or_true,Bool.or_false,Bool.true_or,Bool.false_or,Bool.or_self]
 ·exact absurd q D
 ·exact acc _
 ·exact acc _
 ·exact⟨rfl,rfl,rfl,rfl,rfl,rfl⟩
 ·exact absurd q E
 ·exact⟨rfl,rfl,rfl,rfl,rfl,rfl⟩
 ·exact⟨rfl,rfl,rfl,rfl,rfl,rfl⟩
 ·exact⟨rfl,rfl,rfl,rfl,rfl,rfl⟩
 ·exact absurd q I
def Rj(g:aF)(l:ko)(a:cL)(b:Int):∀ n k:Nat,(fW g l a b n).bh.getD k 0=a.bh.getD k 0\/(fW g l a b n).bh.getD k 0=0
 |0,k=>.inl rfl
 | n+1,k=>by
  unfold fW;rw[pz];show ((fW g l a b n).bh.set _ 0).getD k 0=_\/((fW g l a b n).bh.set _ 0).getD k 0=0;rw[Gx];split
  ·exact .inr rfl
  ·exact Rj g l a b n k
def YD(g:aF)(l:ko)(a:cL)(b:Int):∀ n r:Nat,r<n->(fW g l a b n).bh.getD (b*g.rows+(r:Int)).toNat 0=0
 | n+1,r,h=>by
  unfold fW;rw[pz];show ((fW g l a b n).bh.set (b*g.rows+(n:Int)).toNat 0).getD _ 0=0;rw[Gx];split
  ·rfl
  ·rename_i C;exact YD g l a b n r (by
    by_cases e:r=n
    ·subst e;exact absurd rfl C
    ·omega)
def oz(g:aF)(l:ko)(a:cL)(k:Nat):cL:=(List.range k).foldl (λa (b:Nat)=>fW g l a (b:Int) g.rows.toNat) a
def aiz(g:aF)(l:ko)(a:cL):∀ n b r:Nat,b<n->r<g.rows.toNat->(oz g l a n).bh.getD ((b:Int)*g.rows+(r:Int)).toNat 0=0
 | n+1,b,r,hb,C=>by
  unfold oz;rw[pz];by_cases e:b=n
  ·subst e;exact YD g l _ _ _ r C
  ·rcases Rj g l (oz g l a n) (n:Int) g.rows.toNat ((b:Int)*g.rows+(r:Int)).toNat with e2 | e2
   ·exact e2.trans (aiz g l a n b r (by omega) C)
   ·exact e2
def YE(l:aa Int):∀ n k:Nat,((List.range n).foldl (λd b=>d.set b 0) l).getD k 0=if k<n then 0 else l.getD k 0
 |0,k=>rfl
 | n+1,k=>by
  rw[pz,Gx,YE l n k];by_cases e:n=k
  ·subst e;rw[aW rfl,aW]
  ·rw[aX e];by_cases C:k<n
   ·rw[aW C,aW]
   ·rw[aX C,aX]
def Rk(r:dI){b:Int}(hb:b.toNat<r.aB.length)(k:Nat)(h:r.aB.getD b.toNat 0 >= 1):(mQ r b).aB.getD k 0=(if b.toNat=k then r.aB.getD k 0-1 else r.aB.getD k 0)/\(mQ r b).wait=r.wait/\(mQ r b).dP=r.dP:=by
 unfold mQ;rw[br (show ¬ r.aB.getD b.toNat 0 = -2 by omega),av];refine⟨?_,rfl,rfl⟩;dsimp only;rw[aix _ _ _ hb];split
 next e=>rw[e]
 ·rfl
def jB(r:dI):Int:=bif r.dP then 2*r.wait-1 else r.wait
def rQ(c:ax):Prop:=jB c.aD<=c.config.interval/\∀b r:Nat,(b:Int)<aJ c.config.ak->r<c.config.ak.rows.toNat->0<=c.aD.aB.getD b 0/\c.array.bh.getD ((b:Int)*c.config.ak.rows+(r:Int)).toNat 0+jB c.aD<=(c.aD.aB.getD b 0+1)*c.config.interval
def Ro{d I w:Int}(C:0<=d)(E:w<=I)(D:0<=I):0+w<=(d+1)*I:=by
 have:=Int.mul_nonneg C D;rw[Int.add_mul,Int.one_mul];omega
def rQ.pr{c j:ax}(h:rQ c)(p:Pr c j)(hi:2<=c.config.interval/\c.config.interval<=10000)(hw:1<=c.aD.wait/\c.aD.wait<=10000)(hl:(c.aD.aB.length:Int)=aJ c.config.ak)(O:∀ b:Nat,c.aD.aB.getD b 0<=4):rQ j:=by
 unfold rQ at h ⊢;rw[p.pC,p.pA,p.pF];cases hp:c.aN.aR != 2 with
 |false=>exact h
 | true=>
  rw[aq,aq];obtain⟨h1,D⟩:=h;unfold xJ;by_cases E:0<c.aD.wait-1
  ·rw[aW E];have T:jB ⟨c.aD.aB,c.aD.wait-1,c.aD.dP⟩<=jB c.aD-1:=by
    unfold jB;dsimp only;cases c.aD.dP with
    |true=>rw[aq,aq];omega
    |false=>rw[av,av];omega
   refine⟨by omega,λb r hb C=>?_⟩
   obtain⟨I,U⟩:=D b r hb C;have:=aiy c.array.bh ((b:Int)*c.config.ak.rows+(r:Int)).toNat;exact⟨I,by dsimp only;omega⟩
  ·rw[aX E];have T:jB c.aD=1:=by
    unfold jB;cases c.aD.dP with
    |true=>rw[aq];omega
    |false=>rw[av];omega
   have Y:jB ⟨c.aD.aB.map uI,bif c.aD.dP then c.config.interval / 2 else c.config.interval,c.aD.dP⟩<=c.config.interval:=by
    unfold jB;dsimp only;cases c.aD.dP with
    |true=>rw[aq,aq];omega
    |false=>rw[av,av];omega
   refine⟨Y,λb r hb C=>?_⟩
   obtain⟨I,U⟩:=D b r hb C;have Z:b<c.aD.aB.length:=by omega
   have hm:=O b;have ht:(c.aD.aB.map uI).getD b 0=c.aD.aB.getD b 0+1:=by
    rw[YB _ _ Z];unfold uI;rw[aZ,aX]
   have:=aiy c.array.bh ((b:Int)*c.config.ak.rows+(r:Int)).toNat;dsimp only;rw[ht];refine⟨by omega,?_⟩;rw[Int.add_mul (c.aD.aB.getD b 0+1) 1,Int.one_mul];omega
def rQ.Ym{c:ax}(h:rQ c)(hq:Pq c){x:aT}{i:Int}(hc:dz c.config.ak x=true)(h5:x.kind=5->c.aD.aB.getD x.ay.toNat 0 >= 1)(hi:0<=c.config.interval)(zF:(c.bA.length:Int)=aJ c.config.ak):rQ (cN c x i):=by
 obtain⟨hg,U,hb,_⟩:=ur hc;have K0:=hq.dl;obtain⟨D,I⟩:=h;have gb:=fL hg;by_cases Y:x.kind=1
 ·rw[Gy c i Y]
  refine⟨D,λb r hb C=>?_⟩
  have hb:(b:Int)<aJ c.config.ak:=hb;have C:r<c.config.ak.rows.toNat:=C;obtain⟨E,O⟩:=I b r hb C;refine⟨E,?_⟩;show (c.array.bh.set (x.ay*c.config.ak.rows+x.row).toNat 0).getD ((b:Int)*c.config.ak.rows+(r:Int)).toNat 0+jB c.aD<=(c.aD.aB.getD b 0+1)*c.config.interval;rw[Gx];split
  ·exact Ro E D hi
  ·exact O
 ·by_cases T:x.kind=5
  ·have Z:=h5 T;obtain⟨b0,b1⟩:=hb (by omega);have jc:x.ay.toNat<c.aD.aB.length:=by omega
   obtain⟨_,w1,w2⟩:=Rk c.aD jc 0 Z;have hw:jB (mQ c.aD x.ay)=jB c.aD:=by unfold jB;rw[w1,w2]
   rw[LF c i T]
   refine⟨by show jB (mQ c.aD x.ay)<=_;rw[hw];exact D,λb r hb C=>?_⟩
   have hb:(b:Int)<aJ c.config.ak:=hb;have C:r<c.config.ak.rows.toNat:=C;obtain⟨E,O⟩:=I b r hb C;show 0<=(mQ c.aD x.ay).aB.getD b 0/\(fW c.config.ak c.config.di c.array x.ay c.config.ak.rows.toNat).bh.getD ((b:Int)*c.config.ak.rows+(r:Int)).toNat 0+jB (mQ c.aD x.ay)<=((mQ c.aD x.ay).aB.getD b 0+1)*c.config.interval;rw[(Rk c.aD jc b Z).1,hw];by_cases e:x.ay.toNat=b
   ·subst e;rw[aW rfl,Int.toNat_of_nonneg b0,YD _ _ _ _ _ r C];exact⟨by omega,Ro (by omega) D hi⟩
   ·rw[aX e];refine⟨E,?_⟩;rcases Rj c.config.ak c.config.di c.array x.ay c.config.ak.rows.toNat ((b:Int)*c.config.ak.rows+(r:Int)).toNat with e2 | e2
    ·rw[e2];exact O
    ·rw[e2];exact Ro E D hi
  ·by_cases k9:x.kind=9
   ·rw[DS c i k9]
    refine⟨D,λb r hb C=>?_⟩
    have hb:(b:Int)<aJ c.config.ak:=hb;have C:r<c.config.ak.rows.toNat:=C;show 0<=((List.range c.bA.length).foldl (λd b=>d.set b 0) c.aD.aB).getD b 0/\(oz c.config.ak c.config.di c.array c.bA.length).bh.getD ((b:Int)*c.config.ak.rows+(r:Int)).toNat 0+jB c.aD<=(((List.range c.bA.length).foldl (λd b=>d.set b 0) c.aD.aB).getD b 0+1)*c.config.interval;rw[YE,aW,aiz _ _ _ _ _ _ (by omega) C];exact⟨eW _,Ro (eW _) D hi⟩
   ·obtain⟨e1,_,e3,_⟩:=YC (c:=c) (i:=i) U Y T k9;have e4:(cN c x i).config=c.config:=by
     unfold cN;rcases kinds U with q|q|q|q|q|q|q|q|q<;>rw[q]<;>first|rfl|(unfold gH;dsimp only;cases ((bU c x).queue.getD i.toNat mR).write<;>rfl)
    unfold rQ;rw[e1,e3,e4];exact⟨D,I⟩
def La(q:ef)(b k:Nat):Int:=q.last.getD (9*b+k-1) (-1)
def axP{g:aF}{r w:Int}(D:1<=r/\r<=4)(E:4<=w/\w<=8){a:aT}(C:1<=a.kind/\a.kind<=9)(B:Int):ij g (lI r w) a ⟨4,B,0,0⟩<=16/\(a.kind=7->ij g (lI r w) a ⟨4,B,0,0⟩<=4)/\(a.kind≠7->a.kind≠9->(a.ay≠B\/4<=a.kind)->ij g (lI r w) a ⟨4,B,0,0⟩<=1):=by
 unfold ij zy sR sQ xl lI;dsimp only;rcases kinds C with h|h|h|h|h|h|h|h|h<;>rw[h]<;>cases hb:a.ay==B<;>simp[aP]at *<;>omega
def axQ{g:aF}{r w:Int}(O:1<=r/\r<=4)(T:4<=w/\w<=8){a:aT}(C:1<=a.kind/\a.kind<=9)(B:Int):ij g (lI r w) a ⟨5,B,0,0⟩<=16/\(a.kind=7->ij g (lI r w) a ⟨5,B,0,0⟩<=4)/\(a.kind=4->ij g (lI r w) a ⟨5,B,0,0⟩<=3)/\(a.kind=5->a.ay≠B->ij g (lI r w) a ⟨5,B,0,0⟩<=3)/\(a.kind≠7->a.kind≠9->a.kind≠5->a.ay≠B\/5<a.kind->ij g (lI r w) a ⟨5,B,0,0⟩<=1):=by
 have D:W6 (r+3)=r+3:=aZ;have E:W6 (w+3)=w+3:=aZ;have I:W6 (7+3)=10:=by decide
 unfold ij zy sR sQ xl lI;dsimp only;rw[D,E,I];rcases kinds C with h|h|h|h|h|h|h|h|h<;>rw[h]<;>cases hb:a.ay==B<;>simp[aP]at *<;>omega
def axR{g:aF}{r w:Int}{a:aT}(C:1<=a.kind/\a.kind<=9):ij g (lI r w) a ⟨7,0,0,0⟩<=16:=by
 unfold ij zy sR sQ xl lI;dsimp only;rcases kinds C with h|h|h|h|h|h|h|h|h<;>rw[h]<;>simp[aP]<;>omega
def aiA(g:aF)(t:c8)(l:aa Int)(c:aT){n:Int}(C:0<=n)(h:∀ (i:Nat) (hi:i<l.length),0<=l[i]->l[i]+ij g t (kR i) c<=n):∀ k,k<=l.length->uA g t l c k<=n
 |0,_=>C
 | k+1,I=>by
  have E:=aiA g t l c C h k (by omega);rw[QF,QG (by omega)];by_cases D:l[k]<0
  ·rw[bf D];exact E
  ·rw[br D,av];have:=h k (by omega) (by omega);unfold uz;split<;>omega
def Rp{c:ax}(h:Pq c){x:aT}(U:x.kind=1->c.ready.bg.length≠4)(Y:lG c.aN x=true)(Z:∀ (b k:Nat),1<=k->k<=9->((k<=5/\(b:Int)<aJ c.config.ak)\/(5<k/\(b:Int)=aJ c.config.ak))->0<=La c.ready b k->La c.ready b k+ij c.config.ak c.config.bQ ⟨(k:Int),if k<=5 then (b:Int)else 0,0,0⟩ x<=c.now):de c x=true:=by
 have hn:=h.nw;have hl:=(F8 h.p.XN).2.1;have ha:mN c.config.ak c.config.bQ c.ready x<=c.now:=by
  unfold mN;have e4:(x.kind==1&&(c.ready.bg.length:Int)==4)=false:=by
   by_cases E:x.kind=1
   ·rw[jw (show ¬ (c.ready.bg.length:Int)=4 from λe=>U E (by omega)),Bool.and_false]
   ·rw[jw E,Bool.false_and]
  rw[e4,av]
  refine aiA _ _ _ _ hn.1 (λi hi h0=>?_) _ (dg _)
  have C:=((h.p.R.last i hi).2).resolve_left (by omega);unfold oq at C;have C:=eZ.1 C;obtain⟨b,k,rfl,k1,k9⟩:∃b k:Nat,i=9*b+k-1/\1<=k/\k<=9:=⟨i / 9,i % 9+1,by omega,by omega,by omega⟩
  have I:((9*b+k-1:Nat):Int) % 9+1=(k:Int):=by omega
  have O:((9*b+k-1:Nat):Int) / 9=(b:Int):=by omega
  rw[I,O]at C;have T:La c.ready b k=c.ready.last[9*b+k-1]:=gQ _ hi;have e3:kR (9*b+k-1)=⟨(k:Int),if k<=5 then (b:Int)else 0,0,0⟩:=by
   unfold kR;rw[I,O];by_cases D:k<=5
   ·rw[aW,aW D]
   ·rw[aX,aX D]
  rw[e3,<-T];refine Z b k k1 k9 ?_ (by rw[T];exact h0);by_cases D:k<=5
  ·refine .inl ⟨D,?_⟩;rw[bf (show (k:Int)<=5 by omega)]at C;exact oD C
  ·refine .inr ⟨by omega,?_⟩;rw[br (show ¬ (k:Int)<=5 by omega)]at C;have:=of_decide_eq_false C;omega
 unfold de;rw[Y,bf ha,bf (show mN c.config.ak c.config.bQ c.ready x<=1000000 by omega)];rfl
def Gz{q:ef}{n:Int}(h:∀i:Nat,q.last.getD i (-1)<=n)(b k:Nat):La q b k<=n:=h _
def axS(g:aF)(q:ef)(e:dO)(C:dz g e.cmd=true)(b k:Nat)(I:1<=k/\k<=9):La (gG g q e) b k=La q b k\/(La (gG g q e) b k=e.at_/\(k:Int)=e.cmd.kind/\(b:Int)=if k<=5 then e.cmd.ay else aJ g):=by
 obtain⟨_,D,E,_⟩:=ur C;obtain⟨O,_⟩:=F7 C;unfold gG La;cases jo g q&&(dz g e.cmd&&(aP e.at_ 0 1000000 && !(e.cmd.kind==1&&uw q e.at_)))with
 |false=>exact .inl rfl
 | true=>
  rw[aq];dsimp only;rw[cK,List.getElem?_set,cK];by_cases hi:(iq g e.cmd).toNat=9*b+k-1
  ·rw[aW hi];by_cases hl:(iq g e.cmd).toNat<q.last.length
   ·rw[aW hl];refine .inr ⟨rfl,?_⟩;have hi:iq g e.cmd=9*(b:Int)+(k:Int)-1:=by omega
    unfold iq at hi;cases hu:aP e.cmd.kind 1 5 with
    | true=>
     rw[hu,aq]at hi;have:=bu.1 hu;have:=E this.2;refine⟨by omega,?_⟩;rw[aW];omega
    | false=>
     rw[hu,av]at hi;have T:¬ e.cmd.kind<=5:=λh=>by rw[bu.2 ⟨D.1,h⟩]at hu;cases hu
     refine⟨by omega,?_⟩;rw[aX];omega
   ·rw[aX hl];refine .inl ?_;rw[<-hi,pX (by omega)]
  ·rw[aX hi];exact .inl rfl
def GA(g:aF)(q:ef)(e:dO){n:Int}(h:∀ i:Nat,q.last.getD i (-1)<=n)(C:e.at_<=n)(i:Nat):(gG g q e).last.getD i (-1)<=n:=by
 unfold gG;cases jo g q&&(dz g e.cmd&&(aP e.at_ 0 1000000 && !(e.cmd.kind==1&&uw q e.at_)))with
 |false=>exact h i
 | true=>
  rw[aq];dsimp only;rw[cK,List.getElem?_set];have:=h i;rw[cK]at this;split
  ·split
   ·exact C
   next D E=>rw[<-D,pX (by omega)]at this;exact this
  ·exact this
def count_le{p q:Nat->Bool}:∀ n,(∀ b,b<n->q b=true->p b=true)->(List.range n).countP q<=(List.range n).countP p
 |0,_=>dg _
 | n+1,h=>by
  have E:=count_le (p:=p) (q:=q) n λb hb=>h b (by omega)
  have e:=h n (by omega);rw[List.range_succ,List.countP_append,List.countP_append,List.countP_singleton,List.countP_singleton];cases C:q n<;>cases D:p n<;>simp[C,D]at e ⊢<;>omega
def YF{p q:Nat->Bool}{b:Nat}:∀ n,b<n->(∀ b,b<n->q b=true->p b=true)->p b=true->q b=false->(List.range n).countP q+1<=(List.range n).countP p
 | n+1,hb,h,C,D=>by
  rw[List.range_succ,List.countP_append,List.countP_append,List.countP_singleton,List.countP_singleton];by_cases e:b=n
  ·subst e;have:=count_le (p:=p) (q:=q) b λb hb=>h b (by omega)
   rw[C,D,aW rfl,aX (by decide)];omega
  ·have O:=YF (p:=p) (q:=q) (b:=b) n (by omega) (λb hb=>h b (by omega)) C D;have e:=h n (by omega);cases E:q n<;>cases I:p n<;>simp[E,I]at e ⊢<;>omega
def aiB{p:Nat->Bool}{b n:Nat}(hb:b<n)(h:p b=true):1<=(List.range n).countP p:=List.countP_pos_iff.2 ⟨b,fS.2 hb,h⟩
def aiC(p:Nat->Bool)(n:Nat):(List.range n).countP p<=n:=by
 have:=List.countP_le_length (p:=p) (l:=List.range n)
 rwa [dw]at this
def oA(r:dI):Int:=bif r.dP then r.wait else (r.wait+1) / 2
def uB(d:aa Int)(b:Nat):Bool:=decide (d.getD b 0 >= 4)
def oB(r:cg)(b:Nat):Bool:=(cu r (b:Int)).open_
def cU(g:aF)(d:aa Int):Int:=((List.range (aJ g).toNat).countP (uB d):Nat)
def cO(g:aF)(r:cg)(d:aa Int):Int:=((List.range (aJ g).toNat).countP (λb=>uB d b&&oB r b):Nat)
structure Du (n t:Int) (g:aF) (r:cg) (q:ef) (d:List Int) (B:Nat):Prop where
 u1:r.aR≠2
 u2:La q (aJ g).toNat 7<=t+16/\La q (aJ g).toNat 9<=t
 u3:r.aR=1->n<=t+15/\∀i:Nat,q.last.getD i (-1)<=t
 u4:La q B 1<=t/\La q B 2<=t/\La q B 3<=t/\La q B 5<=t/\La q B 4<=t+48
 u5:oB r B=true->n+cU g d+cO g r d<=t+48
 u6:n+3*cU g d<=t+90
 u7:∀b:Nat,(b:Int)<aJ g->La q b 5+3*cU g d<=t+88
structure Dx (n t:Int) (c:ax):Prop where
 d1:∀i:Nat,c.ready.last.getD i (-1)<=n
 d2:0<=t/\t<=c.now
 d3:100<=oA c.aD+(c.now-t)
 d4:∀b:Nat,c.aD.aB.getD b 0<=4
 d5:∀B:Nat,(B:Int)<aJ c.config.ak->uB c.aD.aB B=true->Du n t c.config.ak c.aN c.ready c.aD.aB B
def Rq(g:aF)(d:aa Int):0<=cU g d/\cU g d<=aJ g:=by
 have C:=eI g;have:=aiC (uB d) (aJ g).toNat;unfold cU;omega
def LG(g:aF)(r:cg)(d:aa Int):0<=cO g r d/\cO g r d<=aJ g:=by
 have C:=eI g;have:=aiC (λb=>uB d b&&oB r b) (aJ g).toNat;unfold cO;omega
def aiD{g:aF}{d:aa Int}{B:Nat}(hB:(B:Int)<aJ g)(h:uB d B=true):1<=cU g d:=by
 have:=aiB (p:=uB d) (n:=(aJ g).toNat) (b:=B) (by omega) h;unfold cU;omega
def aiE{g:aF}{r:cg}{d:aa Int}{B:Nat}(hB:(B:Int)<aJ g)(h:uB d B=true)(C:oB r B=true):1<=cO g r d:=by
 have:=aiB (p:=λb=>uB d b&&oB r b) (n:=(aJ g).toNat) (b:=B) (by omega) (by rw[h,C];rfl);unfold cO;omega
def Dx.pr{c j:ax}{t:Int}(h:Dx c.now t c)(p:Pr c j)(O:cz c=true)(hi:200<=c.config.interval/\c.config.interval<=10000):∃ T,Dx c.now T j:=by
 have k:=Ck.of O;have Y:=bu.1 k.nw;have E:=k.rf;have Z:=(fN.of k.pa).dl;simp only[fD,aM,bu]at E;have hw:=E.2.2;have pN:=p.pN;have b1:=eI c.config.ak;have d2:=h.d2;have d3:=h.d3;have pF:=p.pF;cases D:c.aN.aR != 2 with
 | false=>
  rw[D,av]at pF;refine⟨t,⟨by rw[p.pR];exact h.d1,by omega,by rw[pF];omega,by rw[pF];exact h.d4,?_⟩⟩;rw[p.pC,p.pK,p.pR,pF];exact h.d5
 | true=>
  rw[D,aq]at pF;unfold xJ at pF;by_cases I:0<c.aD.wait-1
  ·rw[aW I]at pF;have hg:oA c.aD<=oA ⟨c.aD.aB,c.aD.wait-1,c.aD.dP⟩+1:=by
    unfold oA;dsimp only;cases c.aD.dP with
    |true=>rw[aq,aq];omega
    |false=>rw[av,av];omega
   refine⟨t,⟨by rw[p.pR];exact h.d1,by omega,by rw[pF];omega,by rw[pF];exact h.d4,?_⟩⟩;rw[p.pC,p.pK,p.pR,pF];exact h.d5
  ·rw[aX I]at pF;have h1:oA c.aD<=1:=by
    unfold oA;cases c.aD.dP with
    |true=>rw[aq];omega
    |false=>rw[av];omega
   have U:∀ b:Nat,c.aD.aB.getD b 0<=3:=λb=>by
    by_cases hb:b<c.aD.aB.length
    ·by_cases C:c.aD.aB.getD b 0 >= 4
     ·have C:uB c.aD.aB b=true:=bf C;have hB:(b:Int)<aJ c.config.ak:=by omega
      have:=(h.d5 b hB C).u6;have:=aiD hB C;omega
     ·omega
    ·rw[cK,pX (by omega)];decide
   have uR:100<=oA ⟨c.aD.aB.map uI,bif c.aD.dP then c.config.interval / 2 else c.config.interval,c.aD.dP⟩:=by
    unfold oA;dsimp only;cases c.aD.dP with
    |true=>rw[aq,aq];omega
    |false=>rw[av,av];omega
   refine⟨c.now+1,⟨by rw[p.pR];exact h.d1,by omega,by rw[pF];omega,λb=>?_,λB hB C=>?_⟩⟩
   ·rw[pF];dsimp only;by_cases hb:b<c.aD.aB.length
    ·rw[YB _ _ hb];have:=U b;have:=Lh k.rf _ (cX hb);rw[<-gQ 0 hb]at this;unfold uI;rw[aZ];split<;>omega
    ·rw[cK,pX (by rw[fy];omega)];decide
   ·rw[p.pC]at hB ⊢;rw[p.pK,p.pR];have a1:=Rq c.config.ak j.aD.aB;have a2:=LG c.config.ak c.aN j.aD.aB;have l:=Gz h.d1;have l1:=l B 1;have l2:=l B 2;have l3:=l B 3;have l4:=l B 4;have l5:=l B 5;have l7:=l (aJ c.config.ak).toNat 7;have l9:=l (aJ c.config.ak).toNat 9
    refine⟨bne_iff_ne.1 D,by omega,λ_=>⟨by omega,λi=>by have:=h.d1 i;omega⟩,by omega,λ_=>by omega,by omega,λb hb=>?_⟩
    have:=l b 5;omega
def GB{c:ax}{x:aT}{i:Int}(C:1<=x.kind/\x.kind<=9):(cN c x i).aN=cH c.aN x/\(cN c x i).ready=gG c.config.ak c.ready ⟨c.now,x⟩/\(cN c x i).now=c.now/\(cN c x i).config=c.config:=by
 have acc:∀ i:Nat,(gH (bU c x) i).aN=cH c.aN x/\(gH (bU c x) i).ready=gG c.config.ak c.ready ⟨c.now,x⟩/\(gH (bU c x) i).now=c.now/\(gH (bU c x) i).config=c.config:=λi=>by
  unfold gH;dsimp only;cases ((bU c x).queue.getD i mR).write<;>exact⟨rfl,rfl,rfl,rfl⟩
 unfold cN;rcases kinds C with q|q|q|q|q|q|q|q|q<;>rw[q]<;>simp only[Int.reduceBEq,Int.reduceBNe,aq,av,Bool.or_true,Bool.or_false,Bool.true_or,Bool.false_or,Bool.or_self]
 ·exact⟨rfl,rfl,rfl,rfl⟩
 ·exact acc _
 ·exact acc _
 ·exact⟨rfl,rfl,rfl,rfl⟩
 ·exact⟨rfl,rfl,rfl,rfl⟩
 ·exact⟨rfl,rfl,rfl,rfl⟩
 ·exact⟨rfl,rfl,rfl,rfl⟩
 ·exact⟨rfl,rfl,rfl,rfl⟩
 ·exact⟨rfl,rfl,rfl,rfl⟩
def aiF{c:ax}{x:aT}{i:Int}(O:1<=x.kind/\x.kind<=9)(hb:x.kind=5->x.ay.toNat<c.aD.aB.length)(E:x.kind=5->c.aD.aB.getD x.ay.toNat 0 >= 1):(cN c x i).aD.wait=c.aD.wait/\(cN c x i).aD.dP=c.aD.dP/\(x.kind≠5->x.kind≠9->(cN c x i).aD.aB=c.aD.aB)/\(x.kind=5->∀ b,(cN c x i).aD.aB.getD b 0=if x.ay.toNat=b then c.aD.aB.getD b 0-1 else c.aD.aB.getD b 0)/\(x.kind=9->∀ b,b<c.bA.length->(cN c x i).aD.aB.getD b 0=0)/\∀ b,(cN c x i).aD.aB.getD b 0<=max 0 (c.aD.aB.getD b 0):=by
 by_cases C:x.kind=5
 ·have e:∀ b,(mQ c.aD x.ay).aB.getD b 0=if x.ay.toNat=b then c.aD.aB.getD b 0-1 else c.aD.aB.getD b 0:=λb=>(Rk c.aD (hb C) b (E C)).1
  obtain⟨_,w1,T⟩:=Rk c.aD (hb C) 0 (E C);rw[LF c i C]
  refine⟨w1,T,λh=>absurd C h,λ_=>e,λh=>by omega,λb=>?_⟩
  show (mQ c.aD x.ay).aB.getD b 0<=_;rw[e b];split<;>omega
 ·by_cases D:x.kind=9
  ·have e:∀ b,(cN c x i).aD.aB.getD b 0=if b<c.bA.length then 0 else c.aD.aB.getD b 0:=λb=>by
    rw[DS c i D];exact YE c.aD.aB c.bA.length b
   refine⟨by rw[DS c i D];rfl,by rw[DS c i D];rfl,λ_ h=>absurd D h,λh=>absurd h C,λ_ b hb=>by rw[e b,aW hb],λb=>?_⟩
   rw[e b];split<;>omega
  ·have e:(cN c x i).aD=c.aD:=by
    by_cases I:x.kind=1
    ·rw[Gy c i I];rfl
    ·exact(YC O I C D).2.2.1
   rw[e];exact⟨rfl,rfl,λ_ _=>rfl,λh=>absurd h C,λh=>absurd h D,λb=>by omega⟩
def Rr{r:cg}{x:aT}{b:Nat}(h:b≠x.ay.toNat):cu (cH r x) (b:Int)=cu r (b:Int):=by
 have key:∀ v:gN,cu ⟨r.aI.set x.ay.toNat v,r.aR⟩ (b:Int)=cu r (b:Int):=λv=>by
  unfold cu;rw[bz,cK,List.getElem?_set_ne (λe=>h e.symm),<-cK]
 unfold cH;cases x.kind==1 with
 |true=>exact key _
 | false=>
  cases x.kind==4 with
  |true=>exact key _
  |false=>cases x.kind==6<;>cases x.kind==8<;>cases (x.kind==7 ||x.kind==9)<;>rfl
def aiG{r:cg}{x:aT}{b:Nat}(C:x.kind=4)(h:b=x.ay.toNat):(cu (cH r x) (b:Int)).open_=false:=by
 unfold cH cu;rw[C];show ((r.aI.set x.ay.toNat (⟨false,0⟩:gN)).getD (b:Int).toNat ⟨false,0⟩).open_=false;rw[bz,h,cK,List.getElem?_set,aW rfl];split<;>rfl
def rR(t:c8):Prop:=∃r w:Int,1<=r/\r<=4/\4<=w/\w<=8/\t=lI r w
def axT{j:ax}{n t:Int}(E:Pq j)(I:rR j.config.bQ)(hn:n=j.now-1)(d1:∀ i:Nat,j.ready.last.getD i (-1)<=n){B:Nat}(u:Du n t j.config.ak j.aN j.ready j.aD.aB B)(O:j.aN.aR=0)(T:oB j.aN B=true)(hT:t+33<=j.now):de j ⟨4,(B:Int),0,0⟩=true:=by
 obtain⟨r,w,U,Y,w1,Z,et⟩:=I
 refine Rp E (λh=>absurd (show (4:Int)=1 from h) (by decide)) ?_ λb k k1 k9 hu h0=>?_
 ·show (j.aN.aR==0&&(cu j.aN (B:Int)).open_)=true;rw[O,show (cu j.aN (B:Int)).open_=true from T];rfl
 ·rw[et];obtain⟨g1,C,D⟩:=axP (g:=j.config.ak) (a:=⟨(k:Int),if k<=5 then (b:Int)else 0,0,0⟩) ⟨U,Y⟩ ⟨w1,Z⟩ ⟨by dsimp only;omega,by dsimp only;omega⟩ (B:Int);dsimp only at C D;have hl:=Gz d1 b k;have qv:=u.u2;have hu4:=u.u4;by_cases h7:k=7
  ·obtain rfl:b=(aJ j.config.ak).toNat:=by omega
   have:=C (by omega);subst h7;omega
  ·by_cases h9:k=9
   ·obtain rfl:b=(aJ j.config.ak).toNat:=by omega
    subst h9;omega
   ·by_cases hb:b=B/\k<=3
    ·obtain⟨rfl,h3⟩:=hb;have:k=1\/k=2\/k=3:=by omega
     rcases this with rfl|rfl|rfl<;>omega
    ·have:=D (by omega) (by omega) (by
      by_cases h5:k<=5
      ·rw[aW h5];omega
      ·exact .inr (by omega))
     omega
def axU{j:ax}{n t:Int}(T:Pq j)(U:rR j.config.bQ)(hn:n=j.now-1)(d1:∀ i:Nat,j.ready.last.getD i (-1)<=n){B:Nat}(u:Du n t j.config.ak j.aN j.ready j.aD.aB B)(Y:j.aN.aR=0)(Z:oB j.aN B=false)(hT:t+67<=j.now)(C:∀ b:Nat,(b:Int)<aJ j.config.ak->La j.ready b 5+3<=j.now):de j ⟨5,(B:Int),0,0⟩=true:=by
 obtain⟨r,w,r1,r2,w1,w2,et⟩:=U
 refine Rp T (λh=>absurd (show (5:Int)=1 from h) (by decide)) ?_ λb k k1 k9 hu h0=>?_
 ·show (j.aN.aR==0 && !(cu j.aN (B:Int)).open_)=true;rw[Y,show (cu j.aN (B:Int)).open_=false from Z];rfl
 ·rw[et];obtain⟨g1,D,E,I,O⟩:=axQ (g:=j.config.ak) (a:=⟨(k:Int),if k<=5 then (b:Int)else 0,0,0⟩) ⟨r1,r2⟩ ⟨w1,w2⟩ ⟨by dsimp only;omega,by dsimp only;omega⟩ (B:Int);dsimp only at D E I O;have hl:=Gz d1 b k;have qv:=u.u2;have hu4:=u.u4;by_cases h7:k=7
  ·obtain rfl:b=(aJ j.config.ak).toNat:=by omega
   have:=D (by omega);subst h7;omega
  ·by_cases h9:k=9
   ·obtain rfl:b=(aJ j.config.ak).toNat:=by omega
    subst h9;omega
   ·by_cases hb:b=B/\k<=5
    ·obtain⟨rfl,h3⟩:=hb;have:k=1\/k=2\/k=3\/k=4\/k=5:=by omega
     rcases this with rfl|rfl|rfl|rfl|rfl
     ·omega
     ·omega
     ·omega
     ·have:=E rfl;omega
     ·omega
    ·by_cases e5:k=5
     ·subst e5;have:=I rfl (by rw[aW];omega);have:=C b (by omega);omega
     ·have:=O (by omega) (by omega) (by omega) (by
       by_cases C:k<=5
       ·rw[aW C];exact .inl (by omega)
       ·exact .inr (by omega))
      omega
def axV{j:ax}{t:Int}(C:Pq j)(D:rR j.config.bQ)(E:j.aN.aR=1)(hl:∀ i:Nat,j.ready.last.getD i (-1)<=t)(O:t+16<=j.now):de j ⟨7,0,0,0⟩=true:=by
 obtain⟨r,w,T,U,w1,Y,I⟩:=D
 refine Rp C (λh=>absurd (show (7:Int)=1 from h) (by decide)) ?_ λb k Z k9 hu h0=>?_
 ·show (j.aN.aR==1)=true;rw[E];rfl
 ·rw[I];have:=axR (g:=j.config.ak) (r:=r) (w:=w) (a:=⟨(k:Int),if k<=5 then (b:Int)else 0,0,0⟩) ⟨by dsimp only;omega,by dsimp only;omega⟩;have:=Gz hl b k;omega
def axW{g:aF}{x:aT}(h:dz g x=true)(C:x.kind=4):x=⟨4,x.ay,0,0⟩:=by
 simp only[dz,aM]at h;obtain⟨_,_,_,D,E⟩:=h;rw[C]at D E;have I:x.row=0:=eZ.1 D;have O:x.bZ=0:=eZ.1 E;clear D E;obtain⟨k,b,r,c⟩:=x;dsimp only at C I O;subst C I O;rfl
def Rt{c:ax}(h:mO c=true):cP c=bif c.aR.state==1 then 7 else bif c.aR.state==2 then 9 else 0:=by
 unfold cP xo;rw[h];rfl
def aiH{c:ax}{b:Int}(h:b∈bV 0 c.aD.aB):mO c=true:=by
 have:0<(bV 0 c.aD.aB).length:=List.length_pos_of_mem h;unfold mO;rw[bf (show ((bV 0 c.aD.aB).length:Int) > 0 by omega),Bool.or_true,Bool.or_true]
def Dx.core{j:ax}{t:Int}(h:Dx (j.now-1) t j)(E:Pq j)(T:rR j.config.bQ)(U:j.aN.aR=0)(Z:∀ b∈bV 0 j.aD.aB,de j (fX j b)=false){B:Nat}(hB:(B:Int)<aJ j.config.ak)(I:uB j.aD.aB B=true):(oB j.aN B=true->j.now+cU j.config.ak j.aD.aB+cO j.config.ak j.aN j.aD.aB<=t+48)/\j.now+3*cU j.config.ak j.aD.aB<=t+90:=by
 have u:=h.d5 B hB I;have b1:=eI j.config.ak;have a1:=Rq j.config.ak j.aD.aB;have a2:=LG j.config.ak j.aN j.aD.aB;have C:=Z _ (Yy E (b:=(B:Int)) (by omega) hB (oD I));unfold fX qR at C
 refine⟨λD=>?_,?_⟩
 ·rw[show (cu j.aN (B:Int)).open_=true from D,aq]at C;by_cases O:t+33<=j.now
  ·rw[axT E T rfl h.d1 u U D O]at C;cases C
  ·omega
 ·by_cases O:t+67<=j.now
  ·cases D:oB j.aN B with
   | true=>
    have:=u.u5 D;have:=aiE hB I D;omega
   | false=>
    rw[show (cu j.aN (B:Int)).open_=false from D,av]at C;by_cases Y:∀b:Nat,(b:Int)<aJ j.config.ak->La j.ready b 5+3<=j.now
    ·rw[axU E T rfl h.d1 u U D O Y]at C;cases C
    ·obtain⟨b,hb⟩:=Classical.not_forall.1 Y;obtain⟨hb,gX⟩:=Classical.not_imp.1 hb;have:=u.u7 b hb;omega
  ·omega
def Du.stay{n n' t:Int}{g:aF}{r D:cg}{q E:ef}{d:aa Int}{B:Nat}(u:Du n t g r q d B)(hB:(B:Int)<aJ g)(hp:D.aR=0)
  (C:∀b k:Nat,1<=k->k<=9->(b=B/\k<=5\/k=5\/k=7\/k=9)->La E b k=La q b k) (I:oB D B=true->n'+cU g d+cO g D d<=t+48) (O:n'+3*cU g d<=t+90):Du n' t g D E d B:=by
 have T:=C B 1 (by omega) (by omega) (by omega);have U:=C B 2 (by omega) (by omega) (by omega);have Y:=C B 3 (by omega) (by omega) (by omega);have Z:=C B 4 (by omega) (by omega) (by omega);have e5:=C B 5 (by omega) (by omega) (by omega);have e7:=C (aJ g).toNat 7 (by omega) (by omega) (by omega);have e9:=C (aJ g).toNat 9 (by omega) (by omega) (by omega)
 refine⟨by omega,by rw[e7,e9];exact u.u2,λh=>by omega,by rw[T,U,Y,Z,e5];exact u.u4,I,O,λb hb=>?_⟩
 rw[C b 5 (by omega) (by omega) (by omega)];exact u.u7 b hb
def Dx.fn{j y:ax}{t:Int}(h:Dx (j.now-1) t j)(hz:cv j)(hk:cz j=true)(ht:rR j.config.bQ)(hf:Fn j y):Dx j.now t y:=by
 have E:=Pq.of hz hk;have b1:=eI j.config.ak;have ps:=E.ps;have K0:=E.dl;have zF:=(fN.of (Ck.of hk).pa).tl;have hpw:=(xm E.p.rk).2.2.1;have up:∀{B:Nat},(B:Int)<aJ j.config.ak->uB j.aD.aB B=true->(B:Int)∈bV 0 j.aD.aB:=λhB Y=>Yy E (by omega) hB (oD Y)
 have b8:aJ j.config.ak<=8:=by have:=E.rf;have:=vN this;omega
 rcases hf with ⟨k0,rfl⟩|⟨hm,rfl⟩
 ·refine⟨λi=>by have:=h.d1 i;omega,h.d2,h.d3,h.d4,λB hB Y=>?_⟩
  have u:=h.d5 B hB Y;have a1:=Rq y.config.ak y.aD.aB;have a2:=LG y.config.ak y.aN y.aD.aB;have T:=Rt (aiH (up hB Y));rcases LD E with ⟨hs,Z⟩|⟨hs,⟨b,hb,e⟩|⟨wJ,_⟩⟩
  ·have O:y.aN.aR=1:=by have:=u.u1;omega
   rw[ps,O]at T;have T:cP y=7:=T;have LC:=u.u3 O;have hT:¬ t+16<=y.now:=λhT=>by
    have hr:=axV E ht O LC.2 hT;rcases Z with ⟨_,e|e⟩|e
    ·omega
    ·rw[T,hr]at e;cases e
    ·rw[e]at k0;dsimp only at k0;omega
   exact⟨u.u1,u.u2,λ_=>⟨by omega,LC.2⟩,u.u4,λ_=>by omega,by omega,u.u7⟩
  ·exfalso;rw[e]at k0;unfold fX at k0;rcases BY y b ⟨5,b,0,0⟩with e|⟨e,_⟩<;>rw[e]at k0<;>dsimp only at k0<;>omega
  ·have O:y.aN.aR=0:=by omega
   obtain⟨c1,c2⟩:=h.core E ht O wJ hB Y;exact u.stay hB O (λ_ _ _ _ _=>rfl) c1 c2
 ·have aiI:=LD E;have hpr:=YA E;generalize hX:(fJ j).1=x at hm aiI hpr ⊢;generalize (fJ j).2=i at hm ⊢;obtain⟨_,ha,_,_⟩:=xF hz E hm;obtain⟨_,_,Z,sW⟩:=uv ha;simp only[kT,de,aM]at hm;have hc:=hm.1;have yH:=hm.2.1.1;have uT:de j x=true:=by
   simp only[de,aM];exact hm.2.1
  obtain⟨e1,e2,e3,e4⟩:=GB (c:=j) (x:=x) (i:=i) Z;have hb5:x.kind=5->x.ay.toNat<j.aD.aB.length:=λk=>by have:=sW (by omega);have:=E.p.bl;omega
  obtain⟨w1,w2,w3,w4,w5,w6⟩:=aiF (c:=j) (x:=x) (i:=i) Z hb5 λk=>(hpr k).1
  refine⟨by rw[e2];exact GA _ _ _ (λi=>by have:=h.d1 i;omega) (eW _),by rw[e3];exact h.d2,?_,λb=>by have:=w6 b;have:=h.d4 b;omega,λB hB Y=>?_⟩
  ·have:oA (cN j x i).aD=oA j.aD:=by unfold oA;rw[w1,w2]
   rw[this,e3];exact h.d3
  ·rw[e4]at hB ⊢;rw[e1,e2];have qp:uB j.aD.aB B=true:=bf (by have:=oD Y;have:=w6 B;omega);have u:=h.d5 B hB qp;have a1:=Rq j.config.ak j.aD.aB;have a2:=LG j.config.ak j.aN j.aD.aB;have T:=Rt (aiH (up hB qp));have la:=axS j.config.ak j.ready ⟨j.now,x⟩ hc;have hBb:∀ {b k:Nat},(k:Int)=x.kind->k<=5->(b:Int)=(if k<=5 then x.ay else aJ j.config.ak)->b=x.ay.toNat:=λh1 U h3=>by rw[aW U]at h3;omega
   rcases aiI with ⟨hs,hx7⟩|⟨hs,⟨b,hb,e⟩|⟨wJ,axX⟩⟩
   ·-- the power comes back
    have O:j.aN.aR=1:=by have:=u.u1;omega
    rw[ps,O]at T;have T:cP j=7:=T;have ex:x=⟨7,0,0,0⟩:=by
     rcases hx7 with ⟨e,_⟩|e
     ·rw[e]at Z;exact absurd Z.1 (by decide)
     ·rw[e,T]
    have k7:x.kind=7:=by rw[ex]
    have LC:=u.u3 O;rw[w3 (by omega) (by omega)];have D:∀ b k:Nat,1<=k->k<=9->k≠7->La (gG j.config.ak j.ready ⟨j.now,x⟩) b k=La j.ready b k:=λb k h1 h9 hk=>by
     rcases la b k ⟨h1,h9⟩with e|⟨_,e,_⟩
     ·exact e
     ·dsimp only at e;omega
    have G6:(cH j.aN x).aR=0:=by rw[ex];rfl
    have l7:La (gG j.config.ak j.ready ⟨j.now,x⟩) (aJ j.config.ak).toNat 7<=t+16:=by
     have:=Gz (GA j.config.ak j.ready ⟨j.now,x⟩ (n:=j.now) (λi=>by have:=h.d1 i;omega) (eW _)) (aJ j.config.ak).toNat 7;omega
    refine⟨by omega,⟨l7,by rw[D _ 9 (by omega) (by omega) (by omega)];exact u.u2.2⟩,λh=>by omega,?_,λ_=>?_,by omega,λb hb=>by rw[D b 5 (by omega) (by omega) (by omega)];exact u.u7 b hb⟩
    ·rw[D B 1 (by omega) (by omega) (by omega),D B 2 (by omega) (by omega) (by omega),D B 3 (by omega) (by omega) (by omega),D B 4 (by omega) (by omega) (by omega),D B 5 (by omega) (by omega) (by omega)];exact u.u4
    ·have:=LG j.config.ak (cH j.aN x) j.aD.aB;omega
   ·-- an urgent bank
    have O:j.aN.aR=0:=by omega
    obtain⟨v1,v2,v3⟩:=Yx E hb;have DT:uB j.aD.aB b.toNat=true:=bf v3;have Dy:((b.toNat:Nat):Int)=b:=Int.toNat_of_nonneg v1;unfold fX at e;rcases BY j b ⟨5,b,0,0⟩with e5|⟨e5,e6⟩
    ·-- it closes
     have ho:oB j.aN b.toNat=true:=by
      unfold qR at e5;unfold oB;rw[Dy];cases I:(cu j.aN b).open_ with
      |true=>rfl
      |false=>rw[I]at e5;cases e5
     have ex:x=⟨4,b,0,0⟩:=e.trans e5;have k4:x.kind=4:=by rw[ex]
     have xb:x.ay=b:=by rw[ex]
     have G6:(cH j.aN x).aR=0:=by rw[ex];exact O
     have hu5:=(h.d5 b.toNat (by omega) DT).u5 ho;have cu1:=aiD (g:=j.config.ak) (by omega) DT;have co1:=aiE (g:=j.config.ak) (by omega) DT ho;have Ru:cO j.config.ak (cH j.aN x) j.aD.aB+1<=cO j.config.ak j.aN j.aD.aB:=by
      have:=YF (p:=λb=>uB j.aD.aB b&&oB j.aN b) (q:=λb=>uB j.aD.aB b&&oB (cH j.aN x) b) (b:=b.toNat) (aJ j.config.ak).toNat (by omega) (λC _ tj=>by
       rw[aM]at tj ⊢;refine⟨tj.1,?_⟩;by_cases eb:C=x.ay.toNat
       ·have:=aiG (r:=j.aN) k4 eb;have U:=tj.2;unfold oB at U;rw[this]at U;cases U
       ·have:=Rr (r:=j.aN) eb;have U:=tj.2;unfold oB at U ⊢;rw[this]at U;exact U) (by rw[DT,ho];rfl) (by
       have:=aiG (r:=j.aN) (b:=b.toNat) k4 (by rw[xb]);unfold oB;rw[this,Bool.and_false])
      unfold cO;omega
     rw[w3 (by omega) (by omega)];have D:∀ b k:Nat,1<=k->k<=9->k≠4->La (gG j.config.ak j.ready ⟨j.now,x⟩) b k=La j.ready b k:=λb k h1 h9 hk=>by
      rcases la b k ⟨h1,h9⟩with e|⟨_,e,_⟩
      ·exact e
      ·dsimp only at e;omega
     have l4:La (gG j.config.ak j.ready ⟨j.now,x⟩) B 4<=t+48:=by
      rcases la B 4 ⟨by omega,by omega⟩with e|⟨e,_,_⟩
      ·rw[e];exact u.u4.2.2.2.2
      ·rw[e];dsimp only;omega
     refine⟨by omega,by rw[D _ 7 (by omega) (by omega) (by omega),D _ 9 (by omega) (by omega) (by omega)];exact u.u2,λh=>by omega,?_,λhB'=>by omega,by omega,λb hb=>by rw[D b 5 (by omega) (by omega) (by omega)];exact u.u7 b hb⟩
     rw[D B 1 (by omega) (by omega) (by omega),D B 2 (by omega) (by omega) (by omega),D B 3 (by omega) (by omega) (by omega),D B 5 (by omega) (by omega) (by omega)];exact⟨u.u4.1,u.u4.2.1,u.u4.2.2.1,u.u4.2.2.2.1,l4⟩
    ·-- it is refreshed
     have ex:x=⟨5,b,0,0⟩:=e.trans e5;have k5:x.kind=5:=by rw[ex]
     have xb:x.ay=b:=by rw[ex]
     have w4:=w4 k5;rw[xb]at w4;have er:cH j.aN x=j.aN:=by rw[ex];rfl
     have hd4:=h.d4 b.toNat;have cA:B≠b.toNat:=λeb=>by
      have:=oD Y;rw[w4 B,aW eb.symm,eb]at this;omega
     have SA:∀ C,uB (cN j x i).aD.aB C=true->uB j.aD.aB C=true:=λC I=>bf (by
      have:=oD I;have:=w6 C;omega)
     have LH:uB (cN j x i).aD.aB b.toNat=false:=br (by rw[w4 b.toNat,aW rfl];omega);have Mz:cU j.config.ak (cN j x i).aD.aB+1<=cU j.config.ak j.aD.aB:=by
      have:=YF (p:=uB j.aD.aB) (q:=uB (cN j x i).aD.aB) (b:=b.toNat) (aJ j.config.ak).toNat (by omega) (λC _ I=>SA C I) DT LH;unfold cU;omega
     have Ru:cO j.config.ak j.aN (cN j x i).aD.aB<=cO j.config.ak j.aN j.aD.aB:=by
      have:=count_le (p:=λb=>uB j.aD.aB b&&oB j.aN b) (q:=λb=>uB (cN j x i).aD.aB b&&oB j.aN b) (aJ j.config.ak).toNat λC _ I=>by
       rw[aM]at I ⊢;exact⟨SA C I.1,I.2⟩
      unfold cO;omega
     rw[er];have D:∀ C k:Nat,1<=k->k<=9->(k≠5\/C≠b.toNat)->La (gG j.config.ak j.ready ⟨j.now,x⟩) C k=La j.ready C k:=λC k h1 h9 hk=>by
      rcases la C k ⟨h1,h9⟩with e|⟨_,e,e'⟩
      ·exact e
      ·dsimp only at e e';have:=hBb e (by omega) e';rw[xb]at this;omega
     have hu6:=u.u6;have hu7:=u.u7
     refine⟨by omega,by rw[D _ 7 (by omega) (by omega) (by omega),D _ 9 (by omega) (by omega) (by omega)];exact u.u2,λh=>by omega,?_,λhB'=>by have:=u.u5 hB';omega,by omega,λC yo=>?_⟩
     ·rw[D B 1 (by omega) (by omega) (by omega),D B 2 (by omega) (by omega) (by omega),D B 3 (by omega) (by omega) (by omega),D B 4 (by omega) (by omega) (by omega),D B 5 (by omega) (by omega) (by omega)];exact u.u4
     ·rcases la C 5 ⟨by omega,by omega⟩with e | ⟨e,_,_⟩
      ·rw[e];have:=hu7 C yo;omega
      ·rw[e];dsimp only;omega
   ·-- another command
    have O:j.aN.aR=0:=by omega
    obtain⟨c1,c2⟩:=h.core E ht O wJ hB qp;have Rw:cP j=0:=by
     rw[hs]at T;exact T
    have YG:x.kind<=4/\uB j.aD.aB x.ay.toNat=false:=by
     have cl:∀ (b:Int) (z:aT),z.kind=1->z.ay=b->uB j.aD.aB b.toNat=false->x=qR j b z->x.kind<=4/\uB j.aD.aB x.ay.toNat=false:=λb z z1 z2 z3 z4=>by
      rcases BY j b z with e|⟨e,_⟩
      ·rw[z4,e];exact⟨by dsimp only;omega,z3⟩
      ·rw[z4,e,z1,z2];exact⟨by omega,z3⟩
     rcases axX with ⟨k,hkl,sD,e⟩|⟨k,hkl,LI,e⟩|e|e
     ·unfold rP at sD;rw[aM,gd]at sD;exact cl (iX j k).ay ⟨1,(iX j k).ay,(iX j k).row,0⟩ rfl rfl sD.1 e
     ·unfold l6 at LI;simp only[aM,gd]at LI;obtain⟨n1,n2⟩:=Yz j.aN (cD j k) (rL j.queue k);rw[e];unfold gp;rw[n1];exact⟨by omega,LI.2.1⟩
     ·rcases Ri E e with ⟨_,_,_,axY,_⟩ | k4 | ⟨_,e⟩
      ·have:=up hB qp;rw[axY]at this;cases this
      ·refine⟨by omega,?_⟩;cases DT:uB j.aD.aB x.ay.toNat with
       |false=>rfl
       | true=>
        obtain⟨x0,x1⟩:=sW (by omega);have jc:=E.p.bl;have rq:=wJ _ (Yy E (b:=x.ay) x0 (by omega) (oD DT));have tX:(cu j.aN x.ay).open_=true:=by
         unfold lG at yH;rw[k4]at yH;have yH:(j.aN.aR==0&&(cu j.aN x.ay).open_)=true:=yH;rw[aM]at yH;exact yH.2
        unfold fX qR at rq;rw[tX,aq,<-axW hc k4,uT]at rq;cases rq
      ·exact absurd Rw e
     ·rw[e]at Z;exact absurd Z.1 (by decide)
    rw[w3 (by omega) (by omega)];have hoB:∀ C,uB j.aD.aB C=true->oB (cH j.aN x) C=oB j.aN C:=λC I=>by
     unfold oB;rw[Rr (λeb=>by rw[eb,YG.2]at I;cases I)]
    have Ru:cO j.config.ak (cH j.aN x) j.aD.aB<=cO j.config.ak j.aN j.aD.aB:=by
     have:=count_le (p:=λb=>uB j.aD.aB b&&oB j.aN b) (q:=λb=>uB j.aD.aB b&&oB (cH j.aN x) b) (aJ j.config.ak).toNat λC _ I=>by
      rw[aM]at I ⊢;exact⟨I.1,by rw[<-hoB C I.1];exact I.2⟩
     unfold cO;omega
    have G6:(cH j.aN x).aR=0:=(Q8 (by omega)).trans O
    refine u.stay hB G6 (λC k h1 h9 hk=>?_) (λho=>?_) c2
    ·rcases la C k ⟨h1,h9⟩with e | ⟨_,e,e'⟩
     ·exact e
     ·dsimp only at e e';exfalso;rcases hk with ⟨hk,yT⟩ | hk | hk | hk
      ·have:=hBb e yT e';rw[<-this,hk]at YG;rw[YG.2]at qp;cases qp
      ·omega
      ·omega
      ·omega
    ·have:=c1 (by rw[<-hoB B qp];exact ho);omega
structure pU (R:Nat) (t:cI) (f:Nat->Nat):Prop where
 tr:t.rows.length=16
 tc:t.counts.length=16
 ts:t.eJ=0
 te:∀i,i<16->(t.rows.getD i (-1) = -1/\t.counts.getD i 0=0)\/∃r,r<R/\t.rows.getD i (-1)=(r:Int)/\t.counts.getD i 0=(f r:Int)/\1<=f r
 tf:∀r,r<R->1<=f r->∃i,i<16/\t.rows.getD i (-1)=(r:Int)
 td:∀i j,i<16->j<16->t.rows.getD i (-1)=t.rows.getD j (-1)->t.rows.getD i (-1) ≠ -1->i=j
def pU.new(R:Nat):pU R (pq 16) λ_=>0:=by
 have C:∀i,i<16->(pq 16).rows.getD i (-1) = -1/\(pq 16).counts.getD i 0=0:=by decide
 exact⟨by decide,by decide,rfl,λi hi=>.inl (C i hi),λr _ h=>absurd h (by decide),λi j hi _ _ h=>absurd (C i hi).1 h⟩
def pU.aiJ{R:Nat}{t:cI}{f:Nat->Nat}(h:pU R t f)(hR:R<=16)(T:∀ r,r<R->f r<=100000):kP t=true:=by
 have U:=h.tr;have Y:=h.tc;unfold kP;rw[U,Y,h.ts];simp only[aM];refine⟨by decide,by decide,by decide,?_⟩;rw[bT];intro i hi;have hi:=fS.1 hi;have D:t.rows.getD i (-1)=t.rows[i]:=gQ _ (by omega);have Z:t.counts.getD i 0=t.counts[i]:=gQ _ (by omega);rw[KS (by omega) (by omega),h.ts];have O:=h.te i hi;rw[D,Z]at O;rcases O with ⟨C,E⟩|⟨r,hr,C,E,e3⟩
 ·rw[C,E];rfl
 ·have:=T r hr;rw[C,E,bu.2 ⟨by omega,by omega⟩,bu.2 ⟨by omega,by omega⟩,fR (show ¬ (r:Int) = -1 by omega),jw (show ¬ (r:Int) = -1 by omega)];have hn:((t.rows.take i).any λx=>(r:Int)==x)=false:=by
   rw[l8];intro x hx I;obtain⟨j,hj,rfl⟩:=List.mem_take_iff_getElem.1 hx;have I:=eZ.1 I;have g3:t.rows.getD j (-1)=t.rows[j]:=gQ _ (by omega);have:=h.td i j hi (by omega) (by rw[D,g3,C];exact I) (by rw[D,C];omega);omega
  rw[hn];rfl
def pU.room{R:Nat}{t:cI}{f:Nat->Nat}(h:pU R t f)(hR:R<16):∃ i,i<16/\t.counts.getD i 0=0:=by
 refine Classical.byContradiction λT=>?_
 have I:∀ i,i<16->∃ r,r<R/\t.rows.getD i (-1)=(r:Int):=λi hi=>by
  rcases h.te i hi with ⟨_,D⟩|⟨r,E,C,_⟩
  ·exact absurd ⟨i,hi,D⟩ T
  ·exact⟨r,E,C⟩
 have:=Yb R ((List.range 16).map λi=>(t.rows.getD i (-1)).toNat) (λx U=>by
  obtain⟨i,hi,rfl⟩:=List.mem_map.1 U;obtain⟨r,E,e⟩:=I i (fS.1 hi);rw[e,bz];exact E) (by
  rw[List.pairwise_iff_getElem];intro i j hi O Y e;rw[fy,dw]at hi O;rw[List.getElem_map,List.getElem_map,jD,jD]at e;obtain⟨r,E,C⟩:=I i hi;obtain⟨Z,kY,D⟩:=I j O;rw[C,D,bz,bz]at e;have:=h.td i j hi O (by rw[C,D,e]) (by rw[C];omega);omega)
 rw[fy,dw]at this;omega
def pU.trk{R:Nat}{t:cI}{f:Nat->Nat}(h:pU R t f)(hR:R<16){row:Nat}(hr:row<R):pU R (jy t (row:Int)) (λr=>if r=row then f r+1 else f r)/\∃ i,rJ t (row:Int)=some i/\(jy t (row:Int)).counts.getD i 0=((f row+1:Nat):Int):=by
 have h1:=h.tr;have h2:=h.tc;unfold jy rJ;cases hf:t.rows.findIdx? (λe=>e==(row:Int))with
 | some i=>
  obtain⟨hi,hp⟩:=DJ hf;have T:i<16:=by omega
  have er:t.rows.getD i (-1)=(row:Int):=(gQ _ hi).trans (eZ.1 hp);have ec:t.counts.getD i 0=(f row:Int):=by
   rcases h.te i T with ⟨C,_⟩|⟨r,_,C,I,_⟩
   ·omega
   ·rw[I];congr 1;congr 1;omega
  have U:(t.counts.set i (t.counts.getD i 0+1)).getD i 0=((f row+1:Nat):Int):=by
   rw[uJ _ (by omega),ec];rfl
  dsimp only
  refine⟨⟨h1,by rw[gR];exact h2,h.ts,λj D=>?_,λr kY O=>?_,h.td⟩,i,rfl,U⟩
  ·dsimp only;by_cases e:i=j
   ·subst e;exact .inr ⟨row,hr,er,by rw[aW rfl];exact U,by rw[aW rfl];omega⟩
   ·rw[getD_set_ne _ e];rcases h.te j D with C | ⟨r,k1,Y,k3,k4⟩
    ·exact .inl C
    ·have Z:r≠row:=λE=>e (h.td i j T D (by rw[er,Y,E]) (by rw[er];omega))
     exact .inr ⟨r,k1,Y,by rw[aX Z];exact k3,by rw[aX Z];exact k4⟩
  ·by_cases e:r=row
   ·subst e;exact⟨i,T,er⟩
   ·rw[aX e]at O;exact h.tf r kY O
 | none=>
  have hn:∀ i,i<16->t.rows.getD i (-1)≠(row:Int):=λi hi e=>by
   have g1:t.rows.getD i (-1)=t.rows[i]:=gQ _ (by omega);have:=List.findIdx?_eq_none_iff.1 hf t.rows[i] (cX _);rw[<-g1,e,iQ]at this;cases this
  have f0:f row=0:=by
   cases hz:f row with
   |zero=>rfl
   | succ k=>
    obtain⟨i,hi,e⟩:=h.tf row hr (by omega);exact absurd e (hn i hi)
  cases O:t.counts.findIdx? (λe=>e==t.eJ)with
  | none=>
   obtain⟨i,hi,e⟩:=h.room hR;have g2:t.counts.getD i 0=t.counts[i]:=gQ _ (by omega);have:=List.findIdx?_eq_none_iff.1 O t.counts[i] (cX _);rw[<-g2,e,h.ts,iQ]at this;cases this
  | some i=>
   obtain⟨hi,hp⟩:=DJ O;have T:i<16:=by omega
   have ec:t.counts.getD i 0=0:=(gQ _ hi).trans (by rw[eZ.1 hp];exact h.ts);have er:t.rows.getD i (-1) = -1:=by
    rcases h.te i T with ⟨C,_⟩|⟨r,_,_,I,e3⟩
    ·exact C
    ·omega
   have U:(t.counts.set i (t.eJ+1)).getD i 0=((f row+1:Nat):Int):=by
    rw[uJ _ (by omega),h.ts,f0];rfl
   have gx:(t.rows.set i (row:Int)).getD i (-1)=(row:Int):=uJ _ (by omega);dsimp only
   refine⟨⟨by rw[gR];exact h1,by rw[gR];exact h2,h.ts,λj D=>?_,λr kY O=>?_,λj k D hk=>?_⟩,i,rfl,U⟩
   ·dsimp only;by_cases e:i=j
    ·subst e;exact .inr ⟨row,hr,gx,by rw[aW rfl];exact U,by rw[aW rfl];omega⟩
    ·rw[getD_set_ne _ e,getD_set_ne _ e];rcases h.te j D with C | ⟨r,k1,Y,k3,k4⟩
     ·exact .inl C
     ·have Z:r≠row:=λE=>hn j D (by rw[Y,E])
      exact .inr ⟨r,k1,Y,by rw[aX Z];exact k3,by rw[aX Z];exact k4⟩
   ·by_cases e:r=row
    ·subst e;exact⟨i,T,gx⟩
    ·rw[aX e]at O;obtain⟨j,D,ej⟩:=h.tf r kY O;exact⟨j,D,(getD_set_ne _ (λE=>by subst E;omega)).trans ej⟩
   ·dsimp only;by_cases C:i=j
    ·subst C;by_cases I:i=k
     ·exact λ_ _=>I
     ·rw[gx,getD_set_ne _ I];exact λE=>absurd E.symm (hn k hk)
    ·by_cases I:i=k
     ·subst I;rw[gx,getD_set_ne _ C];exact λE=>absurd E (hn j D)
     ·rw[getD_set_ne _ C,getD_set_ne _ I];exact h.td j k D hk
def pU.step{R:Nat}{t:cI}{f:Nat->Nat}(h:pU R t f)(hR:R<16){row:Nat}(C:row<R){L:Nat}(Y:2<=L)(Z:L<=1000)(D:∀ r,r<R->f r<100000):nJ t (row:Int) (L:Int)=(jy t (row:Int),decide ((f row+1) % L=0))/\pU R (jy t (row:Int)) (λr=>if r=row then f r+1 else f r):=by
 obtain⟨E,i,I,O⟩:=h.trk hR C;refine⟨?_,E⟩;have T:=h.aiJ (by omega) λr C=>by have:=D r C;omega
 have U:=E.aiJ (by omega) λr C=>by
  have:=D r C;split<;>omega
 unfold nJ;rw[T,U,bu.2 ⟨by omega,by omega⟩,bu.2 ⟨by omega,by omega⟩,I];show (jy t (row:Int),((jy t (row:Int)).counts.getD i 0).tmod (L:Int)==0)=_;rw[O,rT (by omega),<-Int.natCast_emod];congr 1;rw[Bool.eq_iff_iff,eZ,gB];omega
def jC(b r:Nat)(a:aO):Bool:=eF ⟨(b:Int),(r:Int),0⟩ a
def DU{b r:Nat}{a:aO}:jC b r a=true ↔ (⟨(b:Int),(r:Int),0⟩:aO)=a:=Li
def aiK{b r C D:Nat}{a:aO}(h:jC b r a=true)(E:jC C D a=true):b=C/\r=D:=by
 have e:=(DU.1 h).trans (DU.1 E).symm;simp only[aO.mk.injEq]at e;omega
def nO(P:aa aO)(b r:Nat):Bool:=P.any (jC b r)
def oC(P:aa aO)(b n r:Nat):Bool:=(P.takeWhile λa=>!jC b r a).any (jC b n)
def wT(c L:Nat):Nat:=if c % L=0/\0<c then L else c % L
def wH(f:Nat->Nat)(L:Nat)(P:aa aO)(b n r:Nat):Nat:=if nO P b r=true/\oC P b n r=false then wT (f n) L else f n % L
def wS(R:Nat)(f:Nat->Nat)(L:Nat)(P:aa aO)(b r:Nat):Nat:=(if 0<r then wH f L P b (r-1) r else 0)+(if r+1<R then wH f L P b (r+1) r else 0)
def axZ(c:Nat){L:Nat}(h:0<L):c % L<=wT c L/\wT c L<=L:=by
 have:=Nat.mod_lt c h;unfold wT;split<;>omega
def ax0(c:Nat){L:Nat}(h:0<L):wT (c+1) L=c % L+1/\((c+1) % L≠0->(c+1) % L=c % L+1):=by
 have e:(c+1) % L=(c % L+1) % L:=(Nat.mod_add_mod c L 1).symm;have:=Nat.mod_lt c h;by_cases E:c % L+1=L
 ·have C:(c+1) % L=0:=by rw[e,E,Nat.mod_self]
  unfold wT;rw[aW ⟨C,by omega⟩];exact⟨by omega,λI=>absurd C I⟩
 ·have D:(c+1) % L=c % L+1:=by rw[e];exact Nat.mod_eq_of_lt (by omega)
  unfold wT;rw[aX];exact⟨D,λ_=>D⟩
def YH(f:Nat->Nat){L:Nat}(h:0<L)(P:aa aO)(b n r:Nat):f n % L<=wH f L P b n r/\wH f L P b n r<=L:=by
 have:=axZ (f n) h;have:=Nat.mod_lt (f n) h;unfold wH;split<;>omega
def ax1(R:Nat)(f:Nat->Nat){L:Nat}(h:0<L)(P:aa aO)(b r:Nat):wS R f L P b r<=2*L:=by
 have:=(YH f h P b (r-1) r).2;have:=(YH f h P b (r+1) r).2;unfold wS;split<;>split<;>omega
def aiL{f f':Nat->Nat}{L:Nat}(D:0<L){P P':aa aO}{b n r:Nat}(C:f' n=f n)(E:nO P b r=true->nO P' b r=true)(I:nO P b r=true->oC P' b n r=true->oC P b n r=true):wH f L P b n r<=wH f' L P' b n r:=by
 by_cases c:nO P b r=true/\oC P b n r=false
 ·have O:nO P' b r=true/\oC P' b n r=false:=⟨E c.1,Bool.eq_false_iff.2 λh=>by rw[I c.1 h]at c;exact absurd c.2 (by decide)⟩
  unfold wH;rw[aW c,aW O,C];exact dg _
 ·have:=(YH f' D P' b n r).1;unfold wH at this ⊢;rw[aX c,<-C];exact this
def aiM{p:aO->Bool}{b r:Nat}(D:∀ a,jC b r a=true->p a=true){P:aa aO}(new:aa aO)(h:nO P b r=true):nO (P.filter p++new) b r=true:=by
 unfold nO at h ⊢;obtain⟨a,E,C⟩:=List.any_eq_true.1 h;exact List.any_eq_true.2 ⟨a,List.mem_append_left _ (List.mem_filter.2 ⟨E,D a C⟩),C⟩
def Rx{p:aO->Bool}{b n r:Nat}(D:∀ a,jC b r a=true->p a=true)(new:aa aO):∀ (P:aa aO),nO P b r=true->oC (P.filter p++new) b n r=true->oC P b n r=true
 |[],h,_=>by cases h
 | a :: l,h,hb=>by
  unfold oC at hb ⊢;by_cases C:jC b r a=true
  ·rw[List.filter_cons_of_pos (D a C),List.cons_append,List.takeWhile_cons,C]at hb;cases hb
  ·have C:=Bool.eq_false_iff.2 C;have hl:nO l b r=true:=by
    unfold nO at h ⊢;rw[List.any_cons,C,Bool.false_or]at h;exact h
   rw[List.takeWhile_cons,C];show ((a::l.takeWhile λa=>!jC b r a).any (jC b n))=true;rw[List.any_cons];by_cases pa:p a=true
   ·rw[List.filter_cons_of_pos pa,List.cons_append,List.takeWhile_cons,C]at hb;have hb:((a :: (l.filter p++new).takeWhile λa=>!jC b r a).any (jC b n))=true:=hb;rw[List.any_cons]at hb;cases E:jC b n a with
    |true=>rfl
    | false=>
     rw[E,Bool.false_or]at hb;exact Rx D new l hl hb
   ·rw[List.filter_cons_of_neg pa]at hb;have:=Rx D new l hl hb;unfold oC at this;rw[this,Bool.or_true]
def aiN{b row r:Nat}(O:row≠r):∀ (P:aa aO) (k:Nat) (D:k<P.length),jC b row P[k]=true->((P.take k).any λa=>a.ay==(b:Int))=false->oC P b row r=true
 | a :: l,0,D,h,_=>by
  unfold oC;have E:jC b r a=false:=Bool.eq_false_iff.2 λI=>O (aiK h I).2
  have h:jC b row a=true:=h;rw[List.takeWhile_cons,E];show ((a::l.takeWhile λa=>!jC b r a).any (jC b row))=true;rw[List.any_cons,h];rfl
 | a :: l,k+1,D,h,C=>by
  have C:((a :: l.take k).any λa=>a.ay==(b:Int))=false:=C;rw[List.any_cons,nQ]at C;have T:=aiN O l k (by simpa using D) h C.2;unfold oC at T ⊢;have E:jC b r a=false:=Bool.eq_false_iff.2 λI=>by
   rw[<-DU.1 I]at C;dsimp only at C;rw[iQ]at C;exact absurd C.1 (by decide)
  rw[List.takeWhile_cons,E];show ((a::l.takeWhile λa=>!jC b r a).any (jC b row))=true;rw[List.any_cons,T,Bool.or_true]
def YI(b:Int):∀ (ns:aa Int) (P:aa aO),∃ new,ns.foldl (jz b) P=P++new/\(∀ a∈new,∃ n∈ns,a=⟨b,n,0⟩)/\∀ n∈ns,(ns.foldl (jz b) P).any (eF ⟨b,n,0⟩)=true
 |[],P=>⟨[],(List.append_nil P).symm,λa h=>(by cases h),λn h=>(by cases h)⟩
 | n :: ns,P=>by
  obtain⟨new,C,D,E⟩:=YI b ns (jz b P n);have key:∃ m,jz b P n=P++m/\(∀ a∈m,a=⟨b,n,0⟩)/\(jz b P n).any (eF ⟨b,n,0⟩)=true:=by
   unfold jz;cases h:P.any (eF ⟨b,n,0⟩)with
   |true=>exact⟨[],(List.append_nil P).symm,λa h=>(by cases h),h⟩
   |false=>exact⟨[⟨b,n,0⟩],rfl,λa h=>iw.1 h,by rw[av,List.any_append,h];simp[eF]⟩
  obtain⟨m,I,O,T⟩:=key
  refine⟨m++new,?_,λa ha=>?_,λx hx=>?_⟩
  ·rw[List.foldl_cons,C,I,List.append_assoc]
  ·rcases List.mem_append.1 ha with ha | ha
   ·exact⟨n,.head _,O a ha⟩
   ·obtain⟨x,hx,e⟩:=D a ha;exact⟨x,.tail _ hx,e⟩
  ·rw[List.foldl_cons];rcases gU.1 hx with rfl | hx
   ·rw[C,List.any_append,T,Bool.true_or]
   ·exact E x hx
def aiO(k m:Nat)(h:aa Int):(oY k h).getD m 0<=if k=m then h.getD m 0+1 else h.getD m 0:=by
 unfold oY;by_cases e:k=m
 ·subst e;rw[aW rfl];by_cases C:k<h.length
  ·rw[aix _ _ _ C,aW rfl];unfold oh;split<;>omega
  ·rw[cK,cK,pX (by rw[gR];omega),pX (by omega)];decide
 ·rw[aX e,getD_set_ne _ e];exact eW _
def Ry{b B r s R:Nat}(h:b≠B)(C:r<R)(D:s<R):b*R+r≠B*R+s:=λe=>by
 rcases Nat.lt_or_gt_of_ne h with h|h
 ·have:=iP R h;rw[iZ]at this;omega
 ·have:=iP R h;rw[iZ]at this;omega
def Rz{R B row b r:Nat}(Z:row<R)(U:r<R)(h:aa Int):(oZ (R:Int) (row:Int) (B*R+row) h).getD (b*R+r) 0<=if b=B/\r=row then 0 else if b=B/\(r+1=row\/r=row+1)then h.getD (b*R+r) 0+1 else h.getD (b*R+r) 0:=by
 have Y:=Gx h (B*R+row) (b*R+r);have I:(xg (row:Int) (B*R+row) h).getD (b*R+r) 0<=if b=B/\r=row then 0 else if b=B/\r+1=row then h.getD (b*R+r) 0+1 else h.getD (b*R+r) 0:=by
  unfold xg;by_cases c:0<row
  ·rw[bf (show 0<(row:Int) by omega),aq];have D:=aiO (B*R+row-1) (b*R+r) (h.set (B*R+row) 0);by_cases hb:b=B
   ·subst hb;by_cases E:r=row
    ·subst E;rw[aW ⟨rfl,rfl⟩];rw[aX,Y,aW rfl]at D;exact D
    ·rw[aX (λC=>E C.2)];rw[Y,aX (show ¬ b*R+row=b*R+r by omega)]at D;by_cases O:r+1=row
     ·rw[aW ⟨rfl,O⟩];rw[aW]at D;exact D
     ·rw[aX (λC=>O C.2)];rw[aX]at D;exact D
   ·have T:=Ry hb U Z;have n2:=Ry (s:=row-1) hb U (by omega);rw[aX (λC=>hb C.1),aX (λC=>hb C.1)];rw[aX,Y,aX (λC=>T C.symm)]at D;exact D
  ·rw[br (show ¬ 0<(row:Int) by omega),av,Y];by_cases hb:b=B
   ·subst hb;by_cases E:r=row
    ·subst E;rw[aW rfl,aW ⟨rfl,rfl⟩];exact eW _
    ·rw[aX,aX (λC=>E C.2),aX];exact eW _
   ·have T:=Ry hb U Z;rw[aX (λC=>T C.symm),aX (λC=>hb C.1),aX (λC=>hb C.1)];exact eW _
 unfold oZ;by_cases c:row+1<R
 ·rw[bf (show (row:Int)<(R:Int)-1 by omega),aq];have D:=aiO (B*R+row+1) (b*R+r) (xg (row:Int) (B*R+row) h);by_cases hb:b=B
  ·subst hb;by_cases E:r=row
   ·subst E;rw[aW ⟨rfl,rfl⟩]at I ⊢;rw[aX]at D;omega
   ·rw[aX (λC=>E C.2)]at I ⊢;by_cases O:r+1=row
    ·rw[aW ⟨rfl,O⟩]at I;rw[aW ⟨rfl,.inl O⟩];rw[aX]at D;omega
    ·rw[aX (λC=>O C.2)]at I;by_cases k3:r=row+1
     ·rw[aW ⟨rfl,.inr k3⟩];rw[aW]at D;omega
     ·rw[aX];rw[aX]at D;omega
  ·have T:=Ry (s:=row+1) hb U c;rw[aX (λC=>hb C.1),aX (λC=>hb C.1)]at I ⊢;rw[aX (λC=>T (by omega))]at D;omega
 ·rw[br (show ¬ (row:Int)<(R:Int)-1 by omega),av];refine Int.le_trans I ?_;split
  ·exact eW _
  ·split
   next C=>rw[aW ⟨C.1,.inl C.2⟩];exact eW _
   ·split<;>omega
def RB{g:aF}{R:Nat}(I:g.rows=(R:Int))(l:ko)(a:cL)(B:Nat):∀ n,n<=R->∀ b r,r<R->(b≠B->(fW g l a (B:Int) n).aY.getD (b*R+r) 0<=a.aY.getD (b*R+r) 0)/\(b=B->r<n->(fW g l a (B:Int) n).aY.getD (b*R+r) 0<=if r+1=n then 0 else 1)
 |0,_,b,r,_=>⟨λ_=>eW _,λ_ h=>absurd h (Nat.not_lt_zero _)⟩
 | n+1,hn,b,r,T=>by
  obtain⟨Y,E⟩:=RB I l a B n (by omega) b r T;unfold fW;rw[pz];show (b≠B->(oZ g.rows (n:Int) ((B:Int)*g.rows+(n:Int)).toNat (fW g l a (B:Int) n).aY).getD (b*R+r) 0<=a.aY.getD (b*R+r) 0)/\(b=B->r<n+1->(oZ g.rows (n:Int) ((B:Int)*g.rows+(n:Int)).toNat (fW g l a (B:Int) n).aY).getD (b*R+r) 0<=if r+1=n+1 then 0 else 1);have Z:((B:Int)*g.rows+(n:Int)).toNat=B*R+n:=by
   rw[I,<-Int.natCast_mul];omega
  rw[Z,I];have C:=Rz (R:=R) (B:=B) (row:=n) (b:=b) (r:=r) (by omega) T (fW g l a (B:Int) n).aY
  refine⟨λhb=>?_,λhb hrn=>?_⟩
  ·rw[aX (λD=>hb D.1),aX (λD=>hb D.1)]at C;exact Int.le_trans C (Y hb)
  ·by_cases U:r=n
   ·rw[aW ⟨hb,U⟩]at C;rw[aW];exact C
   ·have E:=E hb (by omega);rw[aX (λD=>U D.2)]at C;rw[aX];by_cases O:r+1=n
    ·rw[aW O]at E;rw[aW ⟨hb,.inl O⟩]at C;omega
    ·rw[aX O]at E;rw[aX]at C;omega
def aiP(g:aF)(l:ko)(a:cL)(n:Nat):oz g l a (n+1)=fW g l (oz g l a n) (n:Int) g.rows.toNat:=pz _ _ _
def aiQ{g:aF}{R:Nat}(D:g.rows=(R:Int))(l:ko)(a:cL):∀ n b r,b<n->r<R->(oz g l a n).aY.getD (b*R+r) 0<=1
 | n+1,b,r,hb,C=>by
  rw[aiP,show g.rows.toNat=R by omega];obtain⟨E,I⟩:=RB D l (oz g l a n) n R (dg _) b r C;by_cases e:b=n
  ·have:=I e C;refine Int.le_trans this ?_;split<;>omega
  ·exact Int.le_trans (E e) (aiQ D l a n b r (by omega) C)
def Hb(R:Nat)(cS now:Int)(t:cI)(C:Int)(P:aa aO)(aY:aa Int)(b:Nat):Prop:=∃(f:Nat->Nat) (L:Nat),pU R t f/\(∀r,r<R->(f r:Int)<=now)/\C=(L:Int)/\3<=L/\L<=1000/\2*(L:Int)+4<=cS/\∀r,r<R->aY.getD (b*R+r) 0<=1+((wS R f L P b r:Nat):Int)
def Ht(n:Int)(c:ax):Prop:=∀b:Nat,(b:Int)<aJ c.config.ak->Hb c.config.ak.rows.toNat c.config.di.aY n (c.bA.getD b zT) (c.guard.getD b 0) c.pending c.array.aY b
def aiR{R:Nat}{f f':Nat->Nat}{L:Nat}{P P':aa aO}{b r:Nat}(h:∀ n,n+1=r\/n=r+1->wH f L P b n r<=wH f' L P' b n r):wS R f L P b r<=wS R f' L P' b r:=by
 unfold wS;refine Nat.add_le_add ?_ ?_
 ·split
  ·exact h _ (by omega)
  ·exact dg _
 ·split
  ·exact h _ (by omega)
  ·exact dg _
def Hb.jr{R:Nat}{cS n n':Int}{t:cI}{D:Int}{P:aa aO}{aY YJ:aa Int}{b:Nat}(h:Hb R cS n t D P aY b)(I:n<=n'){p:aO->Bool}(new:aa aO)(O:∀ a:aO,a.ay=(b:Int)->p a=true)(T:∀ r,r<R->YJ.getD (b*R+r) 0<=aY.getD (b*R+r) 0):Hb R cS n' t D (P.filter p++new) YJ b:=by
 obtain⟨f,L,U,Y,Z,h4,h5,h6,h7⟩:=h
 refine⟨f,L,U,λr C=>Int.le_trans (Y r C) I,Z,h4,h5,h6,λr C=>?_⟩
 have E:∀a,jC b r a=true->p a=true:=λa ha=>O a (by rw[<-DU.1 ha])
 have:=aiR (R:=R) (f:=f) (f':=f) (L:=L) (P:=P) (P':=P.filter p++new) (b:=b) (r:=r) λn _=>aiL (by omega) rfl (aiM E new) (Rx E new P)
 have:=T r C;have:=h7 r C;omega
def Hb.same{R:Nat}{cS n n':Int}{t:cI}{C:Int}{P:aa aO}{aY:aa Int}{b:Nat}(h:Hb R cS n t C P aY b)(D:n<=n'):Hb R cS n' t C P aY b:=by
 have:=h.jr (YJ:=aY) D (p:=λ_=>true) [] (λ_ _=>rfl) λr _=>eW _
 rwa [List.append_nil,List.filter_eq_self.2 λ_ _=>rfl]at this
def Hb.new{R:Nat}{cS n L:Int}{P:aa aO}{aY:aa Int}{b:Nat}(C:0<=n)(I:3<=L/\L<=1000)(hl:2*L+4<=cS)(D:∀ r,r<R->aY.getD (b*R+r) 0<=1):Hb R cS n (pq 16) L P aY b:=by
 refine⟨λ_=>0,L.toNat,pU.new R,λr _=>C,by omega,by omega,by omega,by omega,λr E=>?_⟩
 have:=D r E;omega
def Ht.pr{c j:ax}{n:Int}(h:Ht n c)(p:Pr c j):Ht n j:=by
 unfold Ht at h ⊢;rw[p.pC,p.pT,p.pG,p.pP,p.pH];exact h
def ax2{f f':Nat->Nat}{L:Nat}(D:0<L){P P':aa aO}{b row r:Nat}(E:f' row=f row+1)(I:nO P b r=true->oC P b row r=true)(O:(f row+1) % L=0->nO P' b r=true)(T:oC P' b row r=false):wH f L P b row r+1<=wH f' L P' b row r:=by
 obtain⟨w1,U⟩:=ax0 (f row) D;have Y:wH f L P b row r=f row % L:=by
  unfold wH;exact aX λC=>by
   rw[I C.1]at C;exact absurd C.2 (by decide)
 rw[Y];unfold wH;rw[E];cases hm:nO P' b r with
 | true=>
  rw[aW ⟨rfl,T⟩,w1];exact dg _
 | false=>
  rw[aX (λC=>absurd C.1 (by decide)),U (λZ=>by rw[O Z]at hm;cases hm)];exact dg _
def Hb.Yk{R:Nat}(hR:R<16){cS n:Int}{t:cI}{O:Int}{P:aa aO}{aY:aa Int}{B row:Nat}(Z:row<R)(h:Hb R cS n t O P aY B)(hn:n+1<100000)(RC:∀ r,r≠row->nO P B r=true->oC P B row r=true):
  Hb R cS (n+1) (nJ t (row:Int) O).1 O (bif (nJ t (row:Int) O).2 then (iN (R:Int) (row:Int)).foldl (jz (B:Int)) (P.filter λa=>!eF ⟨(B:Int),(row:Int),0⟩ a)else P.filter λa=>!eF ⟨(B:Int),(row:Int),0⟩ a) (oZ (R:Int) (row:Int) (B*R+row) aY) B:=by
 obtain⟨f,L,h1,h2,rfl,h4,h5,h6,h7⟩:=h;obtain⟨k1,k2⟩:=h1.step hR Z (L:=L) (by omega) h5 λr C=>by have:=h2 r C;omega
 have hL:0<L:=by omega
 -- the pending rows behind it
 obtain⟨new,e1,e2,e3⟩:∃ new,(bif (nJ t (row:Int) (L:Int)).2 then (iN (R:Int) (row:Int)).foldl (jz (B:Int)) (P.filter λa=>!eF ⟨(B:Int),(row:Int),0⟩ a)else P.filter λa=>!eF ⟨(B:Int),(row:Int),0⟩ a)=(P.filter λa=>!eF ⟨(B:Int),(row:Int),0⟩ a)++new/\(∀ a∈new,∃ m∈iN (R:Int) (row:Int),a=⟨(B:Int),m,0⟩)/\((f row+1) % L=0->∀ m∈iN (R:Int) (row:Int),((P.filter λa=>!eF ⟨(B:Int),(row:Int),0⟩ a)++new).any (eF ⟨(B:Int),m,0⟩)=true):=by
  rw[k1];by_cases D:(f row+1) % L=0
  ·rw[bf D,aq];obtain⟨new,q1,q2,q3⟩:=YI (B:Int) (iN (R:Int) (row:Int)) (P.filter λa=>!eF ⟨(B:Int),(row:Int),0⟩ a);exact⟨new,q1,q2,λ_ m hm=>by rw[<-q1];exact q3 m hm⟩
  ·rw[br D,av];exact⟨[],(List.append_nil _).symm,λa ha=>(by cases ha),λE=>absurd E D⟩
 rw[e1,k1];have nb:∀ m∈iN (R:Int) (row:Int),m≠(row:Int):=λm hm=>by
  unfold iN at hm;rcases List.mem_append.1 hm with hm|hm
  ·cases I:decide (0<(row:Int))with
   |false=>rw[I]at hm;cases hm
   |true=>rw[I]at hm;rw[iw.1 hm];omega
  ·cases I:decide ((row:Int)<(R:Int)-1)with
   |false=>rw[I]at hm;cases hm
   |true=>rw[I]at hm;rw[iw.1 hm];omega
 refine⟨_,L,k2,λr C=>?_,rfl,h4,h5,h6,λr C=>?_⟩
 ·have:=h2 r C;split<;>omega
 ·have T:=Rz (R:=R) (B:=B) (row:=row) (b:=B) (r:=r) Z C aY;have h8:=h7 r C;by_cases er:r=row
  ·rw[aW ⟨rfl,er⟩]at T;omega
  ·rw[aX (λE=>er E.2)]at T;have hp:∀ a,jC B r a=true->(!eF ⟨(B:Int),(row:Int),0⟩ a)=true:=λa ha=>by
    rw[gd];exact Bool.eq_false_iff.2 λU=>er (aiK ha (U:jC B row a=true)).2
   have Y:∀m,m≠row->wH f L P B m r<=wH (λr=>if r=row then f r+1 else f r) L ((P.filter λa=>!eF ⟨(B:Int),(row:Int),0⟩ a)++new) B m r:=λm hm=>aiL hL (aX hm) (aiM hp new) (Rx hp new P)
   by_cases en:r+1=row\/r=row+1
   ·rw[aW ⟨rfl,en⟩]at T;have yc:(r:Int)∈iN (R:Int) (row:Int):=by
     unfold iN;rcases en with en|en
     ·rw[bf (show 0<(row:Int) by omega)];exact List.mem_append_left _ (iw.2 (by omega))
     ·rw[bf (show (row:Int)<(R:Int)-1 by omega)];exact List.mem_append_right _ (iw.2 (by omega))
    have Yw:oC ((P.filter λa=>!eF ⟨(B:Int),(row:Int),0⟩ a)++new) B row r=false:=by
     refine l8.2 λa ha U=>?_
     have ha:=(List.takeWhile_sublist _).subset ha;rcases List.mem_append.1 ha with ha|ha
     ·have:=(List.mem_filter.1 ha).2;rw[show eF ⟨(B:Int),(row:Int),0⟩ a=true from U]at this;cases this
     ·obtain⟨m,hm,rfl⟩:=e2 a ha;have:=DU.1 U;simp only[aO.mk.injEq]at this;exact nb m hm this.2.1.symm
    have hw:=ax2 (f:=f) (f':=λr=>if r=row then f r+1 else f r) hL (P:=P) (P':=(P.filter λa=>!eF ⟨(B:Int),(row:Int),0⟩ a)++new) (b:=B) (r:=r) (aW rfl) (RC r er) (λD=>e3 D _ yc) Yw;have ayY:wS R f L P B r+1<=wS R (λr=>if r=row then f r+1 else f r) L ((P.filter λa=>!eF ⟨(B:Int),(row:Int),0⟩ a)++new) B r:=by
     unfold wS;rcases en with en|en
     ·rw[aW (show r+1<R by omega),aW (show r+1<R by omega),en];have:=Y (r-1) (by omega);split<;>omega
     ·rw[aW (show 0<r by omega),aW (show 0<r by omega),show r-1=row by omega];have:=Y (r+1) (by omega);split<;>omega
    omega
   ·rw[aX (λE=>en E.2)]at T;have:=aiR (R:=R) (f:=f) (f':=λr=>if r=row then f r+1 else f r) (L:=L) (P:=P) (P':=(P.filter λa=>!eF ⟨(B:Int),(row:Int),0⟩ a)++new) (b:=B) (r:=r) λm hm=>Y m (by omega)
    omega
def ax3{c:eo}{p:cR}(hl:p.weights.length<1073741823)(h:mL c p=true):2*p.dn+4<=c.di.aY:=by
 have hb:=Q3 hl h;obtain⟨C,D⟩:=BR hl h;have e:=DE c p hl;rw[h]at e;have E:wU p.dn=some (2*p.dn+2):=by
  unfold wU;rw[cV,au,bu.2 hb,bE,av,aZ (n:=2*p.dn),aZ]
 unfold qJ at e;simp only[KO,Dz _ hl,E,au,C,D,aq]at e;rw[aZ (n:=2*p.dn+2+2)]at e;by_cases I:2*p.dn+2+2<=c.di.aY
 ·omega
 ·rw[br I]at e;exact absurd e (by simp)
def YK{T:Type}(x d:T)(l:aa T):∀ n k:Nat,k<n->k<l.length->((List.range n).foldl (λd b=>d.set b x) l).getD k d=x
 | n+1,k,h,hl=>by
  have hlen:=xu x l n;rw[pz];by_cases e:n=k
  ·subst e;exact uJ _ (by omega)
  ·rw[getD_set_ne _ e];exact YK x d l n k (by omega) hl
def ax4{c:ax}(h:Pq c)(hu:c.pending.Pairwise (λx y=>x≠y))(Z:∀ a∈c.pending,a.bZ=0)(C:(fJ c).1.kind=1){B row:Nat}(hB:(fJ c).1.ay=(B:Int))(D:(fJ c).1.row=(row:Int)):∀ r,r≠row->nO c.pending B r=true->oC c.pending B row r=true:=λr hr Y=>by
 have hw:=DO c;rcases LD h with ⟨_,⟨e,_⟩|e⟩|⟨_,⟨b,hb,e⟩|⟨_,⟨k,E,O,e⟩|⟨j,hj,I,e⟩|e|e⟩⟩
 ·rw[e]at C;exact absurd C (by decide)
 ·rw[e]at C;dsimp only at C;omega
 ·rw[e]at C;unfold fX at C;rcases BY c b ⟨5,b,0,0⟩with e|⟨e,_⟩<;>rw[e]at C<;>dsimp only at C<;>omega
 ·rw[e]at C hB D;unfold jA at C hB D;rcases BY c (iX c k).ay ⟨1,(iX c k).ay,(iX c k).row,0⟩with T | ⟨T,_⟩
  ·rw[T]at C;dsimp only at C;omega
  ·rw[T]at hB D;have hB:(iX c k).ay=(B:Int):=hB;have D:(iX c k).row=(row:Int):=D;unfold rP at O;rw[aM,gd,gd,hB]at O
   refine aiN (λe=>hr e.symm) c.pending k E ?_ O.2
   rw[DU,Q6 E];have su:(iX c k).bZ=0:=by rw[<-Q6 E];exact Z _ (cX E)
   rw[<-hB,<-D,<-su]
 ·have hB2:(cD c j).ay=(B:Int):=by
   rw[e]at hB;unfold gp at hB;rw[(Yz c.aN (cD c j) (rL c.queue j)).1]at hB;exact hB
  rw[e]at C;unfold l6 at I;rw[C]at I;simp only[aM,gd,iQ,Bool.true_or,cw]at I;have U:=I.2.2.2.1;unfold Ls at U;rw[hB2]at U;unfold nO at Y;obtain⟨a,ha,h1⟩:=List.any_eq_true.1 Y;have:=l8.1 U a ha;rw[<-DU.1 h1]at this;exact absurd (iQ _) this
 ·rcases Ri h e with ⟨e,_⟩ | e | ⟨e,_⟩
  ·rw[e]at C;dsimp only at C;omega
  ·omega
  ·rw[e]at C;dsimp only at C;omega
 ·rw[e]at C;exact absurd C (by decide)
def Ht.fn{j y:ax}(h:Ht (j.now-1) j)(Y:cv j)(hk:cz j=true)(RD:j.config.gV=16)(hR:j.config.ak.rows<16)(hn:1<=j.now/\j.now<50000)(hf:Fn j y):Ht j.now y:=by
 have O:=Pq.of Y hk;have k:=Ck.of hk;have p:=fN.of k.pa;have b1:=eI j.config.ak;have hw:j.box.bW.weights.length<1073741823:=by
  have:=Y.1.1;unfold Gb at this;omega
 have AN:=ax3 hw k.f1;have MD:=Q3 hw k.f1;rcases hf with ⟨k0,rfl⟩|⟨E,rfl⟩
 ·exact λb hb=>(h b hb).same (by omega)
 ·have RC:=λB row=>ax4 O p.u (λa Z=>(p.pd a Z).2) (B:=B) (row:=row)
  generalize hX:(fJ j).1=x at E RC ⊢;generalize (fJ j).2=i at E ⊢;obtain⟨_,Z,_,_⟩:=xF Y O E;obtain⟨hg,_,hx,sW⟩:=uv Z;simp only[kT,aM]at E;have hc:=E.1;have gb:=fL hg;obtain⟨R,YL⟩:=dH (show 0<=j.config.ak.rows by omega);have YM:j.config.ak.rows.toNat=R:=by omega
  have zF:=p.tl;have hgl:=p.gl;by_cases T:x.kind=1
  ·obtain⟨Ej,vA⟩:=sW (by omega);obtain⟨r0,r1⟩:=Gt hc T;have jc:=O.p.bl;obtain⟨B,hB⟩:=dH Ej;obtain⟨row,BZ⟩:=dH r0;have D:=RC B row T hB BZ;have ei:((B:Int)*(R:Int)+(row:Int)).toNat=B*R+row:=by rw[<-Int.natCast_mul];omega
   rw[Gy j i T];intro b hb;have hb:(b:Int)<aJ j.config.ak:=hb;have hold:=h b hb;show Hb j.config.ak.rows.toNat j.config.di.aY j.now ((j.bA.set x.ay.toNat (nJ (j.bA.getD x.ay.toNat zT) x.row (j.guard.getD x.ay.toNat 0)).1).getD b zT) (j.guard.getD b 0) (bif (nJ (j.bA.getD x.ay.toNat zT) x.row (j.guard.getD x.ay.toNat 0)).2 then (iN j.config.ak.rows x.row).foldl (jz x.ay) (j.pending.filter λa=>!eF ⟨x.ay,x.row,0⟩ a)else j.pending.filter λa=>!eF ⟨x.ay,x.row,0⟩ a) (oZ j.config.ak.rows x.row (x.ay*j.config.ak.rows+x.row).toNat j.array.aY) b;rw[YM]at hold ⊢;rw[hB,BZ,YL,ei,bz];by_cases e:B=b
   ·subst e;rw[uJ _ (by omega)];have:=Hb.Yk (R:=R) (by omega) (row:=row) (by omega) hold (by omega) D;rw[show j.now-1+1=j.now by omega]at this;exact this
   ·rw[getD_set_ne _ e];have I:∀ r,r<R->(oZ (R:Int) (row:Int) (B*R+row) j.array.aY).getD (b*R+r) 0<=j.array.aY.getD (b*R+r) 0:=λr C=>by
     have:=Rz (R:=R) (B:=B) (row:=row) (b:=b) (r:=r) (by omega) C j.array.aY;rw[aX (λD=>e D.1.symm),aX (λD=>e D.1.symm)]at this;exact this
    have MR:∀ a:aO,a.ay=(b:Int)->(!eF ⟨(B:Int),(row:Int),0⟩ a)=true:=λa U=>by
     rw[gd]
     refine Bool.eq_false_iff.2 λh9=>e ?_
     have:=Li.1 h9;rw[<-this]at U;dsimp only at U;omega
    cases (nJ (j.bA.getD B zT) (row:Int) (j.guard.getD B 0)).2 with
    | true=>
     rw[aq];obtain⟨new,q1,_,_⟩:=YI (B:Int) (iN (R:Int) (row:Int)) (j.pending.filter λa=>!eF ⟨(B:Int),(row:Int),0⟩ a);rw[q1];exact hold.jr (by omega) new MR I
    | false=>
     rw[av];have:=hold.jr (n':=j.now) (by omega) [] MR I
     rwa [List.append_nil]at this
  ·by_cases k5:x.kind=5
   ·obtain⟨Ej,vA⟩:=sW (by omega);have jc:=O.p.bl;obtain⟨B,hB⟩:=dH Ej;rw[LF j i k5];intro b hb;have hb:(b:Int)<aJ j.config.ak:=hb;have hold:=h b hb;show Hb j.config.ak.rows.toNat j.config.di.aY j.now ((j.bA.set x.ay.toNat (pq j.config.gV)).getD b zT) ((j.guard.set x.ay.toNat j.box.bW.dn).getD b 0) (j.pending.filter λa=>!(a.ay==x.ay)) (fW j.config.ak j.config.di j.array x.ay j.config.ak.rows.toNat).aY b;rw[YM]at hold ⊢;rw[hB,RD,bz];have I:=λr C=>RB YL j.config.di j.array B R (dg _) b r C
    by_cases e:B=b
    ·subst e;rw[uJ _ (by omega),uJ _ (by omega)]
     refine Hb.new (by omega) MD AN λr C=>?_
     refine Int.le_trans ((I r C).2 rfl C) ?_;split<;>omega
    ·rw[getD_set_ne _ e,getD_set_ne _ e];have:=hold.jr (n':=j.now) (by omega) (p:=λa=>!(a.ay==(B:Int))) [] (λa U=>by
      rw[U,jw (show ¬ (b:Int)=(B:Int) by omega)];rfl) λr C=>(I r C).1 (λD=>e D.symm)
     rwa [List.append_nil]at this
   ·by_cases k9:x.kind=9
    ·rw[DS j i k9];intro b hb;have hb:(b:Int)<aJ j.config.ak:=hb;show Hb j.config.ak.rows.toNat j.config.di.aY j.now (((List.range j.bA.length).foldl (λd b=>d.set b (pq j.config.gV)) j.bA).getD b zT) (((List.range j.bA.length).foldl (λd b=>d.set b j.box.bW.dn) j.guard).getD b 0) [] (oz j.config.ak j.config.di j.array j.bA.length).aY b;rw[YM,YK _ _ _ _ _ (by omega) (by omega),YK _ _ _ _ _ (by omega) (by omega),RD];exact Hb.new (by omega) MD AN λr C=>aiQ YL j.config.di j.array j.bA.length b r (by omega) C
    ·obtain⟨_,e2,_,e4,e5,e6⟩:=YC (c:=j) (i:=i) hx T k5 k9;have e7:=(GB (c:=j) (x:=x) (i:=i) hx).2.2.2;unfold Ht;rw[e2,e4,e5,e6,e7];exact λb hb=>(h b hb).same (by omega)
structure Iv (u:Nat) (c:ax):Prop where
 iT:Tq c u
 iA:rQ c
 iD:∃t,Dx c.now t c
 iH:Ht c.now c
 iE:(c.trace.length:Int)<=c.now
def Iv.up{u:Nat}{c:ax}(h:Iv u c):Iv (u+1) c:=⟨h.iT.up,h.iA,h.iD,h.iH,h.iE⟩
def YN{c:eo}(h:jq c):rR c.bQ:=by
 obtain⟨r,w,C,D,E,I,O⟩:=h.2.1;exact⟨r,w,C,D,E,I,O⟩
def Fn.nx{j y:ax}(C:cv j)(E:cz j=true)(h:Fn j y):Nx j y:=by
 rcases h with ⟨_,rfl⟩|⟨D,rfl⟩
 ·exact Nx.refl _
 ·obtain⟨_,I,O,_⟩:=xF C (Pq.of C E) D;exact awX D (uv I).2.2.1 λq=>(O q).1.i
def YO(j:ax):Prop:=rQ j/\(∀b:Nat,j.aD.aB.getD b 0<=4)/\Ht (j.now-1) j
def YP{c:ax}{u:Nat}(h:Iv u c)(hz:cv c)(O:cz c=true)(I:jq c.config)(hn:c.now<1900)(hu:u<400):∃ y,w7 c=some y/\cv y/\cz y=true/\Iv u y/\y.config=c.config/\y.now=c.now+1/\∃ j,cv j/\cz j=true/\Pr c j/\Fn j y/\YO j:=by
 have k:=Ck.of O;have Lx:=bu.1 k.nw;have qX:=h.iT.2;have hE:=h.iE;obtain⟨j,y,e,z1,k1,D,C,p,E⟩:=axO hz O (by omega) (by omega) (by omega);have pN:=p.pN;have zL:200<=c.config.interval/\c.config.interval<=259:=I.2.2.2.2.1;have RD:c.config.gV=16:=I.2.2.2.2.2.1;have hrw:c.config.ak.rows<=6:=I.1.2.2.1.2;have nx:=E.nx D C;have hcy:y.config=c.config:=nx.2.1.trans p.pC;have hny:y.now=c.now+1:=nx.1.trans pN;have Z:=k.rf;simp only[fD,aM,bu]at Z;have LJ:=Pq.of D C;obtain⟨t,hD⟩:=h.iD;have hTj:Tq j u:=by
  refine⟨?_,by rw[p.pQ,p.pY];exact qX⟩;have:=h.iT.1;unfold Re at this ⊢;rw[p.pC,p.pE,p.pK,p.pR];exact this
 have T:rQ j:=h.iA.pr p ⟨by omega,by omega⟩ Z.2.2 (fN.of k.pa).dl hD.d4;obtain⟨t',U⟩:=hD.pr p O ⟨by omega,by omega⟩;rw[show c.now=j.now-1 by omega]at U;have hHj:Ht (j.now-1) j:=by
  have:=h.iH.pr p
  rwa [show c.now=j.now-1 by omega]at this
 have hAy:rQ y:=by
  rcases E with ⟨_,rfl⟩|⟨hm,rfl⟩
  ·exact T
  ·simp only[kT,aM]at hm;exact T.Ym LJ hm.1 (λh5=>(YA LJ h5).1) (by rw[p.pC];omega) (fN.of (Ck.of C).pa).tl
 refine⟨y,e,z1,k1,⟨hTj.nx C nx,hAy,⟨t',?_⟩,?_,?_⟩,hcy,hny,j,D,C,p,E,T,U.d4,hHj⟩
 ·have:=U.fn D C (by rw[p.pC];exact YN I) E
  rwa [show j.now=y.now by omega]at this
 ·have:=hHj.fn D C (by rw[p.pC];exact RD) (by rw[p.pC];omega) ⟨by omega,by omega⟩ E
  rwa [show j.now=y.now by omega]at this
 ·rcases nx.2.2.2.2.1 with ⟨Y,_⟩ | ⟨x,Y,_⟩
  ·rw[Y,p.pE];omega
  ·rw[Y,p.pE,List.length_append,List.length_singleton];omega
def ax5{c:ax}{u:Nat}(h:Iv u c)(C:cv c)(D:cz c=true)(E:jq c.config)(I:c.now<1900)(O:u<400):∃ y,w7 c=some y/\cv y/\cz y=true/\Iv u y/\y.config=c.config/\y.now=c.now+1:=by
 obtain⟨y,T,U,Y,Z,h5,h6,_⟩:=YP h C D E I O;exact⟨y,T,U,Y,Z,h5,h6⟩
def YQ{J:ax->Prop}{c:ax}{u:Nat}(h:Iv u c)(hJ:J c)(U:cv c)(Y:cz c=true)(hc:jq c.config)(hu:u<400){n:Int}(h0:0<=n)(hn:c.now+n<=1900)(hs:∀ x y,cv x->cz x=true->Iv u x->x.config=c.config->c.now<=x.now->x.now<c.now+n->J x->w7 x=some y->J y):∃ y,FT c n=some y/\cv y/\cz y=true/\Iv u y/\y.config=c.config/\y.now=c.now+n/\J y:=by
 have Lx:=bu.1 (Ck.of Y).nw;obtain⟨m,rfl⟩:=dH h0;have h5:aP (m:Int) 0 5000=true:=bu.2 ⟨by omega,by omega⟩;unfold FT bR;rw[BN c U,au];generalize (⟨⟨⟨(0:Int),(0:Int),(0:Int),(0:Int)⟩,⟨(0:Int),(0:Int),(0:Int),(0:Int),(0:Int),(0:Int),(0:Int),(0:Int),(0:Int),(0:Int),(0:Int),(0:Int),(0:Int),(0:Int),(0:Int),(0:Int),(0:Int)⟩,⟨(0:Int),false⟩,(0:Int),(0:Int),(0:Int),⟨(0:Int),(0:Int)⟩⟩,_,_,_,_,_,_,_,_,_,_,_,_,_,_,_,_,_,_⟩:ax)=Z;obtain⟨z,e,y,rfl,D,E,I,C,T,O⟩:=WY (step:=KB) m (λk x=>∃ y:ax,x=(((m:Int),(),(),(k:Int),()),(Z,y,()))/\cv y/\cz y=true/\Iv u y/\y.config=c.config/\y.now=c.now+(k:Int)/\J y) (λz=>∃ y:ax,z = .inl (((),(),()),(Z,y,()))/\cv y/\cz y=true/\Iv u y/\y.config=c.config/\y.now=c.now+(m:Int)/\J y) bq (x:=(((m:Int),(),(),(0:Int),()),(Z,c,()))) ⟨c,rfl,U,Y,h,rfl,(Int.add_zero _).symm,hJ⟩ (by
  rintro k hkk x ⟨y,rfl,D,E,I,C,T,O⟩;obtain⟨v,f1,f2,f3,f4,f5,f6⟩:=ax5 I D E (by rw[C];exact hc) (by omega) hu;unfold KB aE xG;dsimp only;rw[bf (show (k:Int)<(m:Int) by omega),aq,cV,au,h5,aq,f1,au,bN];exact⟨_,rfl,v,rfl,f2,f3,f4,f5.trans C,by omega,hs y v D E I C (by omega) (by omega) O f1⟩) (by
  rintro x ⟨y,rfl,D,E,I,C,T,O⟩;unfold KB aE xG;dsimp only;rw[br (show ¬ (m:Int)<(m:Int) by omega),av];exact⟨_,rfl,y,rfl,D,E,I,C,T,O⟩) (bS)
 rw[e,au];exact⟨y,rfl,D,E,I,C,T,O⟩
def ax6{c:ax}{u:Nat}(h:Iv u c)(C:cv c)(D:cz c=true)(E:jq c.config)(I:u<400){n:Int}(O:0<=n)(T:c.now+n<=1900):∃ y,FT c n=some y/\cv y/\cz y=true/\Iv u y/\y.config=c.config/\y.now=c.now+n:=by
 obtain⟨y,e,U,Y,Z,y4,y5,_⟩:=YQ (J:=λ_=>True) h trivial C D E I O T λ_ _ _ _ _ _ _ _ _ _=>trivial
 exact⟨y,e,U,Y,Z,y4,y5⟩
def ax7{r:dI}(h:fD r=true)(C:jB r<=10000)(x:Bool):∃ y,P4 r x=some y/\fD y=true/\y.aB=r.aB/\jB y<=jB r/\oA y=oA r:=by
 have hl:=vN h;have E:=h;simp only[fD,aM,bu]at h;have mk:∀ (w:Int) (b:Bool),1<=w/\w<=10000->fD ⟨r.aB,w,b⟩=true:=λw b I=>by
  simp only[fD,aM,bu];exact⟨h.1,h.2.1,I⟩
 have O:W6 ((W6 (r.wait+1)).tdiv 2)=(r.wait+1) / 2:=by
  rw[aZ (n:=r.wait+1),sX (by omega)];exact aZ
 have T:W6 (W6 (2*r.wait)-1)=2*r.wait-1:=by
  rw[aZ (n:=2*r.wait)];exact aZ
 unfold P4 zh xA xZ;rw[eE (by simp;omega),aq,List.nil_append,au,F0 _ (by omega),au,E,bE,av];dsimp only;rw[O,T];unfold jB oA at *
 cases x with
 | true=>
  cases D:r.dP with
  | false=>
   rw[D]at C;exact⟨_,rfl,mk _ _ (by omega),rfl,by show 2*((r.wait+1) / 2)-1<=r.wait;omega,rfl⟩
  |true=>exact⟨_,rfl,mk _ _ h.2.2,rfl,eW _,rfl⟩
 | false=>
  cases D:r.dP with
  |false=>exact⟨_,rfl,mk _ _ h.2.2,rfl,eW _,rfl⟩
  | true=>
   rw[D]at C;have C:2*r.wait-1<=10000:=C;have key:∀ v:Int,v=2*r.wait-1->jB ⟨r.aB,v,false⟩<=jB ⟨r.aB,r.wait,true⟩/\oA ⟨r.aB,v,false⟩=oA ⟨r.aB,r.wait,true⟩:=λv U=>by
    subst U;exact⟨eW _,by show (2*r.wait-1+1) / 2=r.wait;omega⟩
   refine⟨_,rfl,mk _ _ (by split<;>omega),rfl,(key _ ?_).1,(key _ ?_).2⟩<;>exact aX
def aiS{r w:Int}(I:1<=r/\r<=4)(O:4<=w/\w<=8)(a b:Int):0<=sQ (lI r w) a b/\sQ (lI r w) a b<=16:=by
 have C:W6 (r+3)=r+3:=aZ;have D:W6 (w+3)=w+3:=aZ;have E:W6 (7+3)=10:=by decide
 unfold sQ lI;dsimp only;rw[C,D,E];cases a==1<;>cases a==2<;>cases a==3<;>cases a==4<;>cases a==5<;>cases b==4<;>cases (b==2 ||b==3)<;>cases (b==1 ||b==5)<;>simp only[aq,av]<;>omega
def ax8{r w:Int}(C:1<=r/\r<=4)(D:4<=w/\w<=8)(a b:Int)(n:Bool):xl (lI r w) a b n<=16:=by
 have E:=aiS C D a 1;unfold xl;show (bif _ then (4:Int)else bif _ then (16:Int)else bif _ then (3:Int)else bif _ then (bif n then (3:Int)else 2)else bif _ then (bif n then (3:Int)else 2)else bif _ then (bif n then (5:Int)else 4)else bif _ then (4:Int)else bif _ then (3:Int)else bif _ then r else bif _ then w else bif _ then sQ (lI r w) a 1 else (0:Int))<=16;refine(qO (a:=0) ⟨by omega,by omega⟩ (qO ⟨by omega,by omega⟩ (qO ⟨by omega,by omega⟩ (qO (qO ⟨by omega,by omega⟩ ⟨by omega,by omega⟩) (qO (qO ⟨by omega,by omega⟩ ⟨by omega,by omega⟩) (qO (qO ⟨by omega,by omega⟩ ⟨by omega,by omega⟩) (qO ⟨by omega,by omega⟩ (qO ⟨by omega,by omega⟩ (qO ⟨by omega,by omega⟩ (qO ⟨by omega,by omega⟩ (qO ⟨by omega,by omega⟩ ⟨by omega,by omega⟩))))))))))).2
def ax9{g:aF}{t:c8}(I:rR t)(a b:aT):ij g t a b<=16:=by
 obtain⟨r,w,C,D,w1,E,rfl⟩:=I;have O:=ax8 ⟨C,D⟩ ⟨w1,E⟩ a.kind b.kind (zy g a b);have T:=(aiS ⟨C,D⟩ ⟨w1,E⟩ a.kind b.kind).2;unfold ij;cases sR a b&&a.ay==b.ay with
 |true=>rw[aq];omega
 |false=>rw[av];omega
def YR{c:ax}(h:Pq c)(C:rR c.config.bQ){x:aT}(D:x.kind=1->c.ready.bg.length≠4)(E:lG c.aN x=true){n:Int}(hl:∀ i:Nat,c.ready.last.getD i (-1)<=n)(I:n+16<=c.now):de c x=true:=
 Rp h D E λb k _ _ _ _=>by
  have:=ax9 (g:=c.config.ak) C ⟨(k:Int),if k<=5 then (b:Int)else 0,0,0⟩ x;have:=Gz hl b k;omega
def YS{c:ax}(C:Pq c)(D:∀ b:Nat,c.aD.aB.getD b 0<=0):bV 0 c.aD.aB=[]:=by
 cases h:bV 0 c.aD.aB with
 |nil=>rfl
 | cons b l=>
  have:=(Yx C (b:=b) (by rw[h];exact .head _)).2.2;have:=D b.toNat;omega
def aya{c:ax}(I:Pq c)(O:∀ b:Nat,c.aD.aB.getD b 0<=0):qS c=[]:=by
 cases h:qS c with
 |nil=>rfl
 | cons x l=>
  have D:x∈qS c:=by rw[h];exact .head _
  have T:=I.dl;unfold qS at D;cases E:decide (fh c >= 0)with
  |false=>rw[E]at D;cases D
  | true=>
   have E:=oD E;have C:=(DH (uG (decide (((bV 0 c.aD.aB).length:Int) > 0)) c.aD.aB (zH c)) (λi=>c.aD.aB.getD i 0) c.aD.aB.length).resolve_left (λe=>by have e:fh c = -1:=e;omega);have C:uG (decide (((bV 0 c.aD.aB).length:Int) > 0)) c.aD.aB (zH c) (fh c).toNat=true:=C;have:=O (fh c).toNat;unfold uG at C;rw[YS I O]at C;have C:(decide (c.aD.aB.getD (fh c).toNat 0 > 0)&&zH c (fh c).toNat)=true:=C;rw[aM]at C;have:=oD C.1;omega
def aiT{p:Nat->Bool}{n:Nat}(h:∀ k,k<n->p k=false):gL p n = -1:=by
 rcases vS p n with ⟨e,_⟩|⟨j,D,_,C,_⟩
 ·exact e
 ·rw[h j D]at C;cases C
def RE{r:cg}(h:(r.aI.all λb=>!b.open_)=true)(b:Int):(cu r b).open_=false:=by
 unfold cu;by_cases hb:b.toNat<r.aI.length
 ·rw[gQ _ hb];have:=bT.1 h _ (cX hb)
  simpa using this
 ·rw[cK,pX (by omega)];rfl
def RG(p:iF)(k n:Int):(zD p k n).idle=p.idle:=by
 unfold zD;cases kO p&&aP n p.since 1000000 with
 |false=>rfl
 | true=>
  rw[aq];cases (k==6)&&(p.state==0)<;>cases (k==8)&&(p.state==0)<;>cases (k==7)&&(p.state==1)<;>cases (k==9)&&(p.state==2)<;>rfl
def LK(g:aF)(q:ef)(e:dO)(h:e.cmd.kind≠1):(gG g q e).bg=q.bg:=by
 unfold gG;cases jo g q&&(dz g e.cmd&&(aP e.at_ 0 1000000 && !(e.cmd.kind==1&&uw q e.at_)))with
 |false=>rfl
 |true=>rw[aq,jw h];rfl
def ayb{l:aa cQ}(w:aa Bool)(hl:l.length<1073741823)(O:iM l=true)(hw:l.length=w.length){i:Nat}(hi:i<w.length)(T:w.getD i false=true):∃ y t,rC l w=some (y,t)/\0<=t/\w.getD t.toNat false=true:=by
 unfold rC xA xC bR xL xZ;have hb:=vO (λi=>w.getD i false) (λi=>(l.getD i ⟨0,0⟩).fP) (min l.length w.length);have U:(gy l).length=l.length:=by simp[gy]
 have Y:=vO (λi=>w.getD i false) (λi=>((gy l).getD i ⟨0,0⟩).fP) (min (gy l).length w.length);have Z:=DH (λi=>w.getD i false) (λi=>(l.getD i ⟨0,0⟩).fP) (min l.length w.length);have rq:=DH (λi=>w.getD i false) (λi=>((gy l).getD i ⟨0,0⟩).fP) (min (gy l).length w.length);have h0:=Lb (may:=λi=>w.getD i false) (λi=>(l.getD i ⟨0,0⟩).fP) (i:=i) T (min l.length w.length) (by omega);rw[List.nil_append,Gg l w (by omega),au,KP _ (by omega),au,O,bE,av,List.length_nil,fO,eE,aq];unfold pn;generalize hr:mP (λi=>w.getD i false) (λi=>(l.getD i ⟨0,0⟩).fP) (min l.length w.length)=b at *
 have I:=Z.resolve_left (by omega);have C:b.toNat<l.length:=by omega
 rw[br,av,aK ⟨by omega,C⟩,aK C];dsimp only;cases l[b.toNat].fP==0 with
 | false=>
  rw[av,aK ⟨by omega,C⟩,aK C,aK ⟨by omega,C⟩,aK C];exact⟨_,_,rfl,h0,I⟩
 | true=>
  rw[aq,XQ l w (by omega),au];simp only[gq];rw[Gg _ w (by omega),au];have E:0<=pn (gy l) w:=Lb _ (i:=b.toNat) I _ (by rw[U];omega);have hq:pn (gy l) w<((min (gy l).length w.length:Nat):Int):=Y.2;have D:(pn (gy l) w).toNat<(gy l).length:=by omega
  rw[aK ⟨E,D⟩,aK D,aK ⟨E,D⟩,aK D];exact⟨_,_,rfl,E,rq.resolve_left (λe=>by have e:pn (gy l) w = -1:=e;omega)⟩
def YT(p:Nat->Bool):gL p 1=bif p 0 then 0 else -1:=by
 show (bif decide ((-1:Int)<0)&&p 0 then ((0:Nat):Int)else -1)=_;rw[show decide ((-1:Int)<0)=true from rfl,cw];rfl
def aiU{c:ax}(E:Pq c){q:aU}(D:c.queue=[q])(U:c.pending=[])(O:∀ b:Nat,c.aD.aB.getD b 0<=0)(Y:q.eG=0)(Z:c.aR.state=0)(gu:mS c = -1)(tY:(gp c 0).kind≠4):fJ c=if de c (gp c 0)=true then (gp c 0,0)else (uE,-1):=by
 have YU:mO c=true:=by
  unfold mO;rw[D];rfl
 have LL:cP c=0:=by
  rw[Rt YU,Z];rfl
 have LI:l6 c 0=de c (gp c 0):=by
  have e1:ox c 0=true:=by
   unfold ox xz xy nL;rw[D];cases hw:q.write<;>simp[BS,rL,Gm,xB,xy,nL,hw]
  have I:rO c (cD c 0).ay=false:=by
   unfold rO;exact br (by have:=O (cD c 0).ay.toNat;omega)
  have T:Ls c (cD c 0).ay=false:=by
   unfold Ls;rw[U];rfl
  unfold l6;rw[e1,I,T,jw tY,Bool.and_false,Bool.not_false,Bool.false_and,Bool.not_false,Bool.and_true,Bool.and_true,cw,cw]
 have LM:qQ c=bif l6 c 0 then 0 else -1:=by
  unfold qQ;rw[D];show xH (vT c) (gz c) (pJ c (uF c)) 1=_;unfold xH;rw[YT,YT,YT];cases hb:l6 c 0 with
  | false=>
   have:∀t,pJ c t 0=false:=λt=>by unfold pJ;rw[hb,Bool.false_and]
   rw[this];rfl
  | true=>
   have Rw:xE c c.queue.length=(List.replicate 4 false).set 0 true:=by
    rw[D];show (bif l6 c 0 then (List.replicate 4 false).set (rM c 0).eG.toNat true else _)=_;rw[hb,aq,show rM c 0=q by unfold rM;rw[D];rfl,Y];rfl
   have htn:uF c=0:=by
    obtain⟨y,t,e,t0,C⟩:=ayb (l:=c.shares) (xE c c.queue.length) (by have:=E.shl;omega) E.sh (by rw[Lt,E.shl]) (i:=0) (by rw[Lt];omega) (by rw[Rw];rfl);have I:uF c=t:=by unfold uF;rw[e]
    rw[Rw]at C;rw[I];obtain⟨k,rfl⟩:=dH t0;rw[bz]at C;rcases k with _|_|_|_|k
    ·rfl
    ·cases C
    ·cases C
    ·cases C
    ·rw[cK,pX (by simp)]at C;cases C
   have ha:pJ c (uF c) 0=true:=by
    unfold pJ;rw[hb,htn,show rM c 0=q by unfold rM;rw[D];rfl,Y];rfl
   rw[ha];cases vT c 0<;>cases gz c 0<;>rfl
 have eu:DP c=none:=by
  unfold DP Gv Gw;rw[YS E O,U];rfl
 have I:oy c=[]:=by
  unfold oy;rw[gu];rfl
 have T:nN c=[]:=by
  unfold nN;rw[LL];rfl
 unfold fJ pL;rw[Z,mU,av,eu,aya E O,I,T,LM,LI];dsimp only;cases de c (gp c 0)with
 |true=>rfl
 |false=>rfl
def Pr.tk{c j:ax}(r:Pr c j)(D:1<c.aD.wait):j.aD.aB=c.aD.aB/\c.aD.wait-1<=j.aD.wait:=by
 rw[r.pF];by_cases C:c.aN.aR=2
 ·rw[C,mU,av];exact⟨rfl,by omega⟩
 ·rw[fR C,aq];unfold xJ;rw[aW];exact⟨rfl,eW _⟩
structure Wq (N:Int) (q:aU) (rs:List ey) (c:ax):Prop where
 wq:c.queue=[q]
 wp:c.pending=[]
 wr:c.bF=rs
 zM:∀b:Nat,c.aD.aB.getD b 0<=0
 wx:48-(c.now-N)<=c.aD.wait
 wa:c.ready.bg.length<=3
 wn:q.eG=0
def DV(c:ax):Prop:=(cu c.aN (cD c 0).ay).open_=true/\(cu c.aN (cD c 0).ay).row=(cD c 0).row/\∀b:Nat,b≠(cD c 0).ay.toNat->(cu c.aN (b:Int)).open_=false
def B0(n R:Nat)(t:cI):Prop:=∃f:Nat->Nat,pU R t f/\∀r,r<R->f r<=n
def B0.up{n R:Nat}{t:cI}(h:B0 n R t):B0 (n+1) R t:=by
 obtain⟨f,C,D⟩:=h;exact⟨f,C,λr E=>Nat.le_succ_of_le (D r E)⟩
def vY(n:Nat)(c:ax):Prop:=(∀b:Nat,(b:Int)<aJ c.config.ak->B0 n c.config.ak.rows.toNat (c.bA.getD b zT))/\c.ready.bg.length<=n
def vY.pr{n:Nat}{c j:ax}(h:vY n c)(r:Pr c j):vY n j:=by
 unfold vY;rw[r.pC,r.pT,r.pR];exact h
def Bo(n:Nat)(N:Int)(c:ax):Prop:=c.aN.aR=0/\(∀i:Nat,c.ready.last.getD i (-1)<=N+1)/\(c.aN.aI.all λb=>!b.open_)=true/\c.now<=N+16/\vY n c
def Bw(n:Nat)(N:Int)(c:ax):Prop:=c.aN.aR=0/\(∀i:Nat,c.ready.last.getD i (-1)<=N+17)/\DV c/\c.now<=N+32/\vY (n+1) c
def Bd(N:Int)(q:aU)(rs:aa ey)(c:ax):Prop:=c.queue=[]/\∃r,c.bF=rs++[r]/\r.at_<=N+33/\r.id=q.id
def Wq.pr{N:Int}{q:aU}{rs:aa ey}{c j:ax}(h:Wq N q rs c)(r:Pr c j)(C:1<c.aD.wait):Wq N q rs j:=by
 obtain⟨D,E⟩:=r.tk C;have:=h.wx;have:=r.pN;exact⟨r.pQ.trans h.wq,r.pP.trans h.wp,r.pY.trans h.wr,by rw[D];exact h.zM,by omega,by rw[r.pR];exact h.wa,h.wn⟩
def aiV{c j:ax}(r:Pr c j):cD j 0=cD c 0:=by
 unfold cD ir cW;rw[r.pQ,r.pC,r.pV]
def ayc(g:aF)(q:ef)(e:dO):(gG g q e).bg.length<=q.bg.length+1:=by
 unfold gG;cases jo g q&&(dz g e.cmd&&(aP e.at_ 0 1000000 && !(e.cmd.kind==1&&uw q e.at_)))with
 |false=>exact Nat.le_succ _
 | true=>
  rw[aq];dsimp only;cases e.cmd.kind==1 with
  |false=>exact Nat.le_succ _
  | true=>
   rw[aq];unfold BE;rw[List.length_drop,List.length_append,List.length_singleton];omega
def ayd{c:ax}(h:DV c)(hl:0<(ir c).length)(O:0<=(cD c 0).ay):mS c = -1:=by
 obtain⟨T,C,D⟩:=h;unfold mS BV;cases c.box.bW.eK != 1 with
 |true=>rfl
 | false=>
  rw[av]
  refine aiT λk U=>?_
  unfold vV;by_cases e:k=(cD c 0).ay.toNat
  ·have E:pO (ir c) c.aN k=true:=by
    unfold pO;refine List.any_eq_true.2 ⟨cD c 0,?_,?_⟩
    ·rw[<-Lo hl];exact cX hl
    ·have I:(cD c 0).ay=(k:Int):=by omega
     rw[aM,eZ,eZ,<-I,C];exact⟨rfl,rfl⟩
   rw[E,bE,Bool.and_false]
  ·rw[D k e,Bool.false_and]
def aye{c:ax}(h:(c.aN.aI.all λb=>!b.open_)=true):mS c = -1:=by
 unfold mS BV;cases c.box.bW.eK != 1 with
 |true=>rfl
 | false=>
  rw[av]
  refine aiT λk _=>?_
  unfold vV;rw[RE h,Bool.false_and]
def YV{c:ax}{i:Int}(h:kT c uE i=true):False:=by
 simp only[kT,aM]at h;exact absurd (ur h.1).2.1.1 (by decide)
def Bo.step{n:Nat}(Cm:n<=1){N:Int}{q:aU}{rs:aa ey}{c j y:ax}(h:Wq N q rs c)(hb:Bo n N c)(hN:N<=c.now)(r:Pr c j)(hz:cv j)(Z:cz j=true)(ht:rR j.config.bQ)(hR:j.config.ak.rows<16)(hf:Fn j y):Wq N q rs y/\(Bo n N y\/Bw n N y):=by
 have hx:=h.wx;obtain⟨p1,p2,p3,p4,I⟩:=hb;obtain⟨I,p6⟩:=I.pr r;have C:=h.pr r (by omega);have O:=Pq.of hz Z;have pN:=r.pN;have Y:j.aN.aR=0:=by rw[r.pK];exact p1
 have T:(j.aN.aI.all λb=>!b.open_)=true:=by rw[r.pK];exact p3
 have YW:∀i:Nat,j.ready.last.getD i (-1)<=N+1:=by rw[r.pR];exact p2
 have Lr:0<j.queue.length:=by rw[C.wq];exact Nat.zero_lt_succ _
 obtain⟨a1,a2,a3,a4,a5,a6⟩:=Gr O Lr;have D:gp j 0=⟨1,(cD j 0).ay,(cD j 0).row,0⟩:=by
  unfold gp ow;rw[RE T];rfl
 have U:=aiU O C.wq C.wp C.zM C.wn (O.ps.trans Y) (aye T) (by rw[D];exact(by decide:¬ (1:Int)=4));cases E:de j (gp j 0)with
 | false=>
  rw[E,aX (by decide)]at U;have hy:y=j:=by
   rcases hf with ⟨_,e⟩|⟨hm,_⟩
   ·exact e
   ·rw[U]at hm;exact(YV hm).elim
  subst hy;have hT:¬ N+17<=y.now:=λhT=>by
   have:=YR O ht (x:=gp y 0) (λ_=>by omega) (by
    rw[D];show (y.aN.aR==0 && !(cu y.aN (cD y 0).ay).open_)=true;rw[Y,RE T];rfl) YW (by omega)
   rw[E]at this;cases this
  exact⟨C,.inl ⟨Y,YW,T,by omega,I,p6⟩⟩
 | true=>
  rw[E,aW rfl]at U;rcases hf with ⟨k0,_⟩|⟨_,rfl⟩
  ·rw[U,D]at k0;exact absurd (show (1:Int)=0 from k0) (by decide)
  ·rw[U];dsimp only;generalize hxe:gp j 0=x at D;have k1:x.kind=1:=by rw[D]
   have kb:x.ay=(cD j 0).ay:=by rw[D]
   have kr:x.row=(cD j 0).row:=by rw[D]
   obtain⟨e1,e2,e3,e4⟩:=GB (c:=j) (x:=x) (i:=0) ⟨by omega,by omega⟩;have gl:=fL (xm O.p.rk).1;have zF:=(fN.of (Ck.of Z).pa).tl;obtain⟨Yd,xK⟩:(sS (bU j x) x).2=false/\B0 (n+1) j.config.ak.rows.toNat (sS (bU j x) x).1:=by
    show (nJ (j.bA.getD x.ay.toNat zT) x.row (j.guard.getD x.ay.toNat 0)).2=false/\B0 (n+1) j.config.ak.rows.toNat (nJ (j.bA.getD x.ay.toNat zT) x.row (j.guard.getD x.ay.toNat 0)).1;obtain⟨B,hB⟩:=dH a2;obtain⟨row,BZ⟩:=dH a6;have p:=fN.of (Ck.of Z).pa;have hgl:=p.gl;have hg:j.guard.getD B 0=j.guard[B]'(by omega):=gQ _ (by omega);have uR:=p.g _ (cX (show B<j.guard.length by omega));obtain⟨L,hL⟩:=dH (show 0<=j.guard[B]'(by omega) by omega);have mZ:=(oX a1).2.2.2.2.1;obtain⟨f,hf1,YX⟩:=I B (by omega);rw[kb,kr,hB,BZ,bz,hg,hL];obtain⟨s1,s2⟩:=hf1.step (by omega) (row:=row) (by omega) (L:=L) (by omega) (by omega) (λr E=>by have:=YX r E;omega);rw[s1]
    refine⟨br λh0=>?_,_,s2,λr E=>?_⟩
    ·have h1:=YX row (by omega);rw[Nat.mod_eq_of_lt (by omega)]at h0;omega
    ·have:=YX r E;split<;>omega
   have ayf:∀ i:Nat,(cN j x 0).ready.last.getD i (-1)<=N+17:=λi=>by
    rw[e2];exact GA _ _ _ (λi=>by have:=YW i;omega) (by dsimp only;omega) i
   have ayg:(cN j x 0).ready.bg.length<=n+1:=by
    rw[e2];have:=ayc j.config.ak j.ready ⟨j.now,x⟩;omega
   have hpw:(cN j x 0).aN.aR=0:=by rw[e1];exact(Q8 (by omega)).trans Y
   have ho:cu (cH j.aN x) (cD j 0).ay=⟨true,(cD j 0).row⟩:=by
    unfold cH;rw[k1];show (j.aN.aI.set x.ay.toNat ⟨true,x.row⟩).getD (cD j 0).ay.toNat ⟨false,0⟩=_;rw[kb,kr];exact uJ _ a3
   have dP:∀ b:Nat,b≠(cD j 0).ay.toNat->(cu (cH j.aN x) (b:Int)).open_=false:=λb Dy=>by
    rw[Rr (by rw[kb];exact Dy)];exact RE T _
   rw[<-e1]at ho dP;rw[Gy j 0 k1]at *
   refine⟨⟨C.wq,?_,C.wr,C.zM,C.wx,by omega,C.wn⟩,.inr ⟨hpw,ayf,⟨?_,?_,dP⟩,by show j.now<=N+32;omega,λb hb=>?_,ayg⟩⟩
   ·show (bif (sS (bU j x) x).2 then (iN j.config.ak.rows x.row).foldl (jz x.ay) (rK (bU j x) x)else rK (bU j x) x)=[]
    rw[Yd,av];show (j.pending.filter _)=[]
    rw[C.wp];rfl
   ·show (cu (vP (bU j x) x).aN (cD j 0).ay).open_=true;rw[ho]
   ·show (cu (vP (bU j x) x).aN (cD j 0).ay).row=(cD j 0).row;rw[ho]
   ·have hb:(b:Int)<aJ j.config.ak:=hb;show B0 (n+1) j.config.ak.rows.toNat ((j.bA.set x.ay.toNat (sS (bU j x) x).1).getD b zT);by_cases e:x.ay.toNat=b
    ·subst e;rw[uJ _ (by omega)];exact xK
    ·rw[cK,List.getElem?_set_ne e,<-cK];exact(I b hb).up
def Ad(n:Nat)(N:Int)(A:aO)(c:ax):Prop:=c.aN.aR=0/\(∀i:Nat,c.ready.last.getD i (-1)<=N+33)/\(∀b:Nat,(cu c.aN (b:Int)).open_=true->b=A.ay.toNat/\(cu c.aN (b:Int)).row=A.row)/\c.pending=[]/\(∀b:Nat,c.aD.aB.getD b 0<=0)/\vY (n+1) c
def DV.so{c:ax}(h:DV c)(D:0<=(cD c 0).ay)(b:Nat)(hb:(cu c.aN (b:Int)).open_=true):b=(cD c 0).ay.toNat/\(cu c.aN (b:Int)).row=(cD c 0).row:=by
 by_cases e:b=(cD c 0).ay.toNat
 ·have C:(b:Int)=(cD c 0).ay:=by omega
  rw[C];exact⟨e,h.2.1⟩
 ·rw[h.2.2 b e]at hb;cases hb
def Bw.step{n:Nat}{N:Int}{q:aU}{rs:aa ey}{c j y:ax}(h:Wq N q rs c)(hb:Bw n N c)(hN:N<=c.now)(r:Pr c j)(hz:cv j)(hk:cz j=true)(ht:rR j.config.bQ)(hf:Fn j y):(Wq N q rs y/\Bw n N y)\/(Bd N q rs y/\Ad n N (cD c 0) y):=by
 have hx:=h.wx;obtain⟨p1,p2,⟨p3,p4,p5⟩,p6,E⟩:=hb;have E:=E.pr r;have C:=h.pr r (by omega);have T:=Pq.of hz hk;have pN:=r.pN;have I:j.aN.aR=0:=by rw[r.pK];exact p1
 have Y:∀i:Nat,j.ready.last.getD i (-1)<=N+17:=by rw[r.pR];exact p2
 have ea:=aiV r;have D:DV j:=by unfold DV;rw[ea,r.pK];exact⟨p3,p4,p5⟩
 have Z:0<j.queue.length:=by rw[C.wq];exact Nat.zero_lt_succ _
 obtain⟨a1,a2,a3,a4,a5,a6⟩:=Gr T Z;have YY:gp j 0=⟨if q.write=true then 3 else 2,(cD j 0).ay,0,(cD j 0).bZ⟩:=by
  unfold gp ow;rw[D.1,D.2.1,Ln Z];have:j.queue[0]=q:=by simp[C.wq]
  rw[this,mU];cases q.write<;>rfl
 have YZ:(gp j 0).kind=3\/(gp j 0).kind=2:=by
  rw[YY];cases q.write with
  |true=>exact .inl rfl
  |false=>exact .inr rfl
 have O:=aiU T C.wq C.wp C.zM C.wn (T.ps.trans I) (ayd D (by rw[DL];exact Z) a2) (by omega);cases hr:de j (gp j 0)with
 | false=>
  rw[hr,aX (by decide)]at O;have hy:y=j:=by
   rcases hf with ⟨_,e⟩|⟨hm,_⟩
   ·exact e
   ·rw[O]at hm;exact(YV hm).elim
  subst hy;have hT:¬ N+33<=y.now:=λhT=>by
   have:=YR T ht (x:=gp y 0) (λh1=>by omega) (by
    rw[YY];cases q.write with
    | true=>
     show (y.aN.aR==0&&(cu y.aN (cD y 0).ay).open_)=true;rw[I,D.1];rfl
    | false=>
     show (y.aN.aR==0&&(cu y.aN (cD y 0).ay).open_)=true;rw[I,D.1];rfl) Y (by omega)
   rw[hr]at this;cases this
  exact .inl ⟨C,I,Y,D,by omega,E⟩
 | true=>
  rw[hr,aW rfl]at O;rcases hf with ⟨k0,_⟩|⟨_,rfl⟩
  ·rw[O]at k0;dsimp only at k0;omega
  ·refine .inr ?_;rw[O];dsimp only;generalize hxe:gp j 0=x at YZ;have e:cN j x 0=gH (bU j x) 0:=by
    unfold cN;rcases YZ with k3|k3<;>rw[k3]<;>rfl
   have hg:(bU j x).queue.getD 0 mR=q:=by
    show j.queue.getD 0 mR=q;rw[C.wq];rfl
   have yu:j.queue.take 0++j.queue.drop 1=[]:=by rw[C.wq];rfl
   have Yr:∀v:ey,j.bF++[v]=rs++[v]:=λv=>by rw[C.wr]
   have U:cH j.aN x=j.aN:=by
    unfold cH;rcases YZ with k3|k3<;>rw[k3]<;>rfl
   have zN:=λb hb=>D.so a2 b hb
   rw[ea]at zN;have aiW:∀i:Nat,(gG j.config.ak j.ready ⟨j.now,x⟩).last.getD i (-1)<=N+33:=λi=>GA _ _ _ (λi=>by have:=Y i;omega) (by dsimp only;omega) i
   have hac:(gG j.config.ak j.ready ⟨j.now,x⟩).bg.length<=n+1:=by
    rw[LK _ _ _ (by dsimp only;omega)];exact E.2
   rw[e];unfold gH;rw[hg];dsimp only;cases q.write with
   | true=>
    refine⟨⟨yu,_,Yr ⟨q.id,j.now,0,0⟩,by show j.now<=N+33;omega,rfl⟩,?_,aiW,λb hb=>?_,C.wp,C.zM,E.1,hac⟩
    ·show (cH j.aN x).aR=0;rw[U];exact I
    ·have hb:(cu (cH j.aN x) (b:Int)).open_=true:=hb;show _/\(cu (cH j.aN x) (b:Int)).row=_;rw[U]at hb ⊢;exact zN b hb
   | false=>
    refine⟨⟨yu,_,Yr ⟨q.id,j.now,_,_⟩,by show j.now<=N+33;omega,rfl⟩,?_,aiW,λb hb=>?_,C.wp,C.zM,E.1,hac⟩
    ·show (cH j.aN x).aR=0;rw[U];exact I
    ·have hb:(cu (cH j.aN x) (b:Int)).open_=true:=hb;show _/\(cu (cH j.aN x) (b:Int)).row=_;rw[U]at hb ⊢;exact zN b hb
def aiX(a k:Nat)(O:a<4294967296)(C:k<8):zE (a:Int) k=((a / 16 ^ k % 16:Nat):Int):=by
 have D:(2:Nat) ^ (4*k)=16 ^ k:=by rw[Nat.pow_mul]
 have E:(a:Int).fdiv (2 ^ (4*k))=((a / 16 ^ k:Nat):Int):=by
  have I:(2:Int) ^ (4*k)=((2 ^ (4*k):Nat):Int):=by push_cast;rfl
  rw[I,Int.fdiv_eq_ediv_of_nonneg _ (Int.natCast_nonneg _),D];rfl
 unfold zE;rw[X4 k C,E,ahK _ (Nat.lt_of_le_of_lt (Nat.div_le_self _ _) (by omega))]
def Y0(x:Int):∀ n k,k<n->(lJ x n).getD k 0=zE x k
 | n+1,k,h=>by
  show (lJ x n++[zE x n]).getD k 0=_;have hl:=QO x n;by_cases e:k=n
  ·subst e;rw[cK,List.getElem?_append_right (by omega),hl,Nat.sub_self];rfl
  ·rw[cK,List.getElem?_append_left (by omega),<-cK];exact Y0 x n k (by omega)
def ayh{a b:Nat}(D:a<4294967296)(hb:b<4294967296)(h:lJ (a:Int) 8=lJ (b:Int) 8):a=b:=by
 have key:∀ k,k<8->a / 16 ^ k % 16=b / 16 ^ k % 16:=λk C=>by
  have e:(lJ (a:Int) 8).getD k 0=(lJ (b:Int) 8).getD k 0:=by rw[h]
  rw[Y0 _ 8 k C,Y0 _ 8 k C,aiX a k D C,aiX b k hb C]at e;exact Int.ofNat_inj.1 e
 have E:=key 0 (by omega);have I:=key 1 (by omega);have O:=key 2 (by omega);have T:=key 3 (by omega);have U:=key 4 (by omega);have Y:=key 5 (by omega);have Z:=key 6 (by omega);have k7:=key 7 (by omega);simp only[Nat.reducePow,Nat.div_one]at E I O T U Y Z k7;omega
def lK(x:Int):bO:=⟨nK x,false⟩
def Y1{x:Int}(D:0<=x)(E:x<=4294967295):Sy (lK x).symbols/\jh (lK x)=0/\kS (lK x)=lK x/\vQ (lK x)=x:=by
 obtain⟨_,I,w,U,e2,Y,Z,e5⟩:=Gl D E;have en:nw (lK x)=w:=by
  obtain⟨n1,_,_⟩:=Gk (c:=lK x) I;exact QS (n1.trans U)
 have C:jx (nw (lK x))=(w,0,-1):=by rw[en];exact ahj e5
 refine⟨I,?_,?_,?_⟩
 ·unfold jh;rw[C];rfl
 ·unfold kS;rw[C];rfl
 ·unfold vQ Gj;rw[C];show wv (bI (w.drop 3)) 8=x;obtain⟨O,hl⟩:ig (w.drop 3)/\(w.drop 3).length=8:=⟨λy hy=>Y y (List.mem_of_mem_drop hy),by rw[List.length_drop];omega⟩
  obtain⟨b0,b1⟩:=av0 O hl;have hb:=avZ O hl;obtain⟨a,ha⟩:=dH D;obtain⟨b,T⟩:=dH b0;rw[T,Z]at hb;rw[T]at b1 ⊢;rw[ha]at hb E ⊢;rw[ayh (by omega) (by omega) hb]
def ayi{x:Int}(h0:0<=x)(h1:x<=4294967295){k:Nat}(hk:k<11){e:Int}(he:1<=e/\e<=15){s:Int}(E:(nK x)[k]?=some s):Sy ((nK x).set k (bits .xor .i64 s e))/\jh ⟨(nK x).set k (bits .xor .i64 s e),false⟩=1/\kS ⟨(nK x).set k (bits .xor .i64 s e),false⟩=lK x/\vQ ⟨(nK x).set k (bits .xor .i64 s e),false⟩=x:=by
 obtain⟨_,O,w,I,e2,T,e4,e5⟩:=Gl h0 h1;obtain⟨_,_,_,ayj⟩:=Y1 h0 h1;obtain⟨m,rfl⟩:=dH (show 0<=e by omega);have hw:=T.get k;have es:s=((w.getD k 0:Nat):Int):=by
  have U:k<(bI w).length:=by rw[qL];omega
  have:=FY U;rw[I,bK U]at E;injection E with E;rw[<-E,this]
 have aiY:(nK x).set k (bits .xor .i64 s (m:Int))=bI (w.set k (w.getD k 0 ^^^ m)):=by
  rw[I,es,uk hw (by omega)];unfold bI;rw[List.map_set]
 have hx:=lE hw (show m<16 by omega);have Qh:ig (w.set k (w.getD k 0 ^^^ m)):=T.set hx;have Cj:(w.set k (w.getD k 0 ^^^ m)).length=11:=by rw[gR,e2]
 have C:=e5;unfold BG at C;simp only[aM]at C;have D:=atr T e2 (cJ C.1) (cJ C.2.1) (cJ C.2.2) (e:=m) (k:=k) (by omega) (by omega) hk;rw[Xx Qh Cj]at D;injection D with D;have c1:(jx (w.set k (w.getD k 0 ^^^ m))).1=w:=QS (bB Prod.fst D);have Y:(jx (w.set k (w.getD k 0 ^^^ m))).2.1=1:=bB (λp=>p.2.1) D;have hS:Sy (bI (w.set k (w.getD k 0 ^^^ m))):=by
  rw[<-aiY];have U:k<(nK x).length:=by rw[O.1];omega
  have:=Qi (a:=s) (b:=(m:Int)) ⟨by omega,by omega⟩ ⟨by omega,by omega⟩;exact O.set ⟨this.1,this.2.1⟩
 rw[aiY];have Z:nw ⟨bI (w.set k (w.getD k 0 ^^^ m)),false⟩=w.set k (w.getD k 0 ^^^ m):=by
  obtain⟨n1,_,_⟩:=Gk (c:=⟨bI (w.set k (w.getD k 0 ^^^ m)),false⟩) hS;exact QS n1
 refine⟨hS,?_,?_,?_⟩
 ·unfold jh;rw[Z,Y];rfl
 ·unfold kS;rw[Z,Y,c1];show (⟨bI w,false⟩:bO)=lK x;unfold lK;rw[I]
 ·have hd:vQ (lK x)=wv (bI (w.drop 3)) 8:=by
   have Y2:nw (lK x)=w:=by
    obtain⟨n1,_,_⟩:=Gk (c:=lK x) O;exact QS (n1.trans I)
   unfold vQ Gj;rw[Y2,ahj e5];rfl
  unfold vQ Gj;rw[Z,Y,c1];show wv (bI (w.drop 3)) 8=x;rw[<-hd];exact ayj
def ayk(c:ax)(r:aU):∃ l,(mM c r).1 = { c with queue:=l }:=by
 unfold mM;cases ((!cz c) ||((!(ov c r).2) ||(c.bF.any λx=>x.id==r.id)))with
 |true=>exact⟨c.queue,rfl⟩
 |false=>exact⟨_,rfl⟩
def Sv(u:Nat)(c:ax)(o:aj (ax×Bool)):Prop:=∃y t,o=some (y,t)/\cv y/\cz y=true/\(t=false->y=c)/\Iv (u+1) y/\y.config=c.config/\c.now<=y.now/\y.now<=c.now+40
def Y3{c:ax}{u:Nat}(D:Iv u c)(hz:cv c)(T:cz c=true)(hc:jq c.config)(hu:u<400)(hn9:c.now<=1800)(a:fY)(hw:a.eD.weights.length<=1048576)(LL:a.kind=2->a.n<=40):Sv u c (sM c a):=by
 have h:=Ck.of T;have p:=fN.of h.pa;have E:=hz;have Lx:=bu.1 h.nw;obtain⟨I,C⟩:=D.iD;obtain⟨z1,z2,z3,z5,z6,z7,z8,z9,kL,lH,lY,kK,lZ,ot⟩:=hz;have no:∀t:Bool,t=false->Sv u c (some (c,t)):=λt ht=>⟨c,t,rfl,E,T,λ_=>rfl,D.up,rfl,eW _,by omega⟩
 unfold sM;rw[BN c E,au,BI c E,au,T,bE,av];cases a.kind==(1:Int)with
 | true=>
  obtain⟨q1,q2⟩:=axz T a.request;rw[aq,aht c a.request E,au];obtain⟨v1,v2,v3⟩:=axI D.iT a.request;obtain⟨l,el⟩:=ayk c a.request;refine⟨_,_,rfl,avi c a.request E,q1,q2,⟨v1,?_,?_,?_,?_⟩,v3,Int.le_of_eq v2.symm,by rw[v2];omega⟩
  ·rw[el];exact D.iA
  ·rw[el];exact⟨I,C.d1,C.d2,C.d3,C.d4,C.d5⟩
  ·rw[el];exact D.iH
  ·rw[el];exact D.iE
 |false=>
 rw[av];cases h2:a.kind==(2:Int)with
 | true=>
  rw[aq,cV,au];cases hn:aP a.n 0 500 with
  |false=>exact no _ rfl
  | true=>
   have hb:=bu.1 hn;have h40:=LL (eZ.1 h2);obtain⟨y,e,U,Y,O,y4,y5⟩:=ax6 D E T hc hu hb.1 (by omega);rw[aq,e,au];exact⟨y,true,rfl,U,Y,λh=>(by cases h),O.up,y4,by omega,by omega⟩
 |false=>
 rw[av];cases a.kind==(3:Int)with
 | true=>
  obtain⟨x,e,hx,LH,xa,xh⟩:=axx h.ar a.addr a.xO a.n;have Y4:cv (dX c x):=⟨z1,z2,z3,xD (eY.sV hx),z6,z7,z8,z9,kL,lH,lY,kK,lZ,ot⟩
  have Y5:cz (dX c x)=true:=Ck.ok ⟨h.f1,h.f2,h.nw,h.rk,h.rd,hx,h.sp,h.se,h.rf,(show fN (dX c x)from ⟨p.dl,p.tl,p.gl,p.t,p.g,p.pd,p.u⟩).ok,h.qu,h.sh,h.sl,h.dr,h.pw,h.ps,h.si,h.s1,h.s2,h.s3,h.er,h.tr,h.rp⟩;have Z:Iv (u+1) (dX c x):=⟨D.iT.up,by
   have:=D.iA;unfold rQ at this ⊢;rw[show (dX c x).array.bh=c.array.bh from xa];exact this,⟨I,C.d1,C.d2,C.d3,C.d4,C.d5⟩,by
   have:=D.iH;unfold Ht at this ⊢;rw[show (dX c x).array.aY=c.array.aY from xh];exact this,D.iE⟩
  rw[aq,Bq,au];cases e1:dU c.config.ak a.addr with
  | false=>
   rw[av,e,au]
   refine⟨dX c x,false,rfl,Y4,Y5,λ_=>?_,Z,rfl,eW _,(by show c.now<=c.now+40;omega)⟩
   rw[LH (by rw[e1];rfl)];rfl
  | true=>
   rw[aq,cV,au];cases e2:aP a.xO 0 10 with
   | false=>
    rw[av,e,au]
    refine⟨dX c x,false,rfl,Y4,Y5,λ_=>?_,Z,rfl,eW _,(by show c.now<=c.now+40;omega)⟩
    rw[LH (by rw[e1,e2];rfl)];rfl
   | true=>
    unfold sK;rw[aq,cV,au,au,e,au]
    refine⟨dX c x,aP a.n 0 15,rfl,Y4,Y5,λh3=>?_,Z,rfl,eW _,(by show c.now<=c.now+40;omega)⟩
    rw[LH (by rw[e1,e2,h3];rfl)];rfl
 |false=>
 rw[av];cases a.kind==(4:Int)with
 | true=>
  rw[aq,cV,au];cases hn:aP a.n 0 1 with
  |false=>exact no _ rfl
  | true=>
   have zL:200<=c.config.interval/\c.config.interval<=259:=hc.2.2.2.2.1;obtain⟨y,e,U,RH,O,y4⟩:=ax7 h.rf (by have:=D.iA.1;omega) (a.n==(1:Int));have Y:y.aB.length=c.aD.aB.length:=by rw[RH]
   have Z:Iv (u+1) (Q1 c y):=⟨D.iT.up,by
    obtain⟨g1,g2⟩:=D.iA
    refine⟨Int.le_trans O g1,λb r hb hr=>?_⟩
    obtain⟨g3,g4⟩:=g2 b r hb hr;show 0<=y.aB.getD b 0/\c.array.bh.getD ((b:Int)*c.config.ak.rows+(r:Int)).toNat 0+jB y<=(y.aB.getD b 0+1)*c.config.interval;rw[RH];exact⟨g3,by omega⟩,⟨I,C.d1,C.d2,by show 100<=oA y+(c.now-I);rw[y4];exact C.d3,by show ∀b:Nat,y.aB.getD b 0<=4;rw[RH];exact C.d4,by
    show ∀B:Nat,(B:Int)<aJ c.config.ak->uB y.aB B=true->Du c.now I c.config.ak c.aN c.ready y.aB B;rw[RH];exact C.d5⟩,D.iH,D.iE⟩
   rw[aq,e,au]
   refine⟨Q1 c y,true,rfl,⟨z1,z2,z3,z5,z6,by unfold BH at z7 ⊢;show y.aB.length<=_;omega,z8,z9,kL,lH,lY,kK,lZ,ot⟩,Ck.ok ⟨h.f1,h.f2,h.nw,h.rk,h.rd,h.ar,h.sp,h.se,U,(show fN (Q1 c y)from ⟨by show (y.aB.length:Int)=_;rw[Y];exact p.dl,p.tl,p.gl,p.t,p.g,p.pd,p.u⟩).ok,h.qu,h.sh,h.sl,h.dr,h.pw,h.ps,h.si,h.s1,h.s2,h.s3,h.er,h.tr,h.rp⟩,λh=>(by cases h),Z,rfl,eW _,(by show c.now<=c.now+40;omega)⟩
 |false=>
 rw[av];cases a.kind==(5:Int)with
 | true=>
  rw[aq,DE _ _ (by omega),au];cases hf:mL c.config a.eD with
  |false=>exact no _ rfl
  | true=>
   have hp:=(BR (by omega) hf).2;rw[aq,axy c.box z1 a.eD hw,au,hp,aq]
   refine⟨⟨c.config,⟨c.box.bW,a.eD,true⟩,c.now,c.aN,c.ready,c.array,c.spare,c.aD,c.bA,c.guard,c.pending,c.queue,c.shares,c.drain,c.aR,c.dJ,c.errors,c.trace,c.bF⟩,true,rfl,⟨⟨z1.1,hw⟩,z2,z3,z5,z6,z7,z8,z9,kL,lH,lY,kK,lZ,ot⟩,Ck.ok ⟨h.f1,hf,h.nw,h.rk,h.rd,h.ar,h.sp,h.se,h.rf,(show fN ⟨c.config,⟨c.box.bW,a.eD,true⟩,c.now,c.aN,c.ready,c.array,c.spare,c.aD,c.bA,c.guard,c.pending,c.queue,c.shares,c.drain,c.aR,c.dJ,c.errors,c.trace,c.bF⟩from ⟨p.dl,p.tl,p.gl,p.t,p.g,p.pd,p.u⟩).ok,h.qu,h.sh,h.sl,h.dr,h.pw,h.ps,h.si,h.s1,h.s2,h.s3,h.er,h.tr,h.rp⟩,λh=>(by cases h),⟨D.iT.up,D.iA,⟨I,C.d1,C.d2,C.d3,C.d4,C.d5⟩,D.iH,D.iE⟩,rfl,eW _,(by show c.now<=c.now+40;omega)⟩
 |false=>
 rw[av];cases a.kind==(6:Int)with
 | true=>
  obtain⟨t,y,e,U,Y,O⟩:=axk E T a.addr.ay a.addr.row;rw[aq,e,au];obtain⟨O,l,s,rfl⟩:=O;exact⟨_,t,rfl,U,Y,O,⟨D.iT.up,D.iA,⟨I,C.d1,C.d2,C.d3,C.d4,C.d5⟩,D.iH,D.iE⟩,rfl,eW _,(by show c.now<=c.now+40;omega)⟩
 |false=>exact no _ rfl
def Iv.new{c:eo}{p:cR}(E:jq c)(O:rG p):Iv 0 (fj c p):=by
 have Y:=BX E.1;have Z:=eI c.ak;have zL:200<=c.interval/\c.interval<=259:=E.2.2.2.2.1;have hl:c.di=⟨6*c.interval,40⟩:=E.2.2.2.2.2.2;have C:∀ (n k:Nat),(List.replicate n (0:Int)).getD k 0=0:=λn k=>by
  rw[cK,List.getElem?_replicate];split<;>rfl
 have I:(vX c.ak).bh=List.replicate (fM c.ak).toNat 0/\(vX c.ak).aY=List.replicate (fM c.ak).toNat 0:=⟨rfl,rfl⟩
 refine⟨⟨zI.new _ _,dg _⟩,⟨eW _,λb r _ _=>?_⟩,⟨0,λi=>?_,⟨eW _,eW _⟩,?_,λb=>?_,λB _ D=>?_⟩,λb hb=>?_,eW _⟩
 ·show 0<=(List.replicate (aJ c.ak).toNat (0:Int)).getD b 0/\(vX c.ak).bh.getD ((b:Int)*c.ak.rows+(r:Int)).toNat 0+c.interval<=((List.replicate (aJ c.ak).toNat (0:Int)).getD b 0+1)*c.interval;rw[I.1,C,C];exact⟨eW _,by omega⟩
 ·show (List.replicate (9*(aJ c.ak+1)).toNat (-1:Int)).getD i (-1)<=0;rw[cK,List.getElem?_replicate];split<;>decide
 ·show 100<=(c.interval+1) / 2+((0:Int)-0)
  omega
 ·show (List.replicate (aJ c.ak).toNat (0:Int)).getD b 0<=4;rw[C];decide
 ·have D:(List.replicate (aJ c.ak).toNat (0:Int)).getD B 0 >= 4:=oD D;rw[C]at D;exact absurd D (by decide)
 ·have hb:(b:Int)<aJ c.ak:=hb;show Hb c.ak.rows.toNat c.di.aY 0 ((List.replicate (aJ c.ak).toNat zJ).getD b zT) ((List.replicate (aJ c.ak).toNat p.dn).getD b 0) [] (vX c.ak).aY b;have T:(List.replicate (aJ c.ak).toNat zJ).getD b zT=pq 16:=by
   rw[cK,List.getElem?_replicate,aW];rfl
  have U:(List.replicate (aJ c.ak).toNat p.dn).getD b 0=p.dn:=by
   rw[cK,List.getElem?_replicate,aW];rfl
  have yS:=O.2;rw[T,U,hl,I.2];exact Hb.new (eW _) ⟨by omega,by omega⟩ (by dsimp only;omega) λr _=>by rw[C];decide
def Mm(m:Nat->Int)(l:aa bO):Prop:=∀(i:Nat) (h:i<l.length),l[i]=lK (m i)/\0<=m i/\m i<=4294967295
def Mm.kS{m:Nat->Int}{l:aa bO}(h:Mm m l){n:Nat}(C:n<l.length):Proofs.YtpigmalhjkekiaaGreat.kS l[n]=l[n]/\jh l[n]=0/\vQ l[n]=m n:=by
 obtain⟨e,D,E⟩:=h n C;obtain⟨_,I,O,T⟩:=Y1 D E;rw[e];exact⟨O,I,T⟩
def Mm.mc{m:Nat->Int}{l D:aa bO}{e E:aa cr}(h:Mm m l)(C:Mc l D e E):D=l/\E=e:=by
 rcases C with C|⟨n,T,I,O⟩
 ·exact C
 ·obtain⟨U,Y,_⟩:=h.kS T;rw[U,List.set_getElem_self]at I;rw[Y]at O;exact⟨I,O⟩
def vZ(m:Nat->Int)(n:Nat)(x:Int)(i:Nat):Int:=if i=n then x else m i
def Mm.put{m:Nat->Int}{l:aa bO}(h:Mm m l){n:Nat}{x:Int}(C:0<=x/\x<=4294967295):Mm (vZ m n x) (l.set n (lK x)):=λi hi=>by
 rw[gR]at hi;rw[List.getElem_set];by_cases e:n=i
 ·subst e;rw[aW rfl,show vZ m n x n=x from aW rfl];exact⟨rfl,C⟩
 ·rw[aX e,show vZ m n x i=m i from aX λD=>e D.symm];exact h i hi
def RI(g:aF)(l:ko)(R:Nat)(a:cL):Prop:=∀b r:Nat,(b:Int)<aJ g->r<R->a.bh.getD (b*R+r) 0<=l.bh/\a.aY.getD (b*R+r) 0+1<=l.aY
def Y6{g:aF}{l:ko}{R:Nat}(C:g.rows=(R:Int)){a:cL}{b r:Nat}(E:a.bh.getD (b*R+r) 0<=l.bh)(I:a.aY.getD (b*R+r) 0<=l.aY):(rI g l a (b:Int) (r:Int)).cells=a.cells:=by
 have D:((b:Int)*g.rows+(r:Int)).toNat=b*R+r:=by rw[C,<-Int.natCast_mul];omega
 unfold rI;dsimp only;rw[D];have:Bv l a (b*R+r)=false:=by
  unfold Bv;rw[br,br];rfl
 rw[this];rfl
def RJ{g:aF}{l:ko}{R:Nat}(C:g.rows=(R:Int)){a:cL}{B:Nat}(h:∀ r,r<R->a.bh.getD (B*R+r) 0<=l.bh/\a.aY.getD (B*R+r) 0+1<=l.aY)(O:0<=l.bh):∀ n,n<=R->(fW g l a (B:Int) n).cells=a.cells/\∀ r,n<=r->r<R->(fW g l a (B:Int) n).bh.getD (B*R+r) 0<=l.bh/\(fW g l a (B:Int) n).aY.getD (B*R+r) 0<=a.aY.getD (B*R+r) 0+if r=n then 1 else 0
 |0,_=>⟨rfl,λr _ D=>⟨(h r D).1,by show a.aY.getD (B*R+r) 0<=_;split<;>omega⟩⟩
 | n+1,hn=>by
  obtain⟨Z,T⟩:=RJ C h O n (by omega);have e:fW g l a (B:Int) (n+1)=rI g l (fW g l a (B:Int) n) (B:Int) (n:Int):=pz _ _ _;have U:=T n (dg _) (by omega);rw[aW rfl]at U;have hk:=h n (by omega)
  refine⟨by rw[e,Y6 C U.1 (by omega)];exact Z,λr h1 D=>?_⟩
  have Y:=T r (by omega) D;rw[aX]at Y;have ei:((B:Int)*g.rows+(n:Int)).toNat=B*R+n:=by rw[C,<-Int.natCast_mul];omega
  rw[e];refine⟨?_,?_⟩
  ·show ((fW g l a (B:Int) n).bh.set ((B:Int)*g.rows+(n:Int)).toNat 0).getD (B*R+r) 0<=l.bh;rw[Gx];split
   ·exact O
   ·exact Y.1
  ·show (oZ g.rows (n:Int) ((B:Int)*g.rows+(n:Int)).toNat (fW g l a (B:Int) n).aY).getD (B*R+r) 0<=_;rw[ei,C];have E:=Rz (R:=R) (B:=B) (row:=n) (b:=B) (r:=r) (by omega) D (fW g l a (B:Int) n).aY;rw[aX]at E;by_cases I:r=n+1
   ·rw[aW ⟨rfl,.inr I⟩]at E;rw[aW I];omega
   ·rw[aX]at E;rw[aX I];omega
def Y7{g:aF}{l:ko}{R:Nat}(D:g.rows=(R:Int)){a:cL}(h:RI g l R a)(E:0<=l.bh):∀ n:Nat,(n:Int)<=aJ g->(oz g l a n).cells=a.cells/\∀ b r:Nat,n<=b->(b:Int)<aJ g->r<R->(oz g l a n).bh.getD (b*R+r) 0<=l.bh/\(oz g l a n).aY.getD (b*R+r) 0+1<=l.aY
 |0,_=>⟨rfl,λb r _ hb C=>h b r hb C⟩
 | n+1,Y=>by
  obtain⟨O,I⟩:=Y7 D h E n (by omega);have er:g.rows.toNat=R:=by omega
  rw[aiP,er];have T:=RJ D (a:=oz g l a n) (B:=n) (λr C=>I n r (dg _) (by omega) C) E R (dg _)
  refine⟨T.1.trans O,λb r Z hb C=>?_⟩
  have U:=I b r (by omega) hb C;have hh:=(RB D l (oz g l a n) n R (dg _) b r C).1 (by omega);refine⟨?_,by omega⟩;rcases Rj g l (oz g l a n) (n:Int) R (b*R+r)with e|e
  ·rw[e];exact U.1
  ·rw[e];exact E
def aiZ{c:ax}{n:Int}(I:cz c=true)(C:jq c.config)(O:rQ c)(T:∀ b:Nat,c.aD.aB.getD b 0<=4)(U:Ht n c){R:Nat}(hR:c.config.ak.rows=(R:Int)):RI c.config.ak c.config.di R c.array:=λb r hb Y=>by
 have k:=Ck.of I;have zL:200<=c.config.interval/\c.config.interval<=259:=C.2.2.2.2.1;have hl:c.config.di=⟨6*c.config.interval,40⟩:=C.2.2.2.2.2.2;have Z:=k.rf;simp only[fD,aM,bu]at Z;have hgw:1<=jB c.aD:=by
  unfold jB;cases c.aD.dP with
  |true=>rw[aq];omega
  |false=>rw[av];omega
 obtain⟨a1,a2⟩:=O.2 b r hb (by omega);rw[hR,<-Int.natCast_mul,show (((b*R:Nat):Int)+(r:Int)).toNat=b*R+r by omega]at a2;obtain⟨f,L,_,_,_,h3,_,D,E⟩:=U b hb;rw[show c.config.ak.rows.toNat=R by omega]at E;have h7:=E r Y;have h8:=ax1 R f (L:=L) (by omega) c.pending b r;have h4:=T b;have hm:(c.aD.aB.getD b 0+1)*c.config.interval<=5*c.config.interval:=Int.mul_le_mul_of_nonneg_right (by omega) (by omega);rw[hl]at D ⊢;dsimp only at D ⊢;omega
def Y8(m m':Nat->Int)(j y:ax):Prop:=∃ (i:Nat) (h:i<j.queue.length),y.queue=j.queue.take i++j.queue.drop (i+1)/\
 bif j.queue[i].write then m'=vZ m (dG j.config.ak (cW j j.queue[i].line)) j.queue[i].data/\y.bF=j.bF++[⟨j.queue[i].id,j.now,0,0⟩]
 else m'=m/\y.bF=j.bF++[⟨j.queue[i].id,j.now,m (dG j.config.ak (cW j j.queue[i].line)),0⟩]
def Mm.acc{m:Nat->Int}{j:ax}{x:aT}{i:Nat}(h:Mm m j.array.cells)(C:qP j i 100000):∃ m',Mm m' (gH (bU j x) i).array.cells/\(gH (bU j x) i).errors=j.errors/\Y8 m m' j (gH (bU j x) i):=by
 have hi:=C.i;obtain⟨f1,Z,D,_⟩:=C.facts (cX hi);have E:(bU j x).queue.getD i mR=j.queue[i]:=gQ _ hi;have I:=C.d _ (cX hi);unfold gH;rw[E];dsimp only;cases hw:j.queue[i].write with
 | true=>
  refine⟨vZ m (dG j.config.ak (cW j j.queue[i].line)) j.queue[i].data,h.put I,rfl,i,hi,rfl,?_⟩;rw[hw];exact⟨rfl,rfl⟩
 | false=>
  obtain⟨O,T,U⟩:=h.kS D;have Y:(bU j x).array.cells.getD (dG (bU j x).config.ak (cW (bU j x) j.queue[i].line)) vM=j.array.cells[dG j.config.ak (cW j j.queue[i].line)]:=gQ _ D;rw[av,Y,O,T,U];refine⟨m,?_,rfl,i,hi,rfl,?_⟩
  ·show Mm m (j.array.cells.set (dG j.config.ak (cW j j.queue[i].line)) j.array.cells[dG j.config.ak (cW j j.queue[i].line)]);rw[List.set_getElem_self];exact h
  ·rw[hw];exact⟨rfl,rfl⟩
def Mm.fn{m:Nat->Int}{j y:ax}(h:Mm m j.array.cells)(Y:cv j)(E:cz j=true){R:Nat}(hR:j.config.ak.rows=(R:Int))(O:RI j.config.ak j.config.di R j.array)(Z:0<=j.config.di.bh)(hf:Fn j y):∃ m',Mm m' y.array.cells/\y.errors=j.errors/\((m'=m/\y.queue=j.queue/\y.bF=j.bF)\/Y8 m m' j y):=by
 rcases hf with ⟨_,rfl⟩|⟨D,rfl⟩
 ·exact⟨m,h,rfl,.inl ⟨rfl,rfl,rfl⟩⟩
 ·generalize (fJ j).1=x at D ⊢;generalize (fJ j).2=i at D ⊢;have hq:=Pq.of Y E;obtain⟨_,ha,hs,_⟩:=xF Y hq D;obtain⟨hg,hlen,hx,sW⟩:=uv ha;have hc:dz j.config.ak x=true:=by
   simp only[kT,aM]at D;exact D.1
  have zF:=(fN.of (Ck.of E).pa).tl;have C:∀z:ax,z.array.cells=j.array.cells->z.errors=j.errors->z.queue=j.queue->z.bF=j.bF->∃m',Mm m' z.array.cells/\z.errors=j.errors/\((m'=m/\z.queue=j.queue/\z.bF=j.bF)\/Y8 m m' j z):=λz e1 e2 e3 e4=>⟨m,by rw[e1];exact h,e2,.inl ⟨rfl,e3,e4⟩⟩
  by_cases I:x.kind=2\/x.kind=3
  ·obtain⟨s,s0⟩:=hs I;have e:cN j x i=gH (bU j x) i.toNat:=by
    unfold cN;rcases I with q|q<;>rw[q]<;>rfl
   rw[e];obtain⟨m',g1,g2,g3⟩:=h.acc (x:=x) s;exact⟨m',g1,g2,.inr g3⟩
  ·by_cases T:x.kind=1
   ·obtain⟨U,vA⟩:=sW (by omega);obtain⟨r0,r1⟩:=Gt hc T;obtain⟨B,hB⟩:=dH U;obtain⟨row,BZ⟩:=dH r0;rw[Gy j i T];refine C _ ?_ rfl rfl rfl;show (rI j.config.ak j.config.di j.array x.ay x.row).cells=_;rw[hB,BZ];have E:=O B row (by omega) (by omega);exact Y6 hR E.1 (by omega)
   ·by_cases k5:x.kind=5
    ·obtain⟨U,vA⟩:=sW (by omega);obtain⟨B,hB⟩:=dH U;rw[LF j i k5];refine C _ ?_ rfl rfl rfl;show (fW j.config.ak j.config.di j.array x.ay j.config.ak.rows.toNat).cells=_;rw[hB,show j.config.ak.rows.toNat=R by omega];exact(RJ hR (λr hr=>O B r (by omega) hr) Z R (dg _)).1
    ·by_cases k9:x.kind=9
     ·rw[DS j i k9];refine C _ ?_ rfl rfl rfl;show (oz j.config.ak j.config.di j.array j.bA.length).cells=_;exact(Y7 hR O Z j.bA.length (by omega)).1
     ·unfold cN;rcases kinds hx with q | q | q | q | q | q | q | q | q <;>rw[q] <;>simp only[Int.reduceBEq,Int.reduceBNe,aq,av,Bool.or_true,Bool.or_false,Bool.true_or,Bool.false_or,Bool.or_self]
      ·exact absurd q T
      ·exact absurd (.inl q) I
      ·exact absurd (.inr q) I
      ·exact C _ rfl rfl rfl rfl
      ·exact absurd q k5
      ·exact C _ rfl rfl rfl rfl
      ·exact C _ rfl rfl rfl rfl
      ·exact C _ rfl rfl rfl rfl
      ·exact absurd q k9
def ai0{c j:ax}(r:Pr c j)(l:Int):cW j l=cW c l:=by
 unfold cW;rw[r.pC,r.pV]
def Mm.step{m:Nat->Int}{c j y:ax}(h:Mm m c.array.cells)(T:jq c.config)(r:Pr c j)(U:cv j)(O:cz j=true)(E:YO j)(Y:Fn j y):∃ m',Mm m' y.array.cells/\y.errors=c.errors/\((m'=m/\y.queue=c.queue/\y.bF=c.bF)\/
  ∃ (i:Nat) (h:i<c.queue.length),y.queue=c.queue.take i++c.queue.drop (i+1)/\
   bif c.queue[i].write then m'=vZ m (dG c.config.ak (cW c c.queue[i].line)) c.queue[i].data/\y.bF=c.bF++[⟨c.queue[i].id,c.now+1,0,0⟩]
   else m'=m/\y.bF=c.bF++[⟨c.queue[i].id,c.now+1,m (dG c.config.ak (cW c c.queue[i].line)),0⟩]):=by
 obtain⟨Z,e2⟩:=h.mc r.pM;have C:jq j.config:=by rw[r.pC];exact T
 have gb:=fL (BX C.1);have zL:200<=j.config.interval/\j.config.interval<=259:=C.2.2.2.2.1;have hl:j.config.di=⟨6*j.config.interval,40⟩:=C.2.2.2.2.2.2;obtain⟨R,hR⟩:=dH (show 0<=j.config.ak.rows by omega);have hK:=aiZ O C E.1 E.2.1 E.2.2 hR;obtain⟨m',g1,g2,g3⟩:=Mm.fn (m:=m) (by rw[Z];exact h) U O hR hK (by rw[hl];show 0<=6*j.config.interval;omega) Y;refine⟨m',g1,g2.trans e2,?_⟩;rcases g3 with ⟨I,D,q3⟩|⟨i,hi,I,D⟩
 ·exact .inl ⟨I,D.trans r.pQ,q3.trans r.pY⟩
 ·refine .inr ⟨i,by rw[<-r.pQ];exact hi,by rw[I,r.pQ],?_⟩;have eq:∀ (h':i<c.queue.length),j.queue[i]=c.queue[i]:=λh'=>by
   have:=r.pQ;simp only[this]
  rw[eq (by rw[<-r.pQ];exact hi),r.pC,ai0 r,r.pY,r.pN]at D;exact D
structure Mf (m:Nat->Int) (a:Nat) (l:List bO):Prop where
 fo:∀(i:Nat) (h:i<l.length),i≠a->l[i]=lK (m i)/\0<=m i/\m i<=4294967295
 fl:a<l.length
 fb:0<=m a/\m a<=4294967295
 fs:Sy l[a].symbols/\jh l[a]=1/\kS l[a]=lK (m a)/\vQ l[a]=m a
def Mm.flip{m:Nat->Int}{l:aa bO}(h:Mm m l){a:Nat}(D:a<l.length){k:Nat}(O:k<11)(T:k<l[a].symbols.length){e:Int}(U:1<=e/\e<=15):Mf m a (l.set a ⟨l[a].symbols.set k (bits .xor .i64 l[a].symbols[k] e),l[a].kj⟩):=by
 obtain⟨C,E,I⟩:=h a D
 refine⟨λi hi Y=>?_,by rw[gR];exact D,⟨E,I⟩,?_⟩
 ·rw[gR]at hi;rw[List.getElem_set_ne (λZ=>Y Z.symm)];exact h i hi
 ·rw[List.getElem_set_self];have es:(nK (m a))[k]?=some l[a].symbols[k]:=by
   have:l[a].symbols=nK (m a):=by rw[C];rfl
   rw[<-this,bK T]
  obtain⟨g1,g2,g3,g4⟩:=ayi E I O U es;have ec:(⟨l[a].symbols.set k (bits .xor .i64 l[a].symbols[k] e),l[a].kj⟩:bO)=⟨(nK (m a)).set k (bits .xor .i64 l[a].symbols[k] e),false⟩:=by
   have q1:l[a].symbols=nK (m a):=by rw[C];rfl
   have q2:l[a].kj=false:=by rw[C];rfl
   rw[q2];congr 2
  rw[ec];exact⟨g1,g2,g3,g4⟩
def Mf.fix{m:Nat->Int}{a:Nat}{l:aa bO}(h:Mf m a l):Mm m (l.set a (lK (m a))):=λi hi=>by
 rw[gR]at hi;rw[List.getElem_set];by_cases e:a=i
 ·subst e;rw[aW rfl];exact⟨rfl,h.fb⟩
 ·rw[aX e];exact h.fo i hi λC=>e C.symm
def Mf.mc{m:Nat->Int}{a:Nat}{l E:aa bO}{e I:aa cr}(h:Mf m a l)(O:Mc l E e I):(E=l/\I=e)\/(Mm m E/\I=nM e (a:Int) 1):=by
 rcases O with O|⟨n,Z,C,D⟩
 ·exact .inl O
 ·by_cases Y:n=a
  ·subst Y;obtain⟨_,T,U,_⟩:=h.fs;rw[U]at C;rw[T]at D;exact .inr ⟨by rw[C];exact h.fix,D⟩
  ·obtain⟨q,h0,h1⟩:=h.fo n Z Y;obtain⟨_,T,U,_⟩:=Y1 h0 h1;rw[q]at C D;rw[U,<-q,List.set_getElem_self]at C;rw[T]at D;exact .inl ⟨C,D⟩
def Mf.fn{m:Nat->Int}{a:Nat}{j y:ax}(h:Mf m a j.array.cells)(U:cv j)(D:cz j=true){R:Nat}(hR:j.config.ak.rows=(R:Int))(I:RI j.config.ak j.config.di R j.array)(Y:0<=j.config.di.bh)(GC:∀ q∈j.queue,q.write=false/\dG j.config.ak (cW j q.line)=a)(hf:Fn j y):
  (Mf m a y.array.cells/\y.errors=j.errors/\y.queue=j.queue/\y.bF=j.bF)\/(Mm m y.array.cells/\y.errors=nM j.errors (a:Int) 1/\∃(i:Nat) (h:i<j.queue.length),y.queue=j.queue.take i++j.queue.drop (i+1)/\y.bF=j.bF++[⟨j.queue[i].id,j.now,m a,1⟩]):=by
 rcases hf with ⟨_,rfl⟩|⟨C,rfl⟩
 ·exact .inl ⟨h,rfl,rfl,rfl⟩
 ·generalize (fJ j).1=x at C ⊢;generalize (fJ j).2=i at C ⊢;have hq:=Pq.of U D;obtain⟨_,ha,hs,_⟩:=xF U hq C;obtain⟨hg,hlen,hx,Z⟩:=uv ha;have hc:dz j.config.ak x=true:=by
   simp only[kT,aM]at C;exact C.1
  have zF:=(fN.of (Ck.of D).pa).tl;by_cases E:x.kind=2\/x.kind=3
  ·obtain⟨s,s0⟩:=hs E;have e:cN j x i=gH (bU j x) i.toNat:=by
    unfold cN;rcases E with q|q<;>rw[q]<;>rfl
   have hi:=s.i;obtain⟨hw,ea⟩:=GC _ (cX hi);have hqg:(bU j x).queue.getD i.toNat mR=j.queue[i.toNat]:=gQ _ hi;obtain⟨_,g1,g2,g3⟩:=h.fs;have hgc:(bU j x).array.cells.getD (dG (bU j x).config.ak (cW (bU j x) j.queue[i.toNat].line)) vM=j.array.cells[a]'h.fl:=by
    show j.array.cells.getD (dG j.config.ak (cW j j.queue[i.toNat].line)) vM=_;rw[ea];exact gQ _ h.fl
   rw[e];unfold gH;rw[hqg];dsimp only;rw[hw,av,hgc,g1,g2,g3];have ea':dG (bU j x).config.ak (cW (bU j x) j.queue[i.toNat].line)=a:=ea;rw[ea'];exact .inr ⟨h.fix,rfl,i.toNat,hi,rfl,rfl⟩
  ·refine .inl ?_;by_cases O:x.kind=1
   ·obtain⟨T,vA⟩:=Z (by omega);obtain⟨r0,r1⟩:=Gt hc O;obtain⟨B,hB⟩:=dH T;obtain⟨row,BZ⟩:=dH r0;rw[Gy j i O];refine⟨?_,rfl,rfl,rfl⟩;have D:=I B row (by omega) (by omega);have e:(rI j.config.ak j.config.di j.array x.ay x.row).cells=j.array.cells:=by
     rw[hB,BZ];exact Y6 hR D.1 (by omega)
    show Mf m a (rI j.config.ak j.config.di j.array x.ay x.row).cells;rw[e];exact h
   ·by_cases k5:x.kind=5
    ·obtain⟨T,vA⟩:=Z (by omega);obtain⟨B,hB⟩:=dH T;rw[LF j i k5];refine⟨?_,rfl,rfl,rfl⟩;show Mf m a (fW j.config.ak j.config.di j.array x.ay j.config.ak.rows.toNat).cells;rw[hB,show j.config.ak.rows.toNat=R by omega,(RJ hR (λr hr=>I B r (by omega) hr) Y R (dg _)).1];exact h
    ·by_cases k9:x.kind=9
     ·rw[DS j i k9];refine⟨?_,rfl,rfl,rfl⟩;show Mf m a (oz j.config.ak j.config.di j.array j.bA.length).cells;rw[(Y7 hR I Y j.bA.length (by omega)).1];exact h
     ·unfold cN;rcases kinds hx with q | q | q | q | q | q | q | q | q <;>rw[q] <;>simp only[Int.reduceBEq,Int.reduceBNe,aq,av,Bool.or_true,Bool.or_false,Bool.true_or,Bool.false_or,Bool.or_self]
      ·exact absurd q O
      ·exact absurd (.inl q) E
      ·exact absurd (.inr q) E
      ·exact⟨h,rfl,rfl,rfl⟩
      ·exact absurd q k5
      ·exact⟨h,rfl,rfl,rfl⟩
      ·exact⟨h,rfl,rfl,rfl⟩
      ·exact⟨h,rfl,rfl,rfl⟩
      ·exact absurd q k9
structure Gn (p:cR) (c:ax):Prop where
 gw:200-c.now<=c.aD.wait
 gi:c.aR.idle<c.now\/(c.now=0/\c.aR.idle=0/\c.queue≠[])
 gl:∀i:Nat,c.ready.last.getD i (-1)<=c.now
 gb:c.box.bW=p/\c.box.next=p
def ai1{c:ax}{x:aT}{i:Int}(C:1<=x.kind/\x.kind<=9):(cN c x i).box=c.box/\(cN c x i).aR.idle=c.aR.idle/\(cN c x i).spare=c.spare:=by
 have acc:∀ i:Nat,(gH (bU c x) i).box=c.box/\(gH (bU c x) i).aR.idle=c.aR.idle/\(gH (bU c x) i).spare=c.spare:=λi=>by
  unfold gH;dsimp only;cases ((bU c x).queue.getD i mR).write<;>exact⟨rfl,rfl,rfl⟩
 unfold cN;rcases kinds C with q|q|q|q|q|q|q|q|q<;>rw[q]<;>simp only[Int.reduceBEq,Int.reduceBNe,aq,av,Bool.or_true,Bool.or_false,Bool.true_or,Bool.false_or,Bool.or_self]
 ·exact⟨rfl,rfl,rfl⟩
 ·exact acc _
 ·exact acc _
 ·exact⟨rfl,rfl,rfl⟩
 ·exact⟨rfl,rfl,rfl⟩
 ·exact⟨rfl,RG _ _ _,rfl⟩
 ·exact⟨rfl,RG _ _ _,rfl⟩
 ·exact⟨rfl,RG _ _ _,rfl⟩
 ·exact⟨rfl,RG _ _ _,rfl⟩
def Fn.sp{j y:ax}(C:cv j)(E:cz j=true)(I:Fn j y):y.spare=j.spare/\y.config=j.config:=by
 rcases I with ⟨_,rfl⟩|⟨O,rfl⟩
 ·exact⟨rfl,rfl⟩
 ·obtain⟨_,T,_,_⟩:=xF C (Pq.of C E) O;obtain⟨_,_,D,_⟩:=uv T;exact⟨(ai1 D).2.2,(GB D).2.2.2⟩
def Gn.step{p:cR}{c j y:ax}(h:Gn p c)(r:Pr c j)(O:cv j)(Z:cz j=true)(hd:∀ b:Nat,c.aD.aB.getD b 0<=0)(hn:0<=c.now/\c.now<198)(hf:Fn j y):Gn p y/\y.config=c.config/\y.now=c.now+1/\y.spare=c.spare:=by
 obtain⟨T,h2,h3,E⟩:=h;obtain⟨t1,t2⟩:=r.tk (by omega);have pN:=r.pN;have hb:j.box.bW=p/\j.box.next=p:=by
  rcases r.pB with e|e
  ·rw[e];exact E
  ·rw[e];exact⟨E.2,E.2⟩
 have hi:j.aR.idle<j.now:=by
  rw[r.pI];unfold LB;cases hw:mO j with
  |true=>rw[aq];omega
  | false=>
   rw[av];rcases h2 with q|⟨_,_,q⟩
   ·split<;>omega
   ·exfalso;have:mO j=true:=by
     unfold mO;rw[r.pQ,bf (show (c.queue.length:Int) > 0 by have:=List.length_pos_iff.2 q;omega)];rfl
    rw[hw]at this;cases this
 have hl:∀ i:Nat,j.ready.last.getD i (-1)<=j.now:=λi=>by
  have:=h3 i;rw[r.pR];omega
 have U:Gn p j:=⟨by omega,.inl hi,hl,hb⟩
 rcases hf with ⟨_,rfl⟩|⟨hm,rfl⟩
 ·exact⟨U,r.pC,r.pN,r.pV⟩
 ·have Y:=Pq.of O Z;have I:(fJ j).1.kind=5->False:=λk5=>by
   have T:=(YA Y k5).1;rw[t1]at T;have:=hd (fJ j).1.ay.toNat;omega
  obtain⟨_,ha,_,_⟩:=xF O Y hm;obtain⟨_,_,C,_⟩:=uv ha;generalize (fJ j).1=x at I C ⊢;generalize (fJ j).2=i at ⊢;obtain⟨e1,e2,D,e4⟩:=GB (c:=j) (x:=x) (i:=i) C;obtain⟨w1,_⟩:=aiF (c:=j) (x:=x) (i:=i) C (λh=>(I h).elim) (λh=>(I h).elim);obtain⟨b1,b2,b3⟩:=ai1 (c:=j) (x:=x) (i:=i) C
  refine⟨⟨by rw[w1,D];exact U.gw,.inl (by rw[b2,D];exact hi),λi=>?_,by rw[b1];exact hb⟩,e4.trans r.pC,D.trans r.pN,b3.trans r.pV⟩
  rw[e2,D];exact GA _ _ _ hl (eW _) i
structure Rs (A:aO) (n:Nat) (c:ax):Prop where
 sq:c.queue=[]
 sp:c.pending=[]
 sd:∀b:Nat,c.aD.aB.getD b 0<=0
 so:∀b:Nat,(cu c.aN (b:Int)).open_=true->b=A.ay.toNat/\(cu c.aN (b:Int)).row=A.row
 sk:c.aN.aR=0\/c.aN.aR=1
 sf:vY n c
def Rs.step{p:cR}{A:aO}{n:Nat}{c j y:ax}(h:Rs A n c)(g:Gn p c)(hs:60<=p.cZ.sleep)(hn:0<=c.now/\c.now<60)(r:Pr c j)(Z:cv j)(hk:cz j=true)(hf:Fn j y):Rs A n y:=by
 have g1:=g.gw;obtain⟨t1,_⟩:=r.tk (by omega);have D:=Pq.of Z hk;have E:∀b:Nat,j.aD.aB.getD b 0<=0:=by rw[t1];exact h.sd
 have I:j.queue=[]:=r.pQ.trans h.sq;have O:j.pending=[]:=r.pP.trans h.sp;have hru:=YS D E;have Eu:mO j=false:=by
  unfold mO;rw[I,O,hru];rfl
 have hbx:j.box.bW=p:=by
  rcases r.pB with e|e
  ·rw[e];exact g.gb.1
  ·rw[e];exact g.gb.2
 have hid:j.aR.idle<60:=by
  rw[r.pI,Eu];unfold LB;rw[av];rcases g.gi with q|⟨_,_,q⟩
  ·split<;>omega
  ·exact absurd h.sq q
 have Y:j.aN.aR=0\/j.aN.aR=1:=by rw[r.pK];exact h.sk
 have hw:cP j=0\/cP j=6:=by
  unfold cP xo;rw[Eu,av,D.ps,hbx,br (show ¬ j.aR.idle >= p.cZ.sleep by omega)];rcases Y with q|q
  ·rw[q];cases decide (j.aR.idle >= p.cZ.down)
   ·exact .inl rfl
   ·exact .inr rfl
  ·rw[q];exact .inl rfl
 have C:Rs A n j:=⟨I,O,E,by rw[r.pK];exact h.so,Y,h.sf.pr r⟩
 have hkd:(fJ j).1.kind=0\/(fJ j).1.kind=4\/(fJ j).1.kind=6:=by
  rcases LD D with ⟨_,⟨e,_⟩|e⟩|⟨_,⟨b,hb,e⟩|⟨_,⟨k,T,_,e⟩|⟨k,T,_,e⟩|e|e⟩⟩
  ·rw[e];exact .inl rfl
  ·rw[e];dsimp only;omega
  ·rw[hru]at hb;cases hb
  ·rw[O]at T;exact absurd T (Nat.not_lt_zero _)
  ·rw[I]at T;exact absurd T (Nat.not_lt_zero _)
  ·rcases Ri D e with ⟨_,_,hd,_⟩ | e | ⟨e,_⟩
   ·have:=E (fh j).toNat;omega
   ·exact .inr (.inl e)
   ·rw[e];dsimp only;omega
  ·rw[e];exact .inl rfl
 rcases hf with ⟨_,rfl⟩|⟨hm,rfl⟩
 ·exact C
 ·obtain⟨_,ha,_,_⟩:=xF Z D hm;obtain⟨_,_,hx,_⟩:=uv ha;generalize (fJ j).1=x at hkd hx ⊢;generalize (fJ j).2=i at ⊢;rcases hkd with k0 | k4 | k6
  ·omega
  ·have e:cN j x i=bU j x:=by unfold cN;rw[k4];rfl
   rw[e]
   refine⟨I,O,E,λb hb=>?_,?_,C.sf.1,?_⟩
   ·have hb:(cu (cH j.aN x) (b:Int)).open_=true:=hb;show _/\(cu (cH j.aN x) (b:Int)).row=_;by_cases eb:b=x.ay.toNat
    ·exfalso;have U:cH j.aN x=⟨j.aN.aI.set x.ay.toNat ⟨false,0⟩,j.aN.aR⟩:=by unfold cH;rw[k4];rfl
     rw[U]at hb;unfold cu at hb;rw[bz,eb]at hb;dsimp only at hb;by_cases hl:x.ay.toNat<j.aN.aI.length
     ·rw[uJ _ hl]at hb;cases hb
     ·rw[cK,pX (by rw[gR];omega)]at hb;cases hb
    ·rw[Rr eb]at hb ⊢;exact C.so b hb
   ·show (cH j.aN x).aR=0\/(cH j.aN x).aR=1;rw[Q8 (by omega)];exact Y
   ·show (gG j.config.ak j.ready ⟨j.now,x⟩).bg.length<=n;rw[LK _ _ _ (by dsimp only;omega)];exact C.sf.2
  ·have e:cN j x i=BU (bU j x) 6:=by unfold cN;rw[k6];rfl
   have U:cH j.aN x=⟨j.aN.aI,1⟩:=by unfold cH;rw[k6];rfl
   rw[e]
   refine⟨I,O,E,λb hb=>?_,?_,C.sf.1,?_⟩
   ·have hb:(cu (cH j.aN x) (b:Int)).open_=true:=hb;show _/\(cu (cH j.aN x) (b:Int)).row=_;rw[U]at hb ⊢;exact C.so b hb
   ·show (cH j.aN x).aR=0\/(cH j.aN x).aR=1;rw[U];exact .inr rfl
   ·show (gG j.config.ak j.ready ⟨j.now,x⟩).bg.length<=n;rw[LK _ _ _ (by dsimp only;omega)];exact C.sf.2
def Y9{c:ax}{q:aU}(h:c.queue=[q]):cD c 0=cW c q.line:=by
 unfold cD ir;rw[h];rfl
def ayl{r:cg}(h:∀ b:Nat,(cu r (b:Int)).open_=false):(r.aI.all λb=>!b.open_)=true:=by
 rw[bT];intro x C;obtain⟨i,hi,rfl⟩:=ki.1 C;have:=h i;unfold cu at this;rw[bz,gQ _ hi]at this;rw[this];rfl
def ai2{c:ax}(D:0<=(cD c 0).ay)(so:∀ b:Nat,(cu c.aN (b:Int)).open_=true->b=(cD c 0).ay.toNat/\(cu c.aN (b:Int)).row=(cD c 0).row):(c.aN.aI.all λb=>!b.open_)=true\/DV c:=by
 have e:(((cD c 0).ay.toNat:Nat):Int)=(cD c 0).ay:=by omega
 cases C:(cu c.aN (cD c 0).ay).open_ with
 | false=>
  refine .inl (ayl λb=>Bool.eq_false_iff.2 λhb=>?_)
  rw[(so b hb).1,e,C]at hb;cases hb
 | true=>
  rw[<-e]at C;have:=(so _ C).2;rw[e]at C this;exact .inr ⟨C,this,λb hb=>Bool.eq_false_iff.2 λh=>hb (so b h).1⟩
def Pd(A:aO)(n:Nat)(c:ax):Prop:=c.aN.aR=1/\c.now<=75/\(∀b:Nat,(cu c.aN (b:Int)).open_=true->b=A.ay.toNat/\(cu c.aN (b:Int)).row=A.row)/\(∀i:Nat,c.ready.last.getD i (-1)<=60)/\vY n c
def Pd.step{A:aO}{n:Nat}{q:aU}{rs:aa ey}{c j y:ax}(h:Wq 60 q rs c)(hb:Pd A n c)(hA:cW c q.line=A)(hN:60<=c.now)(r:Pr c j)(hz:cv j)(hk:cz j=true)(ht:rR j.config.bQ)(Y:200-y.now<=y.aD.wait)(hf:Fn j y):(Wq 60 q rs y/\Pd A n y)\/(Wq y.now q rs y/\y.now<=76/\(Bo n y.now y\/Bw n y.now y)):=by
 have hx:=h.wx;obtain⟨p1,p2,p3,p4,D⟩:=hb;have D:=D.pr r;have C:=h.pr r (by omega);have I:=Pq.of hz hk;have pN:=r.pN;have O:j.aN.aR=1:=by rw[r.pK];exact p1
 have Z:∀i:Nat,j.ready.last.getD i (-1)<=60:=by rw[r.pR];exact p4
 have zN:∀b:Nat,(cu j.aN (b:Int)).open_=true->b=A.ay.toNat/\(cu j.aN (b:Int)).row=A.row:=by rw[r.pK];exact p3
 have Lr:0<j.queue.length:=by rw[C.wq];exact Nat.zero_lt_succ _
 obtain⟨a1,a2,a3,a4,a5,a6⟩:=Gr I Lr;have eA:cD j 0=A:=by rw[aiV r,Y9 h.wq];exact hA
 have YU:mO j=true:=by unfold mO;rw[C.wq];rfl
 have LL:cP j=7:=by rw[Rt YU,I.ps,O];rfl
 have E:fJ j=if de j ⟨7,0,0,0⟩=true then (⟨7,0,0,0⟩,-1)else (uE,-1):=by
  unfold fJ;rw[I.ps,O,LL];cases de j ⟨7,0,0,0⟩<;>rfl
 cases hr:de j ⟨7,0,0,0⟩with
 | false=>
  rw[hr,aX (by decide)]at E;have hy:y=j:=by
   rcases hf with ⟨_,e⟩|⟨hm,_⟩
   ·exact e
   ·rw[E]at hm;exact(YV hm).elim
  subst hy;have hT:¬ 76<=y.now:=λhT=>by
   have:=YR I ht (x:=⟨7,0,0,0⟩) (λh=>absurd (show (7:Int)=1 from h) (by decide)) (by show (y.aN.aR==1)=true;rw[O];rfl) Z (by omega);rw[hr]at this;cases this
  exact .inl ⟨C,O,by omega,zN,Z,D⟩
 | true=>
  rw[hr,aW rfl]at E;rcases hf with ⟨k0,_⟩|⟨_,rfl⟩
  ·rw[E]at k0;exact absurd (show (7:Int)=0 from k0) (by decide)
  ·rw[E]at Y ⊢;dsimp only at Y ⊢;obtain⟨T,e2,U,e4⟩:=GB (c:=j) (x:=⟨7,0,0,0⟩) (i:=-1) ⟨by decide,by decide⟩;have ed:cH j.aN ⟨7,0,0,0⟩=⟨j.aN.aI,0⟩:=rfl;rw[ed]at T;have wm:∀ i:Nat,(cN j ⟨7,0,0,0⟩ (-1)).ready.last.getD i (-1)<=j.now:=λi=>by
    rw[e2];exact GA _ _ _ (λi=>by have:=Z i;dsimp only;omega) (eW _) i
   have xK:vY n (cN j ⟨7,0,0,0⟩ (-1)):=⟨D.1,by rw[e2,LK _ _ _ (show ¬ (7:Int)=1 by decide)];exact D.2⟩
   have RK:Wq (cN j ⟨7,0,0,0⟩ (-1)).now q rs (cN j ⟨7,0,0,0⟩ (-1)):=⟨C.wq,C.wp,C.wr,C.zM,by rw[U]at Y ⊢;omega,by rw[e2,LK _ _ _ (show ¬ (7:Int)=1 by decide)];exact C.wa,C.wn⟩
   have ea:cD (cN j ⟨7,0,0,0⟩ (-1)) 0=A:=eA;refine .inr ⟨RK,by rw[U];omega,?_⟩;have aym:∀ b:Nat,(cu (cN j ⟨7,0,0,0⟩ (-1)).aN (b:Int)).open_=true->b=(cD (cN j ⟨7,0,0,0⟩ (-1)) 0).ay.toNat/\(cu (cN j ⟨7,0,0,0⟩ (-1)).aN (b:Int)).row=(cD (cN j ⟨7,0,0,0⟩ (-1)) 0).row:=by
    rw[ea,T];exact zN
   have sW:0<=(cD (cN j ⟨7,0,0,0⟩ (-1)) 0).ay:=by rw[ea,<-eA];exact a2
   rcases ai2 sW aym with hc|ho
   ·exact .inl ⟨by rw[T],λi=>by have:=wm i;rw[U];omega,hc,by omega,xK⟩
   ·exact .inr ⟨by rw[T],λi=>by have:=wm i;rw[U];omega,ho,by omega,λb hb=>(xK.1 b hb).up,Nat.le_succ_of_le xK.2⟩
def Mf.step{m:Nat->Int}{a:Nat}{c j y:ax}(h:Mf m a c.array.cells)(hc:jq c.config)(r:Pr c j)(hz:cv j)(Z:cz j=true)(hj:YO j)(GC:∀ q∈c.queue,q.write=false/\dG c.config.ak (cW c q.line)=a)(hf:Fn j y):
  (Mf m a y.array.cells/\y.errors=c.errors/\y.queue=c.queue/\y.bF=c.bF)\/
  (Mm m y.array.cells/\y.errors=nM c.errors (a:Int) 1/\((y.queue=c.queue/\y.bF=c.bF)\/∃(i:Nat) (h:i<c.queue.length),y.queue=c.queue.take i++c.queue.drop (i+1)/\∃k:Int,k≠2/\y.bF=c.bF++[⟨c.queue[i].id,c.now+1,m a,k⟩])):=by
 have Y:jq j.config:=by rw[r.pC];exact hc
 have gb:=fL (BX Y.1);have zL:200<=j.config.interval/\j.config.interval<=259:=Y.2.2.2.2.1;have hl:j.config.di=⟨6*j.config.interval,40⟩:=Y.2.2.2.2.2.2;obtain⟨R,hR⟩:=dH (show 0<=j.config.ak.rows by omega);have hK:=aiZ Z Y hj.1 hj.2.1 hj.2.2 hR;have h0:0<=j.config.di.bh:=by rw[hl];show 0<=6*j.config.interval;omega
 have eq:∀ (i:Nat) (h:i<j.queue.length) (h':i<c.queue.length),j.queue[i]=c.queue[i]:=λi h h'=>by
  have:=r.pQ;simp only[this]
 have LJ:∀ q∈j.queue,q.write=false/\dG j.config.ak (cW j q.line)=a:=λq hq=>by
  rw[r.pC,ai0 r];exact GC q (by rw[<-r.pQ];exact hq)
 rcases h.mc r.pM with ⟨e1,O⟩|⟨e1,O⟩
 ·rcases Mf.fn (m:=m) (a:=a) (by rw[e1];exact h) hz Z hR hK h0 LJ hf with ⟨D,E,T,C⟩ | ⟨D,E,i,hi,T,C⟩
  ·exact .inl ⟨D,E.trans O,T.trans r.pQ,C.trans r.pY⟩
  ·have U:i<c.queue.length:=by rw[<-r.pQ];exact hi
   refine .inr ⟨D,by rw[E,O],.inr ⟨i,U,by rw[T,r.pQ],1,by decide,?_⟩⟩;rw[C,eq i hi U,r.pY,r.pN]
 ·obtain⟨m',D,E,T⟩:=Mm.fn e1 hz Z hR hK h0 hf;refine .inr ?_;rcases T with ⟨rfl,C,I⟩ | ⟨i,hi,C,I⟩
  ·exact⟨D,E.trans O,.inl ⟨C.trans r.pQ,I.trans r.pY⟩⟩
  ·have U:i<c.queue.length:=by rw[<-r.pQ];exact hi
   obtain⟨w1,w2⟩:=LJ _ (cX hi);rw[w1,av,w2]at I;obtain⟨rfl,I⟩:=I;refine⟨D,E.trans O,.inr ⟨i,U,by rw[C,r.pQ],0,by decide,?_⟩⟩;rw[I,eq i hi U,r.pY,r.pN]
def Za{q:aU}{l:aa aU}(hl:l=[q]){i:Nat}(hi:i<l.length):i=0/\l[i]=q/\l.take i++l.drop (i+1)=[]:=by
 subst hl;have:i=0:=by have:i<1:=hi;omega
 subst this;exact⟨rfl,rfl,rfl⟩
structure K1 (p:cR) (A:aO) (a:Nat) (q:aU) (m:Nat->Int) (S:eP) (c:ax):Prop where
 kg:Gn p c
 ka:cW c q.line=A/\dG c.config.ak A=a
 ke:c.errors=[]
 kv:c.spare=S
 kp:(Wq 0 q [] c/\(Bo 0 0 c\/Bw 0 0 c)/\Mm m c.array.cells)\/(Rs A 1 c/\Mm (vZ m a q.data) c.array.cells/\∃t,c.bF=[⟨q.id,t,0,0⟩])
def ai3{c y:ax}(C:y.config=c.config)(D:y.spare=c.spare)(l:Int):cW y l=cW c l:=by
 unfold cW;rw[C,D]
def K1.step{p:cR}{A:aO}{a:Nat}{q:aU}{m:Nat->Int}{S:eP}{c:ax}{u:Nat}(h:K1 p A a q m S c)(hw:q.write=true)(hs:60<=p.cZ.sleep)(hv:Iv u c)(hu:u<400)(hz:cv c)(hk:cz c=true)(Y:jq c.config)(Z:0<=c.now/\c.now<60){y:ax}(e:w7 c=some y):K1 p A a q m S y:=by
 obtain⟨y',e',y1,y2,y3,y4,y5,j,I,O,r,T,hj⟩:=YP hv hz hk Y (by omega) hu;rw[e]at e';injection e' with e';subst e';obtain⟨kg,⟨ka,kx⟩,ke,kv,kp⟩:=h;have RL:rR j.config.bQ:=by rw[r.pC];exact YN Y
 have Zb:j.config.ak.rows<16:=by rw[r.pC];have:=Y.1.2.2.1.2;omega
 have hsd:∀ b:Nat,c.aD.aB.getD b 0<=0:=by
  rcases kp with ⟨g,_⟩|⟨g,_⟩
  ·exact g.zM
  ·exact g.sd
 obtain⟨g1,g2,g3,g4⟩:=kg.step r I O hsd ⟨Z.1,by omega⟩ T;have xN:cW y q.line=A/\dG y.config.ak A=a:=⟨(ai3 g2 g4 _).trans ka,by rw[g2];exact kx⟩
 rcases kp with ⟨w,ph,hm⟩|⟨hr,hm,t,ht⟩
 ·obtain⟨m',n1,n2,C⟩:=hm.step Y r I O hj T;have Lr:c.queue.length=1:=by rw[w.wq];rfl
  have hsv:y.queue=[q]->m'=m:=λhy=>by
   rcases C with ⟨C,_⟩|⟨i,hi,C,_⟩
   ·exact C
   ·rw[(Za w.wq hi).2.2,hy]at C;cases C
  have still:Wq 0 q [] y->Bo 0 0 y\/Bw 0 0 y->K1 p A a q m S y:=λD E=>⟨g1,xN,n2.trans ke,g4.trans kv,.inl ⟨D,E,by rw[<-hsv D.wq];exact n1⟩⟩
  rcases ph with hb|hb
  ·obtain⟨D,E⟩:=hb.step (Nat.zero_le 1) w Z.1 r I O RL Zb T;exact still D E
  ·rcases hb.step w Z.1 r I O RL T with ⟨D,E⟩ | ⟨D,E⟩
   ·exact still D (.inr E)
   ·refine⟨g1,xN,n2.trans ke,g4.trans kv,.inr ?_⟩;rw[Y9 w.wq,ka]at E;obtain⟨d1,d2,d3,d4,d5,d6⟩:=E;rcases C with ⟨_,C,_⟩ | ⟨i,hi,_,U⟩
    ·rw[D.1,w.wq]at C;cases C
    ·obtain⟨o1,o2,o3⟩:=Za w.wq hi;rw[o2,hw,aq,ka,kx,w.wr]at U;obtain⟨rfl,U⟩:=U;exact⟨⟨D.1,d4,d5,d3,.inl d1,d6⟩,n1,_,U⟩
 ·obtain⟨m',n1,n2,C⟩:=hm.step Y r I O hj T;rcases C with ⟨rfl,C,U⟩ | ⟨i,hi,_⟩
  ·exact⟨g1,xN,n2.trans ke,g4.trans kv,.inr ⟨hr.step kg hs Z r I O T,n1,t,U.trans ht⟩⟩
  ·rw[hr.sq]at hi;exact absurd hi (Nat.not_lt_zero _)
def Ph(A:aO)(q:aU)(rs:aa ey)(c:ax):Prop:=(Wq 60 q rs c/\Pd A 1 c)\/∃N:Int,60<=N/\N<=76/\N<=c.now/\Wq N q rs c/\(Bo 1 N c\/Bw 1 N c)
structure K2 (p:cR) (A:aO) (a:Nat) (q:aU) (m:Nat->Int) (r1:ey) (c:ax):Prop where
 ka:cW c q.line=A/\dG c.config.ak A=a
 kp:(Gn p c/\Ph A q [r1] c/\((Mf m a c.array.cells/\c.errors=[])\/(Mm m c.array.cells/\c.errors=nM [] (a:Int) 1)))\/(c.queue=[]/\Mm m c.array.cells/\c.errors=nM [] (a:Int) 1/\∃t k:Int,k≠2/\c.bF=[r1,⟨q.id,t,m a,k⟩])
def Ph.wq{A:aO}{q:aU}{rs:aa ey}{c:ax}(h:Ph A q rs c):∃ N,Wq N q rs c/\c.now<=108:=by
 rcases h with ⟨h,C⟩|⟨N,E,C,I,D,h5⟩
 ·exact⟨_,h,by have:=C.2.1;omega⟩
 ·refine⟨_,D,?_⟩;rcases h5 with h5 | h5
  ·have:=h5.2.2.2.1;omega
  ·have:=h5.2.2.2.1;omega
def Ph.step{A:aO}{q:aU}{rs:aa ey}{c j y:ax}(h:Ph A q rs c)(hA:cW c q.line=A)(hN:60<=c.now)(r:Pr c j)(E:cv j)(I:cz j=true)(O:rR j.config.bQ)(hR:j.config.ak.rows<16)(hw:200-y.now<=y.aD.wait)(hny:y.now=c.now+1)(T:Fn j y):Ph A q rs y\/y.queue=[]:=by
 rcases h with ⟨h,D⟩|⟨N,Y,D,Z,h4,h5⟩
 ·rcases D.step h hA hN r E I O hw T with g | ⟨g1,g2,g3⟩
  ·exact .inl (.inl g)
  ·exact .inl (.inr ⟨_,by omega,g2,eW _,g1,g3⟩)
 ·rcases h5 with hb | hb
  ·obtain⟨C,U⟩:=hb.step (dg 1) h4 Z r E I O hR T;exact .inl (.inr ⟨N,Y,D,by omega,C,U⟩)
  ·rcases hb.step h4 Z r E I O T with ⟨C,U⟩ | ⟨C,_⟩
   ·exact .inl (.inr ⟨N,Y,D,by omega,C,.inr U⟩)
   ·exact .inr C.1
def K2.step{p:cR}{A:aO}{a:Nat}{q:aU}{m:Nat->Int}{r1:ey}{c:ax}{u:Nat}(h:K2 p A a q m r1 c)(hw:q.write=false)(hv:Iv u c)(hu:u<400)(hz:cv c)(hk:cz c=true)(U:jq c.config)(hn:60<=c.now/\c.now<1000){y:ax}(e:w7 c=some y):K2 p A a q m r1 y:=by
 obtain⟨y',e',y1,y2,y3,y4,y5,j,Y,Z,r,hf,hj⟩:=YP hv hz hk U (by omega) hu;rw[e]at e';injection e' with e';subst e';obtain⟨⟨ka,kx⟩,kp⟩:=h;have RL:rR j.config.bQ:=by rw[r.pC];exact YN U
 have Zb:j.config.ak.rows<16:=by rw[r.pC];have:=U.1.2.2.1.2;omega
 obtain⟨s1,s2⟩:=hf.sp Y Z;have s1:=s1.trans r.pV;have s2:=s2.trans r.pC;have xN:cW y q.line=A/\dG y.config.ak A=a:=⟨(ai3 s2 s1 _).trans ka,by rw[s2];exact kx⟩
 rcases kp with ⟨kg,ph,T⟩|⟨hq,T,O,t,k,mC,hr⟩
 ·obtain⟨N,w,hn8⟩:=ph.wq;obtain⟨g1,g2,g3,g4⟩:=kg.step r Y Z w.zM ⟨by omega,by omega⟩ hf;have LN:=ph.step ka hn.1 r Y Z RL Zb g1.gw g3 hf;have GC:∀ x∈c.queue,x.write=false/\dG c.config.ak (cW c x.line)=a:=λx hx=>by
   rw[w.wq,iw]at hx;subst hx;exact⟨hw,by rw[ka];exact kx⟩
  have stay:y.queue=c.queue->Ph A q [r1] y:=λhy=>LN.resolve_right λh0=>by
   rw[h0,w.wq]at hy;cases hy
  have gone:∀ (i:Nat) (hi:i<c.queue.length),y.queue=c.queue.take i++c.queue.drop (i+1)->∀ v:ey,y.bF=c.bF++[v]->y.queue=[]/\c.queue[i]=q/\y.bF=[r1,v]:=λi hi h1 v h2=>by
   obtain⟨o1,o2,o3⟩:=Za w.wq hi;exact⟨h1.trans o3,o2,by rw[h2,w.wr];rfl⟩
  rcases T with ⟨T,O⟩|⟨T,O⟩
  ·rcases T.step U r Y Z hj GC hf with ⟨E,I,C,D⟩ | ⟨E,I,⟨C,D⟩ | ⟨i,hi,C,k,mC,D⟩⟩
   ·exact⟨xN,.inl ⟨g1,stay C,.inl ⟨E,I.trans O⟩⟩⟩
   ·exact⟨xN,.inl ⟨g1,stay C,.inr ⟨E,by rw[I,O]⟩⟩⟩
   ·obtain⟨o1,o2,o3⟩:=gone i hi C _ D;refine⟨xN,.inr ⟨o1,E,by rw[I,O],c.now+1,k,mC,?_⟩⟩;rw[o3,o2]
  ·obtain⟨m',E,I,C⟩:=T.step U r Y Z hj hf;rcases C with ⟨rfl,C,D⟩ | ⟨i,hi,C,D⟩
   ·exact⟨xN,.inl ⟨g1,stay C,.inr ⟨E,I.trans O⟩⟩⟩
   ·obtain⟨w1,w2⟩:=GC _ (cX hi);rw[w1,av,w2]at D;obtain⟨rfl,D⟩:=D;obtain⟨o1,o2,o3⟩:=gone i hi C _ D;refine⟨xN,.inr ⟨o1,E,I.trans O,c.now+1,0,by decide,?_⟩⟩;rw[o3,o2]
 ·obtain⟨m',E,I,C⟩:=T.step U r Y Z hj hf;rcases C with ⟨rfl,C,D⟩ | ⟨i,hi,_⟩
  ·exact⟨xN,.inr ⟨C.trans hq,E,I.trans O,t,k,mC,D.trans hr⟩⟩
  ·rw[hq]at hi;exact absurd hi (Nat.not_lt_zero _)
def ayn{p:aU->Bool}{q:aa aU}{r:aU}(h:∀ x∈q,p x=false):jQ p q r=q++[r]:=by
 have e:jZ p q=q.length:=by
  unfold jZ;rw[List.findIdx?_eq_none_iff.2 h];rfl
 unfold jQ;rw[e,List.take_length,List.drop_length,List.append_nil]
def ayo{n:Int}{q:aa aU}{r:aU}(h:gK n q=true)(hl:q.length<12)(E:mJ n r=true)(C:∀ x∈q,fF x r=true/\x.id≠r.id):gK n (q++[r])=true:=by
 unfold gK at h ⊢;rw[aM,bT]at h ⊢
 refine⟨λi hi=>?_,bf (by simp;omega)⟩
 have hi:i<q.length+1:=by simpa using hi
 by_cases c:i<q.length
 ·have D:=h.1 i (fS.2 c);unfold qN at D ⊢;rw[List.getElem?_append_left c,List.getElem?_append_left (by omega),List.take_append_of_le_length (by omega)];exact D
 ·obtain rfl:i=q.length:=by omega
  unfold qN;rw[List.getElem?_append_right (dg _),Nat.sub_self,List.take_left];have I:(q.any λx=>x.id==r.id)=false:=l8.2 λx O=>by simpa using (C x O).2
  simp only[List.getElem?_cons_zero,E,I,Bool.not_false,Bool.and_true,cw];cases T:q.length with
  |zero=>rfl
  | succ k=>
   rw[Nat.add_sub_cancel,List.getElem?_append_left (by omega),bK (by omega)];rw[dY];exact .inr (C _ (cX (by omega))).1
def ayp{c:ax}{N:Int}(C:Rv c N){r:aU}(E:N<r.id):∀ x∈c.queue,fF x (nI c r)=true/\x.id≠(nI c r).id/\fF (nI c r) x=false:=λx D=>by
 obtain⟨I,O⟩:=C.1 x D;refine⟨?_,by show x.id≠r.id;omega,?_⟩
 ·unfold fF nI;by_cases e:x.at_=c.now
  ·simp only[dY,aM,gB,eZ];exact .inr ⟨e,by omega⟩
  ·simp only[dY,aM,gB,eZ];exact .inl (by omega)
 ·unfold fF nI;simp only[nQ,Bool.and_eq_false_iff,pZ,beq_eq_false_iff_ne];exact⟨by omega,.inr (by omega)⟩
def zO(c:ax)(r:aU):ax:={ c with queue:=c.queue++[nI c r] }
def ai4{c:ax}{N:Int}(D:cz c=true)(E:Rv c N){r:aU}(O:N<r.id)(hl:c.queue.length<12)(T:mJ (dB (dN c.config.ak c.spare)) (nI c r)=true):mM c r=(zO c r,true):=by
 have hb:=ayp E O;have I:=(Ck.of D).qu;have U:jQ (λx=>fF (nI c r) x) c.queue (nI c r)=c.queue++[nI c r]:=ayn λx C=>(hb x C).2.2
 have Y:(c.bF.any λx=>x.id==r.id)=false:=l8.2 λx C=>by
  have:=E.2 x C;simp only[eZ];omega
 unfold mM ov DF;rw[U,I,ayo I hl T λx C=>⟨(hb x C).1,(hb x C).2.1⟩,D,Y];rfl
def ai5{c:ax}(C:cv c)(D:cz c=true){a:fY}(h:a.kind=1):sM c a=some (mM c a.request):=by
 unfold sM;rw[BN c C,au,BI c C,au,D,bE,av,h,iQ,aq,aht c a.request C,au]
def ai6{c y:ax}(C:cv c)(D:cz c=true){a:fY}(h:a.kind=2)(E:0<=a.n/\a.n<=500)(e:FT c a.n=some y):sM c a=some (y,true):=by
 unfold sM;rw[BN c C,au,BI c C,au,D,bE,av,h,jw (show ¬ (2:Int)=1 by decide),av,iQ,aq,cV,au,bu.2 E,aq,e,au]
def ayq{c:ax}(I:cv c)(O:cz c=true){a:fY}(h:a.kind=3)(C:dU c.config.ak a.addr=true){k:Nat}(U:a.xO=(k:Int))(Y:k<11)(T:0<=a.n/\a.n<=15):∃ (hl:dG c.config.ak a.addr<c.array.cells.length) (D:k<c.array.cells[dG c.config.ak a.addr].symbols.length),sM c a=some (dX c ⟨c.array.cells.set (dG c.config.ak a.addr) ⟨c.array.cells[dG c.config.ak a.addr].symbols.set k (bits .xor .i64 c.array.cells[dG c.config.ak a.addr].symbols[k] a.n),c.array.cells[dG c.config.ak a.addr].kj⟩,c.array.bh,c.array.aY⟩,true):=by
 have E:=eY.sV (Ck.of O).ar;have hl:=E.lt C;have Z:=E.syms _ (cX hl);have D:k<c.array.cells[dG c.config.ak a.addr].symbols.length:=by rw[Z.1];omega
 refine⟨hl,D,?_⟩;have e:=ag9 E (eW _) C hl Y D T;unfold sM;rw[BN c I,au,BI c I,au,O,bE,av,h,jw (show ¬ (3:Int)=1 by decide),av,jw (show ¬ (3:Int)=2 by decide),av,iQ,aq,Bq,au,C,aq,cV,au,U,bu.2 ⟨by omega,by omega⟩,aq];unfold sK;rw[cV,au,au,e,au,bu.2 T];rfl
def ayr{c:eo}{p:cR}(C:jq c)(D:rG p)(bg:aa fY)(s:Nat->ax)(E:s 0=fj c p)(I:∀ k (h:k<bg.length),sM (s k) bg[k]=some (s (k+1),true))(hl:bg.length<=60):KG c p bg=some (s bg.length,(bg.length:Int)):=by
 unfold KG bR;rw[axu C D,au];dsimp only;rw[bE,av,br (show ¬ (bg.length:Int) > 60 by omega),av,<-E];generalize (⟨⟨⟨(0:Int),(0:Int),(0:Int),(0:Int)⟩,⟨(0:Int),(0:Int),(0:Int),(0:Int),(0:Int),(0:Int),(0:Int),(0:Int),(0:Int),(0:Int),(0:Int),(0:Int),(0:Int),(0:Int),(0:Int),(0:Int),(0:Int)⟩,⟨(0:Int),false⟩,(0:Int),(0:Int),(0:Int),⟨(0:Int),(0:Int)⟩⟩,⟨⟨(0:Int),(0:Int),(0:Int),(0:Int),(0:Int),([]:aa Int),⟨(0:Int),(0:Int)⟩⟩,⟨(0:Int),(0:Int),(0:Int),(0:Int),(0:Int),([]:aa Int),⟨(0:Int),(0:Int)⟩⟩,false⟩,(0:Int),⟨([]:aa gN),(0:Int)⟩,⟨([]:aa Int),([]:aa Int)⟩,⟨([]:aa bO),([]:aa Int),([]:aa Int)⟩,⟨(0:Int),([]:aa Int)⟩,⟨([]:aa Int),(0:Int),false⟩,([]:aa cI),([]:aa Int),([]:aa aO),([]:aa aU),([]:aa cQ),⟨false,(0:Int),(0:Int)⟩,⟨(0:Int),(0:Int),(0:Int)⟩,⟨(0:Int),(0:Int),(0:Int)⟩,([]:aa cr),([]:aa dO),([]:aa ey)⟩:ax)=Z;obtain⟨z,e,rfl⟩:=WY (step:=KF) bg.length (λk x=>x=(((),(),(k:Int),bg,(bg.length:Int),(k:Int),()),(Z,s k,()))) (λz=>z = .inl (((),(),(bg.length:Int),()),(Z,s bg.length,()))) bq (x:=(((),(),(0:Int),bg,(bg.length:Int),(0:Int),()),(Z,s 0,()))) rfl (by
  rintro k O x rfl;unfold KF aE xG xI;dsimp only;rw[bf (show (k:Int)<(bg.length:Int) by omega),aq,aK ⟨by omega,by omega⟩];simp only[bz];rw[I k O,au,bN (i:=k)];dsimp only;exact⟨_,rfl,rfl⟩) (by
  rintro x rfl;unfold KF aE xG xI;dsimp only;rw[br (show ¬ (bg.length:Int)<(bg.length:Int) by omega),av];exact⟨_,rfl,rfl⟩) (bS)
 exact(bB (λo=>Option.bind o _) e).trans rfl
def ays:lK 0=DR:=by
 obtain⟨e,_⟩:=Gl (x:=0) (by decide) (by decide);rw[aiq]at e;injection e with e;unfold lK DR;rw[e]
def Mm.new(g:aF):Mm (λ_=>0) (vX g).cells:=λi h=>by
 refine⟨?_,by dsimp only;omega,by dsimp only;omega⟩;rw[ays];have C:i<(List.replicate (dB g).toNat DR).length:=h;exact List.getElem_replicate C
def B1:aU:=⟨0,0,0,false,0,0⟩
def rS:cR:=⟨0,0,0,0,0,[],⟨0,0⟩⟩
def Zc(line x ch n:Int)(A:aO):aa fY:=[⟨1,⟨1,0,line,true,x,0⟩,0,0,⟨0,0,0⟩,rS⟩,⟨2,B1,60,0,⟨0,0,0⟩,rS⟩,⟨3,B1,n,ch,A,rS⟩,⟨1,⟨2,0,line,false,0,0⟩,0,0,⟨0,0,0⟩,rS⟩,⟨2,B1,200,0,⟨0,0,0⟩,rS⟩]
def Zd{T:Type}{x y:T}{b t:Bool}(h:some (x,b)=some (y,t)):x=y:=by
 injection h with h;exact bB Prod.fst h
def ayt{c:eo}{p:cR}(T:jq c)(hp:rG p){line x ch n:Int}(hl:0<=line/\line<dB (dN c.ak (fj c p).spare))(O:0<=x/\x<=4294967295)(LM:0<=ch/\ch<=10)(hn:1<=n/\n<=15):∃ (y:ax) (E:ey) (t k:Int),KG c p (Zc line x ch n (cW (fj c p) line))=some (y,5)/\y.bF=[E,⟨2,t,x,k⟩]/\k≠2/\y.errors=nM [] (dG c.ak (cW (fj c p) line):Int) 1:=by
 generalize hA:cW (fj c p) line=A;have ayu:60<=p.cZ.sleep:=by have:=hp.1.2.2.2.2.2.2;omega
 have yM:=ais T hp;have tR:=ait T hp;have zL:200<=c.interval/\c.interval<=259:=T.2.2.2.2.1;have b1:=eI c.ak
 -- the first request
 obtain⟨E,U⟩:∃E:aU,E=⟨1,0,line,true,x,0⟩:=⟨_,rfl⟩
 have q0:nI (fj c p) E=E:=by rw[U];rfl
 have hw0:KQ x=true:=bu.2 O;have en1:mM (fj c p) E=(zO (fj c p) E,true):=ai4 (N:=0) tR ⟨λx O=>(by cases O),λx O=>(by cases O)⟩ (by rw[U];show (0:Int)<1;decide) (by show (0:Nat)<12;decide) (by
  rw[q0,U];simp only[mJ,aM];exact⟨by decide,by decide,bf hl.1,bf hl.2,hw0,rfl,by decide⟩)
 have d1:sM (fj c p) ⟨1,E,0,0,⟨0,0,0⟩,rS⟩=some (zO (fj c p) E,true):=(ai5 yM tR rfl).trans (bB some en1);obtain⟨y1,t1,e1,jX,oW,_,lA,kI,_,_⟩:=Y3 (Iv.new T hp) yM tR T (by decide) (by show (0:Int)<=1800;decide) ⟨1,E,0,0,⟨0,0,0⟩,rS⟩ (by show (0:Nat)<=_;omega) (λh=>absurd (show (1:Int)=2 from h) (by decide));have ey1:y1=zO (fj c p) E:=Zd (e1.symm.trans d1);rw[ey1]at jX oW lA;clear ey1 e1 kI;obtain⟨a,ha⟩:∃a,a=dG c.ak A:=⟨_,rfl⟩
 have zr:∀ (n k:Nat),(List.replicate n (0:Int)).getD k 0=0:=λn k=>by
  rw[cK,List.getElem?_replicate];split<;>rfl
 have hla:∀ i:Nat,(fj c p).ready.last.getD i (-1) <= -1:=λi=>by
  show (List.replicate (9*(aJ c.ak+1)).toNat (-1:Int)).getD i (-1) <= -1;rw[cK,List.getElem?_replicate];split<;>decide
 have hK1:K1 p A a E (λ_=>0) (fj c p).spare (zO (fj c p) E):=by
  refine⟨⟨?_,.inr ⟨rfl,rfl,?_⟩,λi=>?_,⟨rfl,rfl⟩⟩,⟨by rw[<-hA,U];rfl,ha.symm⟩,rfl,rfl,.inl ⟨⟨?_,rfl,rfl,λb=>Int.le_of_eq (zr _ _),?_,?_,by rw[U]⟩,.inl ⟨rfl,λi=>?_,?_,?_,λb hb=>?_,?_⟩,Mm.new c.ak⟩⟩
  ·show 200-(0:Int)<=c.interval;omega
  ·exact List.cons_ne_nil _ _
  ·have:=hla i;show (fj c p).ready.last.getD i (-1)<=(0:Int)
   omega
  ·show [nI (fj c p) E]=[E];rw[q0]
  ·show 48-((0:Int)-0)<=c.interval;omega
  ·show (0:Nat)<=3;omega
  ·have:=hla i;show (fj c p).ready.last.getD i (-1)<=(0:Int)+1;omega
  ·show ((List.replicate (aJ c.ak).toNat (⟨false,0⟩:gN)).all λb=>!b.open_)=true;rw[bT];intro x O;rw[(List.mem_replicate.1 O).2];rfl
  ·show (0:Int)<=0+16;omega
  ·have hb:(b:Int)<aJ c.ak:=hb;show B0 0 c.ak.rows.toNat ((List.replicate (aJ c.ak).toNat zJ).getD b zT);have e1:(List.replicate (aJ c.ak).toNat zJ).getD b zT=pq 16:=by
    rw[cK,List.getElem?_replicate,aW];rfl
   rw[e1];exact⟨λ_=>0,pU.new _,λ_ _=>Nat.zero_le _⟩
  ·exact dg _
 -- sixty cycles
 obtain⟨C,e2,FR,kJ,sL,oe,w8,WO⟩:=YQ (J:=λz=>K1 p A a E (λ_=>0) (fj c p).spare z) lA hK1 jX oW T (by decide) (n:=60) (by decide) (by show (0:Int)+60<=1900;decide) λz y g1 Z g3 g4 g5 g6 g7 g8=>by
  have g5:0<=z.now:=g5;have g6:z.now<0+60:=g6;exact g7.step (by rw[U]) ayu g3 (by decide) g1 Z (by rw[g4];exact T) ⟨g5,by omega⟩ g8
 have w8:C.now=60:=w8;have oe:C.config=c:=oe;obtain⟨kg,⟨ka,kx⟩,ke,kv,kp⟩:=WO;have kp:Rs A 1 C/\Mm (vZ (λ_=>0) a x) C.array.cells/\∃ t,C.bF=[⟨1,t,0,0⟩]:=by
  rcases kp with ⟨_,g|g,_⟩|g
  ·have:=g.2.2.2.1;omega
  ·have:=g.2.2.2.1;omega
  ·rw[U]at g;exact g
 obtain⟨gx,hmm,t,Rb⟩:=kp;have kl:cW C line=A:=by rw[U]at ka;exact ka
 -- the flip
 obtain⟨k,rfl⟩:=dH LM.1;have qX:=Pq.of FR kJ;have jv:0<=line/\line<dB (dN C.config.ak C.spare):=by rw[oe,kv];exact hl
 have Ec:dU C.config.ak A=true:=by
  have:=(XU qX.p qX.sp qX.se qX.mo jv.1 jv.2).2;rw[kl]at this;exact this
 obtain⟨Lw,qF,d3⟩:=ayq FR kJ (a:=⟨3,B1,n,(k:Int),A,rS⟩) rfl Ec rfl (by omega) ⟨by dsimp only;omega,by dsimp only;omega⟩;dsimp only at Lw qF d3;have Ze:=hmm.flip Lw (k:=k) (by omega) qF (e:=n) hn;generalize C.array.cells.set (dG C.config.ak A) ⟨C.array.cells[dG C.config.ak A].symbols.set k (bits .xor .i64 C.array.cells[dG C.config.ak A].symbols[k] n),C.array.cells[dG C.config.ak A].kj⟩=l3 at d3 Ze;rw[kx]at Ze;obtain⟨I,t3,e3,y31,Kz,_,y34,_,_,_⟩:=Y3 sL FR kJ (by rw[oe];exact T) (by decide) (by omega) ⟨3,B1,n,(k:Int),A,rS⟩ (by show (0:Nat)<=_;omega) (λh=>absurd (show (3:Int)=2 from h) (by decide));have ey3:I=dX C ⟨l3,C.array.bh,C.array.aY⟩:=Zd (e3.symm.trans d3);clear e3;subst ey3
 -- the second request
 obtain⟨Y,kY⟩:∃Y:aU,Y=⟨2,0,line,false,0,0⟩:=⟨_,rfl⟩
 generalize DW:dX C ⟨l3,C.array.bh,C.array.aY⟩=I at *
 have f1:I.config=c:=by rw[<-DW];exact oe
 have f2:I.now=60:=by rw[<-DW];exact w8
 have f3:I.queue=[]:=by rw[<-DW];exact gx.sq
 have f4:I.bF=[⟨1,t,0,0⟩]:=by rw[<-DW];exact Rb
 have f5:I.spare=(fj c p).spare:=by rw[<-DW];exact kv
 have f6:∀l,cW I l=cW C l:=λl=>by rw[<-DW];rfl
 have q2:nI I Y=⟨2,0,line,false,0,60⟩:=by rw[kY];unfold nI;rw[f2]
 have Y2:mM I Y=(zO I Y,true):=ai4 (N:=1) Kz ⟨λx O=>(by rw[f3]at O;cases O),λx O=>(by rw[f4,iw]at O;rw[O];exact eW 1)⟩ (by rw[kY];show (1:Int)<2;decide) (by rw[f3];decide) (by
  rw[q2,f1,f5];simp only[mJ,aM];exact⟨by decide,by decide,bf hl.1,bf hl.2,by decide,by decide,by decide⟩)
 have d4:sM I ⟨1,Y,0,0,⟨0,0,0⟩,rS⟩=some (zO I Y,true):=(ai5 y31 Kz rfl).trans (bB some Y2);obtain⟨D,t4,e4,P3,y42,_,KA,FK,_,_⟩:=Y3 y34 y31 Kz (by rw[f1];exact T) (by decide) (by omega) ⟨1,Y,0,0,⟨0,0,0⟩,rS⟩ (by show (0:Nat)<=_;omega) (λh=>absurd (show (1:Int)=2 from h) (by decide));have B2:D=zO I Y:=Zd (e4.symm.trans d4);have g1:D.queue=[⟨2,0,line,false,0,60⟩]:=by rw[B2];show I.queue++[nI I Y]=_;rw[f3,q2];rfl
 have Z:D.now=60:=by rw[B2];exact f2
 have g3:D.config=c:=by rw[B2];exact f1
 have g4:∀l,cW D l=cW C l:=λl=>by rw[B2];exact f6 l
 have g5:D.aN=C.aN/\D.ready=C.ready/\D.aD=C.aD/\D.bA=C.bA/\D.pending=C.pending/\D.box=C.box/\D.aR=C.aR/\D.errors=C.errors/\D.array.cells=l3:=by rw[B2,<-DW];exact⟨rfl,rfl,rfl,rfl,rfl,rfl,rfl,rfl,rfl⟩
 have g6:D.bF=[⟨1,t,0,0⟩]:=by rw[B2];exact f4
 rw[<-B2]at d4;clear e4 B2;obtain⟨i1,i2,i3,i4,i5,i6,i7,i8,i9⟩:=g5;have Zf:Gn p D:=⟨by rw[Z,i3];have:=kg.gw;rw[w8]at this;exact this,.inl (by rw[Z,i7];have:=kg.gi;rw[w8]at this;rcases this with h|⟨h,_⟩<;>omega),λi=>by rw[Z,i2];have:=kg.gl i;rw[w8]at this;exact this,by rw[i6];exact kg.gb⟩
 have hwa:D.ready.bg.length<=1:=by rw[i2];exact gx.sf.2
 have RK:Wq 60 ⟨2,0,line,false,0,60⟩ [⟨1,t,0,0⟩] D:=⟨g1,i5.trans gx.sp,g6,by rw[i3];exact gx.sd,by rw[Z];have:=Zf.gw;rw[Z]at this;omega,by omega,rfl⟩
 have xK:vY 1 D:=⟨by rw[g3,i4];have:=gx.sf.1;rw[oe]at this;exact this,hwa⟩
 have QX:∀i:Nat,D.ready.last.getD i (-1)<=60:=λi=>by have:=Zf.gl i;rw[Z]at this;exact this
 have zN:∀b:Nat,(cu D.aN (b:Int)).open_=true->b=A.ay.toNat/\(cu D.aN (b:Int)).row=A.row:=by rw[i1];exact gx.so
 have hAd:cW D line=A:=(g4 line).trans kl;have LN:Ph A ⟨2,0,line,false,0,60⟩ [⟨1,t,0,0⟩] D:=by
  rcases gx.sk with p0|p1
  ·have ea:cD D 0=A:=(Y9 g1).trans hAd;have Ej:0<=(cD D 0).ay:=by rw[ea];exact(oX Ec).2.1
   refine .inr ⟨60,by decide,by decide,by omega,RK,?_⟩;rcases ai2 Ej (by rw[ea];exact zN)with uV|ho
   ·exact .inl ⟨by rw[i1];exact p0,λi=>by have:=QX i;omega,uV,by omega,xK⟩
   ·exact .inr ⟨by rw[i1];exact p0,λi=>by have:=QX i;omega,ho,by omega,λb hb=>(xK.1 b hb).up,Nat.le_succ_of_le xK.2⟩
  ·exact .inl ⟨RK,by rw[i1];exact p1,by omega,zN,QX,xK⟩
 have hK2:K2 p A a ⟨2,0,line,false,0,60⟩ (vZ (λ_=>0) a x) ⟨1,t,0,0⟩ D:=⟨⟨hAd,by rw[g3];exact ha.symm⟩,.inl ⟨Zf,LN,.inl ⟨by rw[i9];exact Ze,i8.trans ke⟩⟩⟩
 -- two hundred cycles
 obtain⟨y5,e5,y51,y52,y53,y54,y55,y56⟩:=YQ (J:=λz=>K2 p A a ⟨2,0,line,false,0,60⟩ (vZ (λ_=>0) a x) ⟨1,t,0,0⟩ z) KA hK2 P3 y42 (by rw[g3];exact T) (by decide) (n:=200) (by decide) (by omega) λz y h1 h2 h3 h4 h5 h6 h7 h8=>
  h7.step rfl h3 (by decide) h1 h2 (by rw[h4,g3];exact T) ⟨by omega,by omega⟩ h8
 obtain⟨_,kp⟩:=y56;rcases kp with ⟨_,LN,_⟩|⟨_,_,he,t2,k2,mC,hr5⟩
 ·obtain⟨_,_,ayZ⟩:=LN.wq;omega
 ·have hm:vZ (λ_=>0) a x a=x:=aW rfl;rw[hm]at hr5;refine⟨y5,_,t2,k2,?_,hr5,mC,by rw[he,ha]⟩;have LM:=ayr T hp (Zc line x (k:Int) n A) (λi=>[fj c p,zO (fj c p) E,C,I,D,y5].getD i y5) rfl (λi hi=>by
   have d2:=ai6 jX oW (a:=⟨2,B1,60,0,⟨0,0,0⟩,rS⟩) rfl ⟨by decide,by decide⟩ e2;have d5:=ai6 P3 y42 (a:=⟨2,B1,200,0,⟨0,0,0⟩,rS⟩) rfl ⟨by decide,by decide⟩ e5;rw[U]at d1;rw[kY]at d4;have hi:i<5:=hi;rcases i with _|_|_|_|_|i
   ·rw[U];exact d1
   ·rw[U]at d2 ⊢;exact d2
   ·exact d3
   ·exact d4
   ·exact d5
   ·omega) (by show (5:Nat)<=60;decide)
  exact LM
def WtN(a:fY):Prop:=a.eD.weights.length<=1048576/\(a.kind=2->a.n<=40)
def ayv{b:aa Int}{c:bC}(O:kN b c){x:eo}(hx:jq x)(i:Int):Dr b (NY c x i) WtN:=by
 have T:=BX hx.1;have gb:=fL T;unfold NY;rw[Bp,au,aX,O.eq];dsimp only
 refine(fC O 12).bind λD k2 h2 C=>?_
 dsimp only;rw[C.eta];have U:∀ l:aa Int,0<l.length->(∀ x∈l,x<=40)->Dr b ((AZ k2 l).bind λE=>some ((⟨(2:Int),⟨(0:Int),(0:Int),(0:Int),false,(0:Int),(0:Int)⟩,E.1,(0:Int),⟨(0:Int),(0:Int),(0:Int)⟩,⟨(0:Int),(0:Int),(0:Int),(0:Int),(0:Int),[],⟨(0:Int),(0:Int)⟩⟩⟩:fY),((⟨b,E.2.1.i,E.2.1.h⟩:bC),()))) WtN:=λl hl h40=>by
  refine(Qj C l hl).bind λy k hy Y=>?_
  dsimp only;rw[Y.eta];exact Dr.pure Y ⟨by show (0:Nat)<=1048576;omega,λ_=>h40 _ hy⟩
 cases h0:D==(0:Int)with
 | true=>
  rw[aq,aq];exact U _ (by simp) (by decide)
 |false=>
 rw[av];cases h1:D==(1:Int)with
 | true=>
  rw[aq];exact U _ (by simp) (by decide)
 |false=>
 rw[av];cases D==(2:Int)with
 | true=>
  rw[aq]
  refine(aty C T).bind λy5 k5 h5 Z=>?_
  dsimp only;rw[Z.eta]
  refine(fC Z 11).bind λy6 k6 h6 BJ=>?_
  dsimp only;rw[BJ.eta]
  refine(fC BJ 16).bind λy7 k7 h7 BM=>?_
  dsimp only;rw[BM.eta];exact Dr.pure BM ⟨by show (0:Nat)<=1048576;omega,λh=>absurd (show (3:Int)=2 from h) (by decide)⟩
 |false=>
 rw[av];cases D==(3:Int)with
 | true=>
  rw[aq]
  refine(Qj C _ (by simp)).bind λy8 k8 h8 K4=>?_
  dsimp only;rw[K4.eta]
  refine(fC K4 2).bind λy9 k9 h9 K5=>?_
  rw[og,au];dsimp only;rw[K5.eta]
  refine(fC K5 _).bind λjX Wy zq ai7=>?_
  dsimp only;rw[ai7.eta]
  refine(fC ai7 _).bind λoW Wx qz ai8=>?_
  dsimp only;rw[ai8.eta]
  refine(ahm ai8).bind λlW FC rF ai9=>?_
  dsimp only;rw[ai9.eta];have hl:=(zK rF).2.2;exact Dr.pure ai9 ⟨by show lW.weights.length<=1048576;omega,λ_=>by show y9<=40;have:=h9.2.2 (by decide);omega⟩
 |false=>
 rw[av]
 refine(axB C _).bind λlA Ww vE aja=>?_
 dsimp only;rw[aja.eta]
 refine(Ql aja 2).bind λkI Wv vF I=>?_
 dsimp only;rw[I.eta];cases kI with
 | true=>
  rw[aq]
  refine(fC I 3).bind λmG k16 sJ ajb=>?_
  dsimp only;rw[ajb.eta];exact Dr.pure ajb ⟨by show (0:Nat)<=1048576;omega,λh=>absurd (show (1:Int)=2 from h) (by decide)⟩
 |false=>exact Dr.pure I ⟨by show (0:Nat)<=1048576;omega,λh=>absurd (show (1:Int)=2 from h) (by decide)⟩
def ayw{b:aa Int}{c:bC}(C:kN b c):Dr b (N3 c) λ_=>True:=by
 unfold N3 xA xZ;rw[C.eq]
 refine(ahn C).bind λx k1 O D=>?_
 dsimp only;rw[D.eta]
 refine(fC D 40).bind λy k2 h2 E=>?_
 dsimp only;rw[E.eta]
 refine(ayv E O _).bind λa k3 T I=>?_
 dsimp only;rw[I.eta];have hw:a.eD.weights.length<=1048576:=T.1;have U:bX (([]:aa Int).length+([]:aa Int).length)=true:=by decide
 have Y:bX (([]:aa Int).length+a.eD.weights.length)=true:=eE (by rw[List.length_nil];omega);have Z:bX (([a.eD.eK,a.eD.cap,a.eD.dn,a.eD.low,a.eD.high]:aa Int).length+a.eD.weights.length)=true:=eE (by simp only[List.length_cons,List.length_nil];omega);have hz7:bX (([a.eD.eK,a.eD.cap,a.eD.dn,a.eD.low,a.eD.high]++a.eD.weights:aa Int).length+([a.eD.cZ.down,a.eD.cZ.sleep]:aa Int).length)=true:=eE (by simp only[List.length_append,List.length_cons,List.length_nil];omega);have hz8:bX (([]++a.eD.weights:aa Int).length)=true:=eE (by rw[List.nil_append];omega);cases a.kind==1<;>cases a.kind==2<;>cases a.kind==3<;>cases a.kind==4<;>cases a.kind==5<;>cases a.kind==6<;>cases a.kind != 5<;>cases a.request.write<;>simp only[aq,av,bE,Bool.not_false,U,Y,Z,hz7]<;>exact Dr.pure I trivial
def ayx(l:aa Int)(h:l.length<=1073741823):∃ c p bg,N9 l=some (c,p,bg)/\jq c/\rG p:=by
 unfold N9 bR;obtain⟨h0,e0⟩:=agn l h;obtain⟨x,k,C,U,hx⟩:=ahn (ago l h0 h);obtain⟨p,O,e2,mC,hp⟩:=ahm U;generalize (⟨⟨(0:Int),(0:Int),(0:Int),(0:Int)⟩,⟨(0:Int),(0:Int),(0:Int),(0:Int),(0:Int),(0:Int),(0:Int),(0:Int),(0:Int),(0:Int),(0:Int),(0:Int),(0:Int),(0:Int),(0:Int),(0:Int),(0:Int)⟩,⟨(0:Int),false⟩,(0:Int),(0:Int),(0:Int),⟨(0:Int),(0:Int)⟩⟩:eo)=D;obtain⟨z,e,bg,rfl⟩:=agj (step:=IS) 10 (λk s=>∃ (E:bC) (bg:aa fY),kN l E/\bg.length=k/\s=(((),(),(),(),(),(),(k:Int),()),(D,((0:Int),(0:Int),(0:Int),(0:Int),(0:Int),(),(0:Int),(0:Int),()),(l,E.i,E.h,()),x,(p.eK,p.cap,p.dn,p.low,p.high,(),p.cZ.down,p.cZ.sleep,()),bg,([]:aa Int),p.weights,())))
  (λz=>∃bg:aa fY,z = .inl (((),(),(),(),(),()),(D,((0:Int),(0:Int),(0:Int),(0:Int),(0:Int),(),(0:Int),(0:Int),()),x,(p.eK,p.cap,p.dn,p.low,p.high,(),p.cZ.down,p.cZ.sleep,()),bg,([]:aa Int),p.weights,()))) bq (x:=(((),(),(),(),(),(),(0:Int),()),(D,((0:Int),(0:Int),(0:Int),(0:Int),(0:Int),(),(0:Int),(0:Int),()),(l,O.i,O.h,()),x,(p.eK,p.cap,p.dn,p.low,p.high,(),p.cZ.down,p.cZ.sleep,()),([]:aa fY),([]:aa Int),p.weights,()))) ⟨O,[],mC,rfl,rfl⟩ (by
  rintro k hkk s ⟨E,bg,I,hl,rfl⟩;unfold IS aE xG;dsimp only;rw[I.eta];obtain⟨Y,k1,C,T,Z⟩:=fC I 10;rw[C,au];dsimp only;by_cases dK:(k:Int)<Y
  ·obtain⟨y2,k3,e3,qF,_⟩:=ayw T;rw[bf dK,aq,T.eta,e3,au];dsimp only;rw[eE (by rw[List.length_singleton];omega),aq,bN];exact .inl ⟨_,rfl,k3,bg++[y2],qF,by rw[List.length_append,List.length_singleton,hl],rfl⟩
  ·rw[br dK,av];exact .inr ⟨_,rfl,bg,rfl⟩) (by
  rintro s ⟨E,bg,I,hl,rfl⟩;unfold IS aE xG;dsimp only;rw[I.eta];obtain⟨Y,k1,C,T,Z⟩:=fC I 10;have WW:=Z.2.2 (by omega);rw[C,au];dsimp only;rw[br,av];exact⟨_,rfl,bg,rfl⟩) (bS)
 refine⟨x,p,bg,?_,hx,hp⟩;rw[e0,au,C,au];dsimp only;rw[U.eta,e2,au];dsimp only;exact(bB (λo=>Option.bind o _) e).trans rfl
def ayy{c:ax}(D:cv c)(E:cz c=true):2<=dB (dN c.config.ak c.spare):=by
 have I:=Pq.of D E;obtain⟨O,Y,C,Z,s1,s2,s3,s4⟩:=Gi I.sp;have gb:=fL C;have hb:=FW C;have T:2<=(dN c.config.ak c.spare).rows:=by rw[O];exact s3
 have U:=Int.mul_le_mul (show 1<=aJ (dN c.config.ak c.spare) by omega) T (by decide) (by omega);have h2:=Int.mul_le_mul U (show 1<=(dN c.config.ak c.spare).aQ by omega) (by decide) (by omega);unfold dB;rw[C,aq];omega
def ayz{c:ax}(D:cv c)(E:cz c=true){l:Int}(h:0<=l/\l<dB (dN c.config.ak c.spare)):OH c l=some (cW c l,true):=by
 have C:=Pq.of D E;have hb:=lD (dN c.config.ak c.spare);unfold OH;rw[au1 c D,au,E,bE,av,Xn,au,Bp,au,ic,au,aZ,bu.2 ⟨h.1,by omega⟩,bE,av,avz C.p C.sp C.se C.mo h.1 h.2,au]
def ayA(l:aa Int)(h:l.length<=maxLen):WV l=some true:=by
 unfold WV VL;rw[au];by_cases ajc:(l.length:Int) > 1048576
 ·rw[bf ajc];rfl
 ·rw[br ajc,av];obtain⟨c,p,bg,e1,Y,Z⟩:=ayx l (by omega);obtain⟨ps,e2,qZ,RM⟩:=ata l (by omega);have yM:=ais Y Z;have tR:=ait Y Z;have h2:=ayy (c:=fj c p) yM tR;have h2:2<=dB (dN c.ak (fj c p).spare):=h2;have qh:=lD (dN c.ak (fj c p).spare);rw[e1,au];dsimp only;rw[e2,au,axH Y Z,au];dsimp only;rw[Xn,au,Bp,au];have D:(0:Int).toNat<ps.length:=by show 0<ps.length;omega
  have C:(1:Int).toNat<ps.length:=by show 1<ps.length;omega
  have T:(2:Int).toNat<ps.length:=by show 2<ps.length;omega
  have I:(3:Int).toNat<ps.length:=by show 3<ps.length;omega
  have a0:=RM _ (cX D);have a1:=RM _ (cX C);have a2:=RM _ (cX T);have a3:=RM _ (cX I);have t0:=KJ (x:=ps[(0:Int).toNat]'D) (n:=dB (dN c.ak (fj c p).spare)) a0.1 (by omega);have t2:=KJ (x:=ps[(2:Int).toNat]'T) (n:=11) a2.1 (by decide);have t3:=KJ (x:=ps[(3:Int).toNat]'I) (n:=15) a3.1 (by decide);have hq:=Pq.of yM tR;have hA:dU c.ak (cW (fj c p) ((ps[(0:Int).toNat]'D).tmod (dB (dN c.ak (fj c p).spare))))=true:=(XU hq.p hq.sp hq.se hq.mo t0.1 t0.2).2;obtain⟨y,r1,t,k,e4,e5,e6,U⟩:=ayt Y Z t0 (x:=ps[(1:Int).toNat]'C) ⟨a1.1,by omega⟩ (ch:=(ps[(2:Int).toNat]'T).tmod 11) ⟨t2.1,by omega⟩ (n:=1+(ps[(3:Int).toNat]'I).tmod 15) ⟨by omega,by omega⟩;unfold Zc B1 rS at e4;rw[aK ⟨by decide,D⟩,aK D,aX (show ¬ dB (dN c.ak (fj c p).spare)=0 by omega),ayz yM tR t0,au,aK ⟨by decide,C⟩,aK C,aK ⟨by decide,T⟩,aK T,aK ⟨by decide,I⟩,aK I,aZ (n:=1+(ps[(3:Int).toNat]'I).tmod 15),e4,au];clear e4;obtain⟨O,kY⟩:∃O:ey,O=⟨2,t,ps[(1:Int).toNat]'C,k⟩:=⟨_,rfl⟩
  obtain⟨er,RN⟩:∃er:cr,er=⟨(dG c.ak (cW (fj c p) ((ps[(0:Int).toNat]'D).tmod (dB (dN c.ak (fj c p).spare)))):Int),1,1⟩:=⟨_,rfl⟩
  have U:y.errors=[er]:=U.trans (by rw[RN];rfl);rw[<-kY]at e5;have hid:O.id=2:=by rw[kY]
  have hda:O.data=ps[(1:Int).toNat]'C:=by rw[kY]
  have Ru:O.code≠2:=by rw[kY];exact e6
  have Q9:er.code=1:=by rw[RN]
  have hU:er.line=qK c.ak (cW (fj c p) ((ps[(0:Int).toNat]'D).tmod (dB (dN c.ak (fj c p).spare)))):=by rw[RN];exact(Gc hA).1.symm
  have het:er.times=1:=by rw[RN]
  have jv:((y.bF.length:Int) != 2)=false:=by rw[e5];rfl
  have tE:((y.errors.length:Int) != 1)=false:=by rw[U];rfl
  have q1:(1:Int).toNat<y.bF.length:=by rw[e5];show (1:Nat)<2;decide
  have E:(0:Int).toNat<y.errors.length:=by rw[U];show (0:Nat)<1;decide
  have g1:y.bF[(1:Int).toNat]'q1=O:=by simp[e5]
  have g0:y.errors[(0:Int).toNat]'E=er:=by simp[U]
  dsimp only;rw[mU,av,jv,av,tE,av,aK ⟨by decide,q1⟩,aK q1,g1,hid,iQ,aq,aK ⟨by decide,C⟩,aK C,hda,iQ,aq,fR Ru,aq,aK ⟨by decide,E⟩,aK E,g0,Q9,iQ,aq,aK ⟨by decide,E⟩,aK E,as9,au,g0,hU,iQ,aq,aK ⟨by decide,E⟩,aK E,g0,het];rfl
def ayB(C:Value)(w:World)(D:RdL .u8 (λx:Int=>0<=x/\x<=255) w C):Calls Tryz.prog 4 #[C] w λe w'=>e = .returned (.bool true)/\Below w.heap.size w w':=by
 obtain⟨l,hl,_,E⟩:=D;exact anA as8 (anB (ai:=[(false,.sl .u8)]) (x:=(l,())) (by kernel_rfl) (ayA l hl)) (anC E)
def vU(c:ax):ax:=(w7 c).getD c
end Go.Proofs.YtpigmalhjkekiaaGreat
