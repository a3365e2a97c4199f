/-
  Plain laws. Nothing here is a claim.
-/
import Derived.Test.YtnilicojgkhpnaaGreatPYExactRunActs
namespace Go.Proofs.YtnilicojgkhpnaaGreat
set_option linter.defProp false
open Go.RowKit
set_option linter.unusedVariables false
set_option linter.unusedSimpArgs false
set_option maxRecDepth 100000
def nN(k:Int):bU:=⟨List.replicate k.toNat (-1),List.replicate k.toNat 0,0⟩
def ann{k:Int}(h:aM k 1 16=true):NI k=some (nN k,true):=by
 have hb:=bB.1 h;unfold NI;have e:Dp ([(-1:Int)]) k=some (List.replicate k.toNat (-1)):=by
  unfold Dp;simp_all
 rw[cW,ak,h,bg,e,ak,bJ ⟨by omega,Int.le_refl _,by omega⟩];rfl
def ano{k:Int}(h:aM k 1 16=true):Lq k=some (nN k,true):=by
 have hb:=bB.1 h;obtain⟨n,rfl⟩:=eD (show 0 <= k by omega);unfold Lq;rw[eS,ak,h,bg,amq n (by omega),ak,bJ ⟨by omega,Int.le_refl _,by omega⟩];rfl
def xm(r:cO)(b:Int):cO:=bif decide (r.aI.getD b.toNat 0 = -2)then r else ⟨r.aI.set b.toNat (r.aI.getD b.toNat 0-1),r.wait,r.dy⟩
def EO{r:cO}(h:dV r=true):∀ x∈r.aI,-2 <= x/\x <= 5:=by
 simp[dV,aS,cw]at h;exact λx C=>bB.1 (h.1 x C)
def aFM{α β:Type}{o:ah (α×β)}{a:α}(h:o.map Prod.fst=some a):∃b,o=some (a,b):=by simp_all
def aFN{r:cO}(h:dV r=true){b:Int}(D:0 <= b)(C:b.toNat<r.aI.length):∃ y,Ss r b=some (xm r b,y):=by
 have hl:=mq h;have O:=EO h _ (cM C);have E:r.aI.getD b.toNat 0=r.aI[b.toNat]:=by rw[fA,bY C];rfl
 unfold Ss Dy xm xI xL xA xZ;rw[cD (by simp;omega),au,ak,Ul _ (by omega),ak,h,bg,aq,eS,ak,OG D C (by omega),bg,aq,aA ⟨D,C⟩,E];dsimp only;by_cases L:r.aI[b.toNat] = -2
 ·simp_all
 ·rw[aR (show ¬ r.aI[b.toNat] <= -2 by omega),aR L,jX,aA ⟨D,C⟩,aA ⟨D,C⟩,aA C,aK];simp_all
def aFO{r:cO}(h:dV r=true){b:Int}(D:0 <= b)(C:b.toNat<r.aI.length):∃ y,TM r b=some (xm r b,y):=by
 have hl:=mq h;have O:=EO h _ (cM C);have L:r.aI.getD b.toNat 0=r.aI[b.toNat]:=by rw[fA,bY C];rfl
 unfold TM uX xm xI xL xA xZ;rw[cD (by simp;omega),au,ak,BG _ (by omega),ak,h,bg,aq,cW,ak,OG D C (by omega),bg,aq,aA ⟨D,C⟩,L];dsimp only;by_cases E:r.aI[b.toNat] = -2
 ·simp_all
 ·rw[kA E,aR E,jX,aA ⟨D,C⟩,aA C,aA ⟨D,C⟩,aA C,aK];simp_all
def zL(p:fk)(k now:Int):fk:=bif jh p&&aM now p.since 1000000 then
 (bif (k==6)&&(p.state==0)then ⟨1,now,p.idle⟩else bif (k==8)&&(p.state==0)then ⟨2,now,p.idle⟩else bif (k==7)&&(p.state==1)then ⟨0,now,p.idle⟩else bif (k==9)&&(p.state==2)then ⟨0,now,p.idle⟩else p)else p
def UI(p:fk){k:Int}(C:6 <= k/\k <= 9)(now:Int):∃ y,TQ p k now=some (zL p k now,y):=by
 refine aFM ?_;unfold TQ zL;rw[Og,ak];cases jh p with
 |false=>rfl
 | true=>
  rw[bg,aq,cW,ak];cases aM now p.since 1000000 with
  |false=>rfl
  | true=>
   have:k=6 \/ k=7 \/ k=8 \/ k=9:=by omega
   grind
def UJ(p:fk){k:Int}(C:6 <= k/\k <= 9)(now:Int):∃ y,Sw p k now=some (zL p k now,y):=by
 unfold Sw zL;simp[aaS,eS];have:k=6 \/ k=7 \/ k=8 \/ k=9:=by omega
 rcases this with rfl|rfl|rfl|rfl
 ·grind
 ·grind
 ·grind
 ·grind
def anp{α β T:Type}{step:α -> ah (α⊕β)}(p:T -> Bool)(S:Nat -> Nat -> aa T -> α)(Z:Nat -> aa T -> β)
  (hs:∀i j s (E:j<s.length),i <= j -> j<1073741824 -> step (S i j s)=some (.inl (bif p s[j]then S i (j+1) s else S (i+1) (j+1) (s.set i s[j]))))
  (hz:∀i s,i <= s.length -> step (S i s.length s)=some (.inr (Z i s))):
  ∀(n i j fuel:Nat) (s:aa T),j+n=s.length -> i <= j -> s.length<1073741824 -> n<fuel -> ∃C D,iter step fuel (S i j s)=some (Z D C)/\C.length=s.length/\D <= s.length/\C.take D=s.take i++(s.drop j).filter (λx=>!p x):=by
 intro n
 induction n with
 | zero=>
  intro i j fuel s hn hi hl hf;obtain⟨f,rfl⟩:∃f,fuel=f+1:=⟨fuel-1,by omega⟩
  have ej:j=s.length:=by omega
  subst ej;refine⟨s,i,?_,rfl,hi,by simp⟩;unfold iter;simp_all
 | succ n L=>
  intro i j fuel s hn hi hl hf;obtain⟨f,rfl⟩:∃f,fuel=f+1:=⟨fuel-1,by omega⟩
  have E:j<s.length:=by omega
  unfold iter;rw[hs i j s E hi (by omega)];have hd:=List.drop_eq_getElem_cons E;cases hp:p s[j]with
  | true=>
   have⟨C,D,O,U,Y,h4⟩:=L i (j+1) f s (by omega) (by omega) hl (by omega)
   grind
  | false=>
   have⟨C,D,O,U,Y,h4⟩:=L (i+1) (j+1) f (s.set i s[j]) (by simp;omega) (by omega) (by simp;omega) (by omega);refine⟨C,D,O,by simpa using U,by simpa using Y,?_⟩;rw[h4,hd,List.filter_cons_of_pos (by simp[hp]),List.drop_set_of_lt (by omega),List.take_add_one,List.getElem?_set_self (by omega),List.take_set_of_le (by omega)];simp
def abI{T:Type}{p:T -> Bool}{l:aa T}{k:Nat}(h:l.findIdx? p=some k):l.filter (λx=>!p x)=l.take k++(l.drop (k+1)).filter (λx=>!p x):=by
 have⟨D,E,L⟩:=mY.1 h;have e:l=l.take k++l[k] :: l.drop (k+1):=by
  simp[*]
 have O:(l.take k).filter (λx=>!p x)=l.take k:=by
  rw[List.filter_eq_self];intro a C;obtain⟨i,hi,rfl⟩:=jw.1 C
  grind
 grind
def abJ{T:Type}(s r:aa T)(i:Nat)(h:i <= s.length):(splice s i r).take i=s.take i:=by
 unfold splice;simp_all
def aFP(l:aa aJ)(a:aJ)(hl:l.length<1073741824):TI l a=some (gD (iC a) l):=by
 unfold TI gD;have e:=sE (step:=NF) l (iC a) (λi=>((l,a,(l.length:Int),(i:Int),()),())) (λi=>.inl (((i:Int),()),())) (.inr (.inl ((),()))) aT (λk h=>by
  unfold NF iC ax aU xG xI;dsimp only;rw[aQ,au,aA ⟨by omega,by omega⟩];simp only[br];rw[bA];cases (l[k].ay==a.ay&&(l[k].row==a.row&&(l[k].bR==a.bR&&true)))<;>rfl) (by
  unfold NF ax aU xG xI;dsimp only;rw[aR,aq]) (bH hl)
 rw[cm]at e;rw[e];cases l.findIdx? (iC a)<;>rfl
def aFQ(l:aa aJ)(x:aH)(hl:l.length<1073741824):TR l x=some (gD (λa=>a.ay==x.ay) l):=by
 unfold TR gD;have e:=sE (step:=NM) l (λa=>a.ay==x.ay) (λi=>((l,x,(l.length:Int),(i:Int),()),())) (λi=>.inl (((i:Int),()),())) (.inr (.inl ((),()))) aT (λk h=>by
  unfold NM ax aU xG xI;dsimp only;rw[aQ,au,aA ⟨by omega,by omega⟩];simp only[br];rw[bA];cases (l[k].ay==x.ay)<;>rfl) (by
  unfold NM ax aU xG xI;dsimp only;rw[aR,aq]) (bH hl)
 rw[cm]at e;rw[e];cases l.findIdx? (λa=>a.ay==x.ay)<;>rfl
def aFR(l:aa aJ)(a:aJ)(hl:l.length<1000000):TJ l a=some (l.filter (λx=>!iC a x),([],())):=by
 unfold TJ;rw[aFP l a (by omega),ak];unfold gD;cases C:l.findIdx? (iC a)with
 | none=>
  have e:l.filter (λx=>!iC a x)=l:=by
   rw[List.filter_eq_self];intro x D;have:=List.findIdx?_eq_none_iff.1 C x D;simp[this]
  rw[e];rfl
 | some k=>
  obtain⟨O,T,U⟩:=mY.1 C;rw[abI C];simp only;rw[kA (show ¬ (k:Int) = -1 by omega),aq,bA];obtain⟨Y,Z,E,h2,h3,L⟩:=anp (step:=NG) (iC a) (λi j s=>(((),a,(i:Int),(j:Int),()),(s,()))) (λi s=>.inl (((),(i:Int),()),(s,()))) (λi j s hj hi hb=>by
   unfold NG iC ax xG xL;dsimp only;rw[aQ,au,aA ⟨by omega,by omega⟩,aA];simp only[br];rw[bA,bA,aA ⟨by omega,by omega⟩,aA];cases (s[j].ay==a.ay&&(s[j].row==a.row&&(s[j].bR==a.bR&&true)))<;>rfl) (λi s hi=>by
   unfold NG ax xG xL;dsimp only;rw[aR,aq]) (l.length-(k+1)) k (k+1) aT l (by omega) (by omega) (by omega) (by unfold aT;omega)
  rw[E,ak,eC];dsimp only;rw[bJ ⟨by omega,by omega,by omega⟩,bJ ⟨by omega,by omega⟩,bJ ⟨by omega,by omega,by
   rw[ua _ _ _ (by simp;omega)];omega⟩]
  rw[abJ _ _ _ (by omega),br,L]
def aFS(l:aa aJ)(c:aH)(hl:l.length<1000000):TS l c=some (l.filter (λx=>!(x.ay==c.ay)),([],())):=by
 unfold TS;rw[aFQ l c (by omega),ak];unfold gD;cases C:l.findIdx? (λa=>a.ay==c.ay)with
 | none=>
  have e:l.filter (λx=>!(x.ay==c.ay))=l:=by
   rw[List.filter_eq_self];intro x D;have:=List.findIdx?_eq_none_iff.1 C x D;simp[this]
  rw[e];rfl
 | some k=>
  obtain⟨O,T,U⟩:=mY.1 C;rw[abI C];simp only;rw[kA (show ¬ (k:Int) = -1 by omega),aq,bA];obtain⟨Y,Z,E,h2,h3,L⟩:=anp (step:=NN) (λx=>x.ay==c.ay) (λi j s=>(((),c,(i:Int),(j:Int),()),(s,()))) (λi s=>.inl (((),(i:Int),()),(s,()))) (λi j s hj hi hb=>by
   unfold NN ax xG xL;dsimp only;rw[aQ,au,aA ⟨by omega,by omega⟩,aA];simp only[br];rw[bA,bA,aA ⟨by omega,by omega⟩,aA];cases (s[j].ay==c.ay)<;>rfl) (λi s hi=>by
   unfold NN ax xG xL;dsimp only;rw[aR,aq]) (l.length-(k+1)) k (k+1) aT l (by omega) (by omega) (by omega) (by unfold aT;omega)
  rw[E,ak,eC];dsimp only;rw[bJ ⟨by omega,by omega,by omega⟩,bJ ⟨by omega,by omega⟩,bJ ⟨by omega,by omega,by
   rw[ua _ _ _ (by simp;omega)];omega⟩]
  rw[abJ _ _ _ (by omega),br,L]
def nO(b:Int)(pd:aa aJ)(n:Int):aa aJ:=bif pd.any (iC ⟨b,n,0⟩)then pd else pd++[⟨b,n,0⟩]
def ru(c:av)(t:aa bU)(C:aa Int)(pd:aa aJ):av:=⟨c.config,c.box,c.now,c.bq,c.ready,c.array,c.spare,c.aV,t,C,pd,c.queue,c.shares,c.drain,c.bk,c.cB,c.errors,c.trace,c.cr⟩
def UK{T:Type}(p:T -> Bool)(l:aa T):decide (gD p l<0) = !l.any p/\decide (gD p l >= 0)=l.any p:=by
 unfold gD
 grind
def UL(b:Int):∀ (ns:aa Int) (pd:aa aJ),(ns.foldl (nO b) pd).length <= pd.length+ns.length
 |[],pd=>dW _
 | n :: ns,pd=>by
  have:=UL b ns (nO b pd n);have C:(nO b pd n).length <= pd.length+1:=by
   unfold nO
   grind
  grind
def OI{T U:Type}(f:U->T->U)(l:aa T)(u:U){k:Nat}(h:k<l.length):(l.take (k+1)).foldl f u=f ((l.take k).foldl f u) l[k]:=by
 rw[List.take_add_one,bY h,List.foldl_append];rfl
def aFT(c:av)(x:aH)(ns:aa Int)(C:ns.length <= 1000)(D:c.pending.length <= 1000):iter HA aT (((),(),(),(ns.length:Int),(0:Int),()),(c,(x.kind,x.ay,x.row,x.bR,()),ns,()))=some (.inl ((),(ru c c.bL c.guard (ns.foldl (nO x.ay) c.pending),()))):=by
 have e:=cv (step:=HA) _ (λi=>(((),(),(),ns.length,i,()),(ru c c.bL c.guard ((ns.take i).foldl _ _),(x.kind,x.ay,x.row,x.bR,()),ns,()))) _ aT (λk h=>by
  have hl:=UL x.ay (ns.take k) c.pending;rw[fY]at hl;rw[OI _ _ _ h];generalize (ns.take k).foldl (nO x.ay) c.pending=pd at hl;unfold HA nO ru aal ax xG xL;dsimp only;rw[aQ,au,aA ⟨by omega,by omega⟩,aA];simp only[br];rw[al6 _ _ (by omega),ak,ak,(UK _ _).2,bA,cD (by simp;omega)];cases pd.any (iC ⟨x.ay,ns[k],0⟩)<;>rfl) (by
  unfold HA ru ax xG xL;dsimp only;rw[aR,aq]) (bH)
 rw[ iu]at e;exact e
def aFU(c:av)(x:aH)(ns:aa Int)(C:ns.length <= 1000)(D:c.pending.length <= 1000):iter uV aT (((),(),true,(),(0:Int),()),(c,(x.kind,x.ay,x.row,x.bR,()),ns,()))=some (.inl ((),(ru c c.bL c.guard (ns.foldl (nO x.ay) c.pending),()))):=by
 have e:=cv (step:=uV) _ (λi=>(((),(),true,(),i,()),(ru c c.bL c.guard ((ns.take i).foldl _ _),(x.kind,x.ay,x.row,x.bR,()),ns,()))) _ aT (λk h=>by
  have hl:=UL x.ay (ns.take k) c.pending;rw[fY]at hl;rw[OI _ _ _ h];generalize (ns.take k).foldl (nO x.ay) c.pending=pd at hl;unfold uV nO ru ax xG xL;dsimp only;rw[aQ,au,au,aA ⟨by omega,by omega⟩,aA];simp only[br];rw[al5 _ _ (by omega),ak,(UK _ _).1,bA,cD (by simp;omega)];cases pd.any (iC ⟨x.ay,ns[k],0⟩)<;>rfl) (by
  unfold uV ru ax xG xL;dsimp only;rw[aR,aq]) (bH)
 rw[ iu]at e;exact e
def aFV(c:av)(x:aH)(ns:aa Int):iter uV aT (((),(),false,(),(0:Int),()),(c,(x.kind,x.ay,x.row,x.bR,()),ns,()))=some (.inl ((),(c,()))):=by
 have e:=cv (step:=uV) 0 (λi=>(((),(),false,(),i,()),(c,(x.kind,x.ay,x.row,x.bR,()),ns,()))) _ aT (λk h=>by omega) (by
  unfold uV ax xG xL;cases decide ((0:Int)<ns.length)<;>rfl) (bH)
 simp_all
def zT:bU:=⟨[],[],0⟩
def tT(c:av)(x:aH):bU×Bool:=vD (c.bL.getD x.ay.toNat zT) x.row (c.guard.getD x.ay.toNat 0)
def pF(c:av)(x:aH):aa aJ:=c.pending.filter (λa=>!iC ⟨x.ay,x.row,0⟩ a)
def vE(c:av)(x:aH):av:=
 ru (cx c (vw c.config.az c.config.ep c.array x.ay x.row)) (c.bL.set x.ay.toNat (tT c x).1) c.guard (bif (tT c x).2 then (mT c.config.az.rows x.row).foldl (nO x.ay) (pF c x)else pF c x)
def lC{T:Type}{l:aa T}{i:Nat}(d:T)(h:i<l.length):l.getD i d=l[i]:=by
 rw[fA,bY h];rfl
def abK(R r:Int):(mT R r).length <= 2:=by
 unfold mT
 grind
def abL{T:Type}(p:T->Bool)(l:aa T):(l.filter p).length<=l.length:=List.length_filter_le p l
def aFW{B:Int}(c:av)(x:aH)(L:cA c.config.az=true)(Y:dO c.config.az B c.array)(hp:c.pending.length <= 200)(Z:∀ t∈c.bL,jT t)(D:0 <= x.ay)(h2:x.ay<aY c.config.az)(O:0 <= x.row)(T:x.row<c.config.az.rows)(C:x.ay.toNat<c.bL.length)(E:x.ay.toNat<c.guard.length):TK c x=some ((),(vE c x,())):=by
 have⟨_,_,_,_,g5,g6,g7,g8⟩:=fN L;have U:=am4 L c.config.ep c Y D h2 O T;have e2:=aFR c.pending ⟨x.ay,x.row,0⟩ (by omega);have hf:(pF c x).length <= c.pending.length:=List.length_filter_le _ _;have rR:=abK c.config.az.rows x.row;simp only[cx]at U;unfold TK bh xL xM
 refine(bf (λo=>Option.bind o _) U).trans ?_
 rw[ak];dsimp only
 refine(bf (λo=>Option.bind o _) e2).trans ?_
 rw[ak];dsimp only;rw[aA ⟨D,C⟩,aA C,aA ⟨D,E⟩,aA E,aA C,aA C];rw[aFL _ (Z _ (cM C)),ak,aA ⟨D,C⟩,aA C];unfold vE tT;rw[lC _ C,lC _ E];cases (vD (c.bL[x.ay.toNat]'C) x.row (c.guard[x.ay.toNat]'E)).2 with
 |false=>rfl
 | true=>
  rw[bg,aq,aa6 (by omega) (by omega) O T,ak]
  refine(bf (λo=>Option.bind o _) (aFT (ru (cx c (vw _ _ c.array x.ay x.row)) _ c.guard (pF c x)) x _ (by omega) (by unfold ru;dsimp only;omega))).trans ?_
  rfl
def xo(l:aa aJ):Prop:=∀i (h:i<l.length),(l.take i).any (iC l[i])=false
def OJ{a b:aJ}:iC a b=true ↔ a=b:=by
 have⟨C,D,E⟩:=a;have⟨L,O,T⟩:=b;simp[iC,aS,fJ,and_true,aJ.mk.injEq]
 grind
def xo.cut{l:aa aJ}(h:xo l){a:aJ}{k:Nat}(C:l.findIdx? (iC a)=some k):l.take k++l.drop (k+1)=l.filter (λx=>!iC a x):=by
 have⟨O,D,T⟩:=mY.1 C;rw[abI C];congr 1;symm;rw[List.filter_eq_self];intro x E;obtain⟨i,hi,rfl⟩:=jw.1 E;rw[List.length_drop]at hi;rw[List.getElem_drop];cases L:iC a _ with
 |false=>rfl
 | true=>
  have U:=OJ.1 L;have Y:=OJ.1 D;have:=oJ.1 (h (k+1+i) (by omega)) l[k] (jw.2 ⟨k,by rw[fY];omega,by rw[List.getElem_take]⟩);simp_all
def aFX{B:Int}(c:av)(x:aH)(L:cA c.config.az=true)(ha:dO c.config.az B c.array)(hp:c.pending.length <= 200)(hu:xo c.pending)(O:∀ t∈c.bL,jT t)(D:0 <= x.ay)(h2:x.ay<aY c.config.az)(T:0 <= x.row)(U:x.row<c.config.az.rows)(C:x.ay.toNat<c.bL.length)(E:x.ay.toNat<c.guard.length):Sr c x=some ((),(vE c x,())):=by
 have⟨_,_,_,_,g5,g6,g7,g8⟩:=fN L;have Y:=am8 L c.config.ep c ha D h2 T U;have e2:=al5 c.pending ⟨x.ay,x.row,0⟩ (by omega);have hf:(pF c x).length <= c.pending.length:=List.length_filter_le _ _;have rR:=abK c.config.az.rows x.row;have Z:ZI c.config.az.rows x.row=some (mT c.config.az.rows x.row):=aa6 (by omega) (by omega) T U;simp only[cx]at Y;unfold Sr xA bh xL xM xZ
 refine(bf (λo=>Option.bind o _) Y).trans ?_
 rw[ak];dsimp only
 refine(bf (λo=>Option.bind o _) e2).trans ?_
 rw[ak];have wq:∀ pd:aa aJ,pd=pF c x -> ∀ t:bU×Bool,t=tT c x -> (iter uV aT (((),(),t.2,(),(0:Int),()),((⟨c.config,c.box,c.now,c.bq,c.ready,vw c.config.az c.config.ep c.array x.ay x.row,c.spare,c.aV,(c.bL.set x.ay.toNat t.1),c.guard,pd,c.queue,c.shares,c.drain,c.bk,c.cB,c.errors,c.trace,c.cr⟩:av),(x.kind,x.ay,x.row,x.bR,()),mT c.config.az.rows x.row,()))).bind (Sum.elim (λMj=>some ((),(Mj.2.1,()))) (λz=>nomatch z))=some ((),(vE c x,())):=by
  rintro pd rfl ⟨t1,t2⟩ C;unfold vE;rw[<- C];cases t2 with
  | false=>
   refine(bf (λo=>Option.bind o _) (aFV _ x _)).trans ?_
   rfl
  | true=>
   refine(bf (λo=>Option.bind o _) (aFU _ x _ (by omega) (by dsimp only;omega))).trans ?_
   rfl
 have hT:tT c x=vD (c.bL[x.ay.toNat]'C) x.row (c.guard[x.ay.toNat]'E):=by
  unfold tT;simp[*]
 unfold gD;cases hi:c.pending.findIdx? (iC ⟨x.ay,x.row,0⟩)with
 | none=>
  have e:pF c x=c.pending:=by
   unfold pF;rw[List.filter_eq_self];simp_all
  dsimp only;rw[aR,aq,aA ⟨D,C⟩,aA C,aA ⟨D,E⟩,aA E,aA C,aA C];rw[anm _ (O _ (cM C)),ak,aA ⟨D,C⟩,aA C,Z,ak];exact wq _ e.symm _ hT.symm
 | some k=>
  have⟨k1,FW,hq⟩:=mY.1 hi;have e:=hu.cut hi;dsimp only;rw[aQ,au,bA,bJ ⟨by omega,by omega,by omega⟩,bJ ⟨by omega,by omega,by omega⟩];simp only[br,Int.toNat_zero,List.drop_zero,jX,iu];rw[cD (by simp;omega),au,cD (by simp;omega),au,aA ⟨D,C⟩,aA C,aA ⟨D,E⟩,aA E,aA C,aA C];rw[anm _ (O _ (cM C)),ak,aA ⟨D,C⟩,aA C,Z,ak];exact wq _ e _ hT.symm
def zM{U:Type}(f:U->Nat->U)(u:U)(k:Nat):(List.range (k+1)).foldl f u=f ((List.range k).foldl f u) k:=by
 rw[List.range_succ,List.foldl_append];rfl
def rz(g:aL)(l:jx)(a:cN)(b:Int)(n:Nat):cN:=(List.range n).foldl (λa (r:Nat)=>vw g l a b (r:Int)) a
def Ii{g:aL}(C:cA g=true)(l:jx){B:Int}(hB:0<=B){a:cN}(D:dO g B a){b:Int}(E:0<=b)(L:b<aY g):∀ n:Nat,(n:Int)<=g.rows->dO g B (rz g l a b n)
 |0,_=>D
 | n+1,h=>by
  unfold rz;rw[zM];exact abq C l hB (Ii C l hB D E L n (by omega)) E L (by omega) (by omega)
def anq{B:Int}(hB:0 <= B)(c:av)(C:cA c.config.az=true)(O:dO c.config.az B c.array){b:Int}(D:0 <= b)(E:b<aY c.config.az):TL c b=some ((),(cx c (rz c.config.az c.config.ep c.array b c.config.az.rows.toNat),())):=by
 have⟨_,_,_,_,T,U,Y,Z⟩:=fN C;have e:=cv (step:=NH) c.config.az.rows.toNat (λi=>(((),b,i,()),(cx c (rz _ _ _ b i),()))) _ aT (λk h=>by
  have L:=am4 C c.config.ep (cx c (rz c.config.az c.config.ep c.array b k)) (Ii C c.config.ep hB O D E k (by omega)) D E (show 0 <= (k:Int) by omega) (by omega);simp only[cx]at L;unfold NH cx ax xG;dsimp only;rw[aQ,au,L,ak,bA];dsimp only;unfold rz;rw[zM]) (by
  unfold NH cx ax xG;dsimp only;rw[aR,aq]) (bH)
 refine(bf (λo=>Option.bind o _) e).trans ?_
 rfl
def aFY{B:Int}(hB:0 <= B)(c:av)(C:cA c.config.az=true)(O:dO c.config.az B c.array){b:Int}(D:0 <= b)(E:b<aY c.config.az):ZL c.config.az c.config.ep c b=some ((),(cx c (rz c.config.az c.config.ep c.array b c.config.az.rows.toNat),())):=by
 have⟨_,_,_,_,T,U,Y,Z⟩:=fN C;have e:=cv (step:=Mk) c.config.az.rows.toNat (λi=>(((),b,(),(),i,()),(cx c _,(c.config.az.cg,c.config.az.aC,c.config.az.rows,c.config.az.aO,()),(c.config.ep.bD,c.config.ep.bC,()),()))) _ aT (λk h=>by
  have L:=am8 C c.config.ep (cx c (rz c.config.az c.config.ep c.array b k)) (Ii C c.config.ep hB O D E k (by omega)) D E (show 0 <= (k:Int) by omega) (by omega);simp only[cx]at L;unfold Mk cx ax xG;dsimp only;rw[aQ,au,L,ak,bA];dsimp only;unfold rz;rw[zM]) (by
  unfold Mk cx ax xG;dsimp only;rw[aR,aq]) (bH)
 refine(bf (λo=>Option.bind o _) e).trans ?_
 rfl
def OL(c:av)(b:Int)(pd:aa aJ):av:=
 ru (cx c (rz c.config.az c.config.ep c.array b c.config.az.rows.toNat)) (c.bL.set b.toNat (nN c.config.fZ)) (c.guard.set b.toNat c.box.bK.dK) pd
def anr(c:av)(L:aM c.config.fZ 1 16=true){b:Int}(C:0<=b)(D:b.toNat<c.bL.length)(E:b.toNat<c.guard.length):NJ c b=some ((),(ru c (c.bL.set b.toNat (nN c.config.fZ)) (c.guard.set b.toNat c.box.bK.dK) c.pending,())):=by
 unfold NJ xL;rw[ann L,ak,aA ⟨C,D⟩,aA D,aA ⟨C,E⟩,aA E];rfl
def aFZ(c:av)(b:Int)(D:c.pending.length <= 1000):iter GO aT (((),b,(),(0:Int),()),(c,([]:aa aJ),()))=some (.inl (((),(),()),(c,c.pending.filter (λa=>!(a.ay==b)),()))):=by
 have e:=cv (step:=GO) c.pending.length (λi=>(((),b,(),(i:Int),()),(c,(c.pending.take i).filter (λa=>!(a.ay==b)),()))) (.inl (((),(),()),(c,(c.pending.take c.pending.length).filter (λa=>!(a.ay==b)),()))) aT (λk h=>by
  have hl:=abL (λa:aJ=>!(a.ay==b)) (c.pending.take k);rw[fY]at hl;have C:c.pending.take (k+1)=c.pending.take k++[c.pending[k]]:=by rw[List.take_add_one,bY h];rfl
  rw[C,List.filter_append];generalize (c.pending.take k).filter (λa=>!(a.ay==b))=ls at hl;unfold GO ax xG xL;dsimp only;rw[aQ,au,aA ⟨by omega,by omega⟩,aA];simp only[br];rw[bA,bne];cases hb:c.pending[k].ay==b with
  |true=>rw[List.filter_cons_of_neg (by simp[hb])];simp
  | false=>
   rw[iw,aA ⟨by omega,by omega⟩,aA,cD (by simp;omega),List.filter_cons_of_pos (by simp[hb])];rfl) (by
  unfold GO ax xG xL;dsimp only;rw[aR,aq]) (bH)
 rw[cm,iu]at e;exact e
def ans{B:Int}(hB:0 <= B)(c:av)(O:cA c.config.az=true)(T:dO c.config.az B c.array)(U:aM c.config.fZ 1 16=true)(Z:c.pending.length <= 200){b:Int}(C:0 <= b)(Y:b<aY c.config.az)(D:b.toNat<c.bL.length)(E:b.toNat<c.guard.length):Ml c b=some ((),(OL c b (c.pending.filter (λa=>!(a.ay==b))),())):=by
 have L:=aFY hB c O T C Y;simp only[cx]at L;unfold Ml bh xL
 refine(bf (λo=>Option.bind o _) L).trans ?_
 rw[ak];rw[ano U,ak,aA ⟨C,D⟩,aA D,aA ⟨C,E⟩,aA E]
 refine(bf (λo=>Option.bind o _) (aFZ _ b (by dsimp only;omega))).trans ?_
 rfl
def gT(c:av)(k:Nat)(pd:aa aJ):av:=
 ⟨c.config,c.box,c.now,c.bq,c.ready,(List.range k).foldl (λa (b:Nat)=>rz c.config.az c.config.ep a (b:Int) c.config.az.rows.toNat) c.array,c.spare,⟨(List.range k).foldl (λd b=>d.set b 0) c.aV.aI,c.aV.wait,c.aV.dy⟩,(List.range k).foldl (λd b=>d.set b (nN c.config.fZ)) c.bL,(List.range k).foldl (λd b=>d.set b c.box.bK.dK) c.guard,pd,c.queue,c.shares,c.drain,c.bk,c.cB,c.errors,c.trace,c.cr⟩
def zN{T:Type}(x:T)(l:aa T):∀ k:Nat,((List.range k).foldl (λd b=>d.set b x) l).length=l.length
 |0=>rfl
 |k+1=>by rw[zM,eM,zN x l k]
def UM{g:aL}(C:cA g=true)(l:jx){B:Int}(hB:0 <= B){a:cN}(D:dO g B a):∀ k:Nat,(k:Int) <= aY g -> dO g B ((List.range k).foldl (λa (b:Nat)=>rz g l a (b:Int) g.rows.toNat) a)
 |0,_=>D
 | k+1,h=>by
  have⟨_,_,_,_,E,L,O,T⟩:=fN C;rw[zM];exact Ii C l hB (UM C l hB D k (by omega)) (by omega) (by omega) _ (by omega)
structure vF (B:Int) (c:av):Prop where
 hB:0<=B
 g:cA c.config.az=true
 a:dO c.config.az B c.array
 k:aM c.config.fZ 1 16=true
 p:c.pending.length<=200
 t:(c.bL.length:Int)=aY c.config.az
 d:(c.guard.length:Int)=aY c.config.az
 r:(c.aV.aI.length:Int)=aY c.config.az
def vF.UN{B:Int}{c:av}(h:vF B c)(k:Nat)(C:(k:Int)<=aY c.config.az)(pd:aa aJ)(D:pd.length<=200):vF B (gT c k pd):=
 ⟨h.hB,h.g,UM h.g c.config.ep h.hB h.a k C,h.k,D,(bf (λn:Nat=>(n:Int)) (zN _ _ k)).trans h.t,(bf (λn:Nat=>(n:Int)) (zN _ _ k)).trans h.d,(bf (λn:Nat=>(n:Int)) (zN _ _ k)).trans h.r⟩
def ant(c:av)(k:Nat)(pd C:aa aJ):gT c (k+1) C=⟨c.config,c.box,c.now,c.bq,c.ready,(OL (gT c k pd) (k:Int) C).array,c.spare,⟨(gT c k pd).aV.aI.set k 0,c.aV.wait,c.aV.dy⟩,(OL (gT c k pd) (k:Int) C).bL,(OL (gT c k pd) (k:Int) C).guard,C,c.queue,c.shares,c.drain,c.bk,c.cB,c.errors,c.trace,c.cr⟩:=by
 unfold gT;simp only[zM];rfl
def aF0{B:Int}{c:av}(h:vF B c):iter zm aT (((),(c.bL.length:Int),(0:Int),()),(gT c 0 [],()))=some (.inl ((),(gT c c.bL.length [],()))):=by
 have U:=eY c.config.az;have Y:=h.t;have e:=cv (step:=zm) c.bL.length (λi=>(((),c.bL.length,i,()),(gT c i [],()))) _ aT (λk Z=>by
  have C:=h.UN k (by omega) [] (by simp);have w1:=C.t;have E:=C.d;have L:=C.r;have D:aY (gT c k []).config.az=aY c.config.az:=rfl;rw[D]at w1 E L;have O:=anq C.hB _ C.g C.a (b:=(k:Int)) (by omega) (by rw[D];omega);have T:=anr (cx (gT c k []) (rz (gT c k []).config.az (gT c k []).config.ep (gT c k []).array (k:Int) (gT c k []).config.az.rows.toNat)) C.k (b:=(k:Int)) (by omega) (by show (k:Int).toNat<(gT c k []).bL.length;omega) (by show (k:Int).toNat<(gT c k []).guard.length;omega);rw[ant c k [] []];unfold zm ax xG xL;dsimp only;rw[aQ,au,O,ak,T,ak,bA];have w4:k<(gT c k []).aV.aI.length:=by omega
  rw[aA ⟨by omega,by show (k:Int).toNat<(gT c k []).aV.aI.length;omega⟩,aA (by show (k:Int).toNat<(gT c k []).aV.aI.length;omega)];rfl) (by
  unfold zm ax xG xL;dsimp only;rw[aR,aq]) (bH)
 simp_all
def rA(pd:aa aJ):Nat->aa aJ
 |0=>pd
 |k+1=>(rA pd k).filter (λa=>!(a.ay==(k:Int)))
def anu(pd:aa aJ):∀ k,(rA pd k).length<=pd.length
 |0=>dW _
 |k+1=>Nat.le_trans (abL _ _) (anu pd k)
def anv(pd:aa aJ){a:aJ}:∀ k,a∈rA pd k -> a∈pd /\ ∀ b:Nat,b<k -> a.ay≠(b:Int)
 |0,h=>⟨h,λb hb=>by omega⟩
 | k+1,h=>by
  have⟨C,D⟩:=List.mem_filter.1 h;have⟨E,L⟩:=anv pd k C
  grind
def aF1{pd:aa aJ}{k:Nat}(h:∀ a∈pd,0 <= a.ay/\a.ay<(k:Int)):rA pd k=[]:=by
 rw[List.eq_nil_iff_forall_not_mem];intro a C;have⟨D,E⟩:=anv pd k C;have:=h a D;exact E a.ay.toNat (by omega) (by omega)
def aF2{B:Int}{c:av}(h:vF B c)(hr:c.bq.aC.length=c.bL.length)(E:∀ a∈c.pending,0<=a.ay/\a.ay<aY c.config.az):iter DV aT (((),(0:Int),()),(c,()))=some (.inl ((),(gT c c.bL.length [],()))):=by
 have b1:=eY c.config.az;have htr:=h.t;have e:=cv (step:=DV) c.bL.length (λi=>(((),(i:Int),()),(gT c i (rA c.pending i),()))) (.inl ((),(gT c c.bL.length (rA c.pending c.bL.length),()))) aT (λk hk=>by
  have C:=h.UN k (by omega) (rA c.pending k) (Nat.le_trans (anu _ _) h.p);have w1:=C.t;have L:=C.d;have O:=C.r;have D:aY (gT c k (rA c.pending k)).config.az=aY c.config.az:=rfl;rw[D]at w1 L O;have T:=ans C.hB _ C.g C.a C.k C.p (b:=(k:Int)) (by omega) (by rw[D];omega) (by omega) (by omega);rw[ant c k (rA c.pending k) (rA c.pending (k+1))];unfold DV ax xG xL;dsimp only;rw[aQ (by show (k:Int)<((c.bq.aC.length:Nat):Int);omega),au,T,ak,bA];rw[aA ⟨by omega,by show (k:Int).toNat<(gT c k (rA c.pending k)).aV.aI.length;omega⟩,aA (by show (k:Int).toNat<(gT c k (rA c.pending k)).aV.aI.length;omega)];rfl) (by
  unfold DV ax xG xL;dsimp only;rw[aR (by show ¬ ((c.bL.length:Nat):Int)<((c.bq.aC.length:Nat):Int);omega),aq]) (bH)
 have U:rA c.pending c.bL.length=[]:=aF1 (λa Y=>by have:=E a Y;omega);have Z:gT c 0 (rA c.pending 0)=c:=rfl;rw[cm,U,Z]at e;exact e
def wv(l:aa Int):Nat->Int
 |0=>0
 |i+1=>bits .or .i64 (wv l i) (W6 (l.getD i 0*2 ^ (min (4*(i:Int)).toNat IntKind.i64.bits)))
def anw{l:aa Int}(h:l.length=8)(C:∀ s∈l,0 <= s/\s <= 15):tJ l 8=true:=by
 simp[tJ,aS,cw,wW,bB];simp_all
def aF3{l:aa Int}(h:l.length=8)(D:∀ s∈l,0<=s/\s<=15):Te l=some (wv l 8,true):=by
 unfold Te bh;rw[alK _ _ (by omega),anw h D,ak];have e:=cv (step:=Nk) 8 (λi=>((wv l i,l,(l.length:Int),(i:Int),()),())) (.inl ((wv l 8,()),())) aT (λi hi=>by
  have C:i<l.length:=by omega
  have E:W6 (4*(i:Int))=4*(i:Int):=aK;have L:¬ 4*(i:Int)<0:=by omega
  have O:l.getD i 0=l[i]:=by rw[fA,bY C];rfl
  have T:wv l (i+1)=bits .or .i64 (wv l i) (W6 (l.getD i 0*2 ^ (min (4*(i:Int)).toNat IntKind.i64.bits))):=rfl;unfold Nk ax xG xI;rw[T,O];simp (disch:=omega) [C,E,L,bA]) (by unfold Nk ax xG xI;simp[h]) (bH)
 rw[cm]at e;simp only[bg,aq];have U:wv l 0=0:=rfl;rw[U]at e;rw[e];rfl
def aF4{l:aa Int}(h:l.length=8)(D:∀ s∈l,0<=s/\s<=15):RQ l=some (wv l 8,true):=by
 unfold RQ bh;rw[Ue _ _ (by omega),anw h D,ak];have e:=cv (step:=LC) 8 (λi=>((l,wv l i,(i:Int),()),())) (.inl ((wv l 8,()),())) aT (λi hi=>by
  have C:i<l.length:=by omega
  have E:W6 (4*(i:Int))=4*(i:Int):=aK;have L:IntKind.u64.wrap (4*(i:Int))=4*(i:Int):=amF (by omega) (by omega);have O:¬ 4*(i:Int)<0:=by omega
  have T:l.getD i 0=l[i]:=by rw[fA,bY C];rfl
  have U:wv l (i+1)=bits .or .i64 (wv l i) (W6 (l.getD i 0*2 ^ (min (4*(i:Int)).toNat IntKind.i64.bits))):=rfl;unfold LC ax xG xI;rw[U,T];simp (disch:=omega) [C,E,L,O,bA]) (by unfold LC ax xG xI;simp[h]) (bH)
 rw[cm]at e;simp only[bg,aq];have Y:wv l 0=0:=rfl;rw[Y]at e;rw[e];rfl
def aF5{w:aa Nat}(D:dY w)(hl:w.length=11):RR (bz w)=some (bz (w.drop 3)):=by
 have E:=(N6 D hl).ok;have hlen:(bz w).length=11:=by rw[iB,hl]
 have C:(bz w).drop 3=bz (w.drop 3):=by simp
 unfold RR xA xZ;rw[Ue _ _ (by rw[iB];omega),E];generalize bz w=W at hlen C ⊢;rw[<- C];have L:W.take 11=W:=by rw[<- hlen,iu]
 simp[hlen,bI,L]
def anx{w:aa Nat}(D:dY w)(hl:w.length=11):(bz (w.drop 3)).length=8 /\ ∀ s∈bz (w.drop 3),0 <= s/\s <= 15:=by
 refine⟨by rw[iB];simp[hl],λs C=>?_⟩
 simp only[ List.mem_map]at C;obtain⟨x,E,rfl⟩:=C;have:=D x (List.mem_of_mem_drop E);omega
def B5(w:aa Nat):Int:=bif (gJ w).2.1==2 then 0 else wv (bz ((gJ w).1.drop 3)) 8
def aF6{w:aa Nat}(C:dY w)(hl:w.length=11):Tg (bz w)=some (B5 w,(gJ w).2.1,(gJ w).2.2):=by
 have⟨D,E,_⟩:=EI C hl;have⟨d1,d2⟩:=anx E D;unfold Tg B5;rw[amI C hl,ak];cases h:(gJ w).2.1==2 with
 |true=>simp
 | false=>
  rw[ aDO E D,ak,aF3 d1 d2];rfl
def aF7{w:aa Nat}(C:dY w)(hl:w.length=11):RS (bz w)=some (B5 w,(gJ w).2.1,(gJ w).2.2):=by
 have⟨D,E,_⟩:=EI C hl;have⟨d1,d2⟩:=anx E D;unfold RS B5;rw[aDH C hl,ak];cases h:(gJ w).2.1==2 with
 |true=>simp
 | false=>
  rw[ aF5 E D,ak,aF4 d1 d2];rfl
def nw(c:bN):aa Nat:=c.symbols.map Int.toNat
def UO{c:bN}(h:Sy c.symbols):bz (nw c)=c.symbols/\dY (nw c)/\(nw c).length=11:=by
 have⟨C,D⟩:=aaC _ h.2;exact⟨C,D,by simp[nw,h.1]⟩
def jG(c:bN):Int:=bif c.hG then 2 else (gJ (nw c)).2.1
def mw(c:bN):bN:=bif c.hG then c else bif (gJ (nw c)).2.1==1 then ⟨bz (gJ (nw c)).1,c.hG⟩else bif (gJ (nw c)).2.1==2 then ⟨c.symbols,true⟩else c
def aF8{l:aa bN}{j:Nat}(h:j<l.length):l.set j l[j]=l:=List.set_getElem_self h
def UP{c:bN}(h:Sy c.symbols):Sy (mw c).symbols:=by
 have⟨O,C,D⟩:=UO h;have⟨E,L,_⟩:=EI C D;unfold mw;cases c.hG with
 |true=>exact h
 | false=>
  cases (gJ _).2.1==1 with
  |true=>exact N6 L E
  |false=>grind
def Ij(x:Int)(k:Nat):Int:=bits .and .i64 (x.fdiv (2 ^ (min (4*(k:Int)).toNat IntKind.i64.bits))) 15
def lD(x:Int):Nat->aa Int
 |0=>[]
 |k+1=>lD x k++[Ij x k]
def OM(x:Int):∀ k,(lD x k).length=k
 |0=>rfl
 |k+1=>by simp[lD,OM x k]
def abM(x:Int):∀ k,∀ s∈lD x k,0<=s/\s<=15
 |0,s,h=>by cases h
 | k+1,s,h=>by
  rcases List.mem_append.1 h with h|h
  ·exact abM x k s h
  ·rw[List.mem_singleton.1 h];exact aDz _
def aF9{x:Int}(Y:0<=x)(Z:x<=4294967295):RT x=some (lD x 8):=by
 have C:aM x 0 4294967295=true:=by rw[bB];omega
 unfold RT bh;have e:=cv (step:=LG) 8 (λk=>((x,(),(k:Int),()),(lD x k,()))) (.inl (((),()),(lD x 8,()))) aT (λk hk=>by
  have D:(k:Int)<8:=by omega
  have E:bI ((lD x k).length+1)=true:=cD (by rw[OM];omega);have L:W6 (4*(k:Int))=4*(k:Int):=aK;have O:IntKind.u64.wrap (4*(k:Int))=4*(k:Int):=amF (by omega) (by omega);have T:¬ 4*(k:Int)<0:=by omega
  unfold LG LF ax xG;simp (disch:=omega) [D,eS,C,L,O,T,E,bA,lD,Ij]) (by
  unfold LG ax xG;simp) (bH)
 rw[cm]at e;have U:lD x 0=[]:=rfl;rw[U]at e;rw[e];rfl
def aGa{x:Int}(U:0<=x)(Y:x<=4294967295):TN x=some (lD x 8):=by
 have C:aM x 0 4294967295=true:=by rw[bB];omega
 unfold TN D7 bh;rw[cW,ak,ak,C,bg,aq];have e:=cv (step:=NL) 8 (λk=>((x,(),(k:Int),()),(lD x k,()))) (.inl (((),()),(lD x 8,()))) aT (λk Z=>by
  have D:(k:Int)<8:=by omega
  have E:bI ((lD x k).length+1)=true:=cD (by rw[OM];omega);have L:W6 (4*(k:Int))=4*(k:Int):=aK;have O:¬ 4*(k:Int)<0:=by omega
  unfold NL ax xG;simp (disch:=omega) [D,L,O,E,bA,lD,Ij]) (by
  unfold NL ax xG;simp) (bH)
 rw[cm]at e;have T:lD x 0=[]:=rfl;rw[T]at e;rw[e];rfl
def anz:(jC λx=>jC λy=>jC λz=>(λC D E=>Nat.beq (gm (gm 2 (C ^^^ D) ^^^ gm 5 (C ^^^ E)) 13) y&&(Nat.beq (gm (gm 3 (C ^^^ E) ^^^ gm 5 (C ^^^ D)) 13) z&&Nat.beq (C ^^^ (y ^^^ z)) x)) (gm x (pw 0) ^^^ (gm y (pw 0) ^^^ gm z (pw 0))) (gm x (pw 0) ^^^ (gm y (pw 1) ^^^ gm z (pw 2))) (gm x (pw 0) ^^^ (gm y (pw 2) ^^^ gm z (pw 4))))=true:=by kernel_rfl
def aGb{x y z:Nat}{d:aa Nat}(j:Nat):bT (x :: y :: z :: d) j 11=(gm x (pw (0*j)) ^^^ (gm y (pw (1*j)) ^^^ gm z (pw (2*j)))) ^^^ bT (0 :: 0 :: 0 :: d) j 11:=by
 simp[bT,List.getD_cons_zero,List.getD_cons_succ,Nat.xor_assoc,Nat.zero_xor,Uc (va _)]
def Ik{a b:Nat}(h:a ^^^ b=0):a=b:=by
 have C:(a ^^^ b) ^^^ b=0 ^^^ b:=by rw[h]
 grind
def anA{w v:aa Nat}(L:dY w)(O:dY v)(lw:w.length=11)(lv:v.length=11)(T:w.drop 3=v.drop 3)(zw:oD w=true)(zv:oD v=true):w=v:=by
 obtain⟨x,y,z,d,rfl⟩:∃ x y z d,w=x :: y :: z :: d:=by
  match w,lw with
  |x::y::z::d,_=>simp_all
 obtain⟨C,D,E,d',rfl⟩:∃ x y z d,v=x :: y :: z :: d:=by
  match v,lv with
  |x::y::z::d,_=>simp_all
 have T:d=d':=T;subst T;simp only[oD,aS]at zw zv;have⟨w0,w1,U⟩:=zw;have⟨Y,Z,v2⟩:=zv;rw[aGb]at w0 w1 U Y Z v2;have w0:gm x (pw 0) ^^^ (gm y (pw 0) ^^^ gm z (pw 0))=bT (0::0::0::d) 0 11:=Ik (cK w0);have w1:gm x (pw 0) ^^^ (gm y (pw 1) ^^^ gm z (pw 2))=bT (0::0::0::d) 1 11:=Ik (cK w1);have U:gm x (pw 0) ^^^ (gm y (pw 2) ^^^ gm z (pw 4))=bT (0::0::0::d) 2 11:=Ik (cK U);have Y:gm C (pw 0) ^^^ (gm D (pw 0) ^^^ gm E (pw 0))=bT (0::0::0::d) 0 11:=Ik (cK Y);have Z:gm C (pw 0) ^^^ (gm D (pw 1) ^^^ gm E (pw 2))=bT (0::0::0::d) 1 11:=Ik (cK Z);have v2:gm C (pw 0) ^^^ (gm D (pw 2) ^^^ gm E (pw 4))=bT (0::0::0::d) 2 11:=Ik (cK v2);have m:∀{l:aa Nat} {n:Nat},dY l -> n∈l -> n<16:=λh hn=>h _ hn
 have k1:=gS (gS (gS anz (m L (n:=x) (by simp))) (m L (n:=y) (by simp))) (m L (n:=z) (by simp));have k2:=gS (gS (gS anz (m O (n:=C) (by simp))) (m O (n:=D) (by simp))) (m O (n:=E) (by simp));simp_all
def anB(w r:aa Nat):∀ k,k<=3->(rm w r k).drop 3=w.drop 3
 |0,_=>rfl
 | k+1,h=>by
  show (List.set _ _ _).drop 3=_;rw[List.drop_set_of_lt (by omega),anB w r k (by omega)]
def abN{a b:aa Nat}(h:bz a=bz b):a=b:=(List.map_inj_right (λx y h=>by
 omega)).1 h
def aGc{d:aa Nat}(D:dY d)(hl:d.length=8):∃ w,A0 (bz d)=some (bz w)/\w.length=11/\dY w/\w.drop 3=d/\oD w=true:=by
 have E:dY (0 :: 0 :: 0 :: d):=by
  intro x hx;simp only[iG]at hx;rcases hx with rfl|rfl|rfl|hx
  ·decide
  ·decide
  ·decide
  ·exact D x hx
 have C:(0::0::0::d).length=11:=by simp[hl]
 obtain⟨w,e,L,O,T,U,Y⟩:=aCk D hl;refine⟨w,e,L,O,?_,by simp[oD,T,U,Y]⟩;have Z:A0 (bz d)=some (bz (rm (0 :: 0 :: 0 :: d) (out (0 :: 0 :: 0 :: d) 8) 3)):=by
  unfold A0 xA bh xZ;have c0:((d.length:Int)==(8:Int))=true:=by rw[hl];rfl
  have c1:bI ((List.replicate (3:Int).toNat (0:Int)).length+(bz d).length)=true:=by
   rw[iB,hl];rfl
  have c2:bI (([]:aa Int).length+(bz (0 :: 0 :: 0 :: d)).length)=true:=by
   rw[iB,C];rfl
  have c3:W6 (((bz (0 :: 0 :: 0 :: d)).length:Int)-(1:Int))=10:=by
   rw[iB,C];rfl
  have eW:List.replicate (3:Int).toNat (0:Int)++bz d=bz (0::0::0::d):=rfl;rw[alC D (by omega),ak,c0,show (!true)=false from rfl,aq,bJ (by decide),c1,au,eW,alB,ak,eC];dsimp only;rw[jX,c2,au,c3,alD E C,ak,eC];dsimp only;rw[alJ C (by rw[Eu,C]),ak,eC]
 rw[Z]at e;injection e with e;rw[<-abN e,anB _ _ 3 (dW _)];rfl
def EP(x:Int):aa Int:=(Bt x).getD []
def ON{x:Int}(E:0 <= x)(L:x <= 4294967295):Bt x=some (EP x)/\Sy (EP x) /\ ∃ w,EP x=bz w/\w.length=11/\dY w/\bz (w.drop 3)=lD x 8/\oD w=true:=by
 have O:aM x 0 4294967295=true:=by rw[bB];omega
 have⟨t1,t2⟩:=aaC _ (abM x 8);have tl:((lD x 8).map Int.toNat).length=8:=by rw[eK,OM]
 have⟨w,C,l1,d1,T,U,Y,Z⟩:=aCa t2 tl;have z1:oD w=true:=by simp[oD,U,Y,Z]
 rw[t1]at C;have D:Bt x=some (bz w):=by
  unfold Bt D7;rw[cW,ak,ak,O,bg,aq,aGa E L,ak,C,ak]
 have ee:EP x=bz w:=by unfold EP;rw[D];rfl
 rw[ee];exact⟨D,N6 d1 l1,w,rfl,l1,d1,by rw[T,t1],z1⟩
def anC{x:Int}(C:0 <= x)(D:x <= 4294967295):Gx x=some (EP x):=by
 have⟨t1,t2⟩:=aaC _ (abM x 8);have tl:((lD x 8).map Int.toNat).length=8:=by rw[eK,OM]
 have⟨_,_,w,L,l1,d1,O,T⟩:=ON C D;have⟨v,E,l2,d2,U,Y⟩:=aGc t2 tl;have Z:=anA d1 d2 l1 l2 (by rw[U];exact abN (by rw[O,t1])) T Y;subst Z;rw[t1]at E;unfold Gx;rw[aF9 C D,ak,E,ak,L]
def aGd{a b:Nat}(E:a<9223372036854775808)(hb:b<9223372036854775808):bits .or .i64 (a:Int) (b:Int)=((a ||| b:Nat):Int):=by
 have e:bits .or .i64 (a:Int) (b:Int)=W6 ((BitVec.ofInt 64 (a:Int) |||BitVec.ofInt 64 (b:Int)).toNat:Int):=rfl;have h:a |||b<2 ^ 63:=Nat.or_lt_two_pow (by omega) (by omega);have C:BitVec.ofInt 64 (a:Int)=BitVec.ofNat 64 a:=BitVec.ofInt_natCast 64 a;have D:BitVec.ofInt 64 (b:Int)=BitVec.ofNat 64 b:=BitVec.ofInt_natCast 64 b;rw[e,C,D,BitVec.toNat_or,BitVec.toNat_ofNat,BitVec.toNat_ofNat,Nat.mod_eq_of_lt (by omega),Nat.mod_eq_of_lt (by omega),aK]
def aGe(a:Nat)(L:a<9223372036854775808):bits .and .i64 (a:Int) 15=((a % 16:Nat):Int):=by
 have e:bits .and .i64 (a:Int) 15=W6 ((BitVec.ofInt 64 (a:Int) &&& BitVec.ofInt 64 15).toNat:Int):=rfl;have C:BitVec.ofInt 64 (a:Int)=BitVec.ofNat 64 a:=BitVec.ofInt_natCast 64 a;have D:(BitVec.ofInt 64 15).toNat=15:=rfl;have E:a &&& 15=a % 16:=Nat.and_two_pow_sub_one_eq_mod a 4;rw[e,C,BitVec.toNat_and,BitVec.toNat_ofNat,Nat.mod_eq_of_lt (by omega),D,E,aK]
def nv(d:aa Nat):Nat->Nat
 |0=>0
 |k+1=>nv d k+d.getD k 0*16 ^ k
def OO{d:aa Nat}(C:dY d):∀ k,nv d k<16 ^ k
 |0=>Nat.one_pos
 | k+1=>by
  have D:=OO C k;have E:=C.get k;have L:d.getD k 0*16 ^ k <= 15*16 ^ k:=iW _ (by omega);show nv d k+d.getD k 0*16 ^ k<16 ^ (k+1)
  grind
def anD(k:Nat)(C:k<8):(min (4*(k:Int)).toNat IntKind.i64.bits)=4*k:=by
 have:IntKind.i64.bits=64:=rfl;rw[this];omega
def abO{d:aa Nat}(C:dY d)(hl:d.length=8):∀ k,k<=8->wv (bz d) k=(nv d k:Int)
 |0,_=>rfl
 | k+1,h=>by
  have E:=OO C k;have T:=C.get k;have U:(16:Nat) ^ k<=16 ^ 7:=Nat.pow_le_pow_right (by decide) (by omega);have D:(2:Nat) ^ (4*k)=16 ^ k:=by rw[Nat.pow_mul]
  have Y:d.getD k 0*16 ^ k<=15*16 ^ k:=iW _ (by omega);have L:(bz d).getD k 0=((d.getD k 0:Nat):Int):=by
   rw[fA,bY (by rw[iB];omega)];exact vb (by rw[iB];omega)
  have O:((d.getD k 0:Nat):Int)*2 ^ (4*k)=((d.getD k 0*16 ^ k:Nat):Int):=by
   rw[<-D]
   push_cast
   rfl
  show bits .or .i64 (wv (bz d) k) (W6 ((bz d).getD k 0*2 ^ (min (4*(k:Int)).toNat IntKind.i64.bits)))=((nv d k+d.getD k 0*16 ^ k:Nat):Int)
  rw[abO C hl k (by omega),anD k (by omega),L,O,aK,aGd (by omega) (by omega)];congr 1;have:=Nat.two_pow_add_eq_or_of_lt (i:=4*k) (b:=nv d k) (by rw[D];exact E) (d.getD k 0);rw[D,Nat.mul_comm]at this;rw[Nat.or_comm,<-this];omega
def anE{d:aa Nat}(C:dY d):∀ n k,k<n -> nv d n / 16 ^ k % 16=d.getD k 0
 |0,k,h=>by omega
 | n+1,k,h=>by
  have D:=OO C n;have L:=C.get n;show (nv d n+d.getD n 0*16 ^ n) / 16 ^ k % 16=_;by_cases e:k=n
  ·subst e;rw[Nat.add_mul_div_right _ _ (Nat.pow_pos (by decide)),Nat.div_eq_of_lt D,fT];omega
  ·have O:n=(n-k-1)+1+k:=by omega
   have E:d.getD n 0*16 ^ n=(d.getD n 0*16 ^ (n-k-1)*16)*16 ^ k:=by
    grind
   rw[E,Nat.add_mul_div_right _ _ (Nat.pow_pos (by decide)),Nat.add_mul_mod_self_right,anE C n k (by omega)]
def aGf{d:aa Nat}(C:dY d)(hl:d.length=8):lD (wv (bz d) 8) 8=bz d:=by
 have O:nv d 8<16 ^ 8:=OO C 8;rw[abO C hl 8 (dW _)];have key:∀ k,k <= 8 -> lD (nv d 8:Int) k=bz (d.take k):=by
  intro k
  induction k with
  |zero=>intro _;rfl
  | succ k D=>
   intro T;have U:(2:Nat) ^ (4*k)=16 ^ k:=by rw[Nat.pow_mul]
   have E:(nv d 8:Int).fdiv (2 ^ (4*k))=((nv d 8 / 16 ^ k:Nat):Int):=by
    grind
   have L:Ij (nv d 8:Int) k=((d.getD k 0:Nat):Int):=by
    unfold Ij;rw[anD k (by omega),E,aGe _ (Nat.lt_of_le_of_lt (Nat.div_le_self _ _) (by omega)),anE C 8 k (by omega)]
   show lD (nv d 8:Int) k++[Ij (nv d 8:Int) k]=_;rw[D (by omega),L,List.take_add_one,bY (by omega),fA,bY (by omega)];exact(List.map_append (f:=λn:Nat=>(n:Int)) (l₁:=d.take k) (l₂:=[d[k]])).symm
 rw[key 8 (dW _),<- hl,iu]
def aGg{d:aa Nat}(C:dY d)(hl:d.length=8):0 <= wv (bz d) 8/\wv (bz d) 8 <= 4294967295:=by
 have D:=OO C 8;rw[abO C hl 8 (dW _)];omega
def aGh{w:aa Nat}(C:dY w)(hl:w.length=11)(h:(gJ w).2.1=1):Gx (B5 w)=some (bz (gJ w).1):=by
 have⟨D,E,_⟩:=EI C hl;have Z:=aDN C hl (by omega);have L:dY ((gJ w).1.drop 3):=λx hx=>E x (List.mem_of_mem_drop hx)
 have O:((gJ w).1.drop 3).length=8:=by rw[List.length_drop,D]
 have he:B5 w=wv (bz ((gJ w).1.drop 3)) 8:=by
  unfold B5;simp_all
 have⟨T,U⟩:=aGg L O;have e2:=anC T U;have⟨_,_,v,ev,vl,v16,Y,vz⟩:=ON T U;rw[aGf L O]at Y;have:=anA v16 E vl D (abN Y) vz Z;simp_all
def OP(d:bN):Int:=bif d.hG then 0 else B5 (nw d)
def oE(c:av)(j:Nat)(d:bN):av:=cx c ⟨c.array.cells.set j d,c.array.bD,c.array.bC⟩
def anF{c:av}{j:Nat}(h:j<c.array.cells.length):oE c j c.array.cells[j]=c:=by
 unfold oE cx;rw[aF8 h]
def abP{c:av}{j:Nat}(C:j<c.array.cells.length)(T:Sy c.array.cells[j].symbols):zl c (j:Int)=some ((OP c.array.cells[j],jG c.array.cells[j]),(oE c j (mw c.array.cells[j]),())):=by
 have⟨U,D,E⟩:=UO T;have L:=amI D E;have O:=aF6 D E;rw[U]at L O;have Z:=anF C;unfold zl jG mw OP xL xM;rw[aA ⟨by omega,by omega⟩,aA];simp only[br];cases Y:c.array.cells[j].hG with
 |true =>simp_all
 | false=>
  rw[aq,aq,aq,aq,aA C,aA C,L,ak,aA C,aA C,O,ak];dsimp only;rcases(EI D E).2.2 with q|q|q
  ·grind
  ·rw[q,en,aA C,Y];rfl
  ·rw[q,kA (by omega),aq,en,aA C];rfl
def anG{c:av}{j:Nat}(C:j<c.array.cells.length)(O:Sy c.array.cells[j].symbols):DU c (j:Int)=some ((OP c.array.cells[j],jG c.array.cells[j]),(oE c j (mw c.array.cells[j]),())):=by
 have⟨T,D,E⟩:=UO O;have L:=aF7 D E;rw[T]at L;have Y:=anF C;unfold DU jG mw OP xL xM;rw[aA ⟨by omega,by omega⟩,aA];simp only[br];cases U:c.array.cells[j].hG with
 |true =>simp_all
 | false=>
  rw[aq,aq,aq,aq,aA C,L,ak];dsimp only;rcases(EI D E).2.2 with q|q|q
  ·grind
  ·rw[q,en,aGh D E q,ak,aA ⟨by omega,C⟩,aA C,kA (by omega),aq,U];rfl
  ·rw[q,kA (by omega),en,aq,aA ⟨by omega,C⟩,aA C];rfl
def vG(q:aa aN)(i:Nat):Bool:=match q[i]? with
 |some r=>(q.take i).any λx=>x.line==r.line
 |none=>false
def anH{q:aa aN}{i:Nat}(h:i<q.length):vG q i=(q.take i).any λx=>x.line==q[i].line:=by
 unfold vG;rw[bY h]
def aGi{α:Type}(p:α -> Bool)(q:aa α)(i:Nat)(hi:i <= q.length):dj p (q.take i)=min (dj p q) i:=by
 have O:=tN p q;have D:=tN p (q.take i);rw[fY,Nat.min_eq_left hi]at D;rcases Nat.lt_or_ge (dj p (q.take i)) i with h|h
 ·have E:dj p (q.take i)<(q.take i).length:=by rw[fY,Nat.min_eq_left hi];exact h
  have L:=qv E;rw[List.getElem_take]at L;rcases Nat.lt_or_ge (dj p q) (dj p (q.take i))with h5|h5
  ·have h6:=qv (p:=p) (q:=q) (by omega);have C:=mU h5 (by rw[fY];omega);simp_all
  ·rcases Nat.lt_or_ge (dj p (q.take i)) (dj p q)with h6 | h6
   ·have C:=mU h6 (by omega);simp_all
   ·omega
 ·have e:dj p (q.take i)=i:=by omega
  rw[e];rcases Nat.lt_or_ge (dj p q) i with h5|h5
  ·have h6:=qv (p:=p) (q:=q) (by omega);have C:=mU (p:=p) (q:=q.take i) (i:=dj p q) (by omega) (by rw[fY];omega);simp_all
  ·omega
def aGj{q:aa aN}{i:Nat}(h:i<q.length)(L:q.length <= 1000):Tu q (i:Int)=some (vG q i):=by
 have O:=tN (λx:aN=>x.line==q[i].line) (q.take i);have hlen:(q.take i).length=i:=by rw[fY];omega
 unfold Tu bE;rw[cW,ak,OG (by omega) (by omega) (by omega),bg,aq,bJ ⟨by omega,by omega,by omega⟩,anH h,H7];simp only[br,Int.toNat_zero,List.drop_zero];generalize T:q.take i=t at *
 have e:=cv (step:=Hq) (dj (λx:aN=>x.line==q[i].line) t) (λj=>((q,(i:Int),t,(t.length:Int),(j:Int),()),())) (if dj (λx:aN=>x.line==q[i].line) t<t.length then .inl ((true,()),())else .inr (.inl ((),()))) aT (λk E=>by
  have D:=mU E (by omega);unfold Hq ax aU xG xI;dsimp only;rw[aQ,au,aA ⟨by omega,by omega⟩,aA ⟨by omega,by omega⟩];simp only[br];rw[D,aq,bA]) (by
  by_cases C:dj (λx:aN=>x.line==q[i].line) t<t.length
  ·have D:=qv C;unfold Hq ax aU xG xI;dsimp only;rw[aQ,au,aA ⟨by omega,by omega⟩,aA ⟨by omega,by omega⟩]
   grind
  ·unfold Hq ax aU xG xI;dsimp only;rw[aR,aq,bQ C]) (bH)
 rw[cm]at e
 refine(bf (λo=>Option.bind o _) e).trans ?_
 by_cases C:dj (λx:aN=>x.line==q[i].line) t<t.length
 ·rw[bJ C,aQ C];rfl
 ·rw[bQ C,aR C];rfl
def anI{q:aa aN}{i:Nat}(h:i<q.length)(E:q.length <= 1000):LV q (i:Int)=some (vG q i):=by
 have L:=aGi (λx:aN=>x.line==q[i].line) q i (by omega);have O:=tN (λx:aN=>x.line==q[i].line) (q.take i);have hlen:(q.take i).length=i:=by rw[fY];omega
 unfold LV bE;rw[anH h,H7,hlen];generalize T:dj (λx:aN=>x.line==q[i].line) (q.take i)=n at *
 have e:=cv (step:=GF) n (λj=>((q,(i:Int),(j:Int),()),())) (if n<i then .inl ((true,()),())else .inr (.inl ((),()))) aT (λk U=>by
  have D:=mU (p:=λx:aN=>x.line==q[i].line) (q:=q) (i:=k) (by omega) (by omega);unfold GF ax aU xG xI;dsimp only;rw[aQ,au,aQ,au,aA ⟨by omega,by omega⟩,aA ⟨by omega,by omega⟩];simp only[br];rw[D,aq,bA]) (by
  by_cases C:n<i
  ·have D:((q[n]'(by omega)).line==q[i].line)=true:=by
    have Y:dj (λx:aN=>x.line==q[i].line) q=n:=by omega
    have:=qv (p:=λx:aN=>x.line==q[i].line) (q:=q) (by omega)
    grind
   unfold GF ax aU xG xI;dsimp only;rw[aQ,au,aQ,au,aA ⟨by omega,by omega⟩,aA ⟨by omega,by omega⟩]
   grind
  ·unfold GF ax aU xG xI;dsimp only;rw[aR,aq,bQ C]) (bH)
 rw[cm]at e
 refine(bf (λo=>Option.bind o _) e).trans ?_
 by_cases C:n<i
 ·rw[bJ C,aQ C];rfl
 ·rw[bQ C,aR C];rfl
def B6(d:gV)(n:Int)(w:Bool):Bool:=bif w then d.on ||decide (n<1)else !d.on
def aGk{d:gV}(n:Int)(w:Bool)(h:me d=true):Tv d n w=some (B6 d n w):=by
 unfold Tv B6;rw[Oc,h]
 grind
def aGl{d:gV}(n:Int)(w:Bool)(h:me d=true):R7 d n w=some (B6 d n w):=by
 unfold R7 B6;rw[aaL,h]
 grind
def B7(p:Nat->Bool)(k:Nat):Int:=((List.range k).countP p:Nat)
def UQ(p:Nat -> Bool)(k:Nat):B7 p (k+1)=B7 p k+(bif p k then 1 else 0):=by
 unfold B7;rw[List.range_succ,List.countP_append,List.countP_singleton]
 grind
def UR(p:Nat -> Bool)(k:Nat):0 <= B7 p k/\B7 p k <= k:=by
 unfold B7;have:=List.countP_le_length (p:=p) (l:=List.range k);simp_all
def sI(f:Nat->Bool)(n k:Nat):aa Bool:=(List.range k).map f++List.replicate (n-k) false
def US{f:Nat->Bool}{n k:Nat}(h:k<=n):(sI f n k).length=n:=by unfold sI;simp;omega
def UT{f:Nat -> Bool}{n k:Nat}(h:k<n):(sI f n k).set k (f k)=sI f n (k+1):=by
 unfold sI;rw[List.set_append_right _ _ (by simp),eK,di,Nat.sub_self,show n-k=(n-(k+1))+1 by omega,List.replicate_succ,List.range_succ,List.map_append,List.append_assoc];rfl
def abQ(f:Nat->Bool)(n:Nat):sI f n 0=List.replicate n false:=rfl
def UU(f:Nat->Bool)(n:Nat):sI f n n=(List.range n).map f:=by unfold sI;simp
def zO{f:Nat->Bool}{n k:Nat}(h:k<n)(C:k<((List.range n).map f).length):((List.range n).map f)[k]=f k:=by simp
def rB(q:aa aN)(i:Nat):Bool:=match q[i]? with
 |some r=>r.write
 |none=>false
def ER{q:aa aN}{i:Nat}(h:i<q.length):rB q i=q[i].write:=by
 unfold rB;rw[bY h]
def lE(q:aa aN)(i:Nat):Bool:=!vG q i
def rC(q:aa aN)(k:Nat):Int:=B7 (λi=>lE q i && !rB q i) k
def sJ(q:aa aN)(k:Nat):Int:=B7 (λi=>lE q i&&rB q i) k
def iD(c:av)(i:Nat):Bool:=lE c.queue i&&(B6 c.drain (rC c.queue c.queue.length) (rB c.queue i) ||(!rB c.queue i&&sJ c.queue c.queue.length==0))
def aGm{c:av}(h:Pq c):R8 c=some ((List.range c.queue.length).map (iD c)):=by
 have L:=h.ql;have e:=cv (step:=LW) c.queue.length (λi=>((c,rC c.queue i,sJ c.queue i,(i:Int),()),())) (.inl ((c,rC c.queue c.queue.length,sJ c.queue c.queue.length,()),())) aT (λk C=>by
  have O:=UR (λi=>lE c.queue i && !rB c.queue i) k;have T:=UR (λi=>lE c.queue i&&rB c.queue i) k;unfold LW ax xG xI;dsimp only;rw[aQ,au,anI C (by omega),ak,bA];unfold rC sJ at *
  have E:lE c.queue k = !vG c.queue k:=rfl;rw[UQ,UQ];simp only[E,ER C];cases vG c.queue k with
  |true=>simp
  | false=>
   rw[aq,aA ⟨by omega,by omega⟩];simp only[br];cases c.queue[k].write with
   |true=>rw[au,aK];simp[lE]
   |false=>rw[aq,aK];simp[lE]) (by
  unfold LW ax xG xI;dsimp only;rw[aR,aq]) (bH)
 have D:=cv (step:=LX) c.queue.length (λi=>((c,rC c.queue c.queue.length,sJ c.queue c.queue.length,(),(i:Int),()),((List.range i).map (iD c),()))) (.inl (((),()),((List.range c.queue.length).map (iD c),()))) aT (λk C=>by
  have hl:((List.range k).map (iD c)).length=k:=by simp
  unfold LX ax xG xI;dsimp only;rw[aQ,au,aA ⟨by omega,by omega⟩,anI C (by omega),ak,bA,List.range_succ,List.map_append,hl,List.map_singleton];simp only[br,lV,cD (show k+1<1073741824 by omega),au,aGl _ _ h.dr,ak];unfold iD lE;rw[ER C];cases vG c.queue k<;>cases c.queue[k].write<;>cases B6 c.drain (rC c.queue c.queue.length) _<;>first|rfl|simp) (by
  unfold LX ax xG xI;dsimp only;rw[aR,aq]) (bH)
 rw[cm]at e D;unfold R8 bh
 refine(bf (λo=>Option.bind o _) e).trans ?_
 rw[ak]
 refine(bf (λo=>Option.bind o _) D).trans ?_
 rfl
def fX(c:av):aa aJ:=c.queue.map λr=>gY c r.line
def vH(c:av):(fX c).length=c.queue.length:=by unfold fX;rw[eK]
def aGn{c:av}{i:Nat}(h:i<c.queue.length)(C:i<(fX c).length):(fX c)[i]=gY c c.queue[i].line:=by simp only[fX,List.getElem_map]
def UW{c:av}(h:Pq c){r:aN}(C:r∈c.queue):wQ c r.line=some (gY c r.line,true)/\dn c.config.az (gY c r.line)=true:=
 aFD h.p h.sp h.se h.mo (h.q r C).1.1 (h.q r C).1.2
def abR{c:av}(h:Pq c){r:aN}(C:r∈c.queue):yQ c r.line=some (gY c r.line):=
 aFF h.p h.sp h.se h.mo (h.q r C).1.1 (h.q r C).1.2
def aGo{c:av}(h:Pq c):Tt c=some (fX c):=by
 have D:=h.ql;have e:=cv (step:=Nt) c.queue.length (λi=>(((),(),c.queue,c.queue.length,i,()),(c,(c.queue.take i).map _,()))) (.inl (((),()),(fX c,()))) aT (λk C=>by
  have hl:((c.queue.take k).map (λr=>gY c r.line)).length=k:=by simp;omega
  unfold Nt ax xG xI;dsimp only;rw[aQ,au,aA ⟨by omega,by omega⟩];simp only[br];rw[(UW h (cM C)).1,ak,bA,hl,lV,cD,au,oB C,List.map_append];rfl) (by
  unfold Nt ax xG xI;dsimp only;rw[aR,aq,iu];rfl) (bH)
 unfold Tt bh;simp_all
def anJ{c:av}(h:Pq c):LU c=some (fX c):=by
 have D:=h.ql;have e:=cv (step:=LS) c.queue.length (λi=>((c,(),i,()),((c.queue.take i).map _,()))) (.inl (((),()),(fX c,()))) aT (λk C=>by
  have hl:((c.queue.take k).map (λr=>gY c r.line)).length=k:=by simp;omega
  unfold LS ax xG xI;dsimp only;rw[aQ,au,aA ⟨by omega,by omega⟩];simp only[br];rw[abR h (cM C),ak,bA,hl,lV,cD,au,oB C,List.map_append];rfl) (by
  unfold LS ax xG xI;dsimp only;rw[aR,aq,iu];rfl) (bH)
 unfold LU bh;simp_all
def zA:aJ:=⟨0,0,0⟩
def zQ:aN:=⟨0,0,0,false,0,0⟩
def gf(c:av)(i:Nat):aJ:=(fX c).getD i zA
def mz(c:av)(i:Nat):aN:=c.queue.getD i zQ
def ES{c:av}{i:Nat}(h:i<(fX c).length):(fX c)[i]=gf c i:=by
 unfold gf;rw[fA,bY h];rfl
def qx{c:av}{i:Nat}(h:i<c.queue.length):c.queue[i]=mz c i:=by
 unfold mz;rw[fA,bY h];rfl
def ET{c:av}(h:Pq c){i:Nat}(hi:i<c.queue.length):dn c.config.az (gf c i)=true/\0 <= (gf c i).ay/\(gf c i).ay.toNat<c.bq.aC.length/\(gf c i).ay.toNat<c.aV.aI.length/\(gf c i).ay<aY c.config.az/\0 <= (gf c i).row:=by
 have e:=aGn hi (by rw[vH];exact hi);rw[ES]at e;have C:=(UW h (cM hi)).2;rw[<- e]at C;have⟨_,D,E,L,O,T,U⟩:=ri C;have:=h.p.bl;have:=h.dl;simp_all
def xq{c:av}(h:Pq c):c.bq.aC.length<=1048576:=by
 have:=h.p.bl;have:=eY c.config.az;omega
def eJ(c:av)(i:Nat):Bool:=xl c.bq (gf c i)
def aGp{c:av}(h:Pq c)(C:aa Int)(D:aa aJ)(Z:Int×Int×Int×Int×af)(P:Int×Int×Int×Int×Int×(aa Int)×Int×Int×af):iter Hu aT ((C,D,(),(),(),(),(0:Int),(0:Int),c.queue,(c.queue.length:Int),(0:Int),()),(c,Z,P,List.replicate c.queue.length false,()))=some (.inl ((C,D,(),(),(),(),rC c.queue c.queue.length,sJ c.queue c.queue.length,()),(c,Z,P,(List.range c.queue.length).map (lE c.queue),()))):=by
 have O:=h.ql;have e:=cv (step:=Hu) c.queue.length (λi=>((C,D,(),(),(),(),rC c.queue i,sJ c.queue i,c.queue,(c.queue.length:Int),(i:Int),()),(c,Z,P,sI (lE c.queue) c.queue.length i,()))) (.inl ((C,D,(),(),(),(),rC c.queue c.queue.length,sJ c.queue c.queue.length,()),(c,Z,P,(List.range c.queue.length).map (lE c.queue),()))) aT (λk E=>by
  have T:=UR (λi=>lE c.queue i && !rB c.queue i) k;have U:=UR (λi=>lE c.queue i&&rB c.queue i) k;have L:lE c.queue k = !vG c.queue k:=rfl;have hl:=US (f:=lE c.queue) (n:=c.queue.length) (k:=k) (by omega);have Y:((sI (lE c.queue) c.queue.length k).set k (!vG c.queue k)).length=c.queue.length:=by rw[eM,hl]
  rw[<- UT E];unfold Hu ax xG xI xL;dsimp only;rw[aQ,au,aA ⟨by omega,by omega⟩,aGj E (by omega),ak,aA ⟨by omega,by omega⟩,aA,aA ⟨by omega,by simp only[br];omega⟩,aA (by simp only[br];omega),bA];simp only[br,gA];unfold rC sJ at *
  rw[UQ,UQ];simp only[L,ER E];cases vG c.queue k with
  | true=>
   simp[*]
  | false=>
   rw[iw,au];cases c.queue[k].write with
   |true=>rw[ aK];simp
   | false=>
    rw[aq,aA ⟨by omega,by rw[eM];omega⟩,aA (by rw[eM];omega),aK];simp) (by
  unfold Hu ax xG xI xL;dsimp only;rw[aR,aq,UU]) (bH)
 rw[cm,abQ]at e;exact e
def tU(c:av):Nat->aa (Int×Bool)
 |0=>[]
 |k+1=>bif iD c k&&eJ c k then om (tU c k) (gf c k).ay true else tU c k
def zP(c:av)(k:Nat)(b:Int):Bool:=(List.range k).any λi=>iD c i&&eJ c i&&b==(gf c i).ay
def anK(c:av)(b:Int):∀ k,nj (tU c k) b=zP c k b
 |0=>rfl
 | k+1=>by
  have C:=anK c b k;have e:zP c (k+1) b=(zP c k b || (iD c k&&eJ c k&&b==(gf c k).ay)):=by
   unfold zP
   grind
  rw[e,<- C];show nj (bif iD c k&&eJ c k then om _ (gf c k).ay true else tU c k) b=_;cases iD c k&&eJ c k with
  |false=>simp
  |true=>rw[au,aDv,cC,Bool.or_comm]
def aGq{c:av}(h:Pq c)(D:aa Int)(Z:Int×Int×Int×Int×af)(P:Int×Int×Int×Int×Int×(aa Int)×Int×Int×af):iter Hv aT ((D,fX c,(),(),(),(),rC c.queue c.queue.length,sJ c.queue c.queue.length,(),(),(),c.queue,(c.queue.length:Int),(0:Int),()),(c,Z,P,(List.range c.queue.length).map (lE c.queue),List.replicate c.queue.length false,List.replicate c.queue.length false,([]:aa (Int×Bool)),()))=some (.inl ((D,fX c,(),(),(),(),(),(),()),(c,Z,P,(List.range c.queue.length).map (iD c),(List.range c.queue.length).map (eJ c),tU c c.queue.length,()))):=by
 have hq:=h.ql;have E:=xq h;have e:=cv (step:=Hv) c.queue.length (λi=>((D,fX c,(),(),(),(),rC c.queue c.queue.length,sJ c.queue c.queue.length,(),(),(),c.queue,(c.queue.length:Int),(i:Int),()),(c,Z,P,(List.range c.queue.length).map (lE c.queue),sI (iD c) c.queue.length i,sI (eJ c) c.queue.length i,tU c i,()))) (.inl ((D,fX c,(),(),(),(),(),(),()),(c,Z,P,(List.range c.queue.length).map (iD c),(List.range c.queue.length).map (eJ c),tU c c.queue.length,()))) aT (λk C=>by
  have hl:=US (f:=iD c) (n:=c.queue.length) (k:=k) (by omega);have L:=US (f:=eJ c) (n:=c.queue.length) (k:=k) (by omega);have O:=vH c;have hl4:((List.range c.queue.length).map (lE c.queue)).length=c.queue.length:=by simp
  obtain⟨ho,T,U,o3,o4,Y⟩:=ET h C;have hh:=aFH (r:=c.bq) (a:=gf c k) Y T U E;have hd:iD c k=(lE c.queue k&&(B6 c.drain (rC c.queue c.queue.length) c.queue[k].write ||(!c.queue[k].write&&sJ c.queue c.queue.length==0))):=by unfold iD;rw[ER C]
  have hhb:tU c (k+1)=bif iD c k&&eJ c k then om (tU c k) (gf c k).ay true else tU c k:=rfl;have jg:eJ c k=xl c.bq (gf c k):=rfl;rw[<-UT C,<-UT C,hhb];unfold Hv ax xG xI xL;dsimp only;rw[aQ,au,aA ⟨by omega,by omega⟩,aA ⟨by omega,by omega⟩,aA];simp only[br,zO C,aGk _ _ h.dr,ak,ES,hh,bA (show k<4611686018427387904 by omega),gA,eM,hl,L,O];rw[hd,jg];cases lE c.queue k<;>cases B6 c.drain (rC c.queue c.queue.length) c.queue[k].write<;>cases c.queue[k].write<;>cases xl c.bq (gf c k)<;>cases sJ c.queue c.queue.length==0<;>simp[C]) (by
  unfold Hv ax xG xI xL;dsimp only;rw[aR,aq,UU,UU]) (bH)
 rw[cm,abQ,abQ]at e;exact e
def UX(e:bV):bV:=⟨e.line,e.code,(if (999:Int)<(W6 (e.times+(1:Int)))then (999:Int)else (W6 (e.times+(1:Int))))⟩
def zEE:bV:=⟨0,0,0⟩
def rD(l:aa bV)(line code:Int):aa bV:=match l.findIdx? (mh ⟨line,code,1⟩)with
 |some i=>l.set i (UX (l.getD i zEE))
 |none=>bif ((l.length:Int)==(6:Int))then l.drop 1++[⟨line,code,1⟩]else l++[⟨line,code,1⟩]
def aGr{l:aa bV}(h:lS l=true){line code:Int}(D:0<=line/\line<=1023)(E:code=1\/code=2):Th l line code=some (rD l line code,true):=by
 have hl:l.length<=6:=by
  simp only[lS,aS,iN]at h;omega
 have L:aM line 0 1023=true:=bB.2 D;unfold Th Nl rD bE xA xZ;rw[cD (by simp;omega),au,ak,alZ _ (by omega),ak,h,bg,aq,cW,ak,L,bg,aq,jX];have e:=sE (step:=Nm) l (mh ⟨line,code,1⟩) (λk=>((line,code,(),(),(l.length:Int),(k:Int),()),(l,()))) (λi=>.inl (((),true,()),(l.set i (UX (l.getD i zEE)),()))) (.inr (.inl ((line,code,(),()),(l,())))) aT (λk O=>by
  unfold Nm mh ax aU xG xL;dsimp only;rw[aQ,au,aA ⟨by omega,by omega⟩,aA];simp only[br];rw[aA ⟨by omega,by omega⟩,aA,bA,lC _ O];cases l[k].line==line<;>cases l[k].code==code<;>rfl) (by
  unfold Nm ax aU xG xL;dsimp only;rw[aR,aq]) (bH)
 rw[cm]at e;have T:iter Z9 aT ((line,code,(),(),(l.length:Int),(0:Int),()),(l,()))=_:=e;rcases E with rfl|rfl
 ·rw[eN,aq,T];cases l.findIdx? (mh ⟨line,1,1⟩)with
  |some i=>rfl
  | none=>
   rw[ak,Sum.elim_inr,eC];dsimp only;cases C:(l.length:Int)==(6:Int)with
   |false=>rw[aq,aq,cD (by simp;omega)];rfl
   | true=>
    have C:=eq_of_beq C;rw[au,au,bJ ⟨by omega,by omega,by omega⟩,cD (by simp;omega),au,ak,cD (by simp;omega),au];simp
 ·rw[ic (by omega),au,eN,aq,e];cases l.findIdx? (mh ⟨line,2,1⟩)with
  |some i=>rfl
  | none=>
   rw[ak,Sum.elim_inr,eC];dsimp only;cases C:(l.length:Int)==(6:Int)with
   |false=>rw[aq,aq,cD (by simp;omega)];rfl
   | true=>
    have C:=eq_of_beq C;rw[au,au,bJ ⟨by omega,by omega,by omega⟩,cD (by simp;omega),au,ak,cD (by simp;omega),au];simp
def aGs{l:aa bV}(h:lS l=true){line code:Int}(D:0 <= line/\line <= 1023)(Y:code=1 \/ code=2):RX l line code=some (rD l line code,true):=by
 have hl:l.length <= 6:=by
  simp only[lS,aS,iN]at h;omega
 have E:aM line 0 1023=true:=bB.2 D;have L:aM 1 1 999=true:=rfl;have O:Gy ⟨line,code,1⟩=some true:=by
  unfold Gy;rw[eS,ak,E,eS,L]
  grind
 unfold RX rD xA xC xZ;rw[cD (by simp;omega),au,aCH,ak,h,bg,aq,O,ak,bg,aq];have C:=alY l ⟨line,code,1⟩ (by omega);dsimp only at C;rw[C,ak,jX];unfold gD;cases hi:l.findIdx? (mh ⟨line,code,1⟩)with
 | some i=>
  have⟨T,Z,hq⟩:=mY.1 hi;dsimp only;rw[aQ,au,aA ⟨by omega,by omega⟩,aA,aA ⟨by omega,by omega⟩,aA];rw[lC _ T];rfl
 | none=>
  dsimp only;rw[aR,aq];by_cases U:l.length=6
  ·rw[aQ,show ((l.length:Int)==6)=true by rw[U];rfl,bJ ⟨by omega,by omega,by omega⟩,cD (by simp;omega),cD (by simp;omega)];simp
  ·rw[aR,aq,kA (by omega),aq,cD (by simp;omega),au]
def OQ(c:av)(l:aa bV):av:=⟨c.config,c.box,c.now,c.bq,c.ready,c.array,c.spare,c.aV,c.bL,c.guard,c.pending,c.queue,c.shares,c.drain,c.bk,c.cB,l,c.trace,c.cr⟩
def B8(c:av)(n code:Int):av:=bif code != 0 then OQ c (rD c.errors n code)else c
def abS{c:av}(h:lS c.errors=true){n code:Int}(C:0<=n/\n<=1023)(h2:code=0\/code=1\/code=2):zi c n code=some ((),(B8 c n code,())):=by
 unfold zi B8;rcases h2 with rfl|h2
 ·rfl
 ·rw[aGr h C h2,ic (by omega)];rfl
def anL{c:av}(h:lS c.errors=true){n code:Int}(C:0<=n/\n<=1023)(h2:code=0\/code=1\/code=2):DI c n code=some ((),(B8 c n code,())):=by
 unfold DI B8;rcases h2 with rfl|h2
 ·rfl
 ·rw[aGs h C h2,ic (by omega)];rfl
def anM(q:aa aN):Prop:=∀i (h:i<q.length),(q.take i).any (λx=>x.id==q[i].id)=false
def aGt{q:aa aN}{i:Nat}(h:i<q.length)(hl:q.length<=12):TO q (i:Int) (W6 ((i:Int)+1))=some (q.take i++q.drop (i+1),([],())):=by
 have C:(splice q i ((q.take ((q.length:Int).toNat)).drop (i+1))).length=q.length:=by
  rw[ua _ _ _ (by simp;omega)]
 have E:((q.take ((q.length:Int).toNat)).drop (i+1))=q.drop (i+1):=by rw[br,iu]
 unfold TO;rw[bA,bJ ⟨by omega,by omega,by omega,by omega⟩,kA (by omega),aq,bJ ⟨by omega,by omega,by omega⟩,bJ ⟨by omega,by omega,by omega⟩];simp only[br]at C ⊢;rw[bJ ⟨by omega,by omega,by omega,by omega⟩,bJ ⟨by omega,by omega,by omega⟩,bJ ⟨by omega,by omega⟩];have D:i+(q.length-(i+1))-0=i+(q.length-(i+1)):=by omega
 rw[D,abJ _ _ _ (by omega)];unfold splice;rw[iu,List.take_append_of_le_length (by simp;omega),List.take_of_length_le (by simp;omega)]
def aGu{q:aa aN}(C:anM q){i:Nat}(h:i<q.length)(hl:q.length <= 12):Su q q[i].id=some (q.take i++q.drop (i+1),true):=by
 have D:q.findIdx? (λr=>r.id==q[i].id)=some i:=by
  rw[mY]
  refine⟨h,by simp,λj E=>?_⟩
  have:=oJ.1 (C i h) q[j] (jw.2 ⟨j,by rw[fY];omega,by rw[List.getElem_take]⟩);simp_all
 unfold Su xA xZ;rw[aaP _ _ (by omega),ak];unfold gD;rw[D];dsimp only;rw[aR,aq,bJ ⟨by omega,by omega,by omega⟩,cD (by simp;omega),au,bA,bJ ⟨by omega,by omega,by omega⟩,cD (by simp;omega),au];simp_all
def xu:aN:=⟨0,0,0,false,0,0⟩
def B9(s:aa bZ)(t:Int):aa bZ:=match q5 s ((List.replicate 4 false).set t.toNat true)with
 |some (l,_)=>l
 |none=>[]
def pG(c:av)(i:Nat)(a:cN)(e:aa bV)(x:cR):av:=
 ⟨c.config,c.box,c.now,c.bq,c.ready,a,c.spare,c.aV,c.bL,c.guard,c.pending,c.queue.take i++c.queue.drop (i+1),B9 c.shares (c.queue.getD i xu).c9,c.drain,c.bk,c.cB,e,c.trace,c.cr++[x]⟩
def vI(c:av)(i:Nat):av:=
 let r:=c.queue.getD i xu
 let n:=fO c.config.az (gY c r.line)
 bif r.write then pG c i ⟨c.array.cells.set n ⟨EP r.data,false⟩,c.array.bD,c.array.bC⟩ c.errors ⟨r.id,c.now,0,0⟩
 else pG c i ⟨c.array.cells.set n (mw (c.array.cells.getD n xh)),c.array.bD,c.array.bC⟩ (bif jG (c.array.cells.getD n xh) != 0 then rD c.errors (n:Int) (jG (c.array.cells.getD n xh))else c.errors) ⟨r.id,c.now,OP (c.array.cells.getD n xh),jG (c.array.cells.getD n xh)⟩
def OR{d:bN}(h:Sy d.symbols):jG d=0 \/ jG d=1 \/ jG d=2:=by
 have⟨E,C,D⟩:=UO h;unfold jG;cases d.hG with
 |true=>simp_all
 |false=>exact(EI C D).2.2
structure pH (c:av) (i:Nat) (B:Int):Prop where
 ad:∀r∈c.queue,wQ c r.line=some (gY c r.line,true)/\dn c.config.az (gY c r.line)=true
 tn:∀r∈c.queue,0<=r.c9/\r.c9<=3
 ql:c.queue.length<=12
 sh:iL c.shares=true
 shl:c.shares.length=4
 u:anM c.queue
 i:i<c.queue.length
 d:∀r∈c.queue,0<=r.data/\r.data<=4294967295
 a:dO c.config.az B c.array
 e:lS c.errors=true
 r:c.cr.length<=1000
def pH.facts{c:av}{i:Nat}{B:Int}(h:pH c i B){r:aN}(C:r∈c.queue):wQ c r.line=some (gY c r.line,true)/\rj c.config.az (gY c r.line)=(fO c.config.az (gY c r.line):Int)/\fO c.config.az (gY c r.line)<c.array.cells.length/\(fO c.config.az (gY c r.line):Int) <= 1023/\q5 c.shares ((List.replicate 4 false).set r.c9.toNat true)=some (B9 c.shares r.c9,(q5 c.shares ((List.replicate 4 false).set r.c9.toNat true)).get!.2)/\0 <= r.c9/\r.c9.toNat<4:=by
 obtain⟨D,E⟩:=h.ad _ C;have L:=h.tn _ C;obtain⟨O,T⟩:=w7 E;have U:=h.a.cells;have hl:=kX c.config.az;obtain⟨y,t,e,_⟩:=abC ((List.replicate 4 false).set _ true) (by have:=h.shl;omega) h.sh (by simp[h.shl]);refine⟨D,O,by omega,by omega,?_,L.1,by omega⟩;unfold B9;rw[e];rfl
def anN{c:av}{i:Nat}{B:Int}(h:pH c i B):TP c (i:Int)=some ((),(vI c i,())):=by
 have hi:=h.i;have⟨f1,f3,f4,f5,f6,f7,f8⟩:=h.facts (cM hi);have C:=h.d _ (cM hi);have D:=h.a.syms _ (cM f4);have E:c.queue.getD i xu=c.queue[i]:=lC _ hi;have O:=h.r;unfold TP xL;rw[aA ⟨by omega,by omega⟩,aA];simp only[br];rw[f1,ak,aGt hi h.ql,ak,bJ (by decide)];have L:(4:Int).toNat=4:=rfl;rw[L,aA ⟨f7,by simpa using f8⟩,aA (by simpa using f8)];dsimp only;rw[f6,ak];dsimp only;unfold vI;rw[E];dsimp only;cases hw:c.queue[i].write with
 | true=>
  rw[ Bz,ak,(ON C.1 C.2).1,ak,aA ⟨by omega,by omega⟩,aA,cD (by simp;omega)];unfold pG;simp_all
 | false=>
  rw[aq,aq,Bz,ak,f3,lC _ f4]
  refine(bf (λo=>Option.bind o _) (abP (c:=⟨c.config,c.box,c.now,c.bq,c.ready,c.array,c.spare,c.aV,c.bL,c.guard,c.pending,c.queue.take i++c.queue.drop (i+1),B9 c.shares c.queue[i].c9,c.drain,c.bk,c.cB,c.errors,c.trace,c.cr⟩) f4 D)).trans ?_
  rw[ak];unfold oE cx;dsimp only;rw[cD (by simp;omega),au,ak]
  refine(bf (λo=>Option.bind o _) (abS (by exact h.e) ⟨by omega,f5⟩ (OR D))).trans ?_
  rw[ak];unfold B8 pG OQ;rw[E];dsimp only;cases jG c.array.cells[fO c.config.az (gY c c.queue[i].line)] != 0<;>rfl
def anO{c:av}{i:Nat}{B:Int}(h:pH c i B)(L:∀ r∈c.queue,yQ c r.line=some (gY c r.line)):Sv c (i:Int)=some ((),(vI c i,())):=by
 have hi:=h.i;have⟨f1,f3,f4,f5,f6,f7,f8⟩:=h.facts (cM hi);have f2:=L _ (cM hi);have C:=h.d _ (cM hi);have D:=h.a.syms _ (cM f4);have E:c.queue.getD i xu=c.queue[i]:=lC _ hi;have T:=h.r;unfold Sv xL;rw[aA ⟨by omega,by omega⟩,aA];simp only[br];rw[f2,ak,T9,ak,f3,aGu h.u hi h.ql,ak,bJ (by decide)];have O:(4:Int).toNat=4:=rfl;rw[O,aA ⟨f7,by simpa using f8⟩,aA (by simpa using f8)];dsimp only;rw[ane _ _ (by have:=h.shl;omega),f6,ak];dsimp only;unfold vI;rw[E];dsimp only;cases hw:c.queue[i].write with
 | true=>
  rw[ anC C.1 C.2,ak,aA ⟨by omega,by omega⟩,aA,cD (by simp;omega)];unfold pG;simp_all
 | false=>
  rw[aq,aq,lC _ f4]
  refine(bf (λo=>Option.bind o _) (anG (c:=⟨c.config,c.box,c.now,c.bq,c.ready,c.array,c.spare,c.aV,c.bL,c.guard,c.pending,c.queue.take i++c.queue.drop (i+1),B9 c.shares c.queue[i].c9,c.drain,c.bk,c.cB,c.errors,c.trace,c.cr⟩) f4 D)).trans ?_
  rw[ak];dsimp only
  refine(bf (λo=>Option.bind o _) (anL (by exact h.e) ⟨by omega,f5⟩ (OR D))).trans ?_
  rw[ak];unfold B8 pG OQ oE cx;rw[E];dsimp only;cases jG c.array.cells[fO c.config.az (gY c c.queue[i].line)] != 0 with
  | true=>
   rw[au];rw[cD (by simp;omega)];rfl
  | false=>
   rw[aq];rw[cD (by simp;omega)];rfl
def ez(c:av)(x:aH):av:=⟨c.config,c.box,c.now,gk c.bq x,sH c.config.az c.ready ⟨c.now,x⟩,c.array,c.spare,c.aV,c.bL,c.guard,c.pending,c.queue,c.shares,c.drain,c.bk,c.cB,c.errors,c.trace++[⟨c.now,x⟩],c.cr⟩
def anP(c:av)(p:fk):av:=⟨c.config,c.box,c.now,c.bq,c.ready,c.array,c.spare,c.aV,c.bL,c.guard,c.pending,c.queue,c.shares,c.drain,p,c.cB,c.errors,c.trace,c.cr⟩
def pI(c:av)(r:cO):av:=⟨c.config,c.box,c.now,c.bq,c.ready,c.array,c.spare,r,c.bL,c.guard,c.pending,c.queue,c.shares,c.drain,c.bk,c.cB,c.errors,c.trace,c.cr⟩
def anQ(c:av)(r:cH):av:=⟨c.config,c.box,c.now,r,c.ready,c.array,c.spare,c.aV,c.bL,c.guard,c.pending,c.queue,c.shares,c.drain,c.bk,c.cB,c.errors,c.trace,c.cr⟩
def EU(c:av)(k:Int):av:=anP c (zL c.bk k c.now)
def UY(c:av)(b:Int):av:=pI (OL c b (c.pending.filter (λa=>!(a.ay==b)))) (xm c.aV b)
def tV(c:av)(x:aH)(i:Int):av:=
 bif x.kind==1 then vE (ez c x) x else
 bif x.kind==5 then UY (ez c x) x.ay else
 bif x.kind==2 ||x.kind==3 then vI (ez c x) i.toNat else
 bif x.kind==4 then ez c x else
 bif x.kind==9 then gT (EU (ez c x) 9) c.bL.length []else EU (ez c x) x.kind
structure Bs (c:av):Prop where
 w:vF 100000 c
 u:xo c.pending
 pk:∀a∈c.pending,0<=a.ay/\a.ay<aY c.config.az
 zt:∀t∈c.bL,jT t
 rf:dV c.aV=true
 bl:(c.bq.aC.length:Int)=aY c.config.az
 l1:c.ready.last.length<1073741824
 l2:c.ready.aX.length<1073741824
 tl:c.trace.length<10000
def Bs.ez{c:av}(h:Bs c)(x:aH):vF 100000 (ez c x):=⟨h.w.hB,h.w.g,h.w.a,h.w.k,h.w.p,h.w.t,h.w.d,h.w.r⟩
def pH.ez{c:av}{n:Nat}{B:Int}(h:pH c n B)(x:aH):pH (ez c x) n B:=⟨h.ad,h.tn,h.ql,h.sh,h.shl,h.u,h.i,h.d,h.a,h.e,h.r⟩
def aGv{c:av}(h:vF 100000 c):iter zm aT (((),(c.bL.length:Int),(0:Int),()),((⟨c.config,c.box,c.now,c.bq,c.ready,c.array,c.spare,c.aV,c.bL,c.guard,([]:aa aJ),c.queue,c.shares,c.drain,c.bk,c.cB,c.errors,c.trace,c.cr⟩:av),()))=some (.inl ((),(gT c c.bL.length [],()))):=aF0 h
def aGw{c:av}{x:aH}(C:1 <= x.kind/\x.kind <= 9)(hb:x.kind <= 5 -> 0 <= x.ay/\x.ay.toNat<c.bq.aC.length):Sx c x=some ((),(anQ c (gk c.bq x),())):=by
 unfold Sx gk anQ xL;rcases kinds C with h|h|h|h|h|h|h|h|h<;>(try (have hb:=hb _))<;>simp[h,hb]
def UZ{g:aL}{x:aH}(h:dP g x=true)(C:x.kind=1):0 <= x.row/\x.row<g.rows:=by
 simp[dP,aS]at h;have D:=h.2.2.2.1;rw[tL,C,show ((1:Int)==1)=true from rfl,au,bB]at D;omega
def anR{c:av}(h:Bs c){x:aH}(E:nL c.config.az c.bq x=true){i:Int}(L:x.kind=2 \/ x.kind=3 -> pH c i.toNat 100000/\0 <= i):NO c x i=some ((),(tV c x i,())):=by
 have⟨hg,hlen,O,hb⟩:=HT E;have T:dP c.config.az x=true:=by
  simp only[nL,aS]at E
  grind
 have b1:=eY c.config.az;have w:=h.ez x;have ht:=h.w.t;have hd:=h.w.d;have hr:=h.w.r;have U0:=h.tl;have er:NC c.config.az c.bq x=some (gk c.bq x,true):=by
  rw[aC1 _ _ _ (by omega)];unfold aaZ;simp_all
 unfold NO tV bh;rw[cD (by simp;omega),au,aDa _ _ _ h.l1 h.l2,ak,er,ak];rcases kinds O with q|q|q|q|q|q|q|q|q<;>rw[q]<;>simp only[Int.reduceBEq,Int.reduceBNe,au,aq,Bool.or_true,Bool.or_false,Bool.true_or,Bool.false_or,Bool.or_self]
 ·have⟨C,U⟩:=hb (by omega);have⟨Y,Z⟩:=UZ T q
  refine(bf (λo=>Option.bind o _) (aFW (c:=ez c x) x w.g w.a w.p h.zt C (by show x.ay<aY c.config.az;omega) Y Z (by show x.ay.toNat<c.bL.length;omega) (by show x.ay.toNat<c.guard.length;omega))).trans ?_
  rfl
 ·have⟨s,D⟩:=L (.inl q);have e:=anN (s.ez x);rw[Int.toNat_of_nonneg D]at e
  refine(bf (λo=>Option.bind o _) e).trans ?_
  rfl
 ·have⟨s,D⟩:=L (.inr q);have e:=anN (s.ez x);rw[Int.toNat_of_nonneg D]at e
  refine(bf (λo=>Option.bind o _) e).trans ?_
  rfl
 ·rfl
 ·have⟨C,U⟩:=hb (by omega);have⟨y,e4⟩:=aFO h.rf (b:=x.ay) C (by omega)
  refine(bf (λo=>Option.bind o _) (anq w.hB (ez c x) w.g w.a C (by show x.ay<aY c.config.az;omega))).trans ?_
  rw[ak];unfold cx;dsimp only;rw[aFS _ _ (by show c.pending.length<1000000;have:=h.w.p;omega),ak];dsimp only
  refine(bf (λo=>Option.bind o _) (anr _ (by exact w.k) C (by show x.ay.toNat<c.bL.length;omega) (by show x.ay.toNat<c.guard.length;omega))).trans ?_
  rw[ak];unfold ru;dsimp only
  refine(bf (λo=>Option.bind o _) e4).trans ?_
  rfl
 ·have⟨y,e⟩:=UI c.bk (k:=6) (by omega) c.now;rw[e,ak];rfl
 ·have⟨y,e⟩:=UI c.bk (k:=7) (by omega) c.now;rw[e,ak];rfl
 ·have⟨y,e⟩:=UI c.bk (k:=8) (by omega) c.now;rw[e,ak];rfl
 ·have⟨y,e⟩:=UI c.bk (k:=9) (by omega) c.now;rw[e,ak]
  refine(bf (λo=>Option.bind o _) (aGv (c:=EU (ez c x) 9) ⟨w.hB,w.g,w.a,w.k,w.p,w.t,w.d,w.r⟩)).trans ?_
  rfl
def aGx{c:av}(h:Bs c){x:aH}(E:nL c.config.az c.bq x=true){i:Int}(L:x.kind=2 \/ x.kind=3 -> pH c i.toNat 100000/\0 <= i)(O:∀ r∈c.queue,yQ c r.line=some (gY c r.line)):Ba c x i=some ((),(tV c x i,())):=by
 have⟨hg,hlen,T,hb⟩:=HT E;have U:dP c.config.az x=true:=by
  simp[nL,aS]at E;simp_all
 have b1:=eY c.config.az;have w:=h.ez x;have ht:=h.w.t;have hd:=h.w.d;have hr:=h.w.r;have U0:=h.tl;unfold Ba tV bh;rw[cD (by simp;omega),au,aDb _ _ _ h.l1 h.l2,ak]
 refine(bf (λo=>Option.bind o _) (aGw T (λY=>by have:=hb Y;exact⟨this.1,this.2⟩))).trans ?_
 rw[ak];rcases kinds T with q|q|q|q|q|q|q|q|q<;>rw[q]<;>simp only[Int.reduceBEq,Int.reduceBNe,au,aq,Bool.or_true,Bool.or_false,Bool.true_or,Bool.false_or,Bool.or_self]
 ·have⟨C,Z⟩:=hb (by omega);have⟨r0,r1⟩:=UZ U q
  refine(bf (λo=>Option.bind o _) (aFX (c:=ez c x) x w.g w.a w.p h.u h.zt C (by show x.ay<aY c.config.az;omega) r0 r1 (by show x.ay.toNat<c.bL.length;omega) (by show x.ay.toNat<c.guard.length;omega))).trans ?_
  rfl
 ·have⟨s,D⟩:=L (.inl q);have e:=anO (s.ez x) O;rw[Int.toNat_of_nonneg D]at e
  refine(bf (λo=>Option.bind o _) e).trans ?_
  rfl
 ·have⟨s,D⟩:=L (.inr q);have e:=anO (s.ez x) O;rw[Int.toNat_of_nonneg D]at e
  refine(bf (λo=>Option.bind o _) e).trans ?_
  rfl
 ·rfl
 ·have⟨C,Z⟩:=hb (by omega);have⟨y,e4⟩:=aFN h.rf (b:=x.ay) C (by omega)
  refine(bf (λo=>Option.bind o _) (ans w.hB (ez c x) w.g w.a w.k w.p C (by show x.ay<aY c.config.az;omega) (by show x.ay.toNat<c.bL.length;omega) (by show x.ay.toNat<c.guard.length;omega))).trans ?_
  rw[ak]
  refine(bf (λo=>Option.bind o _) e4).trans ?_
  rfl
 ·have⟨y,e⟩:=UJ c.bk (k:=6) (by omega) c.now
  refine(bf (λo=>Option.bind o _) e).trans ?_
  rfl
 ·have⟨y,e⟩:=UJ c.bk (k:=7) (by omega) c.now
  refine(bf (λo=>Option.bind o _) e).trans ?_
  rfl
 ·have⟨y,e⟩:=UJ c.bk (k:=8) (by omega) c.now
  refine(bf (λo=>Option.bind o _) e).trans ?_
  rfl
 ·have⟨y,e⟩:=UJ c.bk (k:=9) (by omega) c.now
  refine(bf (λo=>Option.bind o _) e).trans ?_
  rw[ak]
  refine(bf (λo=>Option.bind o _) (aF2 (c:=EU (ez c x) 9) ⟨w.hB,w.g,w.a,w.k,w.p,w.t,w.d,w.r⟩ (by show (gk c.bq x).aC.length=c.bL.length;rw[amd];omega) h.pk)).trans ?_
  rfl
def aGy{l m:aa Int}(h:l.length=m.length)(D:(l.zip m).all zq=true):(∀ x∈l,0 <= x/\x <= 100000) /\ ∀ x∈m,0 <= x/\x <= 100000:=by
 rw[cw]at D;have key:∀ i _ (E:i<m.length),(0 <= l[i]/\l[i] <= 100000)/\(0 <= m[i]/\m[i] <= 100000):=λi O E=>by
  have L:i<(l.zip m).length:=by rw[List.length_zip];omega
  have:=D _ (cM L);rw[List.getElem_zip]at this;simp[zq,aS,bB]at this;exact this
 constructor
 ·intro x C;obtain⟨i,hi,rfl⟩:=jw.1 C
  grind
 ·intro x C;obtain⟨i,hi,rfl⟩:=jw.1 C;simp_all
def dO.mV{g:aL}{a:cN}(h:kY g a=true):dO g 100000 a:=by
 simp only[kY,aS,iN]at h;have⟨Z,C,D,E,L,O⟩:=h;have⟨T,U⟩:=aGy (by omega) O
 refine⟨C,λc Y=>?_,D,E,T,U⟩
 exact Sy.of (cw.1 L c Y)
def Bs.of{c:av}(D:cF c)(h:cZ c=true)(L:c.trace.length<10000):Bs c:=by
 have E:=Pq.of D h;have z1:c.box.bK.weights.length <= 1048576:=D.1.1;have h0:=h;simp only[cZ,aS]at h;have⟨O,h2,h3,h4,T,U,h7,h8,C,HS,HU,uG,ve,BM,BN,nG,EE,Ib,Ic,OA,yR,OB⟩:=h;have⟨f1,f2⟩:=xk (by omega) O;simp only[pq,aS]at f1;simp only[tK,aS,fJ,g9,qA,cw,fI]at C;have⟨C,Y,Z,g3,g4,g5,g6⟩:=C;have vT:=E.pl;have⟨hg,rl,ra⟩:=Ut T;have b1:=eY c.config.az
 refine⟨⟨by decide,hg,dO.mV U,f1.2.2.2.2.2.1,by omega,Z,g3,Y⟩,λi hi=>?_,λa ha=>?_,D.2.2.2.2.2.2.1.2,C,E.p.bl,by omega,by omega,L⟩
 ·have hb:=g6 i hi;unfold BJ at hb
  grind
 ·have⟨_,k1,k2,_⟩:=ri (E.pe a ha);simp_all
def pH.of{c:av}(O:cF c)(h:cZ c=true){n:Nat}(T:n<c.queue.length)(C:c.cr.length <= 1000):pH c n 100000:=by
 have D:=Pq.of O h;simp[cZ,aS]at h;have⟨Z,h2,h3,h4,h5,U,h7,h8,h9,E,HU,uG,ve,BM,BN,nG,EE,Ib,Ic,Y,yR,OB⟩:=h;simp[gX,aS,cw,fI]at E;have⟨L,q2⟩:=E
 refine⟨λr C=>UW D C,λr C=>(D.q r C).2.1,D.ql,D.sh,D.shl,λi hi=>?_,T,λr C=>?_,dO.mV U,Y,C⟩
 ·cases i with
  |zero=>simp
  | succ i=>
   have hb:=L _ hi;rw[Of hi]at hb;simp_all
 ·obtain⟨i,hi,rfl⟩:=jw.1 C;have hb:=L i hi;unfold sF at hb;rw[bY hi]at hb;simp[qt,Um,aS,bB]at hb;simp_all
def qy{g:aL}{B:Int}{a:cN}(h:dO g B a):Ot a:=by
 have D:=h.cells;have E:=h.bD;have L:=h.bC;have O:=kX g;have T:=oA g;exact⟨⟨by omega,λc C=>by unfold Oq;rw[(h.syms c C).1];omega⟩,by omega,by omega⟩
def abU{l:aa bU}(h:l.length <= 1048576 /\ ∀y∈l,jT y){t:bU}(C:jT t)(i:Nat):(l.set i t).length <= 1048576 /\ ∀y∈l.set i t,jT y:=by grind
def anS{k:Int}(h:aM k 1 16=true):jT (nN k):=by
 have:=bB.1 h;unfold nN jT
 grind
def aGz{t:bU}(h:jT t)(row dN:Int):jT (vD t row dN).1:=by
 have hl:=abG (t:=t) row;unfold jT at h ⊢;unfold vD
 grind
def aGA{c:av}(E:cF c)(L:c.ready.aX.length <= 4)(ht:c.trace.length <= 10000)(x:aH):cF (ez c x):=by
 have⟨O,C,⟨T,z4⟩,U,Y,Z,z8,z9,fy,gy,gK,gx,gE,ig⟩:=E;have D:=aDe c.config.az c.ready ⟨c.now,x⟩;refine⟨O,by unfold aa9 at C ⊢;show (gk _ x).aC.length <= _;rw[amd];exact C,⟨by show (sH _ _ _).last.length <= _;rw[D.1];exact T,Nat.le_trans (D.2 L) (by decide)⟩,U,Y,Z,z8,z9,fy,gy,gK,gx,by simp[ez];omega,ig⟩
def U1{c:av}(D:cF c){a:cN}(E:Ot a){r:cO}(L:xb r){t:aa bU}(O:t.length <= 1048576 /\ ∀ y∈t,jT y){C:aa Int}(T:C.length <= 1048576){pd:aa aJ}(U:pd.length <= 1048576)(pw:fk):cF ⟨c.config,c.box,c.now,c.bq,c.ready,a,c.spare,r,t,C,pd,c.queue,c.shares,c.drain,pw,c.cB,c.errors,c.trace,c.cr⟩:=by
 have⟨Y,Z,z3,z5,z6,z7,z8,z9,fy,gy,gK,gx,gE,ig⟩:=D;exact⟨Y,Z,z3,E,z6,L,O,T,U,gy,gK,gx,gE,ig⟩
def aGB{c:av}(C:cF c)(h:vF 100000 c)(x:aH)(D:0 <= x.ay)(E:x.ay<aY c.config.az)(L:0 <= x.row)(O:x.row<c.config.az.rows):cF (vE c x):=by
 have zt:=C.2.2.2.2.2.2.1;have hb:x.ay.toNat<c.bL.length:=by have:=h.t;omega
 have T:=h.p;refine U1 C (qy (abq h.g _ h.hB h.a D E L O)) C.2.2.2.2.2.1 (abU zt ?_ _) C.2.2.2.2.2.2.2.1 ?_ _
 ·unfold tT;rw[lC];exact aGz (zt.2 _ (cM hb)) _ _
 ·have U:(pF c x).length <= c.pending.length:=List.length_filter_le _ _;have Y:=abK c.config.az.rows x.row;have Z:=UL x.ay (mT c.config.az.rows x.row) (pF c x)
  grind
def anT(r:cO)(b:Int):(xm r b).aI.length=r.aI.length:=by
 unfold xm;cases decide (r.aI.getD b.toNat 0 = -2)<;>simp
def aGC{c:av}(C:cF c)(h:vF 100000 c){b:Int}(D:0 <= b)(E:b<aY c.config.az):cF (UY c b):=by
 have⟨_,_,_,_,L,O,T,U⟩:=fN h.g;have zt:=C.2.2.2.2.2.2.1;have Y:=h.p;have Z:=abL (λa:aJ=>!(a.ay==b)) c.pending;exact U1 C (qy (Ii h.g _ h.hB h.a D E _ (by omega))) (by unfold xb;rw[anT];exact C.2.2.2.2.2.1) (abU zt (anS h.k) _) (by show (c.guard.set _ _).length <= _;rw[eM];exact C.2.2.2.2.2.2.2.1) (by show (c.pending.filter _).length <= _;omega) _
def anU{l:aa bU}(h:l.length<=1048576/\∀ y∈l,jT y){t:bU}(C:jT t):∀ k:Nat,((List.range k).foldl (λd b=>d.set b t) l).length<=1048576/\∀ y∈(List.range k).foldl (λd b=>d.set b t) l,jT y
 |0=>h
 |k+1=>by rw[zM];exact abU (anU h C k) C k
def aGD{c:av}(C:cF c)(h:vF 100000 c)(k:Nat)(D:(k:Int)<=aY c.config.az):cF (gT c k []):=
 U1 C (qy (UM h.g c.config.ep h.hB h.a k D)) (by unfold xb;rw[zN];exact C.2.2.2.2.2.1) (anU C.2.2.2.2.2.2.1 (anS h.k) k) (by rw[zN];exact C.2.2.2.2.2.2.2.1) (by simp) c.bk
def abV{l:aa bV}(n code:Int):(rD l n code).length <= l.length+1:=by
 unfold rD
 grind
def anV{c:av}(L:cF c){i:Nat}(h:pH c i 100000):cF (vI c i):=by
 have⟨O,T,U,z5,Y,Z,z8,z9,fy,gy,gK,gx,gE,ig⟩:=L;have hi:=h.i;have hql:=h.ql;have hr:=h.r;have⟨f1,f3,f4,f5,f6,f7,f8⟩:=h.facts (cM hi);have C:c.queue.getD i xu=c.queue[i]:=lC _ hi;have D:=h.d _ (cM hi);have Yv:(B9 c.shares c.queue[i].c9).length <= 1048576:=by
  have⟨y,t,e,hl⟩:=abC ((List.replicate 4 false).set c.queue[i].c9.toNat true) (by have:=h.shl;omega) h.sh (by simp[h.shl])
  grind
 have iQ:c.errors.length <= 6:=by
  have E:=h.e;simp only[lS,aS,iN]at E;omega
 have key:∀ (a:cN) (e:aa bV) (x:cR),Ot a -> e.length <= 100 -> cF (pG c i a e x):=λa e x ha E=>
  ⟨O,T,U,ha,Y,Z,z8,z9,fy,by simp[pG];omega,by unfold pG;rw[C];exact Yv,by show e.length <= _;omega,gE,by simp[pG];omega⟩
 unfold vI;rw[C];dsimp only;cases c.queue[i].write with
 |true=>exact key _ _ _ (qy (h.a.zE _ (c:=⟨_,false⟩) (ON D.1 D.2).2.1)) (by omega)
 | false=>
  rw[aq,lC _ f4];refine key _ _ _ (qy (h.a.zE _ (UP (h.a.syms _ (cM f4))))) ?_;have:=abV (l:=c.errors) (fO c.config.az (gY c c.queue[i].line):Int) (jG c.array.cells[fO c.config.az (gY c c.queue[i].line)]);cases jG c.array.cells[fO c.config.az (gY c c.queue[i].line)] != 0 with
  |true=>grind
  |false=>grind
def anW{c:av}(O:cF c)(h:Bs c)(T:c.ready.aX.length <= 4){x:aH}(E:nL c.config.az c.bq x=true){i:Int}(L:x.kind=2 \/ x.kind=3 -> pH c i.toNat 100000/\0 <= i):cF (tV c x i):=by
 have⟨hg,hlen,U,hb⟩:=HT E;have Y:dP c.config.az x=true:=by
  simp[nL,aS]at E;simp_all
 have w:=h.ez x;have ht:=h.w.t;have U0:=h.tl;have z:=aGA O T (by omega) x;have C:∀k,cF (EU (ez c x) k):=λk=>U1 z z.2.2.2.1 z.2.2.2.2.2.1 z.2.2.2.2.2.2.1 z.2.2.2.2.2.2.2.1 z.2.2.2.2.2.2.2.2.1 _
 unfold tV;rcases kinds U with q|q|q|q|q|q|q|q|q<;>rw[q]<;>simp
 ·have⟨D,Z⟩:=hb (by omega);have⟨r0,r1⟩:=UZ Y q;exact aGB z w x D (by show _<aY c.config.az;omega) r0 r1
 ·exact anV z ((L (.inl q)).1.ez x)
 ·exact anV z ((L (.inr q)).1.ez x)
 ·exact z
 ·have⟨D,Z⟩:=hb (by omega);exact aGC z w D (by show x.ay<aY c.config.az;omega)
 ·exact C 6
 ·exact C 7
 ·exact C 8
 ·exact aGD (C 9) ⟨w.hB,w.g,w.a,w.k,w.p,w.t,w.d,w.r⟩ _ (by show (c.bL.length:Int) <= aY c.config.az;omega)
def oF(c:av)(b:Int):Bool:=decide (c.aV.aI.getD b.toNat 0 >= 4)
def OS(c:av)(b:Int):Bool:=c.pending.any λa=>a.ay==b
def nP(c:av)(i:Nat):aH:=EN c.bq (gf c i) (rB c.queue i)
def U2(c:av)(i:Nat):Bool:=decide (c.now-(mz c i).at_<c.box.bK.cap)
def lU(c:av)(i:Nat):Bool:=
 iD c i&&(!oF c (gf c i).ay&&(dL c (nP c i)&&(!(((nP c i).kind==1 ||(nP c i).kind==4)&&OS c (gf c i).ay) && !((nP c i).kind==4&&(zP c c.queue.length (gf c i).ay&&U2 c i)))))
def aGE{l:aa Int}{b:Int}(C:0 <= b)(h:b.toNat<l.length):∀ i:Nat,(((i:Int)+b)∈cI i l) ↔ l.getD b.toNat 0 >= 4:=by
 obtain⟨n,rfl⟩:=eD C;rw[br]at *
 clear C
 induction l generalizing n with
 |nil=>simp at h
 | cons d l E=>
  intro i;have L:∀ x∈cI (i+1) l,(i:Int)+1 <= x:=λx D=>by
   have⟨j,O,_,_⟩:=ana D;omega
  have e:cI i (d::l)=bif decide (d >= 4)then (i:Int)::cI (i+1) l else cI (i+1) l:=rfl
  grind
def abW{c:av}{b:Int}(hl:c.aV.aI.length <= 8)(C:0 <= b)(h:b.toNat<c.aV.aI.length):wP (cI 0 c.aV.aI) b=some (oF c b):=by
 have E:=EM 0 c.aV.aI;have D:=aGE C h 0;rw[cm,Int.zero_add]at D;unfold wP;rw[Up _ _ (by omega),ak];congr 1;unfold oF gD
 grind
def U3{c:av}{b:Int}(hl:c.aV.aI.length <= 8)(C:0 <= b)(h:b.toNat<c.aV.aI.length):DO c b=some (oF c b):=by
 unfold DO oF xI;simp_all
def anX{c:av}(h:Pq c){i:Nat}(hi:i<c.queue.length):dP c.config.az (nP c i)=true:=aFI _ (ET h hi).1
def sK(c:av):Nat->aa Bool
 |0=>List.replicate 4 false
 |k+1=>bif lU c k then (sK c k).set (mz c k).c9.toNat true else sK c k
def U4(c:av):∀ k,(sK c k).length=4
 |0=>rfl
 | k+1=>by
  have C:=U4 c k;show (bif lU c k then _ else _:aa Bool).length=4
  grind
def aGF{c:av}{U:aa Int}{T:aa aJ}{Z:Int×Int×Int×Int×af}{P:Int×Int×Int×Int×Int×(aa Int)×Int×Int×af}{L jg Y wait:aa Bool}{hb:aa (Int×Bool)}{abX:aa aH}{k:Nat}{r:aN}{a:aJ}{nd:aH}{ct rd ib:Bool}(hq:c.queue.length<=12)(hk:k<c.queue.length)(hr:c.queue[k]=r)(h2:k<T.length)(ha:T[k]=a)(h3:k<L.length)(C:k<Y.length)(h5:abX.length=k)(D:0<=r.c9)(E:r.c9.toNat<wait.length)(e1:zk c.bq a r.write=some nd)(e2:wP U a.ay=some ct)(e3:jq c nd=some rd)(e4:Ef c.pending a.ay=some ib)(b1:0<=r.at_/\r.at_<=1000000)(b2:0<=c.now/\c.now<=1000000):
  Eg ((U,T,(),(),(),(),(),(),(),(),(),c.queue,(c.queue.length:Int),(k:Int),()),(c,Z,P,L,jg,hb,abX,Y,wait,()))=some (.inl ((U,T,(),(),(),(),(),(),(),(),(),c.queue,(c.queue.length:Int),((k+1:Nat):Int),()),(c,Z,P,L,jg,hb,abX++[nd],Y.set k (L[k]&&(!ct&&(rd&&(!((nd.kind==1 ||nd.kind==4)&&ib) && !(nd.kind==4&&(nj hb a.ay&&decide (c.now-r.at_<P.2.1))))))),(bif (L[k]&&(!ct&&(rd&&(!((nd.kind==1 ||nd.kind==4)&&ib) && !(nd.kind==4&&(nj hb a.ay&&decide (c.now-r.at_<P.2.1)))))))then wait.set r.c9.toNat true else wait),()))):=by
 have hw:W6 (c.now-r.at_)=c.now-r.at_:=aK;unfold Eg ax xG xI xL;dsimp only;rw[aQ,au,aA ⟨by omega,by omega⟩,aA ⟨by omega,by omega⟩,aA ⟨by omega,by omega⟩];simp only[br,hr,ha,e1,ak,h5,lV,cD (show k+1<1073741824 by omega),au,e2,e3,e4,hw,bA (show k<4611686018427387904 by omega)];by_cases O:nd.kind=1
 ·have k4:(nd.kind==(4:Int))=false:=by rw[O];rfl
  have O:(nd.kind==(1:Int))=true:=by rw[O];rfl
  simp only[O,k4,au,aq,Bool.true_or,cC,Bool.false_and,iw,Bool.and_true];rw[aA ⟨by omega,by omega⟩,aA];cases L[k]<;>cases ct<;>cases rd<;>cases ib<;>simp[C,D,E]
 ·have O:(nd.kind==(1:Int))=false:=by simpa using O
  simp only[O,aq,Bool.false_or];rw[aA ⟨by omega,by omega⟩,aA];cases nd.kind==(4:Int)with
  |false=>cases L[k]<;>cases ct<;>cases rd<;>cases ib<;>simp[C,D,E]
  | true=>
   cases L[k]with
   |false=>simp[C,D,E]
   | true=>
    cases ct with
    |true=>simp[C,D,E]
    | false=>
     cases rd with
     |false=>simp[C,D,E]
     | true=>
      cases ib with
      |true=>simp[C,D,E]
      | false=>
       cases nj hb a.ay with
       |false=>simp[C,D,E]
       | true=>
        by_cases hc:c.now-r.at_<P.2.1
        ·simp[C,D,E,hc]
        ·simp[C,D,E,hc]
def abY(y x:aH):Bool:=(y.kind==x.kind)&&((y.ay==x.ay)&&((y.row==x.row)&&((y.bR==x.bR)&&true)))
def OT(c:av)(x:aH)(i:Int):Bool:=aM i 0 ((c.queue.length:Int)-1)&&(decide ((c.cr.length:Int)<400)&&abY (EN c.bq (gY c (c.queue.getD i.toNat xu).line) (c.queue.getD i.toNat xu).write) x)
def sL(c:av)(x:aH)(i:Int):Bool:=dP c.config.az x&&(dL c x&&(!decide ((c.trace.length:Int) >= 2000)&&bif x.kind==2 ||x.kind==3 then OT c x i else i == -1 ||aM i 0 ((c.queue.length:Int)-1)))
def abZ{c:av}(h:Pq c){i:Int}(hi:aM i 0 ((c.queue.length:Int)-1)=true):∃ C:i.toNat<c.queue.length,0 <= i/\c.queue.getD i.toNat xu=c.queue[i.toNat]/\wQ c c.queue[i.toNat].line=some (gY c c.queue[i.toNat].line,true)/\zk c.bq (gY c c.queue[i.toNat].line) c.queue[i.toNat].write=some (EN c.bq (gY c c.queue[i.toNat].line) c.queue[i.toNat].write):=by
 have hb:=bB.1 hi;have C:i.toNat<c.queue.length:=by omega
 have⟨D,E⟩:=UW h (cM C);have⟨_,L,O,_⟩:=ri E;have T:=h.p.bl;have U:=eY c.config.az;exact⟨C,hb.1,lC _ C,D,UG _ L (by omega) (by omega)⟩
def aGG{c:av}(h:Pq c)(x:aH)(i:Int):A7 c x i=some (sL c x i):=by
 have U:=h.ql;unfold A7 sL;rw[al9,ak];cases O:dP c.config.az x with
 |false=>rfl
 |true=>
 rw[bg,aq,UE h.p O,ak];cases dL c x with
 |false=>rfl
 |true=>
 rw[bg,aq];cases decide ((c.trace.length:Int) >= 2000)with
 |true=>rfl
 |false=>
 rw[aq,cC,cC,iw,cC,eS,aK (n:=(c.queue.length:Int)-1),ak];unfold OT;have nd:A5=zk:=rfl;cases hi:aM i 0 ((c.queue.length:Int)-1)with
 | true=>
  have⟨D,E,T,f1,f3⟩:=abZ h hi;have f2:=abR h (cM D);rw[ic (show ¬ i = -1 by omega),au,bg,aq,aQ (show i >= 0 from E),cC,Bool.or_true,T];by_cases C:x.kind=2
  ·rw[show (x.kind != 2)=false by rw[C];rfl,show (x.kind==2)=true by rw[C];rfl,aq,au,Bool.true_or,au];cases decide ((c.cr.length:Int)<400)with
   |false=>rfl
   | true=>
    rw[ aA ⟨E,D⟩,aA ⟨E,D⟩];rw[f2,ak,nd,f3];rfl
  ·rw[ic C,kA C,au,Bool.false_or];by_cases L:x.kind=3
   ·rw[show (x.kind != 3)=false by rw[L];rfl,show (x.kind==3)=true by rw[L];rfl,aq,au,au];cases decide ((c.cr.length:Int)<400)with
    |false=>rfl
    | true=>
     rw[ aA ⟨E,D⟩,aA ⟨E,D⟩];rw[f2,ak,nd,f3];rfl
   ·grind
 | false=>
  rw[Bool.false_and,iw,au,Bool.or_false];by_cases e:i = -1
  ·subst e;rw[eN,aq,en,show decide ((-1:Int) >= 0)=false from rfl,aq];by_cases C:x.kind=2
   ·simp_all
   ·rw[ic C,kA C,au,Bool.false_or];by_cases L:x.kind=3
    ·simp_all
    ·grind
  ·grind
def anY{c:av}(T:cF c)(h:Pq c)(x:aH)(i:Int):q8 c x i=bif sL c x i then (NO c x i).bind (λy=>some (y.2.1,true))else some (c,false):=by
 have Z:=h.ql;unfold q8 sL xI;rw[zG c T,ak,zF c T,ak,h.p.ok,bg,aq];cases U:dP c.config.az x with
 | false=>
  have e:jq c x=some false:=by
   unfold jq;rw[aaY,U,Bool.false_and,Bool.and_false];rfl
  rw[e];rfl
 |true=>
 rw[zJ h.p U,ak];cases dL c x with
 |false=>rfl
 |true=>
 rw[bg,aq];cases decide ((c.trace.length:Int) >= 2000)with
 |true=>rfl
 |false=>
 rw[aq,cC,cC,iw,cC,cW,aK (n:=(c.queue.length:Int)-1),ak];unfold OT;cases hi:aM i 0 ((c.queue.length:Int)-1)with
 | true=>
  have⟨C,D,Y,f1,f3⟩:=abZ h hi;rw[ic (show ¬ i = -1 by omega),bg,aq,au,aq,cC,Bool.or_true,Y];by_cases E:x.kind=2
  ·rw[show (x.kind==2)=true by rw[E];rfl,au,Bool.true_or,au];by_cases L:(c.cr.length:Int)<400
   ·rw[aQ L,aR (show ¬ (c.cr.length:Int) >= 400 by omega),aq,aA ⟨D,C⟩];dsimp only;rw[f1,ak,aA ⟨D,C⟩,f3,ak];unfold abY
    grind
   ·grind
  ·rw[kA E,aq,Bool.false_or];by_cases O:x.kind=3
   ·rw[show (x.kind==3)=true by rw[O];rfl,au,au];by_cases L:(c.cr.length:Int)<400
    ·rw[aQ L,aR (show ¬ (c.cr.length:Int) >= 400 by omega),aq,aA ⟨D,C⟩];dsimp only;rw[f1,ak,aA ⟨D,C⟩,f3,ak];unfold abY
     grind
    ·grind
   ·grind
 | false=>
  rw[Bool.false_and,iw,au,Bool.or_false];by_cases E:x.kind=2
  ·simp_all
  ·rw[kA E,aq,Bool.false_or];by_cases O:x.kind=3
   ·simp_all
   ·rw[kA O,aq,aq];by_cases e:i = -1
    ·simp_all
    ·grind
def ab0{c:av}(D:cF c)(h:Pq c){x:aH}{i:Int}(E:sL c x i=true):Bs c/\nL c.config.az c.bq x=true/\(x.kind=2 \/ x.kind=3 -> pH c i.toNat 100000/\0 <= i)/\c.ready.aX.length <= 4:=by
 simp only[sL,aS,g9,qA]at E;have⟨O,L,Z,C⟩:=E;simp[dL,aS]at L
 refine⟨Bs.of D h.p.ok (by omega),?_,λT=>?_,(Ut h.p.rdy).2.2⟩
 ·unfold nL;rw[h.p.rk,O,L.1];rfl
 ·have e:(x.kind==2 || x.kind==3)=true:=by rcases T with q | q <;>rw[q] <;>rfl
  rw[e,au]at C;simp[OT,aS,iN]at C;have⟨U,Y,_⟩:=abZ h C.1;exact⟨pH.of D h.p.ok U (by omega),Y⟩
structure Ck (c:av):Prop where
 f1:jU c.config c.box.bK=true
 f2:jU c.config c.box.next=true
 nw:aM c.now 0 1000000=true
 rk:mS c.config.az c.bq=true
 rd:lu c.config.az c.ready=true
 ar:kY c.config.az c.array=true
 sp:mj c.config.az c.spare=true
 se:c.spare.bF=c.config.bF
 rf:dV c.aV=true
 pa:tK c=true
 qu:gX (eI (ei c.config.az c.spare)) c.queue=true
 sh:iL c.shares=true
 sl:(c.shares.length:Int)=4
 dr:me c.drain=true
 pw:jh c.bk=true
 ps:c.bk.state=c.bq.bk
 si:c.bk.since<=c.now
 s1:aM c.cB.every 1 100000=true
 s2:aM c.cB.wait 1 c.cB.every=true
 s3:aM c.cB.next 0 (W6 (eI c.config.az-1))=true
 er:lS c.errors=true
 tr:c.trace.length<=2000
 rp:c.cr.length<=400
def Ck.of{c:av}(h:cZ c=true):Ck c:=by
 simp[cZ,aS,fJ,iN,g9,qA]at h;have⟨C,D,E,L,O,T,U,Y,⟨Z,h9'⟩,HS,HU,uG,ve,BM,BN,nG,EE,Ib,Ic,OA,yR,OB⟩:=h;exact⟨C,D,E,L,O,T,U,Y,Z,h9',HS,HU,uG,ve,BM,BN,by omega,EE,Ib,Ic,OA,by omega,by omega⟩
def Ck.ok{c:av}(h:Ck c):cZ c=true:=by
 have⟨C,D,E,L,O,T,U,Y,Z,h9',HS,HU,uG,ve,BM,BN,nG,EE,Ib,Ic,OA,yR,OB⟩:=h;simp[cZ,aS,fJ,iN,g9,qA]
 grind
def anZ:∀ (l:aa Nat) (a:Nat),l.Pairwise (λx y=>x≠y) -> l.length <= (l.filter (λx=>decide (x≠a))).length+1
 |[],a,_=>by simp
 | x :: l,a,h=>by
  have⟨C,D⟩:=List.pairwise_cons.1 h;by_cases e:x=a
  ·subst e;have:(x :: l).filter (λy=>decide (y≠x))=l:=by
    rw[List.filter_cons_of_neg (by simp)];exact List.filter_eq_self.2 λy E=>by simpa using (C y E).symm
   grind
  ·rw[List.filter_cons_of_pos (by simpa using e)];have:=anZ l a D;simp only[List.length_cons];omega
def pig:∀ (n:Nat) (l:aa Nat),(∀ x∈l,x<n)->l.Pairwise (λx y=>x≠y)->l.length<=n
 | 0,l,h,_=>by
  cases l with
  |nil=>simp
  |cons x l=>exact absurd (h x (.head _)) (by omega)
 | n+1,l,h,C=>by
  have E:=anZ l n C;have L:=pig n (l.filter (λx=>decide (x≠n))) (λx D=>by
   have:=List.mem_filter.1 D;have O:=h x this.1;have T:x≠n:=by simpa using this.2
   omega) (C.filter _)
  omega
def xo.pw{l:aa aJ}(h:xo l):l.Pairwise (λx y=>x≠y):=by
 rw[List.pairwise_iff_getElem];intro i j hi D L e;have C:=h j D;rw[oJ]at C;have E:l[i]∈l.take j:=by
  rw[List.mem_take_iff_getElem]
  grind
 exact C _ E (OJ.2 e.symm)
def xo.mk{l:aa aJ}(h:l.Pairwise (λx y=>x≠y)):xo l:=by
 rw[List.pairwise_iff_getElem]at h;intro j C;rw[oJ];intro x D e;obtain⟨i,hi,rfl⟩:=List.mem_take_iff_getElem.1 D;exact h i j _ C (by omega) (OJ.1 e).symm
structure fl (c:av):Prop where
 dl:(c.aV.aI.length:Int)=aY c.config.az
 tl:(c.bL.length:Int)=aY c.config.az
 gl:(c.guard.length:Int)=aY c.config.az
 t:∀x∈c.bL,ld x=true
 g:∀x∈c.guard,3<=x/\x<=1000
 pd:∀a∈c.pending,dn c.config.az a=true/\a.bR=0
 u:c.pending.Pairwise (λx y=>x≠y)
def fl.of{c:av}(h:tK c=true):fl c:=by
 simp[tK,aS,fJ,cw,fI]at h;have⟨E,L,O,g4,T,U⟩:=h;have key:=λi C Y=>by
  have:=T i C;unfold partAt at this;rw[bY C,bY Y,aS,bB]at this;exact this
 have Z:∀ i _,dn _ c.pending[i]=true/\c.pending[i].bR=0/\(c.pending.take i).any _=false:=λi C=>by
  have:=U i C;unfold BJ at this;rw[bY C]at this
  simpa [aS]using this
 refine⟨E,L,O,λx D=>?_,λx D=>?_,λa ha=>?_,xo.pw λi hi=>(Z i hi).2.2⟩
 ·obtain⟨i,hi,rfl⟩:=jw.1 D
  grind
 ·obtain⟨i,hi,rfl⟩:=jw.1 D
  grind
 ·obtain⟨i,hi,rfl⟩:=jw.1 ha;simp[*]
def aGH{g:aL}{l:aa aJ}(D:∀ a∈l,dn g a=true/\a.bR=0)(O:l.Pairwise (λx y=>x≠y)):l.length <= 128:=by
 have E:∀ a∈l,0 <= a.ay/\a.ay<8/\0 <= a.row/\a.row<16:=λa C=>by
  have⟨L,Y,Z,h4,h5,_⟩:=ri (D a C).1;have b1:=eY g;have b2:=fN L;omega
 have L:=pig 128 (l.map λa=>(a.ay*16+a.row).toNat) (λx T=>by
  obtain⟨a,C,rfl⟩:=List.mem_map.1 T;have:=E a C;omega) (by
  rw[List.pairwise_map]
  refine O.imp_of_mem λ{a b} C hb U e=>U ?_
  have r1:=E a C;have r2:=E b hb;have c1:=(D a C).2;have c2:=(D b hb).2;cases a;cases b;simp only at *
  congr 1<;>omega)
 simp_all
def fl.ok{c:av}(h:fl c):tK c=true:=by
 have⟨E,L,O,Y,Z,C,D⟩:=h;have hl:=aGH C D;have T:=xo.mk D;simp[tK,aS,fJ,g9,qA,cw,fI]
 refine⟨E,L,O,by omega,λi hi=>?_,λi hi=>?_⟩
 ·have U:i<c.guard.length:=by omega
  unfold partAt;rw[bY hi,bY U,aS,bB];simp_all
 ·unfold BJ;rw[bY hi];simp only[aS,fJ,g9];exact⟨(C _ (cM hi)).1,(C _ (cM hi)).2,T i hi⟩
def aGI{g:aL}{b n:Int}{l:aa aJ}(L:dn g ⟨b,n,0⟩=true)(O:∀ a∈l,dn g a=true/\a.bR=0)(C:l.Pairwise (λx y=>x≠y)):(∀ a∈nO b l n,dn g a=true/\a.bR=0)/\(nO b l n).Pairwise (λx y=>x≠y):=by
 unfold nO;cases h:l.any _ with
 |true=>simp_all
 | false=>
  rw[aq];rw[oJ]at h
  refine⟨λa T=>?_,?_⟩
  ·grind
  ·rw[List.pairwise_append]
   refine⟨C,List.pairwise_singleton _ _,λx D y E e=>?_⟩
   rw[List.mem_singleton.1 E]at e;exact h x D (OJ.2 e.symm)
def an0{g:aL}{b:Int}:∀ (ns:aa Int) {l:aa aJ},(∀ n∈ns,dn g ⟨b,n,0⟩=true) -> (∀ a∈l,dn g a=true/\a.bR=0) -> l.Pairwise (λx y=>x≠y) -> (∀ a∈ns.foldl (nO b) l,dn g a=true/\a.bR=0)/\(ns.foldl (nO b) l).Pairwise (λx y=>x≠y)
 |[],l,_,C,D=>⟨C,D⟩
 | n :: ns,l,E,C,D=>by
  have⟨L,O⟩:=aGI (E n (.head _)) C D;exact an0 ns (λm T=>E m (.tail _ T)) L O
def Il{T:Type}{p:T -> Prop}{l:aa T}{i:Nat}{x:T}(h:∀y∈l,p y)(C:p x):∀y∈l.set i x,p y:=by grind
def aGJ{t:bU}(h:ld t=true)(row dN:Int):ld (vD t row dN).1=true:=by
 unfold vD
 grind
def an1{k:Int}(h:aM k 1 16=true):ld (nN k)=true:=by
 have hb:=bB.1 h;simp only[ld,nN,aS,fJ,cw,jk,bB]
 refine⟨by omega,trivial,by omega,λi hi=>?_⟩
 rw[Uq (by simpa using hi) (by simpa using hi)];simp[aM]
def an2{c:eT}{p:dB}(hl:p.weights.length<1073741823)(h:jU c p=true):3 <= p.dK/\p.dK <= 1000:=by
 have⟨_,f2⟩:=xk hl h;simp[mg,aS,bB]at f2;simp_all
def rE{g:aL}{a:cN}(C:cA g=true)(h:dO g 100000 a):kY g a=true:=by
 simp only[kY,aS,iN,cw]
 refine⟨C,h.cells,h.bD,h.bC,λc D=>Sy.ok (h.syms c D),λp E=>?_⟩
 have⟨x,y⟩:=p;have⟨L,O⟩:=List.of_mem_zip E;simp[zq,aS,bB];exact⟨h.BB x L,h.jg y O⟩
def aGK{g:aL}{c:aH}(h:dP g c=true):pz g (jF g c).toNat=true:=by
 have⟨E,D,hb,_⟩:=EA h;have⟨L,O⟩:=aa3 h;unfold pz;unfold jF at *
 cases C:aM _ 1 5 with
 | true=>
  have C:=bB.1 C
  grind
 | false=>
  have T:¬ c.kind <= 5:=λh=>by rw[bB.2 ⟨D.1,h⟩]at C;cases C
  grind
def an3{l:aa Int}(h:∀ i,i<l.length -> pE l i=true){i:Nat}(hi:i<l.length):aM l[i] 0 1000000=true:=by
 have:=h i hi;cases i with
 |zero=>rw[Oi]at this;exact this
 |succ i=>rw[HP,aS]at this;exact this.1
def an4{l:aa Int}(h:∀ i,i<l.length -> pE l i=true){i:Nat}(hi:i+1<l.length):l[i]<l[i+1]:=by
 have:=h _ hi;rw[HP hi,aS,g9,qA]at this;omega
def an5{l:aa Int}(C:∀ i (hi:i<l.length),aM l[i] 0 1000000=true)(D:∀ i (hi:i+1<l.length),l[i]<l[i+1]):∀ i,i<l.length -> pE l i=true:=λi hi=>by
 cases i with
 |zero=>rw[Oi];exact C 0 hi
 | succ i=>
  have:=D i hi;rw[HP hi,aS,g9,qA];simp_all
def aGL{l:aa Int}(h:∀ i,i<l.length -> pE l i=true){x:Int}(L:aM x 0 1000000=true)(hl:EF ⟨[],l⟩ x=false):∀ i,i<(l++[x]).length -> pE (l++[x]) i=true:=by
 refine an5 (λi hi=>?_) λi hi=>?_
 ·by_cases C:i<l.length
  ·rw[List.getElem_append_left];exact an3 h C
  ·grind
 ·have D:i<l.length:=by simp at hi;omega
  by_cases C:i+1<l.length
  ·rw[List.getElem_append_left C,List.getElem_append_left];exact an4 h C
  ·have e:i+1=l.length:=by omega
   have E:(l++[x])[i+1]=x:=by simp[e]
   rw[E,List.getElem_append_left D];unfold EF at hl
   grind
def aGM{l:aa Int}(h:∀ i,i<l.length -> pE l i=true)(k:Nat):∀ i,i<(l.drop k).length -> pE (l.drop k) i=true:=by
 refine an5 (λi hi=>?_) λi hi=>?_
 ·rw[List.getElem_drop];exact an3 h _
 ·rw[List.getElem_drop,List.getElem_drop];rw[List.length_drop]at hi;exact an4 h _
def an6{g:aL}{r:dJ}(e:dA)(h:lu g r=true):lu g (sH g r e)=true:=by
 unfold sH;cases C:lu g r&&(dP g e.cmd&&(aM e.at_ 0 1000000 && !(e.cmd.kind==1&&EF r e.at_)))with
 |false=>exact h
 | true=>
  rw[au];simp only[aS,g9]at C;have⟨_,O,D,E⟩:=C;simp only[lu,aS,fJ,g9,qA,cw,fI]at h ⊢;have⟨T,U,Y,Z,L⟩:=h
  refine⟨T,by rw[eM];exact U,?_,λi hi=>?_,?_⟩
  ·cases e.cmd.kind==1 with
   |false=>exact Y
   | true=>
    rw[au];unfold EG
    grind
  ·rw[eM]at hi;have hb:=Z i hi;rw[HO hi]at hb;rw[HO (by rw[eM];exact hi)];by_cases e':(jF g e.cmd).toNat=i
   ·subst e';rw[gA,aGK O];have:=bB.1 D;rw[bB.2 ⟨by omega,by omega⟩];rfl
   ·simp_all
  ·cases hk:e.cmd.kind==1 with
   |false=>exact L
   | true=>
    rw[hk]at E;exact aGM (aGL L D E) _
structure Qk (n:Int) (q:List aN):Prop where
 r:∀x∈q,qt n x=true
 b:q.Pairwise λx y=>ef x y=true
 i:q.Pairwise λx y=>x.id≠y.id
 l:q.length<=12
def aGN{x y z:aN}(C:ef x y=true)(D:ef y z=true):ef x z=true:=by
 simp only[ef,eR,aS,iN,fJ]at *
 omega
def Qk.of{n:Int}{q:aa aN}(h:gX n q=true):Qk n q:=by
 have L:=h;simp only[gX,aS,cw,fI,iN]at h;have⟨E,Y⟩:=h;have O:∀ x∈q,qt n x=true:=λx T=>by
  obtain⟨i,hi,rfl⟩:=jw.1 T;have:=E i hi;unfold sF at this;simp_all
 have hb:∀ j i (D:i<j) (C:j<q.length),ef q[i] q[j]=true:=by
  intro j
  induction j with
  |zero=>simp_all
  | succ j U=>
   intro i D C;have:=E (j+1) C;rw[Of C,aS,aS]at this;by_cases e:i=j
   ·simp_all
   ·exact aGN (U i (by omega) _) this.2.1
 refine⟨O,?_,?_,by omega⟩
 ·rw[List.pairwise_iff_getElem]
  grind
 ·rw[List.pairwise_iff_getElem];intro i j hi C D e;have:=abc L D C;simp_all
def Qk.ok{n:Int}{q:aa aN}(h:Qk n q):gX n q=true:=by
 have⟨C,D,E,O⟩:=h;rw[List.pairwise_iff_getElem]at D E;simp[gX,aS,cw,fI,iN]
 refine⟨λi hi=>?_,by omega⟩
 cases i with
 |zero=>rw[aaQ hi];exact C _ (cM hi)
 | succ i=>
  rw[Of hi,aS,aS,g9];refine⟨C _ (cM hi),D i (i+1) (by omega) hi (by omega),?_⟩;rw[oJ];intro x L e;obtain⟨k,T,rfl⟩:=List.mem_take_iff_getElem.1 L
  grind
def Qk.sub{n:Int}{q s:aa aN}(h:Qk n q)(C:s.Sublist q):Qk n s:=
 ⟨λx D=>h.r x (C.subset D),h.b.sublist C,h.i.sublist C,Nat.le_trans C.length_le h.l⟩
def an7{T:Type}(l:aa T)(i:Nat):(l.take i++l.drop (i+1)).Sublist l:=by
 rw[<-List.eraseIdx_eq_take_drop_succ];exact List.eraseIdx_sublist l i
def aGO(e x:bV):Prop:=¬ (e.line=x.line/\e.code=x.code)
structure Ek (l:List bV):Prop where
 e:∀x∈l,zB x=true
 k:l.Pairwise aGO
 l:l.length<=6
def ab1{e x:bV}:mh e x=true ↔ x.line=e.line/\x.code=e.code:=by
 simp only[mh,aS,fJ]
def Ek.of{l:aa bV}(h:lS l=true):Ek l:=by
 simp[lS,aS,cw,fI,iN]at h;have⟨D,O⟩:=h;have key:=λi hi=>by
  have:=D i hi
  rwa [Uo hi,aS,g9]at this
 refine⟨λx E=>?_,?_,by omega⟩
 ·obtain⟨i,hi,rfl⟩:=jw.1 E
  grind
 ·rw[List.pairwise_iff_getElem];intro i j hi L T e;have C:=(key j L).2;rw[oJ]at C;exact C l[i] (List.mem_take_iff_getElem.2 ⟨i,by omega,rfl⟩) (ab1.2 e)
def Ek.ok{l:aa bV}(h:Ek l):lS l=true:=by
 have⟨D,C,L⟩:=h;rw[List.pairwise_iff_getElem]at C;simp only[lS,aS,cw,fI,iN]
 refine⟨λi hi=>?_,by omega⟩
 rw[Uo hi,aS,g9];refine⟨D _ (cM hi),?_⟩;rw[oJ];intro x E e;obtain⟨k,O,rfl⟩:=List.mem_take_iff_getElem.1 E;exact C k i (by omega) hi (by omega) (ab1.1 e)
def ab2{l:aa bV}(h:lS l=true){n code:Int}(h1:0 <= n/\n <= 1023)(h2:code=1 \/ code=2):lS (rD l n code)=true:=by
 have C:=Ek.of h;have hl:=C.l;have IT:zB ⟨n,code,1⟩=true:=by
  simp[zB,aS,eR,fJ,bB];omega
 refine Ek.ok ?_;unfold rD;cases D:l.findIdx? (mh ⟨n,code,1⟩)with
 | some i=>
  have⟨hi,hp⟩:=OH D;dsimp only;rw[lC _ hi];have U:=C.e _ (cM hi);have Y:zB (UX l[i])=true:=by
   simp only[zB,aS,bB]at U ⊢;unfold UX;dsimp only;rw[aK]
   grind
  refine⟨Il C.e Y,?_,by rw[eM];exact hl⟩;have E:=C.k;rw[List.pairwise_iff_getElem]at E ⊢;intro a b L hb Z;rw[eM]at L hb;have:=E a b L hb Z;rw[List.getElem_set,List.getElem_set];by_cases O:i=a
  ·subst O
   rwa [bJ rfl,bQ]
  ·rw[bQ O];by_cases e2:i=b
   ·subst e2
    rwa [bJ rfl]
   ·simp[*]
 | none=>
  have hn:∀ x∈l,¬ (x.line=n/\x.code=code):=λx hx e=>by
   have:=List.findIdx?_eq_none_iff.1 D x hx;rw[ab1.2 e]at this;cases this
  have app:∀ m:aa bV,m.Sublist l -> m.length <= 5 -> Ek (m++[⟨n,code,1⟩]):=λm T hml=>by
   refine⟨λx hx=>?_,?_,by rw[pM,lV];omega⟩
   ·rcases List.mem_append.1 hx with hx | hx
    ·exact C.e x (T.subset hx)
    ·rwa [List.mem_singleton.1 hx]
   ·rw[List.pairwise_append]
    refine⟨C.k.sublist T,List.pairwise_singleton _ _,λx hx y hy e=>?_⟩
    rw[List.mem_singleton.1 hy]at e
    grind
  dsimp only;by_cases e6:l.length=6
  ·grind
  ·rw[kA (show ¬ (l.length:Int)=6 by omega),aq]
   grind
def an8{l:aa bZ}(h:∀ s∈l,oC s=true){k:Nat}(C:k<l.length)(E:1<=l[k].fK):∀ s∈l.set k ⟨l[k].weight,W6 (l[k].fK-1)⟩,oC s=true:=by
 have D:=h _ (cM C);simp only[oC,aS,bB]at D;rw[aK (n:=l[k].fK-1)];refine Il h ?_;simp only[oC,aS,bB];omega
def aGP{l:aa bZ}(w:aa Bool)(hl:l.length<1073741823)(D:iL l=true)(hw:l.length=w.length):∃ y t,q5 l w=some (y,t)/\y.length=l.length/\iL y=true:=by
 have mk:∀ y:aa bZ,y.length=l.length -> (∀ s∈y,oC s=true) -> y.length=l.length/\iL y=true:=λy C h2=>by
  refine⟨C,?_⟩;simp[iL,aS,cw]at D ⊢;exact⟨h2,by rw[C];exact D.2⟩
 have E:∀ s∈l,oC s=true:=by
  simp only[iL,aS,cw]at D;exact D.1
 unfold q5 xA xC bh xL xZ;have hb:=xj (λi=>w.getD i false) (λi=>(l.getD i ⟨0,0⟩).fK) (min l.length w.length);have T:(jt l).length=l.length:=by simp[jt]
 have gO:=xj (λi=>w.getD i false) (λi=>((jt l).getD i ⟨0,0⟩).fK) (min (jt l).length w.length);have hm:=aby (λi=>w.getD i false) (λi=>(l.getD i ⟨0,0⟩).fK) (min l.length w.length);rw[jX,OC l w (by omega),ak,Ob _ (by omega),ak,D,bg,aq,List.length_nil,fT,cD,au];unfold vC;generalize hr:lT (λi=>w.getD i false) (λi=>(l.getD i ⟨0,0⟩).fK) (min l.length w.length)=b at *
 by_cases U:b<0
 ·rw[aQ U];exact⟨_,_,rfl,mk _ rfl E⟩
 ·have C:b.toNat<l.length:=by omega
  rw[aR U,aq,aA ⟨by omega,C⟩,aA C];dsimp only;have hsb:=E _ (cM C);simp only[oC,aS,bB]at hsb;cases Y:l[b.toNat].fK==0 with
  | false=>
   have Y:¬ l[b.toNat].fK=0:=by simpa using Y
   rw[ aA ⟨by omega,C⟩,aA C,aA ⟨by omega,C⟩,aA C];exact⟨_,_,rfl,mk _ (by simp) (an8 E C (by omega))⟩
  | true=>
   have aGQ:∀ s∈jt l,oC s=true:=λs D=>by
    obtain⟨x,O,rfl⟩:=List.mem_map.1 D;have:=E x O;simp[oC,aS,bB,tS]at this ⊢;omega
   rw[au,abA l w (by omega),ak];simp only[eC];rw[OC _ w (by omega),ak];have Z:0 <= vC (jt l) w:=abz _ (i:=b.toNat) (by rcases hm with h|h;exact absurd h (by omega);exact h) _ (by rw[T];omega);have hq:vC (jt l) w<((min (jt l).length w.length:Nat):Int):=gO.2;have L:(vC (jt l) w).toNat<(jt l).length:=by omega
   have h4:1 <= (jt l)[(vC (jt l) w).toNat].fK:=by
    have dQ:(vC (jt l) w).toNat<l.length:=by omega
    have O:=E _ (cM dQ);simp only[oC,aS,bB]at O;simp only[jt,List.getElem_map,tS];simp only[jt]at O;omega
   rw[aA ⟨Z,L⟩,aA L,aA ⟨Z,L⟩,aA L];exact⟨_,_,rfl,mk _ (by simp[T]) (an8 aGQ L h4)⟩
def an9{r:cO}(h:dV r=true)(k:Nat){d:Int}(C:-2 <= d/\d <= 5):dV ⟨r.aI.set k d,r.wait,r.dy⟩=true:=by
 simp only[dV,aS]at h ⊢;refine⟨aa5 h.1 ?_,by rw[eM];exact h.2.1,h.2.2⟩;exact bB.2 C
def aGR{r:cO}(h:dV r=true){b:Int}(hb:b.toNat<r.aI.length):dV (xm r b)=true:=by
 have C:=EO h _ (cM hb);unfold xm;rw[lC _ hb];by_cases e:r.aI[b.toNat] = -2
 ·simp_all
 ·rw[aR e];exact an9 h _ (by omega)
def aGS{r:cH}{p:fk}{x:aH}{now:Int}(E:jh p=true)(C:p.state=r.bk)(L:p.since <= now)(O:now <= 1000000)(U:6 <= x.kind/\x.kind <= 9)(D:nK r x=true):jh (zL p x.kind now)=true/\(zL p x.kind now).state=(gk r x).bk/\(zL p x.kind now).since <= now:=by
 have hb:0 <= p.since:=by
  simp[jh,aS,bB]at E;omega
 have hi:0 <= p.idle/\p.idle <= 1000000:=by
  simp[jh,aS,bB]at E;omega
 have T:=bB.2 ⟨L,O⟩;unfold zL;rw[E,T,Bool.and_self];have mk:∀ s:Int,0 <= s/\s <= 2 -> jh ⟨s,now,p.idle⟩=true:=λs C=>by
  simp[jh,aS,bB];omega
 have:x.kind=6 \/ x.kind=7 \/ x.kind=8 \/ x.kind=9:=by omega
 rcases this with h|h|h|h
 ·have e:r.bk=0:=by simpa [nK,h]using D
  simp[gk,h,C,e,mk]
 ·have e:r.bk=1:=by simpa [nK,h]using D
  simp[gk,h,C,e,mk]
 ·have e:r.bk=0:=by have:=D;simp[nK,h]at this;exact this.1
  simp[gk,h,C,e,mk]
 ·have e:r.bk=2:=by simpa [nK,h]using D
  simp[gk,h,C,e,mk]
def aGT{c:av}(h:Pq c)(Z:Int×Int×Int×Int×af)(P:Int×Int×Int×Int×Int×(aa Int)×Int×Int×af)(L:P.2.1=c.box.bK.cap):iter Eg aT ((cI 0 c.aV.aI,fX c,(),(),(),(),(),(),(),(),(),c.queue,(c.queue.length:Int),(0:Int),()),(c,Z,P,(List.range c.queue.length).map (iD c),(List.range c.queue.length).map (eJ c),tU c c.queue.length,([]:aa aH),List.replicate c.queue.length false,List.replicate 4 false,()))=some (.inl (((),(),(),(),(),(),(),()),(c,Z,P,(List.range c.queue.length).map (eJ c),(List.range c.queue.length).map (nP c),(List.range c.queue.length).map (lU c),sK c c.queue.length,()))):=by
 have O:=h.ql;have vT:=h.pl;have T:=mq h.rf;have U:=xq h;have e:=cv (step:=Eg) c.queue.length (λi=>((cI 0 _,fX c,(),(),(),(),(),(),(),(),(),c.queue,c.queue.length,i,()),(c,Z,P,(List.range _).map (iD c),(List.range c.queue.length).map (eJ c),tU c _,(List.range i).map (nP c),sI (lU c) c.queue.length i,sK c i,()))) _ aT (λk C=>by
  have hl:=US (f:=lU c) (n:=c.queue.length) (k:=k) (by omega);have Im:=vH c;have hwl:=U4 c k;have⟨ho,D,Y,o3,o4,o5⟩:=ET h C;have⟨q1,q2,E⟩:=h.q _ (cM C);rw[qx C]at q1 q2 E;have Dn:(mz c k).write=rB c.queue k:=by rw[ER C,qx C]
  refine(aGF (r:=mz c k) (a:=gf c k) (nd:=nP c k) (ct:=oF c (gf c k).ay) (rd:=dL c (nP c k)) (ib:=OS c (gf c k).ay) O C (qx C) (by omega) (ES _) (by simp;exact C) (by omega) (by simp) (by omega) (by omega) (by rw[Dn];exact UG _ D Y U) (abW T.1 D o3) (zJ h.p (anX h C)) (abF _ _ (by omega)) E h.nw).trans ?_;rw[zO C,anK,L,<- UT C,List.range_succ,List.map_append];rfl) (by
  unfold Eg ax xG xI xL;dsimp only;rw[aR,aq,UU]) (bH)
 exact e
def tW(f g:Nat->Bool)(n k:Nat):aa Bool:=(List.range n).map λi=>bif Nat.blt i k then f i else g i
def aoa(f g:Nat->Bool)(n:Nat):tW f g n 0=(List.range n).map g:=rfl
def aob(f g:Nat -> Bool)(n:Nat):tW f g n n=(List.range n).map f:=by
 refine List.map_congr_left λi hi=>?_
 have hi:=fI.1 hi;rw[show Nat.blt i n=true from jv hi];rfl
def U5(f g:Nat->Bool)(n k:Nat):(tW f g n k).length=n:=by unfold tW;simp
def aGU(k:Nat):Nat.blt k k=false:=by
 cases h:Nat.blt k k with
 |false=>rfl
 |true=>simp_all
def aoc{f g:Nat->Bool}{n k:Nat}(C:k<(tW f g n k).length):(tW f g n k)[k]=g k:=by
 simp only[tW,List.getElem_map,jH,aGU,aq]
def aod{f g:Nat -> Bool}{n k:Nat}(h:k<n):(tW f g n k).set k (f k)=tW f g n (k+1):=by
 apply List.ext_getElem
 ·rw[eM,U5,U5]
 ·intro i E L;rw[List.getElem_set];simp only[tW,List.getElem_map,jH];by_cases e:k=i
  ·subst e;rw[bJ rfl,show Nat.blt k _=true from jv (dW _)];rfl
  ·rw[bQ e];rcases Nat.lt_or_gt_of_ne e with h3 | h3
   ·have C:Nat.blt i k=false:=by
     cases hb:Nat.blt i k with
     |false=>rfl
     |true=>have:=cX hb;omega
    have D:Nat.blt i (k+1)=false:=by
     cases hb:Nat.blt i (k+1)with
     |false=>rfl
     |true=>have:=cX hb;omega
    rw[C,D]
   ·rw[show Nat.blt i k=true from jv h3,show Nat.blt i _=true from jv (by omega)]
def sM(c:av)(t:Int)(i:Nat):Bool:=lU c i&&(mz c i).c9==t
def aGV{c:av}(L:c.queue.length <= 12)(t:Int)(Z:Int×Int×Int×Int×af)(P:Int×Int×Int×Int×Int×(aa Int)×Int×Int×af)(jg:aa Bool)(C:aa aH):iter Hx aT (((),(),(),(),(),(),t,c.queue,(c.queue.length:Int),(0:Int),()),(c,Z,P,jg,C,(List.range c.queue.length).map (lU c),()))=some (.inl (((),(),(),(),(),(),()),(c,Z,P,jg,C,(List.range c.queue.length).map (sM c t),()))):=by
 have e:=cv (step:=Hx) c.queue.length (λi=>(((),(),(),(),(),(),t,c.queue,(c.queue.length:Int),(i:Int),()),(c,Z,P,jg,C,tW (sM c t) (lU c) c.queue.length i,()))) _ aT (λk D=>by
  have hl:=U5 (sM c t) (lU c) c.queue.length k;rw[<- aod D];unfold Hx ax xG xI xL;dsimp only;rw[aQ,au,aA ⟨by omega,by omega⟩,aA ⟨by omega,by omega⟩,aA,bA];simp only[br,aoc,qx];have E:sM c t k=(lU c k&&(mz c k).c9==t):=rfl;rw[E];cases lU c k with
  |false=>rw[aq,aA ⟨by omega,by omega⟩,aA];rfl
  |true=>rw[ aA ⟨by omega,by omega⟩,aA];rfl) (by
  unfold Hx ax xG xI xL;dsimp only;rw[aR,aq,aob]) (bH)
 rw[cm,aoa]at e;exact e
def gn(p:Nat->Bool):Nat->Int
 |0=>-1
 |k+1=>bif decide (gn p k<0)&&p k then (k:Int)else gn p k
def EV(p:Nat->Bool)(k:Nat):gn p (k+1)=bif decide (gn p k<0)&&p k then (k:Int)else gn p k:=rfl
def vJ(p:Nat -> Bool):∀ n,(gn p n = -1 /\ ∀ k,k<n -> p k=false) \/ ∃ j:Nat,j<n/\gn p n=(j:Int)/\p j=true /\ ∀ k,k<j -> p k=false
 |0=>.inl ⟨rfl,λk C=>absurd C (Nat.not_lt_zero k)⟩
 | n+1=>by
  rw[EV];rcases vJ p n with ⟨D,E⟩|⟨j,D,E,L,O⟩
  ·grind
  ·grind
def vL(D jg C:Nat->Bool)(n:Nat):Int:=
 bif decide (gn (λi=>C i&&D i) n<0)then (bif decide (gn (λi=>C i&&jg i) n<0)then gn C n else gn (λi=>C i&&jg i) n)else gn (λi=>C i&&D i) n
def oG(c:av)(i:Nat):Bool:=decide ((mz c i).at_<=c.now-c.box.bK.cap)
def aGW{c:av}(h:Pq c)(C:Nat->Bool):Tw c.queue ((List.range c.queue.length).map C) ((List.range c.queue.length).map (eJ c)) c.box.bK.cap c.now=some (vL (oG c) (eJ c) C c.queue.length):=by
 have hq:=h.ql;have U6:=h.nw;have hcp:=h.cap;have Y:W6 (c.now-c.box.bK.cap)=c.now-c.box.bK.cap:=aK;have ju:∀ (k:Nat),k<c.queue.length->(C k&&oG c k)=false->Bo (((List.range c.queue.length).map C,(List.range c.queue.length).map (eJ c),c.box.bK.cap,c.now,gn C k,gn (λi=>C i&&eJ c i) k,c.queue,(c.queue.length:Int),(k:Int),()),())=some (.inl (((List.range c.queue.length).map C,(List.range c.queue.length).map (eJ c),c.box.bK.cap,c.now,gn C (k+1),gn (λi=>C i&&eJ c i) (k+1),c.queue,(c.queue.length:Int),((k+1:Nat):Int),()),())):=by
  intro k D E;rw[EV,EV];unfold Bo ax aU xG xI;dsimp only;rw[aQ,au,aA ⟨by omega,by omega⟩];simp only[eK,di];rw[aR,aq,aA ⟨by omega,by omega⟩];simp only[br,zO D,Y,qx];rw[bA];cases L:C k with
  |false=>simp[L]
  | true=>
   rw[L,cC]at E;unfold oG at E;rw[E,aQ (by omega:(k:Int)<(c.queue.length:Int)),aA ⟨by omega,by omega⟩];simp only[bg,aq,au,L,cC];cases eJ c k<;>cases decide (gn C k<0)<;>cases decide (gn (λi=>C i&&eJ c i) k<0)<;>simp
 unfold Tw vL bE;rw[cW,ak,bB.2 ⟨hcp.1,by omega⟩,bg,aq,cW,ak,bB.2 U6,bg,aq];rcases vJ (λi=>C i&&oG c i) c.queue.length with ⟨O,T⟩|⟨j,O,T,U,h4⟩
 ·have e:=cv (step:=Bo) c.queue.length (λk=>(((List.range c.queue.length).map C,(List.range c.queue.length).map (eJ c),c.box.bK.cap,c.now,gn C k,gn (λi=>C i&&eJ c i) k,c.queue,(c.queue.length:Int),(k:Int),()),())) (.inr (.inl ((gn C c.queue.length,gn (λi=>C i&&eJ c i) c.queue.length,()),()))) aT (λk D=>ju k D (T k D)) (by
   unfold Bo ax aU xG xI;dsimp only;rw[aR,aq]) (bH)
  rw[cm]at e
  refine(bf (λo=>Option.bind o _) e).trans ?_
  rw[ak,O];simp only[Sum.elim_inr,eC];by_cases Z:gn (λi=>C i&&eJ c i) c.queue.length<0
  ·rw[aR (by omega:¬ gn (λi=>C i&&eJ c i) c.queue.length >= 0),aQ Z];rfl
  ·rw[aQ (by omega:gn (λi=>C i&&eJ c i) c.queue.length >= 0),aR Z];rfl
 ·have e:=cv (step:=Bo) j (λk=>(((List.range c.queue.length).map C,(List.range c.queue.length).map (eJ c),c.box.bK.cap,c.now,gn C k,gn (λi=>C i&&eJ c i) k,c.queue,(c.queue.length:Int),(k:Int),()),())) (.inl (((j:Int),()),())) aT (λk D=>ju k (by omega) (h4 k D)) (by
   rw[aS]at U;have h5:=U.2;unfold oG at h5;unfold Bo ax aU xG xI;dsimp only;rw[aQ,au,aA ⟨by omega,by omega⟩];simp only[eK,di];rw[aR,aq,aA ⟨by omega,by omega⟩];simp only[br,zO O,Y,qx,U.1,h5,bg,aq,au]) (bH)
  rw[cm]at e
  refine(bf (λo=>Option.bind o _) e).trans ?_
  rw[ak,T,aR];rfl
def rkN(D jg C:Nat->Bool)(n:Nat):Int:=
 bif decide (gn (λi=>C i&&D i) n<0)then (bif decide (gn (λi=>C i&&jg i) n<0)then (bif decide (gn C n<0)then 0 else 1)else 2)else 3
def aGX{c:av}(h:Pq c)(C:Nat->Bool):Sd c.queue ((List.range c.queue.length).map C) ((List.range c.queue.length).map (eJ c)) c.box.bK.cap c.now=some (vL (oG c) (eJ c) C c.queue.length):=by
 have U:=h.ql;have E:=h.nw;have L:=h.cap;have O:W6 (c.now-c.box.bK.cap)=c.now-c.box.bK.cap:=aK;unfold Sd bh;rw[eS,ak,bB.2 ⟨L.1,by omega⟩,bg,aq,eS,ak,bB.2 E,bg,aq];have e:=cv (step:=L2) c.queue.length (λk=>((c.queue,(List.range c.queue.length).map C,(List.range c.queue.length).map (eJ c),c.box.bK.cap,c.now,vL (oG c) (eJ c) C k,rkN (oG c) (eJ c) C k,(k:Int),()),())) (.inl ((vL (oG c) (eJ c) C c.queue.length,()),())) aT (λk D=>by
  have Y:=vJ C k;have Z:=vJ (λi=>C i&&eJ c i) k;have ho:=vJ (λi=>C i&&oG c i) k;unfold L2 ax xG xI;dsimp only;simp only[eK,di];rw[aQ,au,au,aA ⟨by omega,by omega⟩];simp only[br,zO D,O,qx];rw[bA];unfold vL rkN;rw[EV,EV,EV];have hold:decide ((mz c k).at_<=c.now-c.box.bK.cap)=oG c k:=rfl;rw[hold];cases T:C k with
  |false=>simp[T]
  | true=>
   simp only[bg,aq,cC];rw[aA ⟨by omega,by omega⟩,aA ⟨by omega,by omega⟩];generalize gn (λi=>C i&&oG c i) k=o at *
   generalize gn (λi=>C i&&eJ c i) k=u at *
   generalize gn C k=a at *
   have ao:a<0\/0<=a:=by omega
   have uo:u<0\/0<=u:=by omega
   have oo:o<0\/0<=o:=by omega
   have kn:¬ (k:Int)<0:=by omega
   rcases ao with ao|ao<;>rcases uo with uo|uo<;>rcases oo with oo|oo<;>cases eJ c k<;>cases oG c k<;>simp[D,ao,uo,oo,kn,Int.not_lt.2 ao,Int.not_lt.2 uo,Int.not_lt.2 oo]) (by
  unfold L2 ax xG xI;dsimp only;rw[aR,aq]) (bH)
 rw[cm]at e
 refine(bf (λo=>Option.bind o _) e).trans ?_
 rfl
def sN:aH:=⟨0,0,0,0⟩
def sO(c:av):Int:=match q5 c.shares (sK c c.queue.length)with
 |some y=>y.2
 |none=>0
def pJ(c:av):Int:=vL (oG c) (eJ c) (sM c (sO c)) c.queue.length
def Ca(c:av):aH×Int:=bif decide (pJ c<0)then (sN,-1)else (nP c (pJ c).toNat,pJ c)
def aoe{c:av}(h:Pq c):∃ l,q5 c.shares (sK c c.queue.length)=some (l,sO c):=by
 have⟨y,t,e,_⟩:=abC (sK c c.queue.length) (by have:=h.shl;omega) h.sh (by rw[U4,h.shl]);refine⟨y,?_⟩;unfold sO;rw[e]
def aof(c:av):-1 <= pJ c/\pJ c<c.queue.length:=by
 unfold pJ vL;rcases vJ _ _ with ⟨C,_⟩|⟨j,C,L,_⟩
 ·rw[C,aQ,au];rcases vJ _ _ with ⟨D,_⟩ | ⟨j,D,O,_⟩
  ·rw[D,aQ,au];rcases vJ (sM c (sO c)) c.queue.length with ⟨E,_⟩|⟨j,E,T,_⟩<;>omega
  ·grind
 ·grind
def aGY{c:av}(h:Pq c):TA c (cI 0 c.aV.aI) (fX c)=some (Ca c):=by
 have E:=h.ql;have⟨l,hl⟩:=aoe h;have hb:=aof c;unfold TA bh xL;rw[bJ ⟨by omega,by omega,by omega⟩,br,aGp h,ak];simp only[eC];rw[bJ ⟨by omega,by omega,by omega⟩,bJ ⟨by omega,by omega,by omega⟩,br,aGq h,ak];simp only[eC];rw[bJ ⟨by omega,by omega,by omega⟩,bJ (by decide),br,show (4:Int).toNat=4 from rfl,aGT h _ _ rfl,ak];simp only[eC];rw[hl,ak];dsimp only;rw[aGV E,ak];simp only[eC];rw[aGW h,ak];show (bif decide (pJ c<0)then _ else _)=_;unfold Ca;by_cases C:pJ c<0
 ·rw[aQ C];rfl
 ·have L:(pJ c).toNat<c.queue.length:=by omega
  rw[aR C,aq,aq];have O:¬ vL (oG c) (eJ c) (sM c (sO c)) c.queue.length<0:=C;have D:=L;rw[aA ⟨by omega,by simp only[eK,di];exact D⟩,aA (by simp only[eK,di];exact D)];simp only[List.getElem_map,jH];rfl
def ab3(l:aa aJ)(b:Int)(hl:l.length <= 1048576):GD l b=some (l.any λa=>a.ay==b):=by
 have E:=tN (λa:aJ=>a.ay==b) l;unfold GD bE;rw[H7];have e:=cv (step:=GC) (dj (λa:aJ=>a.ay==b) l) (λi=>((l,b,(i:Int),()),())) (if dj (λa:aJ=>a.ay==b) l<l.length then .inl ((true,()),())else .inr (.inl ((),()))) aT (λk h=>by
  have D:=mU h (by omega);unfold GC ax aU xG xI;dsimp only;rw[aQ,au,aA ⟨by omega,by omega⟩];simp only[br];rw[D,aq,bA]) (by
  by_cases C:dj (λa:aJ=>a.ay==b) l<l.length
  ·have D:=qv C;unfold GC ax aU xG xI;dsimp only;simp[*]
  ·unfold GC ax aU xG xI;dsimp only;rw[aR,aq,bQ C]) (bH)
 rw[cm]at e
 refine(bf (λo=>Option.bind o _) e).trans ?_
 by_cases C:dj (λa:aJ=>a.ay==b) l<l.length
 ·rw[bJ C,aQ C];rfl
 ·rw[bQ C,aR C];rfl
def aog{c:av}(h:Pq c)(a:aJ):(iter GG aT ((c,fX c,(List.range c.queue.length).map (iD c),(),(0:Int),()),((a.ay,a.row,a.bR,()),()))).bind (Sum.elim (λD=>some D.1.1) (Sum.elim (λz28=>some true) (λz=>nomatch z)))=some (!zP c c.queue.length a.ay):=by
 have hq:=h.ql;have E:=xq h;have e:=ia (step:=GG) (List.range c.queue.length) (λi=>!(iD c i&&eJ c i&&a.ay==(gf c i).ay)) (λi=>((c,fX c,(List.range c.queue.length).map (iD c),(),(i:Int),()),((a.ay,a.row,a.bR,()),()))) (.inl ((false,()),())) (.inr (.inl ((),()))) aT (λk C=>by
  rw[di]at C;have L:=vH c;have hl4:((List.range c.queue.length).map (iD c)).length=c.queue.length:=by simp
  have⟨ho,O,T,o3,o4,U⟩:=ET h C;have Y:=ank (r:=c.bq) (a:=gf c k) U O T E;rw[jH];unfold GG ax aU xG xI;dsimp only;rw[aQ,au,aA ⟨by omega,by omega⟩];simp only[br,zO C];rw[bA];cases iD c k with
  |false=>rfl
  | true=>
   rw[au,aA ⟨by omega,by omega⟩];simp only[ES];rw[aA ⟨by omega,by omega⟩,Y,ak,Bool.beq_comm];have jg:eJ c k=xl c.bq (gf c k):=rfl;rw[jg];cases a.ay==(gf c k).ay<;>cases xl c.bq (gf c k)<;>rfl) (by
  rw[di];have L:=vH c;unfold GG ax aU xG xI;dsimp only;rw[aR,aq]) (by rw[di];exact bH)
 rw[cm]at e;rw[e,ak];have Z:(List.range c.queue.length).all (λi=>!(iD c i&&eJ c i&&a.ay==(gf c i).ay)) = !zP c c.queue.length a.ay:=by
  unfold zP;rw[List.any_eq_not_all_not,Bool.not_not]
 rw[Z];cases zP c c.queue.length a.ay<;>rfl
def aGZ{c:av}(h:Pq c){k:Nat}(C:k<c.queue.length):Sa c (fX c) ((List.range c.queue.length).map (iD c)) (k:Int)=some (lU c k):=by
 have hq:=h.ql;have vT:=h.pl;have O:=mq h.rf;have T:=xq h;have Im:=vH c;have hl4:((List.range c.queue.length).map (iD c)).length=c.queue.length:=by simp
 obtain⟨ho,E,U,Y,o4,o5⟩:=ET h C;obtain⟨q1,q2,Z⟩:=h.q _ (cM C);rw[qx C]at Z;have U6:=h.nw;have Dn:(mz c k).write=rB c.queue k:=by rw[ER C,qx C]
 have hnd:A5 c.bq (gf c k) (mz c k).write=some (nP c k):=by rw[Dn,ani];exact UG _ E U T
 have hw:W6 (c.now-(mz c k).at_)=c.now-(mz c k).at_:=aK;unfold Sa xI bE;rw[aA ⟨by omega,by omega⟩];simp only[br,ES];rw[aA ⟨by omega,by omega⟩];simp only[zO C,(U3 O.1 E Y),ak,qx];unfold lU;cases iD c k with
 |false=>rfl
 | true=>
  simp only[bg,aq,cC];cases oF c (gf c k).ay with
  |true=>rfl
  | false=>
   rw[aq,aA ⟨by omega,by omega⟩,hnd,ak,UE h.p (anX h C),ak];cases dL c (nP c k)with
   |false=>rfl
   | true=>
    simp only[bg,iw,aq,cC,ab3 _ _ (show c.pending.length<=1048576 by omega),ak,aog h,hw];have Da:(c.pending.any λa=>a.ay==(gf c k).ay)=OS c (gf c k).ay:=rfl;have hyg:decide (c.now-(mz c k).at_ >= c.box.bK.cap) = !U2 c k:=by
     unfold U2;by_cases L:c.now-(mz c k).at_<c.box.bK.cap
     ·rw[aQ L,aR];rfl
     ·rw[aR L,aQ];rfl
    rw[Da,hyg];by_cases D:(nP c k).kind=1
    ·have k4:((nP c k).kind==(4:Int))=false:=by rw[D];rfl
     have k4':((nP c k).kind != (4:Int))=true:=by rw[D];rfl
     have D:((nP c k).kind==(1:Int))=true:=by rw[D];rfl
     rw[D,k4,k4'];cases OS c (gf c k).ay<;>rfl
    ·have D:((nP c k).kind==(1:Int))=false:=by simpa using D
     rw[D,bne];cases (nP c k).kind==(4:Int)with
     |false=>rfl
     | true=>
      cases OS c (gf c k).ay with
      |true=>rfl
      | false=>
       simp only[Bool.false_or,bg,au,aq,cC,iw];refine(aA (⟨by omega,C⟩:0<=(k:Int)/\k<c.queue.length)).trans ?_;cases U2 c k with
       |false=>rw[Bool.and_false];rfl
       |true=>rw[Bool.and_true];exact aog h _
def aG0{c:av}(h:Pq c):Se c=some (Ca c):=by
 have hq:=h.ql;have U:=xq h;have Im:=vH c;have⟨l,hl⟩:=aoe h;have hb:=aof c;have e:=cv (step:=L3) c.queue.length (λi=>((c,(),(),(),(),(),(),(i:Int),()),(((0:Int),(0:Int),(0:Int),(0:Int),()),fX c,(List.range c.queue.length).map (iD c),(List.range i).map (lU c),(List.range i).map (eJ c),sK c i,()))) (.inl ((c,(),(),(),(),(),()),(((0:Int),(0:Int),(0:Int),(0:Int),()),fX c,(List.range c.queue.length).map (lU c),(List.range c.queue.length).map (eJ c),sK c c.queue.length,()))) aT (λk C=>by
  have⟨Z,E,L,o3,o4,Y⟩:=ET h C;have⟨q1,q2,q3⟩:=h.q _ (cM C);rw[qx C]at q2;have hwl:=U4 c k;have hh:=ank (r:=c.bq) (a:=gf c k) Y E L U;have jg:eJ c k=xl c.bq (gf c k):=rfl;have hwt:sK c (k+1)=bif lU c k then (sK c k).set (mz c k).c9.toNat true else sK c k:=rfl;unfold L3 ax xG xI xL;dsimp only;simp only[eK,di,lV];rw[aQ,au,aGZ h C,ak,cD,au,aA ⟨by omega,by omega⟩,aA];simp only[br,ES];rw[hh,ak,au,bA,List.range_succ,List.map_append,List.map_append,List.map_singleton,List.map_singleton,jg,hwt];cases lU c k with
  |false=>rfl
  | true=>
   rw[ aA ⟨by omega,by omega⟩];simp only[qx];rw[aA ⟨by omega,by omega⟩,aA];rfl) (by
  unfold L3 ax xG xI xL;dsimp only;rw[aR,aq]) (bH)
 have O:=cv (step:=L4) c.queue.length (λi=>((c,(),(),(),(),sO c,(i:Int),()),(((0:Int),(0:Int),(0:Int),(0:Int),()),fX c,tW (sM c (sO c)) (lU c) c.queue.length i,(List.range c.queue.length).map (eJ c),()))) (.inl ((c,(),(),(),(),()),(((0:Int),(0:Int),(0:Int),(0:Int),()),fX c,(List.range c.queue.length).map (sM c (sO c)),(List.range c.queue.length).map (eJ c),()))) aT (λk C=>by
  have D:=U5 (sM c (sO c)) (lU c) c.queue.length k;have ht:sM c (sO c) k=(lU c k&&(mz c k).c9==sO c):=rfl;rw[<- aod C,ht];unfold L4 ax xG xI xL;dsimp only;rw[aQ,au,aA ⟨by omega,by omega⟩,aA,bA];simp only[br,aoc];cases lU c k with
  |false=>rw[aq,aA ⟨by omega,by omega⟩,aA];rfl
  | true=>
   rw[ aA ⟨by omega,by omega⟩];simp only[qx];rw[aA ⟨by omega,by omega⟩,aA];rfl) (by
  unfold L4 ax xG xI xL;dsimp only;rw[aR,aq,aob]) (bH)
 rw[cm]at e O;rw[aoa]at O;unfold Se xI bh xL;rw[anJ h,ak,aGm h,ak,bJ (by decide)]
 refine(bf (λo=>Option.bind o _) e).trans ?_
 rw[ak];simp only[eC];rw[ane _ _ (by have:=h.shl;omega),hl,ak]
 refine(bf (λo=>Option.bind o _) O).trans ?_
 rw[ak];simp only[eC];rw[aGX h,ak];show (bif decide (pJ c<0)then _ else _)=_;unfold Ca;by_cases T:pJ c<0
 ·rw[aQ T];rfl
 ·have D:(pJ c).toNat<c.queue.length:=by omega
  have⟨Z,E,L,o3,o4,Y⟩:=ET h D;rw[aR T,aq,aq];have qC:¬ vL (oG c) (eJ c) (sM c (sO c)) c.queue.length<0:=T;have aFE:(vL (oG c) (eJ c) (sM c (sO c)) c.queue.length).toNat<c.queue.length:=D;rw[aA ⟨by omega,by omega⟩,aA];simp only[ES];rw[aA ⟨by omega,by omega⟩];simp only[qx];have Dn:(mz c (pJ c).toNat).write=rB c.queue (pJ c).toNat:=by rw[ER D,qx D]
  show (A5 c.bq (gf c (pJ c).toNat) (mz c (pJ c).toNat).write).bind _=_;rw[Dn,ani,UG _ E L U,ak];rfl
def U7{α:Type}(p:α -> Bool)(l:aa α):(dj p l=l.length/\l.find? p=none) \/ ∃ h:dj p l<l.length,l.find? p=some l[dj p l]:=by
 have E:=tN p l;rcases Nat.lt_or_ge _ _ with h|h
 ·refine .inr ⟨h,?_⟩;rw[List.find?_eq_some_iff_getElem]
  refine⟨qv h,_,h,rfl,λj C=>?_⟩
  rw[mU C];rfl
 ·refine .inl ⟨by omega,?_⟩;rw[List.find?_eq_none];intro x D;obtain⟨j,C,rfl⟩:=jw.1 D;rw[mU (p:=p) (by omega) C];simp
def OU(c:av)(l:aa aH):aH×Bool:=match l.find? (dL c)with
 |some x=>(x,true)
 |none=>(sN,false)
def aoh{c:av}(h:Pq c){l:aa aH}(hl:l.length <= 1000)(L:∀ x∈l,dP c.config.az x=true):LP c l=some (OU c l):=by
 have hi:=tN (dL c) l;have ju:∀ (k:Nat) (C:k<l.length),DN ((c,l,(),(k:Int),()),(((0:Int),(0:Int),(0:Int),(0:Int),()),()))=some (bif dL c l[k]then .inr (.inl (((),true,()),((l[k].kind,l[k].ay,l[k].row,l[k].bR,()),())))else .inl ((c,l,(),((k+1:Nat):Int),()),(((0:Int),(0:Int),(0:Int),(0:Int),()),()))):=by
  intro k C;unfold DN ax aU xG xI;dsimp only;rw[aQ,au,aA ⟨by omega,by omega⟩];simp only[br];rw[UE h.p (L _ (cM C)),ak];cases dL c l[k]with
  |false=>rw[aq,bA];rfl
  |true=>simp_all
 unfold LP OU bE;rcases U7 (dL c) l with ⟨D,E⟩|⟨D,E⟩
 ·have e:=cv (step:=DN) l.length _ _ aT (λk C=>by
   rw[ju k C,mU (p:=dL c) (i:=k) (by omega) C];rfl) (by
   unfold DN ax aU xG xI;dsimp only;rw[aR,aq]) (bH)
  rw[cm]at e
  refine(bf (λo=>Option.bind o _) e).trans ?_
  rw[E];rfl
 ·have e:=cv (step:=DN) (dj (dL c) l) (λk=>((c,l,(),(k:Int),()),(((0:Int),(0:Int),(0:Int),(0:Int),()),()))) (.inl (((),true,()),((l[dj (dL c) l].kind,l[dj (dL c) l].ay,l[dj (dL c) l].row,l[dj (dL c) l].bR,()),()))) aT (λk C=>by
   rw[ju k (by omega),mU (p:=dL c) (i:=k) C (by omega)];rfl) (by
   rw[ju _ D,qv D];rfl) (bH)
  rw[cm]at e
  refine(bf (λo=>Option.bind o _) e).trans ?_
  rw[E];rfl
def Cb(c:av)(b:Int)(x:aH):aH:=bif (jE c.bq b).open_ then ⟨4,b,0,0⟩else x
def ab4{c:av}{b:Int}(x:aH)(C:0 <= b)(h:b.toNat<c.bq.aC.length):Bm c b x=some (Cb c b x):=by
 unfold Bm Cb xI;rw[aA ⟨C,h⟩,B3 h]
 grind
def ab5{c:av}(x:aH)(C:0 <= x.ay)(h:x.ay.toNat<c.bq.aC.length):GB c x=some (Cb c x.ay x):=by
 unfold GB Cb xI;rw[aA ⟨C,h⟩,B3 h]
 grind
def U8{c:av}{b:Int}{x:aH}(h:Pq c)(C:0 <= b/\b<aY c.config.az)(D:dP c.config.az x=true):dP c.config.az (Cb c b x)=true:=by
 unfold Cb;cases (jE _ b).open_ with
 |false=>exact D
 |true=>exact B4 h.p.R.tQ (.inl rfl) C
def iE(c:av)(b:Int):aH:=Cb c b ⟨5,b,0,0⟩
def nQ(c:av)(i:Nat):aJ:=c.pending.getD i zA
def ab6{c:av}{i:Nat}(h:i<c.pending.length):c.pending[i]=nQ c i:=by
 unfold nQ;rw[fA,bY h];rfl
def rF(c:av)(i:Nat):Bool:=!oF c (nQ c i).ay && !((c.pending.take i).any λa=>a.ay==(nQ c i).ay)
def kB(c:av)(i:Nat):aH:=Cb c (nQ c i).ay ⟨1,(nQ c i).ay,(nQ c i).row,0⟩
def rG(c:av):aa aH:=(cI 0 c.aV.aI).map (iE c)
def sP(c:av)(k:Nat):aa aH:=((List.range k).filter (rF c)).map (kB c)
def ab7{c:av}(h:Pq c){i:Nat}(hi:i<c.pending.length):dn c.config.az (nQ c i)=true/\0 <= (nQ c i).ay/\(nQ c i).ay.toNat<c.bq.aC.length/\(nQ c i).ay.toNat<c.aV.aI.length/\(nQ c i).ay<aY c.config.az:=by
 have C:=h.pe _ (cM hi);rw[ab6]at C;have⟨_,D,E,L,O,T,U⟩:=ri C;have:=h.p.bl;have:=h.dl;simp_all
def aoi{c:av}(h:Pq c){b:Int}(hb:b∈cI 0 c.aV.aI):(0 <= b/\b<aY c.config.az)/\dP c.config.az (iE c b)=true:=by
 obtain⟨j,rfl,C,_⟩:=ana hb;have:=h.dl;have hb:0 <= ((0+j):Int)/\((0+j):Int)<aY c.config.az:=by omega
 exact⟨hb,U8 h hb (B4 h.p.R.tQ (.inr rfl) hb)⟩
def aoj{c:av}(h:Pq c){i:Nat}(hi:i<c.pending.length):dP c.config.az (kB c i)=true:=by
 have⟨C,D,L,O,E⟩:=ab7 h hi;exact U8 h ⟨D,E⟩ (aFJ C)
def aok(c:av)(k:Nat):(sP c k).length <= k:=by
 unfold sP
 grind
def aG1{c:av}(h:Pq c):R4 c=some (rG c++sP c c.pending.length):=by
 have E:=mq h.rf;have vT:=h.pl;have hdn:=h.dl;have Ew:=h.p.bl;have ul:=EM 0 c.aV.aI;have e:=cv (step:=LQ) c.aV.aI.length (λi=>((c,(),(i:Int),()),((cI 0 (c.aV.aI.take i)).map (iE c),()))) (.inl ((c,(),()),(rG c,()))) aT (λk C=>by
  have O:=EM 0 (c.aV.aI.take k);rw[fY]at O;have T:=(U3 (c:=c) (b:=(k:Int)) E.1 (by omega) (by omega))
  have U:oF c (k:Int)=decide (c.aV.aI[k] >= 4):=by
   unfold oF;rw[br,fA,bY C];rfl
  unfold LQ ax xG;dsimp only;rw[aQ,au,T,ak,bA,abv C,U];cases decide (c.aV.aI[k] >= 4)with
  |false=>rfl
  | true=>
   rw[au,au,ab5 _ (by show 0 <= (k:Int);omega) (by show (k:Int).toNat<_;omega),ak,eK,lV,cD,List.map_append];rfl) (by
  unfold LQ ax xG;dsimp only;rw[aR,aq,iu];rfl) (bH)
 have D:=cv (step:=LR) c.pending.length (λi=>((c,(),(i:Int),()),(rG c++sP c i,()))) (.inl (((),()),(rG c++sP c c.pending.length,()))) aT (λk C=>by
  have⟨ho,L,Y,Z,o4⟩:=ab7 h C;have hpk:=aok c k;have hul:(rG c).length <= 8:=by unfold rG;rw[eK];omega
  have e3:sP c (k+1)=sP c k++(bif rF c k then [kB c k]else []):=by
   unfold sP;rw[List.range_succ,List.filter_append];cases hp:rF c k<;>simp[hp]
  rw[e3];unfold LR ax xG xI;dsimp only;rw[aQ,au,aA ⟨by omega,by omega⟩,bA];simp only[br,ab6,(U3 E.1 L Z),ak,Int.toNat_zero,List.drop_zero];unfold rF;cases oF c (nQ c k).ay with
  |true=>rw[bg,aq,Bool.false_and,aq,List.append_nil]
  | false=>
   rw[iw,au,bJ ⟨by omega,by omega,by omega⟩,ab3 _ _ (by rw[fY];omega),ak,cC];cases (c.pending.take k).any λa=>a.ay==(nQ c k).ay with
   |true=>rw[bg,aq,aq,List.append_nil]
   | false=>
    rw[iw,ab5 _ L Y,ak,pM,lV,cD,List.append_assoc];rfl) (by
  unfold LR ax xG xI;dsimp only;rw[aR,aq]) (bH)
 rw[cm]at e D;unfold R4 bh
 refine(bf (λo=>Option.bind o _) e).trans ?_
 rw[ak];have e0:rG c++sP c 0=rG c:=List.append_nil _;rw[e0]at D
 refine(bf (λo=>Option.bind o _) D).trans ?_
 rfl
def vM(u:Bool)(l:aa Int)(idle:Nat->Bool)(i:Nat):Bool:=bif u then decide (l.getD i 0 >= 4)else decide (l.getD i 0 > 0)&&idle i
def Cc(r:cO)(idle:Nat->Bool):Int:=lT (vM (decide (((cI 0 r.aI).length:Int) > 0)) r.aI idle) (λi=>r.aI.getD i 0) r.aI.length
def ab8(r:cO)(idle:Nat->Bool):-1<=Cc r idle/\Cc r idle<r.aI.length:=xj _ _ _
def aG2{r:cO}(D:dV r=true)(idle:Nat -> Bool):Ny r ((List.range r.aI.length).map idle)=some (Cc r idle):=by
 have hl:=mq D;unfold Ny bh;rw[BG _ (by omega),ak,D,bg,aq,abw D,ak];generalize T:decide (((cI 0 r.aI).length:Int) > 0)=u;have e:=cv (step:=Nw) r.aI.length (λi=>(((List.range r.aI.length).map idle,(),u,lT (vM u r.aI idle) (λi=>r.aI.getD i 0) i,r.aI,(r.aI.length:Int),(i:Int),()),((r.aI,r.wait,r.dy,()),()))) (.inl ((lT (vM u r.aI idle) (λi=>r.aI.getD i 0) r.aI.length,()),())) aT (λk E=>by
  have hb:=xj (vM u r.aI idle) (λi=>r.aI.getD i 0) k;rw[Ie];generalize lT (vM u r.aI idle) (λi=>r.aI.getD i 0) k=C at hb;have U:r.aI.getD k 0=r.aI[k]:=by rw[fA,bY E];rfl
  unfold Nw B0 vM ax xG xI;dsimp only;rw[aQ,au,aA ⟨by omega,by omega⟩];simp only[br,U,eK,di];rw[bA,aQ (by omega:(k:Int)<(r.aI.length:Int)),au,aA ⟨by omega,by omega⟩];simp only[zO E];by_cases L:C<0
  ·rw[aQ L,Bool.true_or];cases u<;>cases decide (r.aI[k] > 0)<;>cases decide (r.aI[k] >= 4)<;>cases idle k<;>rfl
  ·have O:C.toNat<r.aI.length:=by omega
   have Y:r.aI.getD C.toNat 0=r.aI[C.toNat]:=by rw[fA,bY O];rfl
   have Z:0 <= C/\C.toNat<r.aI.length:=⟨by omega,O⟩
   rw[aR L,Y];simp only[aA Z,aq];cases u<;>cases decide (r.aI[k] > 0)<;>cases decide (r.aI[k] >= 4)<;>cases idle k<;>cases decide (r.aI[k] > r.aI[C.toNat])<;>rfl) (by
  unfold Nw ax xG xI;dsimp only;rw[aR,aq]) (bH)
 rw[cm]at e
 refine(bf (λo=>Option.bind o _) e).trans ?_
 unfold Cc;rw[T];rfl
def aG3{r:cO}(D:dV r=true)(idle:Nat -> Bool):Sf r ((List.range r.aI.length).map idle)=some (Cc r idle):=by
 have hl:=mq D;unfold Sf bh;rw[Ul _ (by omega),ak,D,bg,aq,anb D,ak];generalize T:decide (((cI 0 r.aI).length:Int) > 0)=u;have e:=cv (step:=L5) r.aI.length (λi=>(((List.range r.aI.length).map idle,(),u,lT (vM u r.aI idle) (λi=>r.aI.getD i 0) i,(i:Int),()),((r.aI,r.wait,r.dy,()),()))) (.inl ((lT (vM u r.aI idle) (λi=>r.aI.getD i 0) r.aI.length,()),())) aT (λk E=>by
  have hb:=xj (vM u r.aI idle) (λi=>r.aI.getD i 0) k;rw[Ie];generalize lT (vM u r.aI idle) (λi=>r.aI.getD i 0) k=C at hb;have U:r.aI.getD k 0=r.aI[k]:=by rw[fA,bY E];rfl
  have Y:0 <= (k:Int)/\k<r.aI.length:=⟨by omega,E⟩
  unfold L5 B0 vM ax xG xI;dsimp only;rw[aQ,au,aA ⟨by omega,by omega⟩];simp only[br,U,eK,di,aA Y];rw[bA,aQ (by omega:(k:Int)<(r.aI.length:Int)),au];simp only[zO E];by_cases L:C<0
  ·rw[aQ L,Bool.true_or];cases u<;>cases decide (r.aI[k] > 0)<;>cases decide (r.aI[k] >= 4)<;>cases idle k<;>rfl
  ·have O:C.toNat<r.aI.length:=by omega
   have Z:r.aI.getD C.toNat 0=r.aI[C.toNat]:=by rw[fA,bY O];rfl
   have h4:0 <= C/\C.toNat<r.aI.length:=⟨by omega,O⟩
   rw[aR L,Z];simp only[aA h4,aq];cases u<;>cases decide (r.aI[k] > 0)<;>cases decide (r.aI[k] >= 4)<;>cases idle k<;>cases decide (r.aI[k] > r.aI[C.toNat])<;>rfl) (by
  unfold L5 ax xG xI;dsimp only;rw[aR,aq]) (bH)
 rw[cm]at e
 refine(bf (λo=>Option.bind o _) e).trans ?_
 unfold Cc;rw[T];rfl
def oH(w:aa aJ)(r:cH)(b:Nat):Bool:=w.any λa=>a.ay==(b:Int)&&a.row==(jE r (b:Int)).row
def tX(w:aa aJ)(r:cH)(b:Nat):Bool:=(jE r (b:Int)).open_ && !oH w r b
def zR(r:cH)(dM:Int)(w:aa aJ):Int:=bif dM != 1 then -1 else gn (tX w r) r.aC.length
def ab9(r:cH)(dM:Int)(w:aa aJ):-1 <= zR r dM w/\zR r dM w<r.aC.length:=by
 unfold zR;cases dM != 1 with
 |true=>grind
 | false=>
  rw[aq];rcases vJ (tX w r) r.aC.length with ⟨C,_⟩|⟨j,C,D,_⟩<;>omega
def aG4{w:aa aJ}{r:cH}{L:aa Int}{b:Nat}{i n:Int}(hb:b<r.aC.length)(hl:r.aC.length<=1048576)(D:w.length<=1000):iter Hy aT ((w,(),(b:Int),false,(),n,i,w,(w.length:Int),(0:Int),()),((r.aC,r.bk,()),L,()))=some (.inl ((w,(),(b:Int),oH w r b,(),n,i,()),((r.aC,r.bk,()),L,()))):=by
 have e:=cv (step:=Hy) w.length (λk=>((w,(),(b:Int),((w.take k).any λa=>a.ay==(b:Int)&&a.row==(jE r (b:Int)).row),(),n,i,w,(w.length:Int),(k:Int),()),((r.aC,r.bk,()),L,()))) (.inl ((w,(),(b:Int),oH w r b,(),n,i,()),((r.aC,r.bk,()),L,()))) aT (λk C=>by
  rw[oB C,List.any_append,List.any_cons,List.any_nil,Bool.or_false,B3 (by rw[br];exact hb)];unfold Hy ax xG xI;dsimp only;rw[aQ,au,aA ⟨by omega,by omega⟩,bA];simp only[br];cases (w.take k).any λa=>a.ay==(b:Int)&&a.row==r.aC[b].row with
  |true=>rfl
  | false=>
   rw[aq,Bool.false_or];cases w[k].ay==(b:Int)with
   |false=>rfl
   |true=>rw[au,aA ⟨by omega,hb⟩,cC]) (by
  unfold Hy ax xG xI;dsimp only;rw[aR,aq,iu];rfl) (bH)
 rw[cm]at e;exact e
def aG5{w:aa aJ}{r:cH}{b:Nat}(hb:b<r.aC.length)(hl:r.aC.length <= 1048576)(D:w.length <= 1000)(o:Bool):iter GI aT ((w,(),(b:Int),o,(0:Int),()),((r.aC,r.bk,()),()))=some (.inl ((w,(),(b:Int),o || oH w r b,()),((r.aC,r.bk,()),()))):=by
 have e:=cv (step:=GI) w.length (λk=>((w,(),(b:Int),o || ((w.take k).any λa=>a.ay==(b:Int)&&a.row==(jE r (b:Int)).row),(k:Int),()),((r.aC,r.bk,()),()))) (.inl ((w,(),(b:Int),o || oH w r b,()),((r.aC,r.bk,()),()))) aT (λk C=>by
  rw[oB C,List.any_append,List.any_cons,List.any_nil,Bool.or_false,B3 (by rw[br];exact hb)];unfold GI ax xG xI;dsimp only;rw[aQ,au,aA ⟨by omega,by omega⟩,bA];simp only[br];cases w[k].ay==(b:Int)with
  |false=>rw[aq,Bool.false_and,Bool.or_false]
  | true=>
   rw[au,aA ⟨by omega,C⟩,aA ⟨by omega,hb⟩,cC];cases w[k].row==r.aC[b].row with
   |false=>simp[*]
   |true=>rw[au,Bool.or_true,Bool.or_true]) (by
  unfold GI ax xG xI;dsimp only;rw[aR,aq,iu];rfl) (bH)
 rw[cm,List.take_zero,List.any_nil,Bool.or_false]at e;exact e
def aol(w:aa aJ)(r:cH):∀ k,k <= r.aC.length -> (opens 0 (r.aC.take k)).find? (λb=>!oH w r b.toNat)=bif decide (gn (tX w r) k<0)then none else some (gn (tX w r) k)
 |0,_=>rfl
 | k+1,E=>by
  have C:=aol w r k (by omega);have hb:(jE r (k:Int)).open_=r.aC[k].open_:=by rw[B3 (by rw[br];omega)];simp only[br]
  have D:tX w r k=(r.aC[k].open_ && !oH w r k):=by unfold tX;rw[hb]
  rw[oB (show k<r.aC.length by omega),aav,fY,Nat.min_eq_left (by omega),fT,List.find?_append,C,EV,D];have L:opens k [r.aC[k]]=bif r.aC[k].open_ then [(k:Int)]else []:=rfl
  grind
def aom(i:Nat)(l:aa dG)(x:Int)(h:x∈opens i l):∃ j:Nat,j<l.length/\x=((i+j:Nat):Int):=by
 induction l generalizing i with
 |nil=>cases h
 | cons d l C=>
  have e:opens i (d :: l)=bif d.open_ then (i:Int) :: opens (i+1) l else opens (i+1) l:=rfl;rw[e]at h;have tl:x∈opens (i+1) l -> ∃ j:Nat,j<(d :: l).length/\x=((i+j:Nat):Int):=λh=>by
   have⟨j,D,E⟩:=C _ h;exact⟨j+1,by simpa using D,by rw[E];omega⟩
  cases L:d.open_ with
  |false=>grind
  | true=>
   rw[L,au]at h;rcases iG.1 h with rfl|h
   ·exact⟨0,by simp,rfl⟩
   ·exact tl h
def aG6{r:cH}(dM:Int){w:aa aJ}(hl:r.aC.length <= 1048576)(T:w.length <= 1000):Nz r dM w=some (zR r dM w):=by
 unfold Nz zR bE;cases dM != 1 with
 |true=>rfl
 | false=>
  rw[aq,aq,Ub r (by omega),ak];have O:=aol w r r.aC.length (dW _);rw[iu]at O;have hol:=Ua 0 r.aC;have U:=aom 0 r.aC;generalize hL:opens 0 r.aC=L at *
  have hi:=tN (λb:Int=>!oH w r b.toNat) L;have ju:∀ (k:Nat) (C:k<L.length),Ei ((w,(),(),(L.length:Int),(k:Int),()),((r.aC,r.bk,()),L,()))=some (bif !oH w r L[k].toNat then .inr (.inl ((L[k],()),()))else .inl ((w,(),(),(L.length:Int),((k+1:Nat):Int),()),((r.aC,r.bk,()),L,()))):=by
   intro k C;have⟨j,E,D⟩:=U _ (cM C);rw[fT]at D;unfold Ei ax aU xG bh xL;dsimp only;rw[aQ,au,aA ⟨by omega,by omega⟩,aA];simp only[br,D];rw[aG4 E hl T,ak];simp only[eC];rw[bA];cases oH w r j<;>rfl
  rcases U7 (λb:Int=>!oH w r b.toNat) L with ⟨E,D⟩|⟨E,D⟩
  ·have e:=cv (step:=Ei) L.length (λk=>((w,(),(),(L.length:Int),(k:Int),()),((r.aC,r.bk,()),L,()))) (.inr (.inl ((),()))) aT (λk C=>by
    have:=mU (p:=λb:Int=>!oH w r b.toNat) (q:=L) (i:=k) (by omega) C;rw[ju k C,this];rfl) (by
    unfold Ei ax aU xG bh xL;dsimp only;rw[aR,aq]) (bH)
   rw[cm]at e
   refine(bf (λo=>Option.bind o _) e).trans ?_
   rw[D]at O;by_cases Y:gn (tX w r) r.aC.length<0
   ·rcases vJ (tX w r) r.aC.length with ⟨Z,_⟩ | ⟨j,_,k2,_⟩
    ·rw[Z];rfl
    ·omega
   ·grind
  ·have e:=cv (step:=Ei) (dj (λb:Int=>!oH w r b.toNat) L) (λk=>((w,(),(),(L.length:Int),(k:Int),()),((r.aC,r.bk,()),L,()))) (.inl ((L[dj (λb:Int=>!oH w r b.toNat) L],()),())) aT (λk C=>by
    have:=mU (p:=λb:Int=>!oH w r b.toNat) (q:=L) (i:=k) C (by omega);rw[ju k (by omega),this];rfl) (by
    have:=qv (p:=λb:Int=>!oH w r b.toNat) (q:=L) E;rw[ju _ E,this];rfl) (bH)
   rw[cm]at e
   refine(bf (λo=>Option.bind o _) e).trans ?_
   rw[D]at O;by_cases Y:gn (tX w r) r.aC.length<0
   ·grind
   ·simp[*]
def aG7{r:cH}(dM:Int){w:aa aJ}(hl:r.aC.length <= 1048576)(L:w.length <= 1000):Sg r dM w=some (zR r dM w):=by
 unfold Sg zR bE;cases dM != 1 with
 |true=>rfl
 | false=>
  have ju:∀ k (C:k<r.aC.length),DS ((w,(),k,()),((r.aC,r.bk,()),()))=some (bif tX w r k then .inr (.inl ((k,()),()))else .inl ((w,(),((k+1):Int),()),((r.aC,r.bk,()),()))):=by
   intro k C;have hb:(jE r (k:Int)).open_=r.aC[k].open_:=by rw[B3 (by rw[br];omega)];simp only[br]
   unfold DS tX ax aU xG xI bh;dsimp only;rw[aQ,au,aA ⟨by omega,by omega⟩,hb];simp only[br];rw[aG5 C hl L,ak];simp only[eC];rw[bA];cases r.aC[k].open_<;>cases oH w r k<;>rfl
  rcases vJ (tX w r) _ with ⟨D,E⟩|⟨j,D,E,O,T⟩
  ·have e:=cv (step:=DS) r.aC.length (λk=>((w,(),(k:Int),()),((r.aC,r.bk,()),()))) (.inr (.inl ((),()))) aT (λk C=>by
    rw[ju k C,E k C];rfl) (by
    unfold DS ax aU xG xI bh;dsimp only;rw[aR,aq]) (bH)
   rw[cm]at e
   refine(bf (λo=>Option.bind o _) e).trans ?_
   rw[D];rfl
  ·have e:=cv (step:=DS) j (λk=>((w,(),(k:Int),()),((r.aC,r.bk,()),()))) (.inl (((j:Int),()),())) aT (λk C=>by
    rw[ju k (by omega),T k C];rfl) (by
    rw[ju j D,O];rfl) (bH)
   rw[cm]at e
   refine(bf (λo=>Option.bind o _) e).trans ?_
   rw[E];rfl
def cJ(c:av):Int:=vB c.box.bK.de c.bk (tR c)
def Io(c:av)(i:Nat):Bool:=!((fX c).any λa=>a.ay==(i:Int))
def gZ(c:av):Int:=Cc c.aV (Io c)
def iM(c:av):Int:=zR c.bq c.box.bK.dM (fX c)
def zS(c:av):aa aH:=bif decide (gZ c >= 0) && !oF c (gZ c)then [iE c (gZ c)]else []
def tY(c:av):aa aH:=bif decide (iM c >= 0)then [⟨4,iM c,0,0⟩]else []
def pK(c:av):aa aH:=bif cJ c==8&&decide (((opens 0 c.bq.aC).length:Int) > 0)then [⟨4,(opens 0 c.bq.aC).headD 0,0,0⟩]else bif cJ c != 0 then [⟨cJ c,0,0,0⟩]else []
def tZ(c:av)(l:aa aH):aH:=(l.find? (dL c)).getD sN
def fnd_nil(c:av):tZ c []=sN:=rfl
def fnd_cons(c:av)(x:aH)(l:aa aH):tZ c (x :: l)=bif dL c x then x else tZ c l:=by
 unfold tZ;rw[List.find?_cons];cases dL c x<;>rfl
def U9(c:av)(w:Int):ah aH:=
 let D:Int->Int->Int->Int->ah (aH):=λE L O T=>(let U:Bool->ah (aH):=λY=>bif Y then some (⟨E,L,O,T⟩:aH)else some (⟨(0:Int),(0:Int),(0:Int),(0:Int)⟩:aH);bif (E != (0:Int))then (jq c (⟨E,L,O,T⟩:aH)).bind λZ=>(U Z)else (U false));bif (w==(8:Int))then (Be c.bq).bind λC=>bif (decide ((C.length:Int) > (0:Int)))then if uG:0<=(0:Int)/\(0:Int).toNat<C.length then if ve:(0:Int).toNat<C.length then (let iA:=C[(0:Int).toNat]'ve;(D (4:Int) iA (0:Int) (0:Int)))else none else none else (D w 0 0 0)else (D w 0 0 0)
def EW(c:av)(D:aa aJ)(w:Int):ah aH:=
 (Nz c.bq c.box.bK.dM D).bind λC=>bif (C != (-1:Int))then (jq c (⟨(4:Int),C,(0:Int),(0:Int)⟩:aH)).bind λE=>bif E then some (⟨(4:Int),C,(0:Int),(0:Int)⟩:aH)else U9 c w else U9 c w
def aon(c:av)(O:aa Int)(D:aa aJ)(w:Int)(idle:aa Bool):ah aH:=
 (Ny c.aV idle).bind λC=>(let E:Bool->ah (aH):=λT=>bif T then (Bm c C (⟨(5:Int),C,(0:Int),(0:Int)⟩:aH)).bind λL=>(jq c L).bind λU=>bif U then some L else EW c D w else EW c D w;bif (C != (-1:Int))then (wP O C).bind λY=>(E (!Y))else (E false))
def Va(c:av):cJ c=0\/6<=cJ c/\cJ c<=9:=aFz _ _ _
def aG8(l:aa Int)(h:0<l.length):l.headD 0=l[0]:=by
 cases l with
 |nil=>cases h
 |cons x l=>rfl
def acd(c:av)(h:Pq c)(C:0<(opens 0 c.bq.aC).length):(0 <= (opens 0 c.bq.aC)[0]/\(opens 0 c.bq.aC)[0]<aY c.config.az)/\(opens 0 c.bq.aC).headD 0=(opens 0 c.bq.aC)[0]:=by
 have⟨j,D,E⟩:=aom 0 _ _ (cM C);have:=h.p.bl;exact⟨by omega,aG8 _ C⟩
def aG9{c:av}(h:Pq c):U9 c (cJ c)=some (tZ c (pK c)):=by
 have kO:=xq h;have hw:=Va c;have D:=h.p.R.tQ;have O:cJ c≠0 -> jq c ⟨cJ c,0,0,0⟩=some (dL c ⟨cJ c,0,0,0⟩):=λhn=>zJ h.p (UH D (by omega))
 have T:(bif (cJ c != (0:Int))then (jq c (⟨cJ c,0,0,0⟩:aH)).bind λU=>(bif U then some (⟨cJ c,0,0,0⟩:aH)else some sN)else some sN)=some (tZ c (bif cJ c != 0 then [⟨cJ c,0,0,0⟩]else [])):=by
  by_cases C:cJ c=0
  ·rw[C];rfl
  ·rw[ic C,au,au,O C,fnd_cons,fnd_nil]
   grind
 unfold U9 pK;dsimp only;by_cases E:cJ c=8
 ·have Y:(cJ c==8)=true:=by rw[E];rfl
  rw[Y,au,Ub _ (by omega),ak,cC];by_cases L:0<(opens 0 c.bq.aC).length
  ·have⟨Z,k2⟩:=acd c h L;rw[aQ,au,au,aA ⟨by omega,L⟩,aA,k2];show (bif ((4:Int) != 0)then (jq c ⟨4,(opens 0 c.bq.aC)[0],0,0⟩).bind _ else _)=_;rw[zJ h.p (B4 D (.inl rfl) Z),fnd_cons,fnd_nil];cases dL c ⟨4,(opens 0 c.bq.aC)[0],0,0⟩<;>rfl
  ·rw[aR,aq];exact T
 ·rwa [kA E,aq,Bool.false_and,aq]
def aHa{c:av}(h:Pq c):EW c (fX c) (cJ c)=some (tZ c (tY c++pK c)):=by
 have C:=xq h;have E:=h.ql;have L:=h.p.bl;have hb:-1 <= iM c/\iM c<c.bq.aC.length:=ab9 _ _ _;unfold EW tY;rw[aG6 _ C (by rw[vH];omega),ak];show (bif iM c != -1 then (jq c ⟨4,iM c,0,0⟩).bind _ else _)=_;rw[aG9 h];by_cases D:iM c >= 0
 ·rw[ic (by omega:¬ iM c = -1),au,aQ D,au,zJ h.p (B4 h.p.R.tQ (.inl rfl) (by omega)),ak,List.singleton_append,fnd_cons];cases dL c ⟨4,iM c,0,0⟩<;>rfl
 ·grind
def aHb{c:av}(h:Pq c):aon c (cI 0 c.aV.aI) (fX c) (cJ c) ((List.range c.aV.aI.length).map (Io c))=some (tZ c (zS c++(tY c++pK c))):=by
 have Y:=xq h;have L:=mq h.rf;have Z:=h.p.bl;have hdn:=h.dl;have hb:-1 <= gZ c/\gZ c<c.aV.aI.length:=ab8 _ _;unfold aon zS;rw[aG2 h.rf,ak];show (bif gZ c != -1 then (wP (cI 0 c.aV.aI) (gZ c)).bind λO=>(bif !O then (Bm c (gZ c) ⟨5,gZ c,0,0⟩).bind λD=>(jq c D).bind λC=>bif C then some D else EW c (fX c) (cJ c)else EW c (fX c) (cJ c))else EW c (fX c) (cJ c))=_;rw[aHa h];by_cases T:gZ c >= 0
 ·have E:0 <= gZ c/\gZ c<aY c.config.az:=by omega
  rw[ic (by omega:¬ gZ c = -1),au,aQ T,cC,(abW L.1 (by omega) (by omega)),ak];cases oF c (gZ c)with
  |true=>rfl
  | false=>
   have U:dP c.config.az (iE c (gZ c))=true:=U8 h E (B4 h.p.R.tQ (.inr rfl) E);rw[iw,au,au,ab4 _ (by omega) (by omega),ak];show ((jq c (iE c (gZ c))).bind λC=>bif C then some (iE c (gZ c))else _)=_;rw[zJ h.p U,ak,List.singleton_append,fnd_cons]
   grind
 ·grind
def aHc{c:av}(h:Pq c):NB c (cI 0 c.aV.aI) (fX c) ⟨cJ c,0,0,0⟩=some (tZ c (zS c++(tY c++pK c))):=by
 have D:=xq h;have E:=h.ql;have L:=h.p.bl;have O:=h.dl;have T:=mq h.rf;have C:c.bq.aC.length=c.aV.aI.length:=by omega
 have e:=cv (step:=NA) c.bq.aC.length (λi=>((cI 0 c.aV.aI,fX c,(),(),(),(),(c.bq.aC.length:Int),(i:Int),()),(c,(cJ c,(0:Int),(0:Int),(0:Int),()),((0:Int),(0:Int),(0:Int),(0:Int),()),(List.range i).map (Io c),()))) _ aT (λk U=>by
  unfold NA ax xG;dsimp only;rw[aQ,au,abF _ _ (by rw[vH];omega),ak,eK,di,lV,cD,au,bA,List.range_succ,List.map_append];rfl) (by
  unfold NA ax xG;dsimp only;rw[aR,aq]) (bH)
 rw[cm]at e;unfold NB bh xL
 refine(bf (λo=>Option.bind o _) e).trans ?_
 rw[ak,C];exact aHb h
def aHd{c:av}(h:Pq c):(pK c).length <= 1 /\ ∀ x∈pK c,dP c.config.az x=true:=by
 have Y:=Va c;have D:=h.p.R.tQ;have E:(bif cJ c != 0 then [(⟨cJ c,0,0,0⟩:aH)]else []).length <= 1 /\ ∀ x∈(bif cJ c != 0 then [⟨cJ c,0,0,0⟩]else []),dP c.config.az x=true:=by
  by_cases L:cJ c=0
  ·simp_all
  ·rw[ic L];exact⟨dW _,λx C=>by rw[List.mem_singleton.1 C];exact UH D (by omega)⟩
 unfold pK;cases cJ c==8 with
 |false=>exact E
 | true=>
  by_cases O:0<(opens 0 c.bq.aC).length
  ·have⟨T,U⟩:=acd c h O;rw[aQ,U];exact⟨dW _,λx C=>by rw[List.mem_singleton.1 C];exact B4 D (.inl rfl) T⟩
  ·simp_all
def aHe{c:av}(h:Pq c):(tY c).length <= 1 /\ ∀ x∈tY c,dP c.config.az x=true:=by
 have E:=h.p.bl;have hb:-1 <= iM c/\iM c<c.bq.aC.length:=ab9 _ _ _;unfold tY;by_cases C:iM c >= 0
 ·rw[aQ C];exact⟨dW _,λx D=>by rw[List.mem_singleton.1 D];exact B4 h.p.R.tQ (.inl rfl) (by omega)⟩
 ·grind
def aHf{c:av}(h:Pq c):(zS c).length <= 1 /\ ∀ x∈zS c,dP c.config.az x=true:=by
 have L:=h.dl;have hb:-1 <= gZ c/\gZ c<c.aV.aI.length:=ab8 _ _;unfold zS;by_cases D:gZ c >= 0
 ·have C:0 <= gZ c/\gZ c<aY c.config.az:=by omega
  rw[aQ D];cases oF c _ with
  |true=>simp_all
  |false=>exact⟨dW _,λx E=>by rw[List.mem_singleton.1 E];exact U8 h C (B4 h.p.R.tQ (.inr rfl) C)⟩
 ·grind
def aHg{c:av}(h:Pq c):Sh c (cJ c)=some (zS c++(tY c++pK c)):=by
 have Y:=xq h;have hq:=h.ql;have Ew:=h.p.bl;have hdn:=h.dl;have Z:=mq h.rf;have Fl:c.bq.aC.length=c.aV.aI.length:=by omega
 have rS:-1 <= gZ c/\gZ c<c.aV.aI.length:=ab8 _ _;have gO:-1 <= iM c/\iM c<c.bq.aC.length:=ab9 _ _ _;have hol:=Ua 0 c.bq.aC;have e:=cv (step:=L6) c.bq.aC.length (λi=>((c,cJ c,(),(),(),(i:Int),()),(([]:aa aH),fX c,(List.range i).map (Io c),()))) (.inl ((c,cJ c,(),(),(),()),(([]:aa aH),fX c,(List.range c.bq.aC.length).map (Io c),()))) aT (λk hk=>by
  unfold L6 ax xG;dsimp only;rw[aQ,au,ab3 _ _ (by rw[vH];omega),ak,eK,di,lV,cD,au,bA,List.range_succ,List.map_append];rfl) (by
  unfold L6 ax xG;dsimp only;rw[aR,aq]) (bH)
 rw[cm]at e;have D:∀l:aa aH,l.length <= 5 -> bI (l.length+1)=true:=λl hl=>cD
 -- the end
 have tl:∀ l:aa aH,l.length <= 5 -> (bif (cJ c==(8:Int))then (bif (decide (((opens 0 c.bq.aC).length:Int) > (0:Int)))then (if L:0 <= (0:Int)/\(0:Int).toNat<(opens 0 c.bq.aC).length then if C:(0:Int).toNat<(opens 0 c.bq.aC).length then (bif bI (l.length+([(⟨(4:Int),(opens 0 c.bq.aC)[(0:Int).toNat]'C,(0:Int),(0:Int)⟩:aH)]:aa aH).length)then some (l++([(⟨(4:Int),(opens 0 c.bq.aC)[(0:Int).toNat]'C,(0:Int),(0:Int)⟩:aH)]:aa aH))else none)else none else none)else (bif (cJ c != (0:Int))then bif bI (l.length+([(⟨cJ c,(0:Int),(0:Int),(0:Int)⟩:aH)]:aa aH).length)then some (l++([(⟨cJ c,(0:Int),(0:Int),(0:Int)⟩:aH)]:aa aH))else none else some l))else (bif (cJ c != (0:Int))then bif bI (l.length+([(⟨cJ c,(0:Int),(0:Int),(0:Int)⟩:aH)]:aa aH).length)then some (l++([(⟨cJ c,(0:Int),(0:Int),(0:Int)⟩:aH)]:aa aH))else none else some l))=some (l++pK c):=by
  intro l hl;have z:(bif (cJ c != (0:Int))then bif bI (l.length+([(⟨cJ c,(0:Int),(0:Int),(0:Int)⟩:aH)]:aa aH).length)then some (l++([(⟨cJ c,(0:Int),(0:Int),(0:Int)⟩:aH)]:aa aH))else none else some l)=some (l++(bif cJ c != 0 then [(⟨cJ c,0,0,0⟩:aH)]else [])):=by
   rw[lV,D l hl];cases cJ c != 0 with
   |true=>rfl
   |false=>rw[aq,aq,List.append_nil]
  unfold pK;cases cJ c==8 with
  |false=>exact z
  | true=>
   rw[au,cC];by_cases E:0<(opens 0 c.bq.aC).length
   ·have⟨k1,k2⟩:=acd c h E;rw[aQ (by omega:((opens 0 c.bq.aC).length:Int) > 0),au,au,aA ⟨by omega,E⟩,aA (show Int.toNat 0<(opens 0 c.bq.aC).length from E),lV,D l hl,au,k2];rfl
   ·rw[aR (by omega:¬ ((opens 0 c.bq.aC).length:Int) > 0),aq,aq];exact z
 unfold Sh bh xL;rw[anJ h,ak]
 refine(bf (λo=>Option.bind o _) e).trans ?_
 rw[ak,Fl];simp only[eC,aG3 h.rf,ak,aG7 _ Y (show (fX c).length <= 1000 by rw[vH];omega),amc _ (show c.bq.aC.length<1073741823 by omega)];have er:Cc c.aV (Io c)=gZ c:=rfl;have ec:zR c.bq c.box.bK.dM (fX c)=iM c:=rfl;rw[er,ec];have h1:∀ l:aa aH,l.length <= 4 -> (bif decide (iM c >= 0)then bif bI (l.length+([(⟨4,iM c,0,0⟩:aH)]:aa aH).length)then some ((l++([(⟨4,iM c,0,0⟩:aH)]:aa aH))++pK c)else none else some (l++pK c))=some (l++(tY c++pK c)):=by
  intro l hl;unfold tY;rw[lV,D l (by omega)];cases decide (iM c >= 0)with
  |true=>rw[au,au,List.append_assoc];rfl
  |false=>rfl
 have O:∀ l:aa aH,l.length <= 1 -> (bif decide (iM c >= 0)then bif bI (l.length+([(⟨4,iM c,0,0⟩:aH)]:aa aH).length)then (bif (cJ c==(8:Int))then (bif (decide (((opens 0 c.bq.aC).length:Int) > (0:Int)))then (if L:0 <= (0:Int)/\(0:Int).toNat<(opens 0 c.bq.aC).length then if C:(0:Int).toNat<(opens 0 c.bq.aC).length then (bif bI ((l++([(⟨4,iM c,0,0⟩:aH)]:aa aH)).length+([(⟨(4:Int),(opens 0 c.bq.aC)[(0:Int).toNat]'C,(0:Int),(0:Int)⟩:aH)]:aa aH).length)then some ((l++([(⟨4,iM c,0,0⟩:aH)]:aa aH))++([(⟨(4:Int),(opens 0 c.bq.aC)[(0:Int).toNat]'C,(0:Int),(0:Int)⟩:aH)]:aa aH))else none)else none else none)else (bif (cJ c != (0:Int))then bif bI ((l++([(⟨4,iM c,0,0⟩:aH)]:aa aH)).length+([(⟨cJ c,(0:Int),(0:Int),(0:Int)⟩:aH)]:aa aH).length)then some ((l++([(⟨4,iM c,0,0⟩:aH)]:aa aH))++([(⟨cJ c,(0:Int),(0:Int),(0:Int)⟩:aH)]:aa aH))else none else some (l++([(⟨4,iM c,0,0⟩:aH)]:aa aH))))else (bif (cJ c != (0:Int))then bif bI ((l++([(⟨4,iM c,0,0⟩:aH)]:aa aH)).length+([(⟨cJ c,(0:Int),(0:Int),(0:Int)⟩:aH)]:aa aH).length)then some ((l++([(⟨4,iM c,0,0⟩:aH)]:aa aH))++([(⟨cJ c,(0:Int),(0:Int),(0:Int)⟩:aH)]:aa aH))else none else some (l++([(⟨4,iM c,0,0⟩:aH)]:aa aH))))else none else (bif (cJ c==(8:Int))then (bif (decide (((opens 0 c.bq.aC).length:Int) > (0:Int)))then (if L:0 <= (0:Int)/\(0:Int).toNat<(opens 0 c.bq.aC).length then if C:(0:Int).toNat<(opens 0 c.bq.aC).length then (bif bI (l.length+([(⟨(4:Int),(opens 0 c.bq.aC)[(0:Int).toNat]'C,(0:Int),(0:Int)⟩:aH)]:aa aH).length)then some (l++([(⟨(4:Int),(opens 0 c.bq.aC)[(0:Int).toNat]'C,(0:Int),(0:Int)⟩:aH)]:aa aH))else none)else none else none)else (bif (cJ c != (0:Int))then bif bI (l.length+([(⟨cJ c,(0:Int),(0:Int),(0:Int)⟩:aH)]:aa aH).length)then some (l++([(⟨cJ c,(0:Int),(0:Int),(0:Int)⟩:aH)]:aa aH))else none else some l))else (bif (cJ c != (0:Int))then bif bI (l.length+([(⟨cJ c,(0:Int),(0:Int),(0:Int)⟩:aH)]:aa aH).length)then some (l++([(⟨cJ c,(0:Int),(0:Int),(0:Int)⟩:aH)]:aa aH))else none else some l)))=some (l++(tY c++pK c)):=by
  intro l hl;rw[tl _ (by rw[pM,lV];omega),tl _ (by omega)];exact h1 l (by omega)
 have T:=O [] (by simp);unfold zS;by_cases U:gZ c >= 0
 ·have hv:0 <= gZ c/\gZ c<aY c.config.az:=by omega
  rw[aQ U,au,cC,(U3 Z.1 (by omega) (by omega)),ak];cases oF c (gZ c)with
  |true=>exact T
  | false=>
   rw[iw,au,au,ab5 _ (by show 0 <= gZ c;omega) (by show (gZ c).toNat<_;omega),ak,List.length_nil,lV,cD,au];exact O [iE c (gZ c)] (dW _)
 ·rw[aR U,aq,Bool.false_and,aq];exact T
def ace(c:av):ah aH:=(rG c++sP c c.pending.length).find? (dL c)
def Cd(c:av):aH×Int:=
 bif c.bk.state != 0 then (bif cJ c != 0 then (bif dL c ⟨cJ c,0,0,0⟩then (⟨cJ c,0,0,0⟩,-1)else (sN,-1))else (sN,-1))else
 match ace c with
 |some x=>(x,-1)
 |none=>bif decide ((Ca c).2 >= 0)then Ca c else (tZ c (zS c++(tY c++pK c)),-1)
def aHh(c:av)(l:aa aH):OU c l=(tZ c l,(l.find? (dL c)).isSome):=by
 unfold OU tZ;cases l.find? (dL c)<;>rfl
def aHi{c:av}(h:Pq c):A6 c=some (bif decide ((c.trace.length:Int) >= 2000)then (sN,-1)else Cd c):=by
 have D:=h.p.R.tQ;have U:=Va c;have Y:=h.pl;have Z:=mq h.rf;have ul:=EM 0 c.aV.aI;have E:=aHf h;have L:=aHe h;have O:=aHd h;unfold A6;cases decide ((c.trace.length:Int) >= 2000)with
 |true=>rfl
 | false=>
  rw[aq,aq,anc h.rf,ak,aFy _ _ _ h.de h.pw,ak];have T:vB c.box.bK.de c.bk (tR c)=cJ c:=rfl;rw[T];unfold Cd;cases c.bk.state != 0 with
  | true=>
   rw[au,au];by_cases C:cJ c=0
   ·rw[C];rfl
   ·rw[kA C,ic C,UE h.p (UH D (by omega))];cases dL c ⟨cJ c,0,0,0⟩<;>rfl
  | false=>
   rw[aq,aq,aG1 h,ak,aoh h (by
    rw[pM];have:=aok c c.pending.length;have:(rG c).length=(cI 0 c.aV.aI).length:=by unfold rG;rw[eK]
    omega) (λx hx=>by
    rcases List.mem_append.1 hx with hx|hx
    ·obtain⟨b,hb,rfl⟩:=List.mem_map.1 hx;exact(aoi h hb).2
    ·obtain⟨i,hi,rfl⟩:=List.mem_map.1 hx;exact aoj h (fI.1 (List.mem_filter.1 hi).1)),ak]
   unfold OU ace;cases (rG c++sP c c.pending.length).find? (dL c)with
   |some x=>rfl
   | none=>
    dsimp only;rw[aq,aG0 h,ak];cases decide ((Ca c).2 >= 0)with
    |true=>rfl
    | false=>
     rw[aq,aq,aHg h,ak,aoh h (by rw[pM,pM];omega) (λx hx=>by
      rcases List.mem_append.1 hx with hx|hx
      ·exact E.2 x hx
      ·rcases List.mem_append.1 hx with hx | hx
       ·exact L.2 x hx
       ·exact O.2 x hx),ak,aHh]
def aHj(p:Nat -> Bool)(n:Nat):dj p (List.range n) <= n/\(∀ k,k<dj p (List.range n) -> p k=false)/\(dj p (List.range n)<n -> p (dj p (List.range n))=true):=by
 have C:=tN p (List.range n);rw[di]at C
 refine⟨C,λk D=>?_,λE=>?_⟩
 ·have:=mU D (by rw[di];omega);simp_all
 ·have:=qv (p:=p) (q:=List.range n) (by rw[di];exact E)
  rwa [jH]at this
def aHk(c:av)(n:Nat):(sP c n).find? (dL c)=if dj (λi=>rF c i&&dL c (kB c i)) (List.range n)<n then some (kB c (dj (λi=>rF c i&&dL c (kB c i)) (List.range n)))else none:=by
 unfold sP;rw[List.find?_map,List.find?_filter];have e:(List.range n).find? (λa=>decide (rF c a=true/\(dL c ∘ kB c) a=true))=(List.range n).find? (λi=>rF c i&&dL c (kB c i)):=by
  simp_all
 rw[e];rcases U7 (λi=>rF c i&&dL c (kB c i)) (List.range n)with ⟨C,D⟩|⟨C,D⟩
 ·simp_all
 ·grind
def aoo{c:av}(h:Pq c):TB c=some (Cd c):=by
 have Z:=h.p.R.tQ;have hw:=Va c;have vT:=h.pl;have hdl:=mq h.rf;have ul:=EM 0 c.aV.aI;have Ew:=h.p.bl;have hdn:=h.dl;unfold TB bE;rw[abw h.rf,ak,abx h.rf,ak,aFx _ _ _ h.de h.pw,ak];have ew:vB c.box.bK.de c.bk (tR c)=cJ c:=rfl;rw[ew];unfold Cd;cases c.bk.state != 0 with
 | true=>
  rw[au,au];by_cases T:cJ c=0
  ·rw[T];rfl
  ·rw[ic T,au,au,zJ h.p (UH Z (by omega)),ak];cases dL c ⟨cJ c,0,0,0⟩<;>rfl
 | false=>
  rw[aq,aq];have ju:∀ (k:Nat) (C:k<(cI 0 c.aV.aI).length),Ej (((),(),(),(),(),((cI 0 c.aV.aI).length:Int),(k:Int),()),(c,((0:Int),(0:Int),(0:Int),(0:Int),()),cI 0 c.aV.aI,(cJ c,(0:Int),(0:Int),(0:Int),()),()))=some (bif dL c (iE c (cI 0 c.aV.aI)[k])then .inr (.inl (((),(-1:Int),()),(((iE c (cI 0 c.aV.aI)[k]).kind,(iE c (cI 0 c.aV.aI)[k]).ay,(iE c (cI 0 c.aV.aI)[k]).row,(iE c (cI 0 c.aV.aI)[k]).bR,()),())))else .inl (((),(),(),(),(),((cI 0 c.aV.aI).length:Int),((k+1:Nat):Int),()),(c,((0:Int),(0:Int),(0:Int),(0:Int),()),cI 0 c.aV.aI,(cJ c,(0:Int),(0:Int),(0:Int),()),()))):=by
   intro k C;have⟨k1,k2⟩:=aoi h (cM C);unfold Ej ax aU xG xL;dsimp only;rw[aQ,au,aA ⟨by omega,by omega⟩,aA];simp only[br];rw[ab4 _ (by omega) (by omega),ak];show ((jq c (iE c (cI 0 c.aV.aI)[k])).bind _)=_;rw[zJ h.p k2,ak,bA];cases dL c (iE c (cI 0 c.aV.aI)[k])<;>rfl
  have hfu:(rG c).find? (dL c)=((cI 0 c.aV.aI).find? (λb=>dL c (iE c b))).map (iE c):=by
   unfold rG;rw[List.find?_map];rfl
  unfold ace;rw[List.find?_append,hfu,aHk];rcases U7 (λb=>dL c (iE c b)) (cI 0 c.aV.aI)with ⟨L,U⟩|⟨L,U⟩
  ·have e:=cv (step:=Ej) (cI 0 c.aV.aI).length (λk=>(((),(),(),(),(),((cI 0 c.aV.aI).length:Int),(k:Int),()),(c,((0:Int),(0:Int),(0:Int),(0:Int),()),cI 0 c.aV.aI,(cJ c,(0:Int),(0:Int),(0:Int),()),()))) (.inr (.inl (((),(),(),(),()),(c,((0:Int),(0:Int),(0:Int),(0:Int),()),cI 0 c.aV.aI,(cJ c,(0:Int),(0:Int),(0:Int),()),())))) aT (λk C=>by
    have:=mU (p:=λb=>dL c (iE c b)) (q:=cI 0 c.aV.aI) (i:=k) (by omega) C;rw[ju k C,this];rfl) (by
    unfold Ej ax aU xG xL;dsimp only;rw[aR,aq]) (bH)
   rw[cm]at e
   refine(bf (λo=>Option.bind o _) e).trans ?_
   rw[ak,U];simp only[Sum.elim_inr,eC,Option.map_none,Option.none_or];have⟨i1,i2,i3⟩:=aHj (λi=>rF c i&&dL c (kB c i)) c.pending.length;have O:∀ (k:Nat) (C:k<c.pending.length),El (((),(),(),(),c.pending,(c.pending.length:Int),(k:Int),()),(c,((0:Int),(0:Int),(0:Int),(0:Int),()),cI 0 c.aV.aI,(cJ c,(0:Int),(0:Int),(0:Int),()),()))=some (bif rF c k&&dL c (kB c k)then .inr (.inl (((),(-1:Int),()),(((kB c k).kind,(kB c k).ay,(kB c k).row,(kB c k).bR,()),())))else .inl (((),(),(),(),c.pending,(c.pending.length:Int),((k+1:Nat):Int),()),(c,((0:Int),(0:Int),(0:Int),(0:Int),()),cI 0 c.aV.aI,(cJ c,(0:Int),(0:Int),(0:Int),()),()))):=by
    intro k C;have⟨ho,Y,o2,o3,o4⟩:=ab7 h C;unfold El ax aU xG xI;dsimp only;rw[aQ,au,aA ⟨by omega,by omega⟩,bA];simp only[br,ab6,(abW hdl.1 Y o3),ak,Int.toNat_zero,List.drop_zero];have ek:rF c k=(!oF c (nQ c k).ay && !((c.pending.take k).any λa=>a.ay==(nQ c k).ay)):=rfl;rw[ek];cases oF c (nQ c k).ay with
    |true=>rfl
    | false=>
     rw[aq,bJ ⟨by omega,by omega,by omega⟩,abF _ _ (by rw[fY];omega),ak];cases (c.pending.take k).any λa=>a.ay==(nQ c k).ay with
     |true=>rfl
     | false=>
      rw[aq,ab4 _ Y o2,ak];show ((jq c (kB c k)).bind _)=_;rw[zJ h.p (aoj h C)];cases dL c (kB c k)<;>rfl
   by_cases E:dj (λi=>rF c i&&dL c (kB c i)) (List.range c.pending.length)<c.pending.length
   ·rw[bJ E];generalize hN:dj (λi=>rF c i&&dL c (kB c i)) (List.range c.pending.length)=N at *
    have D:=cv (step:=El) N (λk=>(((),(),(),(),c.pending,(c.pending.length:Int),(k:Int),()),(c,((0:Int),(0:Int),(0:Int),(0:Int),()),cI 0 c.aV.aI,(cJ c,(0:Int),(0:Int),(0:Int),()),()))) (.inl (((),(-1:Int),()),(((kB c N).kind,(kB c N).ay,(kB c N).row,(kB c N).bR,()),()))) aT (λk C=>by
     rw[O k (by omega),i2 k C];rfl) (by
     rw[O N E,i3 E];rfl) (bH)
    rw[cm]at D
    refine(bf (λo=>Option.bind o _) D).trans ?_
    rfl
   ·rw[bQ E];have D:=cv (step:=El) c.pending.length (λk=>(((),(),(),(),c.pending,(c.pending.length:Int),(k:Int),()),(c,((0:Int),(0:Int),(0:Int),(0:Int),()),cI 0 c.aV.aI,(cJ c,(0:Int),(0:Int),(0:Int),()),()))) (.inr (.inl (((),(),(),(),()),(c,((0:Int),(0:Int),(0:Int),(0:Int),()),cI 0 c.aV.aI,(cJ c,(0:Int),(0:Int),(0:Int),()),())))) aT (λk C=>by
     rw[O k C,i2 k (by omega)];rfl) (by
     unfold El ax aU xG xI;dsimp only;rw[aR,aq]) (bH)
    rw[cm]at D
    refine(bf (λo=>Option.bind o _) D).trans ?_
    rw[ak];simp only[Sum.elim_inr,eC];rw[aGo h,ak,aGY h,ak];cases decide ((Ca c).2 >= 0)with
    |true=>rfl
    | false=>
     rw[aq,aq];show ((NB c (cI 0 c.aV.aI) (fX c) ⟨cJ c,0,0,0⟩).bind _)=_;rw[aHc h,ak]
  ·have e:=cv (step:=Ej) (dj (λb=>dL c (iE c b)) (cI 0 c.aV.aI)) (λk=>(((),(),(),(),(),((cI 0 c.aV.aI).length:Int),(k:Int),()),(c,((0:Int),(0:Int),(0:Int),(0:Int),()),cI 0 c.aV.aI,(cJ c,(0:Int),(0:Int),(0:Int),()),()))) (.inl (((),(-1:Int),()),(((iE c (cI 0 c.aV.aI)[dj (λb=>dL c (iE c b)) (cI 0 c.aV.aI)]).kind,(iE c (cI 0 c.aV.aI)[dj (λb=>dL c (iE c b)) (cI 0 c.aV.aI)]).ay,(iE c (cI 0 c.aV.aI)[dj (λb=>dL c (iE c b)) (cI 0 c.aV.aI)]).row,(iE c (cI 0 c.aV.aI)[dj (λb=>dL c (iE c b)) (cI 0 c.aV.aI)]).bR,()),()))) aT (λk C=>by
    have:=mU (p:=λb=>dL c (iE c b)) (q:=cI 0 c.aV.aI) (i:=k) C (by omega);rw[ju k (by omega),this];rfl) (by
    have:=qv (p:=λb=>dL c (iE c b)) (q:=cI 0 c.aV.aI) L;rw[ju _ L,this];rfl) (bH)
   simp_all
def aHl{r:cH}{x:aH}(C:x.kind <= 5):(gk r x).bk=r.bk:=by
 unfold gk
 grind
def fl.ez{c:av}(p:fl c)(x:aH):fl (ez c x):=⟨p.dl,p.tl,p.gl,p.t,p.g,p.pd,p.u⟩
def Ck.ez{c:av}(h:Ck c){x:aH}(C:nL c.config.az c.bq x=true)(D:x.kind<=5)(E:c.trace.length<2000):Ck (ez c x):=by
 simp only[nL,aS]at C;exact⟨h.f1,h.f2,h.nw,aml C.1 C.2.1 C.2.2,an6 _ h.rd,h.ar,h.sp,h.se,h.rf,((fl.of h.pa).ez x).ok,h.qu,h.sh,h.sl,h.dr,h.pw,h.ps.trans (aHl D).symm,h.si,h.s1,h.s2,h.s3,h.er,by simp[Proofs.YtnilicojgkhpnaaGreat.ez];omega,h.rp⟩
def Ck.opn{c:av}(h:Ck c){x:aH}(E:0 <= x.ay)(L:x.ay<aY c.config.az)(O:0 <= x.row)(T:x.row<c.config.az.rows):Ck (vE c x):=by
 have C:=(vf h.rk).1;have gb:=fN C;have p:=fl.of h.pa;have U0:=p.tl;have hgl:=p.gl;have U:x.ay.toNat<c.bL.length:=by omega
 have D:dO c.config.az 100000 (vw c.config.az c.config.ep c.array x.ay x.row):=abq C c.config.ep (by decide) (dO.mV h.ar) E L O T;have Y:∀a∈pF c x,dn c.config.az a=true/\a.bR=0:=λa D=>p.pd a (List.mem_filter.1 D).1
 have Z:(pF c x).Pairwise (λx y=>x≠y):=p.u.filter _;have q:(∀ a∈(vE c x).pending,dn c.config.az a=true/\a.bR=0)/\(vE c x).pending.Pairwise (λx y=>x≠y):=by
  show (∀a∈(bif (tT c x).2 then (mT c.config.az.rows x.row).foldl (nO x.ay) (pF c x)else pF c x),dn c.config.az a=true/\a.bR=0)/\(bif (tT c x).2 then (mT c.config.az.rows x.row).foldl (nO x.ay) (pF c x)else pF c x).Pairwise (λx y=>x≠y);cases (tT c x).2 with
  |false=>simp_all
  | true=>
   refine an0 _ (λn hn=>?_) Y Z
   have:=amB O T n hn;exact wT C E L this.1 this.2 (Int.le_refl 0) (by show 0<_;omega)
 have hp:fl (vE c x):=⟨p.dl,by show ((c.bL.set x.ay.toNat (tT c x).1).length:Int)=_;rw[eM];exact p.tl,p.gl,Il p.t (by unfold tT;rw[lC _ U];exact aGJ (p.t _ (cM U)) _ _),p.g,q.1,q.2⟩
 exact⟨h.f1,h.f2,h.nw,h.rk,h.rd,rE C D,h.sp,h.se,h.rf,hp.ok,h.qu,h.sh,h.sl,h.dr,h.pw,h.ps,h.si,h.s1,h.s2,h.s3,h.er,h.tr,h.rp⟩
def Ck.ref{c:av}(h:Ck c)(hl:c.box.bK.weights.length<1073741823)(E:aM c.config.fZ 1 16=true){b:Int}(L:0 <= b)(O:b<aY c.config.az):Ck (UY c b):=by
 have C:=(vf h.rk).1;have U:=fN C;have p:=fl.of h.pa;have Y:=p.dl;have D:dO _ 100000 (rz _ c.config.ep c.array b c.config.az.rows.toNat):=Ii C _ (by decide) (dO.mV h.ar) L O _ (by omega);have T:fl (UY c b):=⟨by show ((xm c.aV b).aI.length:Int)=_;rw[anT];exact p.dl,by show ((c.bL.set b.toNat _).length:Int)=_;rw[eM];exact p.tl,by show ((c.guard.set b.toNat _).length:Int)=_;rw[eM];exact p.gl,Il p.t (an1 E),Il p.g (an2 hl h.f1),λa D=>p.pd a (List.mem_filter.1 D).1,p.u.filter _⟩
 exact⟨h.f1,h.f2,h.nw,h.rk,h.rd,rE C D,h.sp,h.se,aGR h.rf (by omega),T.ok,h.qu,h.sh,h.sl,h.dr,h.pw,h.ps,h.si,h.s1,h.s2,h.s3,h.er,h.tr,h.rp⟩
def acf{T:Type}{p:T->Prop}{l:aa T}{x:T}(h:∀ y∈l,p y)(C:p x):∀ k:Nat,∀ y∈(List.range k).foldl (λd b=>d.set b x) l,p y
 |0=>h
 | k+1=>by
  rw[zM];exact Il (acf h C k) C
def aop{r:cO}(h:dV r=true):∀ k:Nat,dV ⟨(List.range k).foldl (λd b=>d.set b 0) r.aI,r.wait,r.dy⟩=true
 |0=>h
 | k+1=>by
  rw[zM];exact an9 (aop h k) k (by omega)
def Ck.UN{c:av}(h:Ck c)(hl:c.box.bK.weights.length<1073741823)(E:aM c.config.fZ 1 16=true)(n:Nat)(L:(n:Int) <= aY c.config.az):Ck (gT c n []):=by
 have D:=(vf h.rk).1;have p:=fl.of h.pa;have C:=UM D c.config.ep (by decide) (dO.mV h.ar) n L;have O:fl (gT c n []):=⟨by show (((List.range n).foldl _ c.aV.aI).length:Int)=_;rw[zN];exact p.dl,by show (((List.range n).foldl _ c.bL).length:Int)=_;rw[zN];exact p.tl,by show (((List.range n).foldl _ c.guard).length:Int)=_;rw[zN];exact p.gl,acf p.t (an1 E) n,acf p.g (an2 hl h.f1) n,λa C=>(by cases C),List.Pairwise.nil⟩
 exact⟨h.f1,h.f2,h.nw,h.rk,h.rd,rE D C,h.sp,h.se,aop h.rf n,O.ok,h.qu,h.sh,h.sl,h.dr,h.pw,h.ps,h.si,h.s1,h.s2,h.s3,h.er,h.tr,h.rp⟩
def Ck.acc{c:av}(h:Ck c){i:Nat}(C:pH c i 100000)(hr:c.cr.length<400):Ck (vI c i):=by
 have T:=(vf h.rk).1;have p:=fl.of h.pa;have hi:=C.i;have⟨f1,f3,f4,f5,f6,f7,f8⟩:=C.facts (cM hi);have D:c.queue.getD i xu=c.queue[i]:=lC _ hi;have E:=C.d _ (cM hi);have U:=C.shl;have L:iL (B9 c.shares c.queue[i].c9)=true/\((B9 c.shares c.queue[i].c9).length:Int)=4:=by
  have⟨y,t,e,hl,ho⟩:=aGP ((List.replicate 4 false).set c.queue[i].c9.toNat true) (by omega) h.sh (by simp[U])
  grind
 have Y:gX (eI (ei c.config.az c.spare)) (c.queue.take i++c.queue.drop (i+1))=true:=((Qk.of h.qu).sub (an7 _ _)).ok;have key:∀ (a:cN) (e:aa bV) (x:cR),dO c.config.az 100000 a -> lS e=true -> Ck (pG c i a e x):=λa e x Z he=>
  ⟨h.f1,h.f2,h.nw,h.rk,h.rd,rE T Z,h.sp,h.se,h.rf,(show fl (pG c i a e x)from ⟨p.dl,p.tl,p.gl,p.t,p.g,p.pd,p.u⟩).ok,Y,by unfold pG;rw[D];exact L.1,by unfold pG;rw[D];exact L.2,h.dr,h.pw,h.ps,h.si,h.s1,h.s2,h.s3,he,h.tr,by simp[pG];omega⟩
 unfold vI;rw[D];dsimp only;cases c.queue[i].write with
 |true=>exact key _ _ _ (C.a.zE _ (c:=⟨_,false⟩) (ON E.1 E.2).2.1) h.er
 | false=>
  have O:=C.a.syms _ (cM f4);rw[aq,lC _ f4];refine key _ _ _ (C.a.zE _ (UP O)) ?_;have hec:=OR O;by_cases e:jG c.array.cells[fO c.config.az (gY c c.queue[i].line)]=0
  ·rw[e];exact h.er
  ·rw[ic e,au];exact ab2 h.er ⟨by omega,f5⟩ (by omega)
def Ck.Vb{c:av}(h:Ck c){x:aH}(C:nL c.config.az c.bq x=true)(D:6 <= x.kind/\x.kind <= 9)(U:c.trace.length<2000):Ck (EU (Proofs.YtnilicojgkhpnaaGreat.ez c x) x.kind):=by
 simp[nL,aS]at C;have E:=bB.1 h.nw;have⟨L,O,T⟩:=aGS h.pw h.ps h.si E.2 D C.2.2;have p:=fl.of h.pa;exact⟨h.f1,h.f2,h.nw,aml C.1 C.2.1 C.2.2,an6 _ h.rd,h.ar,h.sp,h.se,h.rf,(show fl _ from ⟨p.dl,p.tl,p.gl,p.t,p.g,p.pd,p.u⟩).ok,h.qu,h.sh,h.sl,h.dr,L,O,T,h.s1,h.s2,h.s3,h.er,by simp[EU,anP,Proofs.YtnilicojgkhpnaaGreat.ez];omega,h.rp⟩
def Ck.iss{c:av}(L:cF c)(h:Ck c){x:aH}{i:Int}(E:sL c x i=true):Ck (tV c x i):=by
 have Y:=Pq.of L h.ok;have O:c.box.bK.weights.length<1073741823:=by
  have:=L.1.1;unfold BO at this;omega
 have Z:aM c.config.fZ 1 16=true:=by
  have:=(xk O h.f1).1;simp[pq,aS]at this;exact this.2.2.2.2.2.1
 have⟨hb,C,hs,hr⟩:=ab0 L Y E;have D:c.trace.length<2000:=by
  simp only[sL,aS,g9,qA]at E;omega
 have hrp:x.kind=2 \/ x.kind=3 -> c.cr.length<400:=λT=>by
  simp only[sL,aS]at E;have e:(x.kind==2 ||x.kind==3)=true:=by rcases T with q|q<;>rw[q]<;>rfl
  rw[e,au]at E;simp[OT,aS,iN]at E;omega
 have⟨hg,hlen,T,hbk⟩:=HT C;have hc:dP c.config.az x=true:=by
  simp only[nL,aS]at C
  grind
 have U0:=(fl.of h.pa).tl;have kO:=Y.p.bl;unfold tV;rcases kinds T with q|q|q|q|q|q|q|q|q<;>rw[q]<;>simp only[Int.reduceBEq,Int.reduceBNe,au,aq,Bool.or_true,Bool.or_false,Bool.true_or,Bool.false_or,Bool.or_self]
 ·have⟨U,rS⟩:=hbk (by omega);have⟨r0,r1⟩:=UZ hc q;exact(h.ez C (by omega) D).opn U (by show x.ay<aY c.config.az;omega) r0 r1
 ·exact(h.ez C (by omega) D).acc ((hs (.inl q)).1.ez x) (hrp (.inl q))
 ·exact(h.ez C (by omega) D).acc ((hs (.inr q)).1.ez x) (hrp (.inr q))
 ·exact h.ez C (by omega) D
 ·have⟨U,rS⟩:=hbk (by omega);exact(h.ez C (by omega) D).ref O Z U (by show x.ay<aY c.config.az;omega)
 ·have:=h.Vb C (by omega) D;rw[q]at this;exact this
 ·have:=h.Vb C (by omega) D;rw[q]at this;exact this
 ·have:=h.Vb C (by omega) D;rw[q]at this;exact this
 ·have:=h.Vb C (by omega) D;rw[q]at this;exact this.UN O Z _ (by show (c.bL.length:Int) <= aY c.config.az;omega)
def Adv(n:Int)(c y:av):Prop:=(y.trace=c.trace/\y.bq=c.bq/\y.ready=c.ready)\/∃x,y.trace=c.trace++[⟨n,x⟩]/\y.bq=gk c.bq x/\y.ready=sH c.config.az c.ready ⟨n,x⟩/\dP c.config.az x=true/\nK c.bq x=true/\tP c.config.az c.config.cq c.ready x<=n
def Nx(c y:av):Prop:=y.now=c.now/\y.config=c.config/\y.queue.Sublist c.queue/\(∀r∈y.cr,r∈c.cr\/∃q∈c.queue,r.id=q.id)/\Adv c.now c y/\y.queue.length+y.cr.length=c.queue.length+c.cr.length
def Nx.refl(c:av):Nx c c:=⟨rfl,rfl,List.Sublist.refl _,λr C=>.inl C,.inl ⟨rfl,rfl,rfl⟩,rfl⟩
def aoq{c:av}{x:aH}(C:dP c.config.az x=true/\nK c.bq x=true/\tP c.config.az c.config.cq c.ready x<=c.now){i:Nat}(hi:i<c.queue.length):Nx c (vI (ez c x) i):=by
 have key:∀ (a:cN) (e:aa bV) (t:cR),t.id=c.queue[i].id->Nx c (pG (ez c x) i a e t):=λa e t D=>by
  refine⟨rfl,rfl,an7 _ _,λr hr=>?_,.inr ⟨x,rfl,rfl,rfl,C⟩,?_⟩
  ·rcases List.mem_append.1 hr with hr | hr
   ·exact .inl hr
   ·rw[List.mem_singleton.1 hr];exact .inr ⟨_,cM hi,D⟩
  ·show (c.queue.take i++c.queue.drop (i+1)).length+(c.cr++[t]).length=_;rw[pM,pM,fY,List.length_drop,lV];omega
 have E:(ez c x).queue.getD i xu=c.queue[i]:=lC _ hi;unfold vI;rw[E];dsimp only;cases c.queue[i].write with
 |true=>exact key _ _ _ rfl
 |false=>exact key _ _ _ rfl
def aHm{c:av}{x:aH}{i:Int}(D:sL c x i=true)(Y:1<=x.kind/\x.kind<=9)(L:x.kind=2\/x.kind=3->i.toNat<c.queue.length):Nx c (tV c x i):=by
 have E:dP c.config.az x=true/\nK c.bq x=true/\tP c.config.az c.config.cq c.ready x<=c.now:=by
  simp only[sL,dL,aS,iN]at D;exact⟨D.1,D.2.1.1,D.2.1.2.2⟩
 have C:∀y:av,y.now=c.now->y.config=c.config->y.queue=c.queue->y.cr=c.cr->y.trace=c.trace++[⟨c.now,x⟩]->y.bq=gk c.bq x->y.ready=sH c.config.az c.ready ⟨c.now,x⟩->Nx c y:=λy Z h2 O T h5 h6 h7=>⟨Z,h2,by rw[O];exact List.Sublist.refl _,λr U=>by rw[T]at U;exact .inl U,.inr ⟨x,h5,h6,h7,E⟩,by rw[O,T]⟩
 unfold tV;rcases kinds Y with q|q|q|q|q|q|q|q|q<;>rw[q]<;>simp only[Int.reduceBEq,Int.reduceBNe,au,aq,Bool.or_true,Bool.or_false,Bool.true_or,Bool.false_or,Bool.or_self]
 ·exact C _ rfl rfl rfl rfl rfl rfl rfl
 ·exact aoq E (L (.inl q))
 ·exact aoq E (L (.inr q))
 ·exact C _ rfl rfl rfl rfl rfl rfl rfl
 ·exact C _ rfl rfl rfl rfl rfl rfl rfl
 ·exact C _ rfl rfl rfl rfl rfl rfl rfl
 ·exact C _ rfl rfl rfl rfl rfl rfl rfl
 ·exact C _ rfl rfl rfl rfl rfl rfl rfl
 ·exact C _ rfl rfl rfl rfl rfl rfl rfl
def aHn{c:av}(C:cF c)(x:aH)(i:Int):∃ y b,q8 c x i=some (y,b)/\cF y/\(cZ c=true->cZ y=true)/\Nx c y:=by
 cases D:cZ c with
 | false=>
  refine⟨c,false,?_,C,λh=>(by cases h),Nx.refl c⟩
  unfold q8 xI;rw[zG c C,ak,zF c C,ak,D];rfl
 | true=>
  have h:=Pq.of C D;rw[anY C h];cases hm:sL c x i with
  |false=>exact⟨c,false,rfl,C,λ_=>D,Nx.refl c⟩
  | true=>
   obtain⟨hb,E,L,O⟩:=ab0 C h hm
   refine⟨tV c x i,true,?_,anW C hb O E L,λ_=>(Ck.iss C (Ck.of D) hm).ok,aHm hm (HT E).2.2.1 λq=>(L q).1.i⟩
   rw[au,anR hb E L];rfl
def aHo{c:av}(C:cF c):∃ y,sB c=some y:=by
 unfold sB;rw[zF c C,ak];cases D:cZ c with
 |false=>simp_all
 | true=>
  have h:=Pq.of C D;rw[bg,aoo h];cases decide ((c.trace.length:Int) >= 2000)with
  |true=>simp_all
  |false=>simp_all
def mW(d:Int):Int:=if (5:Int)<W6 (d+1)then 5 else W6 (d+1)
def aHp{r:cO}(h:dV r=true)(n:Int):∃ y,Ea r n=some y/\dV y=true/\y.aI.length=r.aI.length:=by
 have hl:=mq h;have C:=EO h;have Z:1<=r.wait/\r.wait<=10000:=by
  simp only[dV,aS,bB]at h;exact h.2.2
 have mk:∀ (l:aa Int) (w:Int) (b:Bool),l.length=r.aI.length->(∀ x∈l,-2<=x/\x<=5)->1<=w/\w<=10000->dV ⟨l,w,b⟩=true:=λl w b h1 L O=>by
  simp only[dV,aS,cw,zz,bB];exact⟨L,by omega,O⟩
 unfold Ea uX bh xA xZ;rw[cD (by simp;omega),au,jX,ak,BG _ (by omega),ak,h,bg,aq,cW,ak];cases T:aM n 2 10000 with
 |false=>exact⟨r,rfl,h,rfl⟩
 |true=>
 have hb:=bB.1 T;rw[bg,aq];dsimp only;rw[aK (n:=r.wait-1)];by_cases D:r.wait-1 > 0
 ·rw[aQ D,au];exact⟨_,rfl,mk _ _ _ rfl C (by omega),rfl⟩
 ·rw[aR D,aq];have e:=cv (step:=Bi) r.aI.length (λi=>((n,(),(),(),(r.aI.length:Int),(i:Int),()),((r.aI,r.wait,r.dy,()),((),(0:Int),false,()),((),r.wait-1,r.dy,()),([]:aa Int),upto mW r.aI i,()))) (.inl ((n,(),(),(),()),((r.aI,r.wait,r.dy,()),((),(0:Int),false,()),((),r.wait-1,r.dy,()),([]:aa Int),r.aI.map mW,()))) aT (λi hi=>by
   have hlen:=zp mW r.aI i;unfold Bi ax xG xL;dsimp only;rw[aQ,au,aA ⟨by omega,by omega⟩,aA,aA ⟨by omega,by omega⟩,aA,bA];simp only[br];rw[Er mW r.aI i hi,<-Es mW r.aI i hi];rfl) (by
   unfold Bi ax xG xL;dsimp only;rw[aR,aq,Ep]) (bH)
  rw[cm,N0]at e;have E:∀ x∈r.aI.map mW,-2<=x/\x<=5:=λx U=>by
   obtain⟨d,Y,rfl⟩:=List.mem_map.1 U;have:=C d Y;unfold mW;rw[aK (n:=d+1)];split<;>omega
  have Ih:W6 (n.tdiv 2)=n / 2:=by rw[pO (by omega)];exact aK
  refine(bf (λo=>∃y,Option.bind o _=some y/\dV y=true/\y.aI.length=r.aI.length) e).mpr ?_
  rw[ak];simp only[eC];cases r.dy with
  |true=>exact⟨_,rfl,mk _ _ _ (by simp) E (by omega),by simp⟩
  |false=>exact⟨_,rfl,mk _ _ _ (by simp) E (by omega),by simp⟩
def aHq{g:aL}{a:cN}(h:kY g a=true):∃ y,Eb g a 1=some y/\kY g y=true:=by
 have D:=(Ou h).1;have C:=dO.mV h
 refine⟨_,amE D C (by decide) (by decide) (by decide),rE D ⟨C.cells,C.syms,by rw[eK];exact C.bD,C.bC,λx E=>?_,C.jg⟩⟩
 obtain⟨y,L,rfl⟩:=List.mem_map.1 E;exact aaD (C.BB y L) (by decide)
def aHr(q:aa aN)(w:Bool)(hl:q.length<1073741824):∃ n,zg q w=some n:=by
 unfold zg bh;have e:=cv (step:=Bj) q.length (λi=>((w,(((q.take i).countP λr=>r.write==w:Nat):Int),q,(q.length:Int),(i:Int),()),())) (.inl (((((q.take q.length).countP λr=>r.write==w:Nat):Int),()),())) aT (λk C=>by
  have D:=List.countP_le_length (p:=λr:aN=>r.write==w) (l:=q.take k);rw[fY]at D;unfold Bj ax xG xI;dsimp only;rw[aQ,au,aA ⟨by omega,by omega⟩,bA];simp only[br];rw[oB C,List.countP_append,List.countP_singleton];cases q[k].write==w with
  |true=>rw[ bA];rfl
  |false=>rw[ bA];rfl) (by
  unfold Bj ax xG xI;dsimp only;rw[aR,aq]) (bH)
 rw[cm]at e;exact⟨_,(bf (λo=>Option.bind o _) e).trans rfl⟩
def aHs{d:gV}(h:me d=true)(n:Int):∃ y,zf d n=some y/\me y=true:=by
 unfold zf;rw[Oc,ak,h,bg];cases decide (n >= d.high)with
 |true=>exact⟨_,rfl,h⟩
 | false=>
  cases decide (n <= d.low)with
  |true=>exact⟨_,rfl,h⟩
  |false=>simp_all
def aHt{p:fk}(h:jh p=true)(w:Bool):∃ y,zh p w=some y/\jh y=true/\y.state=p.state/\y.since=p.since:=by
 unfold zh;rw[Og,ak,h,bg];simp[jh,aS,bB]at h;cases w with
 |true=>exact⟨_,rfl,by simp[jh,aS,bB];omega,rfl,rfl⟩
 | false=>
  refine⟨_,rfl,?_,rfl,rfl⟩;rw[aK];simp[jh,aS,bB]
  grind
def aHu(b:fL)(h:w8 b)(x:Bool):∃ t,Bk b x=some (bif t then ⟨b.next,b.next,false⟩else b,t):=by
 have C:b.next.weights.length <= 1048576:=h.2
 unfold Bk;rw[Ow b h];cases x with
 |false=>simp_all
 | true=>
  cases b.waits with
  |false=>simp_all
  | true=>
   refine⟨true,?_⟩;unfold sx xA xZ;rw[ij _];rfl
def aHv{c:eT}{p:dB}(hl:p.weights.length<1073741823)(h:jU c p=true):∃ l t,uY p.weights=some (l,t)/\iL l=true/\(l.length:Int)=4/\me ⟨false,p.low,p.high⟩=true:=by
 have⟨_,f2⟩:=xk hl h;simp[mg,aS,fJ]at f2;have⟨f3,f4,f5,f6,f7,f8,f9⟩:=f2;refine⟨p.weights.map kZ,true,?_,f8,by rw[eK];exact f7,f6⟩;rw[Uk _ hl];unfold wY;simp_all
def aHw{s:jY}{n:Int}(C:aM s.every 1 100000=true)(E:aM s.wait 1 s.every=true)(D:aM s.next 0 (W6 (n-1))=true)(Z:1<=n/\n<=1000000):∃ y m,sA s n=some (y,m)/\aM y.every 1 100000=true/\aM y.wait 1 y.every=true/\aM y.next 0 (W6 (n-1))=true/\m<n:=by
 have T:=bB.1 C;have b2:=bB.1 E;have L:W6 (n-1)=n-1:=aK;have U:=bB.1 D;rw[L]at U;unfold sA;rw[cW,ak,C,bg,aq,cW,ak,E,bg,aq,aR,aq,cW,ak,D,bg,aq,aK (n:=s.wait-1)];by_cases O:s.wait-1 > 0
 ·rw[aQ O,au];exact⟨_,_,rfl,C,bB.2 ⟨by dsimp only;omega,by dsimp only;omega⟩,D,by omega⟩
 ·rw[aR O,aq,bQ,aK (n:=s.next+1)];refine⟨_,_,rfl,C,bB.2 ⟨T.1,Int.le_refl _⟩,?_,by omega⟩;rw[L,rH (by omega)];have Y:=Int.emod_nonneg (s.next+1) (show n≠0 by omega);have e2:=Int.emod_lt_of_pos (s.next+1) (show 0<n by omega);exact bB.2 ⟨Y,by dsimp only;omega⟩
def Kp(o:ah av):Prop:=∃y,o=some y/\cF y/\cZ y=true
def Kn(s:av)(o:ah av):Prop:=∃y,o=some y/\cF y/\cZ y=true/\Nx s y
def Stp(c y:av):Prop:=y.now=c.now+1/\y.config=c.config/\y.queue.Sublist c.queue/\(∀r∈y.cr,r∈c.cr\/∃q∈c.queue,r.id=q.id)/\Adv (c.now+1) c y/\y.queue.length+y.cr.length=c.queue.length+c.cr.length
def vN(c:av)(b:fL)(a:cN)(r:cO)(s:aa bZ)(d:gV)(p:fk)(u:jY):av:=⟨c.config,b,W6 (c.now+1),c.bq,c.ready,a,c.spare,r,c.bL,c.guard,c.pending,c.queue,s,d,p,u,c.errors,c.trace,c.cr⟩
def Ip(x:av):ah av:=(sB x).bind λC=>bif (C.1.kind != (0:Int))then (q8 x C.1 C.2).bind λD=>some D.1 else some x
def Ce(x:av)(n:Int):ah av:=bif (decide (n >= (0:Int)))then (zl x n).bind λC=>(zi C.2.1 n C.1.2).bind λD=>Ip D.2.1 else Ip x
def stepT(c:av)(r:cO)(a:cN):ah av:=(zg c.queue true).bind λT=>(zf c.drain T).bind λL=>(wO (vN c c.box a r c.shares L c.bk c.cB)).bind λU=>(zh c.bk U).bind λO=>(Bk c.box ((c.queue.length:Int)==(0:Int))).bind λC=>bif C.2 then (uY C.1.bK.weights).bind λY=>(qZ c.config.az).bind λE=>(sA c.cB E).bind λD=>Ce (vN c C.1 a r Y.1 ⟨false,C.1.bK.low,C.1.bK.high⟩ O D.1) D.2 else (qZ c.config.az).bind λE=>(sA c.cB E).bind λD=>Ce (vN c C.1 a r c.shares L O D.1) D.2
def acg{x:av}(C:cF x)(h:cZ x=true):Kn x (Ip x):=by
 have⟨y,e⟩:=aHo C;have⟨z,b,D,E,L,O⟩:=aHn C y.1 y.2;unfold Ip;rw[e,ak];cases y.1.kind != 0 with
 |false=>exact⟨x,rfl,C,h,Nx.refl x⟩
 | true=>
  rw[ D];exact⟨z,rfl,E,L h,O⟩
def aor{x:av}(T:cF x)(h:cZ x=true){n:Int}(hn:n<eI x.config.az):Kn x (Ce x n):=by
 unfold Ce;by_cases E:n >= 0
 ·have C:=Ck.of h;have L:=dO.mV C.ar;have U:=(vf C.rk).1;have hl:=L.cells;have hb:=kX x.config.az;obtain⟨j,rfl⟩:=eD E;have Y:j<x.array.cells.length:=by omega
  have O:=L.syms _ (cM Y);have hec:=OR O;have D:dO x.config.az 100000 ⟨x.array.cells.set j (mw x.array.cells[j]),x.array.bD,x.array.bC⟩:=L.zE _ (UP O);have p:=fl.of C.pa;have iQ:=(Ek.of C.er).l;rw[aQ E,au,abP Y O,ak];dsimp only;rw[abS (c:=oE x j (mw x.array.cells[j])) C.er ⟨by omega,by omega⟩ hec,ak];dsimp only;have⟨Z,z2,z3,z5,z6,z7,z8,z9,fy,gy,gK,gx,gE,ig⟩:=T;have J6:cF (oE x j (mw x.array.cells[j])):=⟨Z,z2,z3,qy D,z6,z7,z8,z9,fy,gy,gK,gx,gE,ig⟩
  have hc1:Ck (oE x j (mw x.array.cells[j])):=⟨C.f1,C.f2,C.nw,C.rk,C.rd,rE U D,C.sp,C.se,C.rf,(show fl (oE x j (mw x.array.cells[j]))from ⟨p.dl,p.tl,p.gl,p.t,p.g,p.pd,p.u⟩).ok,C.qu,C.sh,C.sl,C.dr,C.pw,C.ps,C.si,C.s1,C.s2,C.s3,C.er,C.tr,C.rp⟩
  unfold B8;by_cases e:jG x.array.cells[j]=0
  ·rw[e];exact acg J6 hc1.ok
  ·rw[ic e,au];have he:=ab2 C.er ⟨by omega,by omega⟩ (code:=jG x.array.cells[j]) (by omega);have hle:=abV (l:=x.errors) (j:Int) (jG x.array.cells[j]);exact acg ⟨Z,z2,z3,qy D,z6,z7,z8,z9,fy,gy,gK,by show (rD x.errors (j:Int) _).length <= _;omega,gE,ig⟩ (Ck.ok ⟨C.f1,C.f2,C.nw,C.rk,C.rd,rE U D,C.sp,C.se,C.rf,(show fl _ from ⟨p.dl,p.tl,p.gl,p.t,p.g,p.pd,p.u⟩).ok,C.qu,C.sh,C.sl,C.dr,C.pw,C.ps,C.si,C.s1,C.s2,C.s3,he,C.tr,C.rp⟩)
 ·rw[aR E];exact acg T h
def aos{c:av}(hz:cF c)(h:Ck c)(hn:c.now≠1000000){r:cO}{a:cN}(U:dV r=true)(JA:r.aI.length=c.aV.aI.length)(Y:kY c.config.az a=true):∃ y,stepT c r a=some y/\cF y/\cZ y=true/\Stp c y:=by
 obtain⟨C,z2,z3,z5,z6,z7,z8,z9,fy,gy,gK,gx,gE,ig⟩:=hz;have p:=fl.of h.pa;have hg:=(vf h.rk).1;have U6:=bB.1 h.nw;have hb:=kX c.config.az;have hLp:1<=eI c.config.az:=by
  have:=bB.1 h.s3;rw[aK (n:=eI c.config.az-1)]at this;omega
 have w1:c.box.bK.weights.length<=1048576:=C.1;have w2:c.box.next.weights.length<=1048576:=C.2
 obtain⟨n,e1⟩:=aHr c.queue true (by omega);obtain⟨d,e2,L⟩:=aHs h.dr n;have e3:wO (vN c c.box a r c.shares d c.bk c.cB)=some (tR (vN c c.box a r c.shares d c.bk c.cB)):=abx (c:=vN c c.box a r c.shares d c.bk c.cB) U;obtain⟨pw,e4,FW,yo,hp3⟩:=aHt h.pw (tR (vN c c.box a r c.shares d c.bk c.cB));obtain⟨t,e5⟩:=aHu c.box C ((c.queue.length:Int)==(0:Int));obtain⟨u,m,Z,I5,qb,hu3,hm⟩:=aHw h.s1 h.s2 h.s3 ⟨hLp,by omega⟩;have D:W6 (c.now+1)=c.now+1:=aK;have key:∀ (b:fL) (s:aa bZ) (d:gV),w8 b->jU c.config b.bK=true->jU c.config b.next=true->iL s=true->(s.length:Int)=4->me d=true->cF (vN c b a r s d pw u)/\cZ (vN c b a r s d pw u)=true:=λb s d rS gO hb3 IZ hs2 L=>by
  refine⟨⟨rS,z2,z3,qy (dO.mV Y),z6,by have:=z7;unfold xb at this ⊢;show r.aI.length<=_;omega,z8,z9,fy,gy,by show s.length<=_;omega,gx,gE,ig⟩,Ck.ok ⟨gO,hb3,?_,h.rk,h.rd,Y,h.sp,h.se,U,(show fl (vN c b a r s d pw u)from ⟨by show (r.aI.length:Int)=_;rw[JA];exact p.dl,p.tl,p.gl,p.t,p.g,p.pd,p.u⟩).ok,h.qu,IZ,hs2,L,FW,yo.trans h.ps,?_,I5,qb,hu3,h.er,h.tr,h.rp⟩⟩
  ·show aM (W6 (c.now+1)) 0 1000000=true;rw[D];exact bB.2 ⟨by omega,by omega⟩
  ·show pw.since<=W6 (c.now+1);have:=h.si;rw[D,hp3];omega
 have wq:∀ (b:fL) (s:aa bZ) (d:gV) (o:ah av),Kn (vN c b a r s d pw u) o->∃ y,o=some y/\cF y/\cZ y=true/\Stp c y:=λb s d o ho=>by
  obtain⟨y,f1,f2,f3,f4,f5,f6,f7,E,f9⟩:=ho;have E:Adv (W6 (c.now+1)) c y:=E;rw[D]at E;exact⟨y,f1,f2,f3,f4.trans D,f5,f6,f7,E,f9⟩
 unfold stepT;rw[e1,ak,e2,ak,e3,ak,e4,ak,e5,ak];dsimp only;cases t with
 | false=>
  rw[aq,aq,wS,ak,Z,ak];obtain⟨O,T⟩:=key c.box c.shares d C h.f1 h.f2 h.sh h.sl L;exact wq _ _ _ _ (aor O T hm)
 | true=>
  obtain⟨l,t2,e7,p7,kN,Im⟩:=aHv (p:=c.box.next) (by omega) h.f2;rw[au,au];dsimp only;rw[e7,ak,wS,ak,Z,ak];obtain⟨O,T⟩:=key ⟨c.box.next,c.box.next,false⟩ l ⟨false,c.box.next.low,c.box.next.high⟩ ⟨C.2,C.2⟩ h.f2 h.f2 p7 kN Im;exact wq _ _ _ _ (aor O T hm)
def aHx{c:av}(D:cF c)(U:cZ c=true):∃ y,zn c=some y/\cF y/\cZ y=true/\(c.now≠1000000 -> Stp c y)/\(c.now=1000000 -> y=c):=by
 have h:=Ck.of U;unfold zn;rw[zG c D,ak,zF c D,ak,U,bg];by_cases C:c.now=1000000
 ·simp_all
 ·rw[kA C];cases _ != (2:Int)with
  | true=>
   obtain⟨r,Y,Z,JA⟩:=aHp h.rf _;obtain⟨a,e2,ha⟩:=aHq h.ar;rw[ Y,e2];obtain⟨y,E,L,O,T⟩:=aos D h C Z JA ha;exact⟨y,E,L,O,λ_=>T,λe=>absurd e C⟩
  | false=>
   obtain⟨y,E,L,O,T⟩:=aos D h C h.rf rfl h.ar;exact⟨y,E,L,O,λ_=>T,λe=>absurd e C⟩
def aHy{c:av}(C:cF c)(D:cZ c=true):Kp (zn c):=by
 obtain⟨y,E,L,O,_⟩:=aHx C D;exact⟨y,E,L,O⟩
def Vc(R:Nat)(M:Int)(m:aa Int)(b j:Nat):Prop:=m.getD (b*R+j) 0=(j:Int)\/((R:Int)<=m.getD (b*R+j) 0/\m.getD (b*R+j) 0<=M/\∀k,k<j->m.getD (b*R+k) 0≠m.getD (b*R+j) 0)
def Cf{m:aa Int}{R b k:Nat}(C:k<R)(hl:(b+1)*R <= m.length):(eZ m R b)[k]?=some (m.getD (b*R+k) 0):=by
 rw[iF]at hl;rw[HQ,List.getElem?_take_of_lt C,List.getElem?_drop,bY (by omega),lC]
def aot{R:Nat}{M:Int}{m:aa Int}{b j:Nat}(D:j<R)(hl:(b+1)*R <= m.length):wZ (R:Int) M (eZ m R b) j=true ↔ Vc R M m b j:=by
 unfold wZ Vc;rw[Cf D hl];simp only[eR,aS,fJ,bB,g9,oJ];have key:(∀ x∈(eZ m R b).take j,¬ x=m.getD (b*R+j) 0) ↔ ∀ k,k<j -> m.getD (b*R+k) 0≠m.getD (b*R+j) 0:=by
  constructor
  ·intro h k C;refine h _ ?_;rw[List.mem_iff_getElem?];exact⟨k,by rw[List.getElem?_take_of_lt C,Cf (by omega) hl]⟩
  ·intro h x E;have⟨k,C⟩:=List.mem_iff_getElem?.1 E;have L:k<j:=by
    grind
   rw[List.getElem?_take_of_lt L,Cf (by omega) hl]at C
   grind
 rw[key,and_assoc]
structure Sp (g:aL) (s:c8) (bn R:Nat):Prop where
 sb:jD g s.bF=true
 hb:aY g=(bn:Int)
 hR:g.rows-s.bF=(R:Int)
 hl:s.map.length=bn*R
 f:∀b,b<bn->∀j,j<R->Vc R (g.rows-1) s.map b j
def Sp.of{g:aL}{s:c8}(h:mj g s=true):∃ C R,Sp g s C R:=by
 have⟨_,hg,_,_,E,h2,h3,h4⟩:=OD h;have Y:=eY g;simp only[mj,aS,fJ,cw,fI]at h;have⟨Z,hl,O⟩:=h;have⟨R,hR⟩:=eD (show 0 <= g.rows-s.bF by omega);have⟨C,L⟩:=eD Y.1;rw[hR,L,br,br]at hl;have hl:s.map.length=C*R:=by exact_mod_cast hl
 rw[hR,L,br,br]at O
 refine⟨C,R,Z,L,hR,hl,λb hb j D=>?_⟩
 have T:(b+1)*R <= s.map.length:=by rw[hl];exact iW R hb
 have U:=HR T;have e:=aaV (R:Int) (g.rows-1) (eZ s.map R b) (by rw[U]);rw[U]at e;have E:=cw.2 λj D=>O b hb j (fI.1 D)
 rw[e]at E;exact(aot D T).1 (cw.1 E j (fI.2 D))
def Sp.ok{g:aL}{s:c8}{L R:Nat}(h:Sp g s L R):mj g s=true:=by
 have⟨O,T,hR,hl,U⟩:=h;simp only[mj,aS,fJ,cw,fI];rw[hR,T,br,br]
 refine⟨O,by exact_mod_cast hl,λb hb=>?_⟩
 have C:(b+1)*R <= s.map.length:=by rw[hl];exact iW R hb
 have D:=HR C;have e:=aaV (R:Int) (g.rows-1) _ (by rw[D]);rw[D]at e;have Y:=cw.2 λj E=>(aot (fI.1 E) C).2 (U b hb j (fI.1 E))
 simp_all
def aHz{R b c r j:Nat}(C:r<R)(E:j<R)(h:b*R+r=c*R+j):b=c/\r=j:=by
 have key:∀ {b c r j:Nat},r<R -> b*R+r=c*R+j -> ¬ b<c:=λ{b c r j} C h D=>by
  have:=iW R (show b+1 <= c from D)
  grind
 grind
def Vd{m:aa Int}{p:Nat}(C:p<m.length)(i:Int)(q:Nat):(m.set p i).getD q 0=if q=p then i else m.getD q 0:=by grind
def Sp.set{g:aL}{s:c8}{D R:Nat}(h:Sp g s D R){b r:Nat}(hb:b<D)(O:r<R){i:Int}(Y:(R:Int) <= i)(Z:i <= g.rows-1)(hn:∀ k,k<R -> s.map.getD (b*R+k) 0≠i):Sp g ⟨s.bF,s.map.set (b*R+r) i⟩ D R:=by
 have C:b*R+r<s.map.length:=by
  have:=BH hb (show r+1 <= R from O);rw[h.hl];omega
 refine⟨h.sb,h.hb,h.hR,by rw[eM];exact h.hl,λc hc j T=>?_⟩
 have E:=h.f c hc j T;unfold Vc at E ⊢;dsimp only;by_cases e:c=b
 ·subst e;by_cases ej:j=r
  ·subst ej;refine .inr ?_;rw[Vd C,bJ rfl]
   refine⟨Y,Z,λk L=>?_⟩
   rw[Vd C,bQ]
   grind
  ·grind
 ·have U:∀ k,k<R -> ¬ c*R+k=b*R+r:=λk L he=>e (aHz L O he).1
  rw[Vd C,bQ (U j T)];rcases E with E|⟨o1,o2,o3⟩
  ·grind
  ·refine .inr ⟨o1,o2,λk L=>?_⟩
   rw[Vd C,bQ (U k (by omega))];simp_all
def Sp.qz{g:aL}{s:c8}{C R:Nat}(h:Sp g s C R):cA g=true/\cA (ei g s)=true/\ei g s=⟨g.cg,g.aC,(R:Int),g.aO⟩/\aY (ei g s)=(C:Int)/\C <= 8/\R <= 16/\2 <= R/\1 <= g.aO/\g.rows <= 16/\0 <= s.bF:=by
 have⟨e,D,E,L,O,T,U,Y⟩:=OD h.ok;have Z:=eY g;have gb:=fN D;have:=h.hb;have hR:=h.hR
 grind
def Sp.bound{g:aL}{s:c8}{C R:Nat}(h:Sp g s C R){b r:Nat}(hb:b<C)(D:r<R):0<=s.map.getD (b*R+r) 0/\s.map.getD (b*R+r) 0<g.rows:=by
 have hR:=h.hR;have E:=h.qz.2.2.2.2.2.2.2.2.2;rcases h.f b hb r D with e|⟨L,O,_⟩
 ·omega
 ·omega
def OV(g:aL)(b r:Int):Bn g b r=some (dn g ⟨b,r,0⟩):=by
 unfold Bn;rw[By,ak]
def Sp.ex{g:aL}{s:c8}{C R:Nat}(h:Sp g s C R)(b r:Int):dn (ei g s) ⟨b,r,0⟩=true ↔ (0 <= b/\b<(C:Int))/\0 <= r/\r<(R:Int):=by
 have⟨_,O,e,T,_,_,_,Z,_⟩:=h.qz;have er:(ei g s).rows=R:=by rw[e]
 have U:(ei g s).aO=g.aO:=by rw[e]
 constructor
 ·intro Y;have⟨_,D,E,L,a4,_⟩:=ri Y;simp_all
 ·rintro⟨⟨D,E⟩,L,a4⟩;exact wT O D (by rw[T];exact E) L (by rw[er];exact a4) (Int.le_refl 0) (by rw[U];show (0:Int)<_;omega)
def Sp.lens{g:aL}{s:c8}{D R:Nat}(h:Sp g s D R){b:Nat}(hb:b<D):(b+1)*R <= s.map.length/\s.map.length <= 128/\(eZ s.map R b).length=R/\Nat.ble (b*R) ((b+1)*R)=true/\Nat.ble ((b+1)*R) s.map.length=true:=by
 have hl:=h.hl;have E:=h.qz.2.2.2.2.1;have L:=h.qz.2.2.2.2.2.1;have C:(b+1)*R <= s.map.length:=by rw[hl];exact iW R hb
 have O:=Nat.mul_le_mul E L;exact⟨C,by omega,HR C,jv (by rw[iF];omega),jv C⟩
def aou{g:aL}{s:c8}{C R:Nat}(h:Sp g s C R){b:Nat}(hb:b<C)(x:Int):TZ g s (b:Int) x=some (gD (λe=>e==x) (eZ s.map R b)):=by
 obtain⟨U,Y,Z,D,E⟩:=h.lens hb;obtain⟨hg,qH,eg,eb,L,O,kg,hc,zC,_⟩:=h.qz;have T:((s.map.take ((b+1)*R)).drop (b*R))=eZ s.map R b:=rfl;unfold TZ bE;rw[zD,ak,OV,ak,(h.ex (b:Int) 0).2 ⟨⟨by omega,by omega⟩,by omega,by omega⟩,bg,aq,Ok h.hR O L hb h.hl,ak];dsimp only;rw[D,E,cC,au,T];have e:=sE (step:=NU) (eZ s.map R b) (λe=>e==x) (λi=>((x,eZ s.map R b,((eZ s.map R b).length:Int),(i:Int),()),())) (λi=>.inl (((i:Int),()),())) (.inr (.inl ((),()))) aT (λk hk=>by
  unfold NU ax aU xG xI;dsimp only;rw[aQ,au,aA ⟨by omega,by omega⟩];simp only[br];rw[bA];cases (eZ s.map R b)[k]==x<;>rfl) (by
  unfold NU ax aU xG xI;dsimp only;rw[aR,aq]) (bH)
 rw[cm]at e;rw[e];unfold gD;cases (eZ s.map R b).findIdx? (λe=>e==x)<;>rfl
def aov{g:aL}{s:c8}{D R:Nat}(h:Sp g s D R)(b r:Int):∃ y,zj g s b r=some y/\(dn (ei g s) ⟨b,r,0⟩=true->0<=y/\y<g.rows):=by
 unfold zj xI;rw[zD,ak,OV,ak];cases L:dn (ei g s) ⟨b,r,0⟩with
 |false=>exact⟨-1,rfl,λh=>by cases h⟩
 | true=>
  obtain⟨⟨O,a2⟩,T,a4⟩:=(h.ex b r).1 L;obtain⟨b,rfl⟩:=eD O;obtain⟨r,rfl⟩:=eD T;have hb:b<D:=by omega
  have C:r<R:=by omega
  obtain⟨U,Ve,Y,Z,n2⟩:=h.lens hb;obtain⟨hg,qH,eg,eb,h8,nG,kg,hc,zC,_⟩:=h.qz;have E:((s.map.take ((b+1)*R)).drop (b*R))=eZ s.map R b:=rfl;have OE:(eZ s.map R b)[r]'(by omega)=s.map.getD (b*R+r) 0:=by
   have:=bY (l:=eZ s.map R b) (i:=r) (by omega);rw[Cf C U]at this;injection this with this;exact this.symm
  rw[bg,aq,Ok h.hR nG h8 hb h.hl,ak];dsimp only;rw[Z,n2,cC,au,aA ⟨by omega,by rw[E,Y,br];exact C⟩];simp only[br,E,OE];exact⟨_,rfl,λ_=>h.bound hb C⟩
def aHA{g:aL}{s:c8}{C R:Nat}(h:Sp g s C R)(b r:Int):∃ y t,HF g s b r=some (y,t)/\Sp g y C R/\y.bF=s.bF/\(t=true->dn (ei g s) ⟨b,r,0⟩=true):=by
 obtain⟨hg,qH,T,eb,U,Y,kg,hc,zC,Ft⟩:=h.qz;have hm:s.map.length<=128:=by
  rw[h.hl];exact Nat.mul_le_mul U Y
 have hR:=h.hR;unfold HF xA bE xZ;rw[cD (by simp;omega),au,jX,zD,ak,OV,ak];cases Z:dn (ei g s) ⟨b,r,0⟩with
 |false=>exact⟨s,false,rfl,h,rfl,λh=>by cases h⟩
 | true=>
  obtain⟨⟨a1,a2⟩,a3,a4⟩:=(h.ex b r).1 Z;obtain⟨b,rfl⟩:=eD a1;obtain⟨r,rfl⟩:=eD a3;have hb:b<C:=by omega
  have hr:r<R:=by omega
  obtain⟨L,Ve,kO,n1,n2⟩:=h.lens hb;have hp:b*R+r<s.map.length:=by
   rw[iF]at L;omega
  have OF:W6 ((b:Int)*(R:Int))=((b*R:Nat):Int):=by rw[<-Int.natCast_mul];exact aK
  have Ih:W6 (((b*R:Nat):Int)+(r:Int))=((b*R+r:Nat):Int):=by rw[<-Int.natCast_add];exact aK
  rw[bg,aq,T];dsimp only;obtain⟨n,hn⟩:=eD (show 0<=g.rows-(R:Int) by omega);obtain⟨z,e,hz⟩:=aas (step:=Bv) n (λk x=>x=(((b:Int),(r:Int),(),(),(),(),(),(R:Int)+(k:Int),()),((g.cg,g.aC,g.rows,g.aO,()),(s.bF,s.map,()),((0:Int),(),()),(s.bF,(),()),(g.cg,g.aC,(R:Int),g.aO,()),([]:aa Int),s.map,())))
   (λz=>(∃i:Int,z = .inl (((),true,()),((s.bF,(),()),s.map.set (b*R+r) i,()))/\(R:Int)<=i/\i<=g.rows-1/\∀k,k<R->s.map.getD (b*R+k) 0≠i)\/z = .inr (.inl (((),(),()),(((0:Int),(),()),(s.bF,(),()),([]:aa Int),s.map,())))) aT (x:=(((b:Int),(r:Int),(),(),(),(),(),(R:Int),()),((g.cg,g.aC,g.rows,g.aO,()),(s.bF,s.map,()),((0:Int),(),()),(s.bF,(),()),(g.cg,g.aC,(R:Int),g.aO,()),([]:aa Int),s.map,()))) (by rw[cm,Int.add_zero]) (by
   rintro k hk x rfl;unfold Bv ax aU xG xL;dsimp only;rw[jr,aQ (show (R:Int)+(k:Int)<g.rows by omega),au];rw[show (⟨s.bF,s.map⟩:c8)=s from rfl,aou h hb,ak];by_cases D:gD (λe=>e==(R:Int)+(k:Int)) (eZ s.map R b)<0
   ·rw[aQ D,au,OF,Ih,aA ⟨by omega,by omega⟩,aA]
    refine .inr ⟨_,rfl,.inl ⟨(R:Int)+(k:Int),?_,by omega,by omega,λj hj e=>?_⟩⟩
    ·simp only[br]
    ·have E:=(UK (λe=>e==(R:Int)+(k:Int)) (eZ s.map R b)).1;rw[aQ D]at E;have O:(eZ s.map R b).any (λe=>e==(R:Int)+(k:Int))=false:=by
      cases hq:(eZ s.map R b).any (λe=>e==(R:Int)+(k:Int))with
      |false=>rfl
      |true=>rw[hq]at E;cases E
     rw[oJ]at O;have wh:s.map.getD (b*R+j) 0∈eZ s.map R b:=List.mem_iff_getElem?.2 ⟨j,Cf hj L⟩;exact O _ wh (by rw[e];exact en _)
   ·rw[aR D,aq,aK (n:=(R:Int)+(k:Int)+1)];exact .inl ⟨_,rfl,by rw[Int.natCast_add,Int.natCast_one,Int.add_assoc]⟩) (by
   rintro x rfl;unfold Bv ax aU xG xL;dsimp only;rw[aR (show ¬ (R:Int)+(n:Int)<g.rows by omega),aq];exact⟨_,rfl,.inr rfl⟩) (bH)
  rw[e,ak];rcases hz with ⟨i,rfl,i1,i2,i3⟩|rfl
  ·exact⟨_,true,rfl,h.set hb hr i1 i2 i3,rfl,λ_=>rfl⟩
  ·exact⟨_,false,rfl,h,rfl,λh=>by cases h⟩
def aHB{c:av}(T:cF c)(D:cZ c=true)(b r:Int):∃ t y,HG c b r=some (t,(y,()))/\cF y/\cZ y=true/\(t=false->y=c):=by
 have h:=Ck.of D;obtain⟨bn,R,E⟩:=Sp.of h.sp;obtain⟨U,qH,eg,eb,h8,nG,kg,hc,zC,Ft⟩:=E.qz;obtain⟨f,e1,hf⟩:=aov E b r;obtain⟨y,t,e2,L,um,ht⟩:=aHA E b r;unfold HG bh xL;rw[e1,ak,e2,ak];cases t with
 |false=>exact⟨false,c,rfl,T,D,λ_=>rfl⟩
 | true=>
  have Y:=ht rfl;obtain⟨⟨a1,a2⟩,a3,a4⟩:=(E.ex b r).1 Y;have kO:=(vf h.rk).2.1;have Ew:=E.hb;have hR:=E.hR;obtain⟨f1,f2⟩:=hf Y;have OW:ei c.config.az y=ei c.config.az c.spare:=by
   unfold ei;rw[L.ok,h.sp,um]
  obtain⟨q,e3,O⟩:=aov L b r;have O:=O (by rw[OW];exact Y);rw[bg,aq,aA ⟨a1,by omega⟩,aA];dsimp only;cases c.bq.aC[b.toNat].open_ with
  |true=>exact⟨false,c,rfl,T,D,λ_=>rfl⟩
  | false=>
   rw[aq,e3,ak];obtain⟨n,hn⟩:=eD (show 0<=c.config.az.aO by omega);have gb:=fN U;have Dm:∀(row:Int) (k:Nat),0<=row->row<c.config.az.rows->k<n->dn c.config.az ⟨b,row,(k:Int)⟩=true:=λrow k r1 r2 D=>wT U a1 (by rw[Ew];exact a2) r1 r2 (by dsimp only;omega) (by dsimp only;omega)
   obtain⟨z,e,AA⟩:=alw (step:=wR) n (λk x=>∃ a:cN,dO c.config.az 100000 a/\x=(((),b,(),f,(),q,(k:Int),()),(cx c a,(c.config.az.cg,c.config.az.aC,c.config.az.rows,c.config.az.aO,()),(y.bF,(),()),y.map,())))
    (λz=>∃a:cN,dO c.config.az 100000 a/\z = .inl (((),(),()),(cx c a,(y.bF,(),()),y.map,()))) aT (x:=(((),b,(),f,(),q,(0:Int),()),(c,(c.config.az.cg,c.config.az.aC,c.config.az.rows,c.config.az.aO,()),(y.bF,(),()),y.map,()))) ⟨c.array,dO.mV h.ar,rfl⟩ (by
    rintro k D x ⟨a,C,rfl⟩;have at1:=Dm q k O.1 O.2 D;have at2:=Dm f k f1 f2 D;obtain⟨i1,_⟩:=w7 at1;obtain⟨i2,_⟩:=w7 at2;have l1:=C.lt at1;have l2:=C.lt at2;have hsy:=C.syms _ (cM l2);have st:wR (((),b,(),f,(),q,(k:Int),()),(cx c a,(c.config.az.cg,c.config.az.aC,c.config.az.rows,c.config.az.aO,()),(y.bF,(),()),y.map,()))=some (.inl (((),b,(),f,(),q,((k+1:Nat):Int),()),(cx c ⟨a.cells.set (fO c.config.az ⟨b,q,(k:Int)⟩) a.cells[fO c.config.az ⟨b,f,(k:Int)⟩],a.bD,a.bC⟩,(c.config.az.cg,c.config.az.aC,c.config.az.rows,c.config.az.aO,()),(y.bF,(),()),y.map,()))):=by
     unfold wR ax xG xL xM;dsimp only;rw[jr,aQ (show (k:Int)<c.config.az.aO by omega),au,Bz,ak,Bz,ak,i1,i2];have Z:0<=(fO c.config.az ⟨b,f,(k:Int)⟩:Int)/\(fO c.config.az ⟨b,f,(k:Int)⟩:Int).toNat<(cx c a).array.cells.length:=⟨by omega,by simpa [cx]using l2⟩
     have c2:0<=(fO c.config.az ⟨b,q,(k:Int)⟩:Int)/\(fO c.config.az ⟨b,q,(k:Int)⟩)<(cx c a).array.cells.length:=⟨by omega,by simpa [cx]using l1⟩
     rw[aA Z,aA Z.2,aA Z.2];simp only[br];rw[aaB _ (by simp only[cx];rw[hsy.1];omega),ak,aA c2,aA c2.2,bA];rfl
    exact⟨_,st,_,C.zE _ hsy,rfl⟩) (by
    rintro x ⟨a,C,rfl⟩;unfold wR ax xG xL xM;dsimp only;rw[aR (show ¬ (n:Int)<c.config.az.aO by omega),aq];exact⟨_,rfl,a,C,rfl⟩) (bH)
   rw[e,ak];obtain⟨a,C,rfl⟩:=AA;have p:=fl.of h.pa;obtain⟨z1,z2,z3,z5,z6,z7,z8,z9,fy,gy,gK,gx,gE,ig⟩:=T;have hml:y.map.length<=128:=by
    rw[L.hl];exact Nat.mul_le_mul h8 nG
   refine⟨true,⟨c.config,c.box,c.now,c.bq,c.ready,a,y,c.aV,c.bL,c.guard,c.pending,c.queue,c.shares,c.drain,c.bk,c.cB,c.errors,c.trace,c.cr⟩,rfl,⟨z1,z2,z3,qy C,by show y.map.length<=1048576;omega,z7,z8,z9,fy,gy,gK,gx,gE,ig⟩,Ck.ok ⟨h.f1,h.f2,h.nw,h.rk,h.rd,rE U C,L.ok,um.trans h.se,h.rf,(show fl ⟨c.config,c.box,c.now,c.bq,c.ready,a,y,c.aV,c.bL,c.guard,c.pending,c.queue,c.shares,c.drain,c.bk,c.cB,c.errors,c.trace,c.cr⟩from ⟨p.dl,p.tl,p.gl,p.t,p.g,p.pd,p.u⟩).ok,?_,h.sh,h.sl,h.dr,h.pw,h.ps,h.si,h.s1,h.s2,h.s3,h.er,h.tr,h.rp⟩,λh=>by cases h⟩
   show gX (eI (ei c.config.az y)) c.queue=true;rw[OW];exact h.qu
def aHC:Bt 0=some (List.replicate 11 0):=by kernel_rfl
def Iq:bN:=⟨List.replicate 11 0,false⟩
def Ir(g:aL):cN:=⟨List.replicate (eI g).toNat Iq,List.replicate (gj g).toNat 0,List.replicate (gj g).toNat 0⟩
def aHD{g:aL}(D:cA g=true):T2 g=some (Ir g):=by
 have E:=kX g;have O:=oA g;have er:aY g*g.rows=gj g:=by simp[gj,D]
 obtain⟨n,C⟩:=eD E.1;unfold T2 bh;rw[tG,ak,D,bg,aq,kW,ak,er,aK (n:=gj g),bJ ⟨by omega,by omega,by omega⟩,bJ ⟨by omega,by omega,by omega⟩];generalize L:List.replicate (gj g).toNat (0:Int)=A;have e:=cv (step:=NW) n (λi=>(((),(),(),(i:Int),()),((g.cg,g.aC,g.rows,g.aO,()),((),(),(),()),((),(),(),()),([]:aa bN),([]:aa Int),([]:aa Int),List.replicate i Iq,A,A,())))
  (.inl (((),(),()),(((),(),(),()),((),(),(),()),([]:aa bN),([]:aa Int),([]:aa Int),List.replicate n Iq,A,A,()))) aT (λk h=>by
  unfold NW ax xG;dsimp only;rw[jr,wS,ak,C,aQ,au,aHC,ak,cD (by simp;omega),au,bA,List.replicate_succ' (n:=k)];rfl) (by
  unfold NW ax xG;dsimp only;rw[jr,wS,ak,C,aR,aq]) (bH)
 rw[cm,List.replicate_zero]at e;rw[e,ak];unfold Ir;rw[C,L,br];rfl
def aHE{p:dB}(h:p.weights.length=4):sx p=some p:=by
 unfold sx xA xZ;rw[cD (by simp[h]),au,jX]
def aow{g:aL}{a:cN}(h:kY g a=true)(t:aJ)(D n:Int):∃ y,HD g a t D n=some y/\kY g y=true/\((dn g t&&(aM D 0 10&&aM n 0 15))=false->y=a):=by
 have T:cA g=true:=(Ou h).1;have C:=dO.mV h;by_cases E:(dn g t&&(aM D 0 10&&aM n 0 15))=true
 ·simp only[aS]at E;obtain⟨L,U,Y⟩:=E;have b2:=bB.1 U;have Z:=bB.1 Y;obtain⟨k,rfl⟩:=eD b2.1;have hl:=C.lt L;have O:=C.syms _ (cM hl);have hk:k<a.cells[fO g t].symbols.length:=by rw[O.1];omega
  have hx:=aaA (O.get hk) Z
  refine⟨_,amA C (Int.le_refl _) L hl (by omega) hk Z,rE T (C.zE _ (c:=⟨_,_⟩) (O.set ⟨hx.1,hx.2.1⟩)),λhe=>?_⟩
  rw[L,U,Y]at he;cases he
 ·refine⟨a,?_,h,λ_=>rfl⟩
  unfold HD sy xC xL xM;rw[C.copy,ak,C.ok T (Int.le_refl _),ak,au,By,ak];cases e1:dn g t with
  |false=>rfl
  | true=>
   rw[au,cW,ak];cases e2:aM D 0 10 with
   |false=>rfl
   | true=>
    rw[au,cW,ak,ak];cases e3:aM n 0 15 with
    |false=>rfl
    |true=>exact absurd (by rw[e1,e2,e3];rfl) E
def aHF{r:cO}(h:dV r=true)(x:Bool):∃ y,HE r x=some y/\dV y=true/\y.aI.length=r.aI.length:=by
 have hl:=mq h;have C:=h;simp only[dV,aS,bB]at h;have mk:∀ (w:Int) (b:Bool),1<=w/\w<=10000->dV ⟨r.aI,w,b⟩=true:=λw b D=>by
  simp only[dV,aS,bB];exact⟨h.1,h.2.1,D⟩
 have E:W6 ((W6 (r.wait+1)).tdiv 2)=(r.wait+1) / 2:=by
  rw[aK (n:=r.wait+1),pO (by omega)];exact aK
 have L:W6 (W6 (2*r.wait)-1)=2*r.wait-1:=by
  rw[aK (n:=2*r.wait)];exact aK
 unfold HE uX xA xZ;rw[cD (by simp;omega),au,jX,ak,BG _ (by omega),ak,C,bg,aq];dsimp only;rw[E,L];cases x with
 | true=>
  cases r.dy with
  |false=>exact⟨_,rfl,mk _ _ (by omega),rfl⟩
  |true=>exact⟨_,rfl,mk _ _ h.2.2,rfl⟩
 | false=>
  cases r.dy with
  |false=>exact⟨_,rfl,mk _ _ h.2.2,rfl⟩
  |true=>exact⟨_,rfl,mk _ _ (by split<;>omega),rfl⟩
def aox(b:fL)(C:w8 b)(p:dB)(D:p.weights.length<=1048576):TY b p=some (bif mg p then ⟨b.bK,p,true⟩else b,mg p):=by
 unfold TY;rw[Ow b C,ak,Od _ (by omega),ak];cases mg p with
 |false=>rfl
 | true=>
  unfold sx xA xZ;rw[bg,aq,ij _,au,jX];rfl
def aoy{c:av}(C:cZ c=true)(r:aN):cZ (tO c r).1=true/\((tO c r).2=false -> (tO c r).1=c):=by
 have h:=Ck.of C;have p:=fl.of h.pa;unfold tO;cases hb:((!cZ c) ||((!(mm c r).2) ||(c.cr.any λx=>x.id==r.id)))with
 |true=>simp_all
 | false=>
  refine⟨?_,λh=>by cases h⟩
  rw[aq];simp only[pN,Bool.not_eq_false']at hb;have D:gX (eI (ei c.config.az c.spare)) (mm c r).1=true:=by
   have E:=hb.2.1;unfold mm BY at E ⊢
   grind
  exact Ck.ok ⟨h.f1,h.f2,h.nw,h.rk,h.rd,h.ar,h.sp,h.se,h.rf,(show fl { c with queue:=(mm c r).1 } from ⟨p.dl,p.tl,p.gl,p.t,p.g,p.pd,p.u⟩).ok,D,h.sh,h.sl,h.dr,h.pw,h.ps,h.si,h.s1,h.s2,h.s3,h.er,h.tr,h.rp⟩
def aHG{c:av}(E:cF c)(L:cZ c=true){n:Int}(O:aM n 0 500=true):Kp (HC c n):=by
 have hb:=bB.1 O;obtain⟨m,rfl⟩:=eD hb.1;have T:aM (m:Int) 0 5000=true:=bB.2 ⟨by omega,by omega⟩;unfold HC bh;rw[zG c E,ak];generalize (⟨⟨⟨(0:Int),(0:Int),(0:Int),(0:Int)⟩,⟨(0:Int),(0:Int),(0:Int),(0:Int),(0:Int),(0:Int),(0:Int),(0:Int),(0:Int),(0:Int),(0:Int),(0:Int),(0:Int),(0:Int),(0:Int),(0:Int),(0:Int)⟩,⟨(0:Int),false⟩,(0:Int),(0:Int),(0:Int),⟨(0:Int),(0:Int)⟩⟩,⟨⟨(0:Int),(0:Int),(0:Int),(0:Int),(0:Int),([]:aa Int),⟨(0:Int),(0:Int)⟩⟩,⟨(0:Int),(0:Int),(0:Int),(0:Int),(0:Int),([]:aa Int),⟨(0:Int),(0:Int)⟩⟩,false⟩,(0:Int),⟨([]:aa dG),(0:Int)⟩,⟨([]:aa Int),([]:aa Int)⟩,⟨([]:aa bN),([]:aa Int),([]:aa Int)⟩,⟨(0:Int),([]:aa Int)⟩,⟨([]:aa Int),(0:Int),false⟩,([]:aa bU),([]:aa Int),([]:aa aJ),([]:aa aN),([]:aa bZ),⟨false,(0:Int),(0:Int)⟩,⟨(0:Int),(0:Int),(0:Int)⟩,⟨(0:Int),(0:Int),(0:Int)⟩,([]:aa bV),([]:aa dA),([]:aa cR)⟩:av)=Z;obtain⟨z,e,y,rfl,U,Y⟩:=alw (step:=Bu) m (λk x=>∃ y:av,x=(((m:Int),(),(),(k:Int),()),(Z,y,()))/\cF y/\cZ y=true) (λz=>∃ y:av,z = .inl (((),(),()),(Z,y,()))/\cF y/\cZ y=true) aT (x:=(((m:Int),(),(),(0:Int),()),(Z,c,()))) ⟨c,rfl,E,L⟩ (by
  rintro k L x ⟨y,rfl,C,D⟩;obtain⟨y',e',y1',y2'⟩:=aHy C D;unfold Bu ax xG;dsimp only;rw[aQ (show (k:Int)<(m:Int) by omega),au,cW,ak,T,au,e',ak,bA];exact⟨_,rfl,y',rfl,y1',y2'⟩) (by
  rintro x ⟨y,rfl,C,D⟩;unfold Bu ax xG;dsimp only;rw[aR (show ¬ (m:Int)<(m:Int) by omega),aq];exact⟨_,rfl,y,rfl,C,D⟩) (bH)
 rw[e,ak];exact⟨y,rfl,U,Y⟩
def aHH{c:av}(hz:cF c)(D:cZ c=true)(a:cV)(hw:a.bW.weights.length<=1048576):∃ y t,zo c a=some (y,t)/\cF y/\cZ y=true/\(t=false->y=c):=by
 have h:=Ck.of D;have p:=fl.of h.pa;have C:=hz;obtain⟨O,T,U,z5,Y,Z,z8,z9,fy,gy,gK,gx,gE,ig⟩:=hz;have no:∀t:Bool,t=false->∃y t',some (c,t)=some (y,t')/\cF y/\cZ y=true/\(t'=false->y=c):=λt ht=>⟨c,t,rfl,C,D,λ_=>rfl⟩
 unfold zo;rw[zG c C,ak,zF c C,ak,D,bg,aq];cases a.kind==(1:Int)with
 | true=>
  obtain⟨q1,q2⟩:=aoy D a.request;rw[au,amZ c a.request C,ak];exact⟨_,_,rfl,am0 c a.request C,q1,q2⟩
 |false=>
 rw[aq];cases a.kind==(2:Int)with
 | true=>
  rw[au,cW,ak];cases hn:aM a.n 0 500 with
  |false=>exact no _ rfl
  | true=>
   obtain⟨y,e,E,L⟩:=aHG C D hn;rw[au,e,ak];exact⟨y,true,rfl,E,L,λh=>by cases h⟩
 |false=>
 rw[aq];cases a.kind==(3:Int)with
 | true=>
  obtain⟨x,e,hx,EX⟩:=aow h.ar a.addr a.gB a.n;have hzx:cF (cx c x):=⟨O,T,U,qy (dO.mV hx),Y,Z,z8,z9,fy,gy,gK,gx,gE,ig⟩
  have hkx:cZ (cx c x)=true:=Ck.ok ⟨h.f1,h.f2,h.nw,h.rk,h.rd,hx,h.sp,h.se,h.rf,(show fl (cx c x)from ⟨p.dl,p.tl,p.gl,p.t,p.g,p.pd,p.u⟩).ok,h.qu,h.sh,h.sl,h.dr,h.pw,h.ps,h.si,h.s1,h.s2,h.s3,h.er,h.tr,h.rp⟩;rw[au,By,ak];cases e1:dn c.config.az a.addr with
  | false=>
   rw[aq,e,ak]
   refine⟨cx c x,false,rfl,hzx,hkx,λ_=>?_⟩
   rw[EX (by rw[e1];rfl)];rfl
  | true=>
   rw[au,cW,ak];cases e2:aM a.gB 0 10 with
   | false=>
    rw[aq,e,ak]
    refine⟨cx c x,false,rfl,hzx,hkx,λ_=>?_⟩
    rw[EX (by rw[e1,e2];rfl)];rfl
   | true=>
    unfold sy;rw[au,cW,ak,ak,e,ak]
    refine⟨cx c x,aM a.n 0 15,rfl,hzx,hkx,λh3=>?_⟩
    rw[EX (by rw[e1,e2,h3];rfl)];rfl
 |false=>
 rw[aq];cases a.kind==(4:Int)with
 | true=>
  rw[au,cW,ak];cases hn:aM a.n 0 1 with
  |false=>exact no _ rfl
  | true=>
   obtain⟨y,e,E,L⟩:=aHF h.rf (a.n==(1:Int));rw[au,e,ak]
   refine⟨pI c y,true,rfl,⟨O,T,U,z5,Y,by unfold xb at Z ⊢;show y.aI.length<=_;omega,z8,z9,fy,gy,gK,gx,gE,ig⟩,Ck.ok ⟨h.f1,h.f2,h.nw,h.rk,h.rd,h.ar,h.sp,h.se,E,(show fl (pI c y)from ⟨by show (y.aI.length:Int)=_;rw[L];exact p.dl,p.tl,p.gl,p.t,p.g,p.pd,p.u⟩).ok,h.qu,h.sh,h.sl,h.dr,h.pw,h.ps,h.si,h.s1,h.s2,h.s3,h.er,h.tr,h.rp⟩,λh=>by cases h⟩
 |false=>
 rw[aq];cases a.kind==(5:Int)with
 | true=>
  rw[au,BX _ _ (by omega),ak];cases hf:jU c.config a.bW with
  |false=>exact no _ rfl
  | true=>
   have hp:=(xk (by omega) hf).2;rw[au,aox c.box O a.bW hw,ak,hp,au]
   refine⟨⟨c.config,⟨c.box.bK,a.bW,true⟩,c.now,c.bq,c.ready,c.array,c.spare,c.aV,c.bL,c.guard,c.pending,c.queue,c.shares,c.drain,c.bk,c.cB,c.errors,c.trace,c.cr⟩,true,rfl,⟨⟨O.1,hw⟩,T,U,z5,Y,Z,z8,z9,fy,gy,gK,gx,gE,ig⟩,Ck.ok ⟨h.f1,hf,h.nw,h.rk,h.rd,h.ar,h.sp,h.se,h.rf,(show fl ⟨c.config,⟨c.box.bK,a.bW,true⟩,c.now,c.bq,c.ready,c.array,c.spare,c.aV,c.bL,c.guard,c.pending,c.queue,c.shares,c.drain,c.bk,c.cB,c.errors,c.trace,c.cr⟩from ⟨p.dl,p.tl,p.gl,p.t,p.g,p.pd,p.u⟩).ok,h.qu,h.sh,h.sl,h.dr,h.pw,h.ps,h.si,h.s1,h.s2,h.s3,h.er,h.tr,h.rp⟩,λh=>by cases h⟩
 |false=>
 rw[aq];cases a.kind==(6:Int)with
 | true=>
  obtain⟨t,y,e,E,L,y3⟩:=aHB C D a.addr.ay a.addr.row;rw[au,e,ak];exact⟨y,t,rfl,E,L,y3⟩
 |false=>exact no _ rfl
def lF(c:av)(a:cV):av×Bool:=(zo c a).getD (c,false)
def kC(s:av×Int)(a:cV):av×Int:=((lF s.1 a).1,bif (lF s.1 a).2 then s.2+1 else s.2)
def Cg(s:av×Int)(n:Nat):Prop:=cF s.1/\cZ s.1=true/\0<=s.2/\s.2<=(n:Int)
def aHI{c:av}(C:cF c)(D:cZ c=true){a:cV}(E:a.bW.weights.length<=1048576):zo c a=some (lF c a)/\cF (lF c a).1/\cZ (lF c a).1=true/\((lF c a).2=false->(lF c a).1=c):=by
 obtain⟨y,t,e,L,O,T⟩:=aHH C D a E;have:lF c a=(y,t):=by unfold lF;rw[e];rfl
 rw[this];exact⟨e,L,O,T⟩
def Cg.step{s:av×Int}{n:Nat}(h:Cg s n){a:cV}(C:a.bW.weights.length<=1048576):Cg (kC s a) (n+1):=by
 obtain⟨D,E,T,U⟩:=h;obtain⟨_,L,O,_⟩:=aHI D E C;unfold kC;refine⟨L,O,?_⟩;cases (lF s.1 a).2 with
 |true=>dsimp only;rw[au];omega
 |false=>dsimp only;rw[aq];omega
abbrev OX:=ah (af×(av×af))
def pL(j:av)(b:fL)(s:aa bZ)(d:gV)(p:fk)(u:jY):av:=⟨j.config,b,j.now,j.bq,j.ready,j.array,j.spare,j.aV,j.bL,j.guard,j.pending,j.queue,s,d,p,u,j.errors,j.trace,j.cr⟩
def Vf(x:av):OX:=(A6 x).bind λC=>(let D:Bool -> OX:=λE=>bif E then (Ba x C.1 C.2).bind λL=>some ((),(L.2.1,()))else some ((),(x,()));bif (C.1.kind != (0:Int))then (A7 x C.1 C.2).bind λO=>(D O)else (D false))
def Vg(x:av)(n:Int):OX:=bif (decide (n >= (0:Int)))then (DU x n).bind λC=>(DI C.2.1 n C.1.2).bind λD=>Vf D.2.1 else Vf x
def Vh(j:av):OX:=(Lt j.queue true).bind λT=>(Lr j.drain T).bind λD=>(DC (pL j j.box j.shares D j.bk j.cB)).bind λU=>(Lu j.bk U).bind λE=>(Ly j.box ((j.queue.length:Int)==(0:Int))).bind λC=>bif C.2 then (AY C.1.bK.weights).bind λY=>(wK j.config.az).bind λZ=>(DD j.cB Z).bind λL=>Vg (pL j C.1 Y.1 ⟨false,C.1.bK.low,C.1.bK.high⟩ E L.1) L.2 else (wK j.config.az).bind λqm=>(DD j.cB qm).bind λO=>Vg (pL j C.1 j.shares D E O.1) O.2
def vO(c:av)(n:Int):av:=⟨c.config,c.box,n,c.bq,c.ready,c.array,c.spare,c.aV,c.bL,c.guard,c.pending,c.queue,c.shares,c.drain,c.bk,c.cB,c.errors,c.trace,c.cr⟩
def ach{g:aL}{s:c8}{D R:Nat}(h:Sp g s D R)(b r:Int):MC g s b r=some (bif dn (ei g s) ⟨b,r,0⟩then b*(R:Int)+r else -1):=by
 obtain⟨Z,qH,eg,eb,h8,nG,kg,hc,zC,Ft⟩:=h.qz;have hR:W6 (g.rows-s.bF)=(R:Int):=by rw[h.hR];exact aK
 unfold MC;rw[aCT,ak,h.ok,bg,aq,q9,ak,h.hb,hR,aK (n:=(D:Int)-1),aK (n:=(R:Int)-1),eS,ak];by_cases E:0<=b/\b<(D:Int)
 ·rw[bB.2 ⟨E.1,by omega⟩,bg,aq,eS,ak];by_cases O:0<=r/\r<(R:Int)
  ·have L:=(h.ex b r).2 ⟨E,O⟩;obtain⟨b,rfl⟩:=eD E.1;have U:=(h.lens (b:=b) (by omega)).1;have Ve:=(h.lens (b:=b) (by omega)).2.1;rw[iF]at U;have Y:W6 ((b:Int)*(R:Int))=((b*R:Nat):Int):=by rw[<-Int.natCast_mul];exact aK
   rw[bB.2 ⟨O.1,by omega⟩,bg,aq,L,au,Y,aK,Int.natCast_mul]
  ·have L:dn (ei g s) ⟨b,r,0⟩=false:=by
    cases C:dn (ei g s) ⟨b,r,0⟩with
    |false=>rfl
    |true=>exact absurd ((h.ex b r).1 C).2 O
   have T:aM r 0 ((R:Int)-1)=false:=by
    cases C:aM r 0 ((R:Int)-1)with
    |false=>rfl
    |true=>have:=bB.1 C;exact absurd ⟨this.1,by omega⟩ O
   rw[T,L];rfl
 ·have L:dn (ei g s) ⟨b,r,0⟩=false:=by
   cases C:dn (ei g s) ⟨b,r,0⟩with
   |false=>rfl
   |true=>exact absurd ((h.ex b r).1 C).1 E
  have T:aM b 0 ((D:Int)-1)=false:=by
   cases C:aM b 0 ((D:Int)-1)with
   |false=>rfl
   |true=>have:=bB.1 C;exact absurd ⟨this.1,by omega⟩ E
  rw[T,L];rfl
def aoz{g:aL}{s:c8}{C R:Nat}(h:Sp g s C R){b r:Nat}(hb:b<C)(L:r<R):yX g s (b:Int) (r:Int)=some (s.map.getD (b*R+r) 0):=by
 have D:=(h.lens hb).1;rw[iF]at D;have E:=(h.ex (b:Int) r).2 ⟨⟨by omega,by omega⟩,by omega,by omega⟩;have e:b*R+r=((b*R+r:Nat):Int):=by rw[Int.natCast_add,Int.natCast_mul]
 unfold yX xI;rw[ach h,ak,E,au,e,aR,aq,aA ⟨by omega,by rw[br];omega⟩]
 grind
def aoA{g:aL}{s:c8}{C R:Nat}(h:Sp g s C R){b r:Int}(D:dn (ei g s) ⟨b,r,0⟩=false):yX g s b r=some (-1):=by
 unfold yX xI;rw[ach h,ak,D];rfl
def aHJ{g:aL}(D:cA g=true):RI g=some (Ir g):=by
 have E:=kX g;have L:=oA g;have er:aY g*g.rows=gj g:=by simp[gj,D]
 have⟨n,C⟩:=eD E.1;unfold RI bh;have e:=cv (step:=Lp) n (λi=>(((),(),(),(i:Int),()),((g.cg,g.aC,g.rows,g.aO,()),((),(),(),()),((),(),(),()),([]:aa bN),([]:aa Int),([]:aa Int),List.replicate i Iq,([]:aa Int),([]:aa Int),()))) _ aT (λk h=>by
  unfold Lp ax xG;dsimp only;rw[jr,HK,ak,C,aQ,au,cD (by simp;omega),au,bA,List.replicate_succ' (n:=k)];rfl) (by
  unfold Lp ax xG;dsimp only;rw[jr,HK,ak,C,aR,aq]) (bH)
 rw[cm,List.replicate_zero]at e
 refine(bf (λo=>Option.bind o _) e).trans ?_
 rw[ak];simp only[eC];rw[jr,q9,ak,er,aK (n:=gj g),aR,aq,HJ,ak,D,bg,aq,bJ ⟨by omega,by omega,by omega⟩,bJ ⟨by omega,by omega,by omega⟩];unfold Ir;rw[C,br]
def aHK(b:fL)(C:w8 b)(p:dB)(D:p.weights.length <= 1048576):SJ b p=some (bif mg p then ⟨b.bK,p,true⟩else b,mg p):=by
 unfold SJ;rw[abf b C,ak,aaM _ (by omega),ak];cases mg p with
 |false=>rfl
 | true=>
  unfold wJ xA xZ;rw[bg,ij _,au];rfl
def aHL{c:av}(C:cZ c=true)(r:aN):(EJ c r).2=(tO c r).1:=by
 unfold EJ tO
 grind
def ju(c:av):av:=(zn c).getD c
def zU(c:av):Nat->av
 |0=>c
 |n+1=>ju (zU c n)
def nR{α β:Type}{a:aa α}{i:Nat}{z:α}{y:i<(a.set i z).length->α}{K:aa α->ah β}(h:i<(a.set i z).length):(if D:0 <= (i:Int)/\i<(a.set i z).length then if C:i<(a.set i z).length then fq (a.set i (y C)) K else none else none)=K (a.set i (y h)):=by
 rw[aA ⟨by omega,h⟩,aA h];rfl
def EY(x:cV)(k:Int):cV×Int:=(⟨k,⟨k+1,k+1+1,k+1+1+1,((k+1+1+1+1).tmod 3==0),k+1+1+1+1+1,k+1+1+1+1+1+1⟩,k+1+1+1+1+1+1+1,k+1+1+1+1+1+1+1+1,⟨k+1+1+1+1+1+1+1+1+1,k+1+1+1+1+1+1+1+1+1+1,k+1+1+1+1+1+1+1+1+1+1+1⟩,⟨k+1+1+1+1+1+1+1+1+1+1+1+1,k+1+1+1+1+1+1+1+1+1+1+1+1+1,k+1+1+1+1+1+1+1+1+1+1+1+1+1+1,k+1+1+1+1+1+1+1+1+1+1+1+1+1+1+1,k+1+1+1+1+1+1+1+1+1+1+1+1+1+1+1+1,(cc fH x.bW.weights (k+1+1+1+1+1+1+1+1+1+1+1+1+1+1+1+1+1)).1,⟨(cc fH x.bW.weights (k+1+1+1+1+1+1+1+1+1+1+1+1+1+1+1+1+1)).2,(cc fH x.bW.weights (k+1+1+1+1+1+1+1+1+1+1+1+1+1+1+1+1+1)).2+1⟩⟩⟩,(cc fH x.bW.weights (k+1+1+1+1+1+1+1+1+1+1+1+1+1+1+1+1+1)).2+1+1)
def aoB(x:cV)(h:x.bW.weights.length<=1048576)(k:Int):k<=(EY x k).2/\(EY x k).2<=k+(2097153:Nat):=by
 have:=vu x.bW.weights h (k+1+1+1+1+1+1+1+1+1+1+1+1+1+1+1+1+1);unfold EY;dsimp only;omega
def aHM(l:aa cV)(hl:l.length<=1048576)(E:∀ y∈l,y.bW.weights.length<=1048576)(k:Int)(L:0<=k)(O:k<=1152921504606846976):T7 l k=some ((cc EY l k).2,((cc EY l k).1,())):=by
 unfold T7 bh;rw[vj EY 2097153 1152921504606846976 NZ l hl (by omega) (λx D=>aoB x (E x D)) (λa i k h hi D L O=>by
  have T:0<=(i:Int):=by omega
  have hb:=vu a[i].bW.weights (E _ D) (k+1+1+1+1+1+1+1+1+1+1+1+1+1+1+1+1+1);unfold NZ ax xG xL xM;dsimp only;rw[aQ,au,aA ⟨by omega,h⟩,aA (show (i:Int).toNat<a.length from h)];rw[aK (n:=k+1),aK (n:=k+1+1),aK (n:=k+1+1+1),aK (n:=k+1+1+1+1),aK (n:=k+1+1+1+1+1),aK (n:=k+1+1+1+1+1+1),aK (n:=k+1+1+1+1+1+1+1),aK (n:=k+1+1+1+1+1+1+1+1),aK (n:=k+1+1+1+1+1+1+1+1+1),aK (n:=k+1+1+1+1+1+1+1+1+1+1),aK (n:=k+1+1+1+1+1+1+1+1+1+1+1),aK (n:=k+1+1+1+1+1+1+1+1+1+1+1+1),aK (n:=k+1+1+1+1+1+1+1+1+1+1+1+1+1),aK (n:=k+1+1+1+1+1+1+1+1+1+1+1+1+1+1),aK (n:=k+1+1+1+1+1+1+1+1+1+1+1+1+1+1+1),aK (n:=k+1+1+1+1+1+1+1+1+1+1+1+1+1+1+1+1),aK (n:=k+1+1+1+1+1+1+1+1+1+1+1+1+1+1+1+1+1),bA];simp only[br,gU,gA];rw[nR (by rw[eM];exact h)];simp only[gU,gA];rw[nR (by rw[eM];exact h)];simp only[gU,gA];rw[nR (by rw[eM];exact h)];simp only[gU,gA];rw[nR (by rw[eM];exact h)];simp only[gU,gA];rw[nR (by rw[eM];exact h)];simp only[gU,gA];rw[nR (by rw[eM];exact h)];simp only[gU,gA];rw[nR (by rw[eM];exact h)];simp only[gU,gA];rw[nR (by rw[eM];exact h)];simp only[gU,gA];rw[nR (by rw[eM];exact h)];simp only[gU,gA];rw[nR (by rw[eM];exact h)];simp only[gU,gA];rw[nR (by rw[eM];exact h)];simp only[gU,gA];rw[nR (by rw[eM];exact h)];simp only[gU,gA];rw[nR (by rw[eM];exact h)];simp only[gU,gA];rw[nR (by rw[eM];exact h)];simp only[gU,gA];rw[nR (by rw[eM];exact h)];simp only[gU,gA];rw[nR (by rw[eM];exact h)];simp only[gU,gA];have C:∀z,i<(a.set i z).length:=λz=>by rw[eM];exact h
  rw[aA ⟨by omega,C _⟩,aA (C _),aA (C _),Ox _ (E _ D) _ (by omega) (by omega),ak];simp only[gU,gA];rw[nR (C _)];simp only[gU,gA];rw[aK (n:=(cc fH a[i].bW.weights (k+1+1+1+1+1+1+1+1+1+1+1+1+1+1+1+1+1)).2+1),aK (n:=(cc fH a[i].bW.weights (k+1+1+1+1+1+1+1+1+1+1+1+1+1+1+1+1+1)).2+1+1),nR (C _)];rfl) (λa k=>by
  unfold NZ ax xG xL xM;dsimp only;rw[aR,aq]) k L O]
 rfl
def aHN(x:aa cV)(hl:x.length<=1048576)(C:∀ y∈x,y.bW.weights.length<=1048576):T5 x x=some true:=by
 have D:=vg NY x (λy E=>aDu y (C y E)) (by omega);unfold T5 bE;rw[show ((x.length:Int) != (x.length:Int))=false by simp,aq]
 refine(bf (λo=>Option.bind o _) D).trans ?_
 rfl
def Ch(r:cO)(n:Int):cO:=if 0<r.wait-1 then ⟨r.aI,r.wait-1,r.dy⟩else ⟨r.aI.map mW,bif r.dy then n / 2 else n,r.dy⟩
def aHO{t:dw}(h:js t=true):2<=Ex t:=by
 have q:=aaH t;unfold za at q;rw[N9,ak,h,bg,aq]at q;simp only[js,aS,cw]at h;have k:∀ x∈pn t,0<=x/\x<=1000:=λx C=>by
  have:=h.1 x C;simp only[zx,bB]at this;omega
 simp only[pn,List.forall_mem_cons]at k;injection q with q;rw[<-q];simp (disch:=omega) only [aK];omega
def aoC{c:eT}{p:dB}(hl:p.weights.length<1073741823)(h:jU c p=true):2<=c.interval/\c.interval<=10000:=by
 have q:=(xk hl h).1;have t:=aHO (Uj q).2.1;simp only[pq,aS,bB]at q;omega
def aHP{r:cO}(h:dV r=true){n:Int}(E:2<=n/\n<=10000):dV (Ch r n)=true/\(Ch r n).aI.length=r.aI.length:=by
 have hl:=mq h;have C:=EO h;simp only[dV,aS,bB]at h;unfold Ch;split
 ·refine⟨?_,rfl⟩;simp only[dV,aS,bB];exact⟨h.1,by omega⟩
 ·refine⟨?_,eK _⟩;simp only[dV,aS,cw,zz,bB,eK,List.mem_map,forall_exists_index,and_imp,forall_apply_eq_imp_iff₂]
  refine⟨λd D=>?_,by omega,?_⟩
  ·have:=C d D;unfold mW;rw[aK (n:=d+1)];split<;>omega
  ·cases r.dy<;>simp<;>omega
def aHQ{r:cO}(h:dV r=true){n:Int}(D:2<=n/\n<=10000):Ea r n=some (Ch r n):=by
 have hl:=mq h;have L:=EO h;have O:1<=r.wait/\r.wait<=10000:=by
  simp only[dV,aS,bB]at h;exact h.2.2
 have E:W6 (n.tdiv 2)=n / 2:=by rw[pO (by omega)];exact aK
 unfold Ea uX Ch bh xA xZ;rw[cD (by simp;omega),au,jX,ak,BG _ (by omega),ak,h,bg,aq,cW,ak,bB.2 D,bg,aq];dsimp only;rw[aK (n:=r.wait-1)];by_cases C:r.wait-1 > 0
 ·rw[aQ C,au,bJ C]
 ·rw[aR C,aq,bQ C];have e:=cv (step:=Bi) r.aI.length (λi=>((n,(),(),(),(r.aI.length:Int),(i:Int),()),((r.aI,r.wait,r.dy,()),((),(0:Int),false,()),((),r.wait-1,r.dy,()),([]:aa Int),upto mW r.aI i,()))) (.inl ((n,(),(),(),()),((r.aI,r.wait,r.dy,()),((),(0:Int),false,()),((),r.wait-1,r.dy,()),([]:aa Int),r.aI.map mW,()))) aT (λi hi=>by
   have hlen:=zp mW r.aI i;unfold Bi ax xG xL;dsimp only;rw[aQ,au,aA ⟨by omega,by omega⟩,aA,aA ⟨by omega,by omega⟩,aA,bA];simp only[br];rw[Er mW r.aI i hi,<-Es mW r.aI i hi];rfl) (by
   unfold Bi ax xG xL;dsimp only;rw[aR,aq,Ep]) (bH)
  rw[cm,N0]at e
  refine(bf (λo=>Option.bind o _) e).trans ?_
  rw[ak];simp only[eC];rw[E];cases r.dy<;>rfl
def aHR{c:av}(h:dV c.aV=true){n:Int}(L:2<=n/\n<=10000):Mq c n=some ((),(pI c (Ch c.aV n),())):=by
 have hl:=mq h;have O:=EO h;have T:1<=c.aV.wait/\c.aV.wait<=10000:=by
  simp only[dV,aS,bB]at h;exact h.2.2
 have D:W6 (c.aV.wait-1)=c.aV.wait-1:=aK;have E:W6 (n.tdiv 2)=n / 2:=by rw[pO (by omega)];exact aK
 unfold Mq Ch bh;by_cases C:c.aV.wait-1 > 0
 ·rw[D,aQ C,au,bJ C];rfl
 ·rw[bQ C];have e:=cv (step:=Mp) c.aV.aI.length (λi=>(((),n,(i:Int),()),(pI c ⟨upto mW c.aV.aI i,c.aV.wait-1,c.aV.dy⟩,()))) (.inl (((),n,()),(pI c ⟨c.aV.aI.map mW,c.aV.wait-1,c.aV.dy⟩,()))) aT (λi hi=>by
   have hlen:=zp mW c.aV.aI i;unfold Mp pI ax xG xL;dsimp only;rw[aQ,au,aA ⟨by omega,by omega⟩,aA,aA ⟨by omega,by omega⟩,aA,bA];simp only[br];rw[Er mW c.aV.aI i hi,<-Es mW c.aV.aI i hi];rfl) (by
   unfold Mp pI ax xG xL;dsimp only;rw[Ep,aR (by rw[eK];omega),aq]) (bH)
  rw[cm,N0]at e;rw[D,aR C,aq]
  refine(bf (λo=>Option.bind o _) e).trans ?_
  rw[ak];simp only[eC,pI];rw[E];cases c.aV.dy<;>rfl
def aci(a:cN):cN:=⟨a.cells,a.bD.map (nJ 1),a.bC⟩
def aHS{g:aL}{a:cN}(h:kY g a=true):kY g (aci a)=true:=by
 have C:=dO.mV h
 refine rE (Ou h).1 ⟨C.cells,C.syms,(bf (λn:Nat=>(n:Int)) (eK _)).trans C.bD,C.bC,λx D=>?_,C.jg⟩
 obtain⟨y,E,rfl⟩:=List.mem_map.1 D;exact aaD (C.BB y E) (by decide)
def aHT{g:aL}{a:cN}(h:kY g a=true):Eb g a 1=some (aci a):=amE (Ou h).1 (dO.mV h) (by decide) (by decide) (by decide)
def aHU{c:av}(h:kY c.config.az c.array=true):Ms c 1=some ((),(cx c (aci c.array),())):=by
 have D:cA c.config.az=true:=(Ou h).1;have C:=dO.mV h;have hb:=oA c.config.az;have hl:=C.bD;have e:=cv (step:=Mr) c.array.bD.length (λi=>(((),(1:Int),(i:Int),()),(cx c ⟨c.array.cells,upto (nJ 1) c.array.bD i,c.array.bC⟩,()))) (.inl ((),(cx c ⟨c.array.cells,c.array.bD.map (nJ 1),c.array.bC⟩,()))) aT (λi hi=>by
  have hlen:=zp (nJ 1) c.array.bD i;have E:=C.BB _ (cM hi);unfold Mr cx ax xG xL;dsimp only;rw[aQ,au,aA ⟨by omega,by omega⟩,aA,aA ⟨by omega,by omega⟩,aA,bA];simp only[br];rw[Er (nJ 1) c.array.bD i hi,aK (n:=c.array.bD[i]+1),<-Es (nJ 1) c.array.bD i hi];rfl) (by
  unfold Mr cx ax xG xL;dsimp only;rw[Ep,aR (by rw[eK];omega),aq]) (bH)
 rw[cm,N0]at e;unfold Ms bh;exact(bf (λo=>Option.bind o _) e).trans rfl
def aHV(q:aa aN)(w:Bool)(hl:q.length<1073741824):∃ n,zg q w=some n/\Lt q w=some n:=by
 unfold zg Lt bh;have e:=cv (step:=Bj) q.length (λi=>((w,(((q.take i).countP λr=>r.write==w:Nat):Int),q,(q.length:Int),(i:Int),()),())) (.inl (((((q.take q.length).countP λr=>r.write==w:Nat):Int),()),())) aT (λk C=>by
  have D:=List.countP_le_length (p:=λr:aN=>r.write==w) (l:=q.take k);rw[fY]at D;unfold Bj ax xG xI;dsimp only;rw[aQ,au,aA ⟨by omega,by omega⟩,bA];simp only[br];rw[oB C,List.countP_append,List.countP_singleton];cases q[k].write==w with
  |true=>rw[au,bA];rfl
  |false=>rw[aq,bA];rfl) (by
  unfold Bj ax xG xI;dsimp only;rw[aR,aq]) (bH)
 have E:=cv (step:=Ls) q.length (λi=>((q,w,(((q.take i).countP λr=>r.write==w:Nat):Int),(i:Int),()),())) (.inl (((((q.take q.length).countP λr=>r.write==w:Nat):Int),()),())) aT (λk C=>by
  have D:=List.countP_le_length (p:=λr:aN=>r.write==w) (l:=q.take k);rw[fY]at D;unfold Ls ax xG xI;dsimp only;rw[aQ,au,aA ⟨by omega,by omega⟩,bA];simp only[br];rw[oB C,List.countP_append,List.countP_singleton];cases q[k].write==w with
  |true=>rw[au,bA];rfl
  |false=>rw[aq,bA];rfl) (by
  unfold Ls ax xG xI;dsimp only;rw[aR,aq]) (bH)
 rw[cm]at e E;exact⟨_,(bf (λo=>Option.bind o _) e).trans rfl,(bf (λo=>Option.bind o _) E).trans rfl⟩
def aHW{d:gV}(h:me d=true)(n:Int):∃ y,zf d n=some y/\Lr d n=some y/\me y=true:=by
 have hb:=h;simp only[me,aS,iN]at hb;unfold zf Lr;rw[Oc,aaL,ak,ak,h,bg,aq,aq];by_cases C:n >= d.high
 ·rw[aQ C,aR (show ¬ n<=d.low by omega)];exact⟨_,rfl,rfl,h⟩
 ·rw[aR C];cases decide (n<=d.low)<;>exact⟨_,rfl,rfl,h⟩
def aHX{p:fk}(h:jh p=true)(w:Bool):∃ y,zh p w=some y/\Lu p w=some y/\jh y=true/\y.state=p.state/\y.since=p.since:=by
 unfold zh Lu;rw[Og,aaS,ak,h,bg,aq];simp only[jh,aS,bB]at h;cases w with
 |true=>exact⟨_,rfl,rfl,by simp only[jh,aS,bB];omega,rfl,rfl⟩
 | false=>
  refine⟨_,rfl,rfl,?_,rfl,rfl⟩;rw[aK (n:=p.idle+1)];simp only[jh,aS,bB];split<;>omega
def aHY(b:fL)(h:w8 b)(x:Bool):∃ t,Bk b x=some (bif t then ⟨b.next,b.next,false⟩else b,t)/\Ly b x=some (bif t then ⟨b.next,b.next,false⟩else b,t):=by
 have C:b.next.weights.length<=1048576:=h.2
 refine⟨x&&b.waits,?_⟩;unfold Bk Ly sx wJ xA xZ;rw[Ow b h,abf b h,ak,ij _];cases x<;>cases b.waits<;>exact⟨rfl,rfl⟩
def aHZ{c:eT}{p:dB}(hl:p.weights.length<1073741823)(h:jU c p=true):∃ l t,uY p.weights=some (l,t)/\AY p.weights=some (l,t)/\iL l=true/\(l.length:Int)=4/\me ⟨false,p.low,p.high⟩=true:=by
 obtain⟨_,f2⟩:=xk hl h;simp only[mg,aS,fJ]at f2;obtain⟨L,O,T,D,E,C,U⟩:=f2;rw[Uk _ hl,aaK _ hl];unfold wY;rw[C];exact⟨_,_,rfl,rfl,C,by rw[eK];exact E,D⟩
def aH0{s:jY}{n:Int}(C:aM s.every 1 100000=true)(E:aM s.wait 1 s.every=true)(D:aM s.next 0 (W6 (n-1))=true)(Z:1<=n/\n<=1000000):∃ y m,sA s n=some (y,m)/\DD s n=some (y,m)/\aM y.every 1 100000=true/\aM y.wait 1 y.every=true/\aM y.next 0 (W6 (n-1))=true/\m<n:=by
 have T:=bB.1 C;have b2:=bB.1 E;have L:W6 (n-1)=n-1:=aK;have U:=bB.1 D;rw[L]at U;unfold sA DD;rw[cW,eS,ak,ak,C,bg,aq,aq,cW,eS,ak,ak,E,bg,aq,aq,aR (show ¬ n<1 by omega),aq,aq,cW,ak,D,bg,aq,aR (show ¬ s.next<0 by omega),aq,aR (show ¬ s.next >= n by omega),aq,aK (n:=s.wait-1)];by_cases O:s.wait-1 > 0
 ·rw[aQ O,au];exact⟨_,_,rfl,rfl,C,bB.2 ⟨by dsimp only;omega,by dsimp only;omega⟩,D,by omega⟩
 ·rw[aR O,aq,bQ,aK (n:=s.next+1)];refine⟨_,_,rfl,rfl,C,bB.2 ⟨T.1,Int.le_refl _⟩,?_,by omega⟩;rw[L,rH (by omega)];have Y:=Int.emod_nonneg (s.next+1) (show n≠0 by omega);have e2:=Int.emod_lt_of_pos (s.next+1) (show 0<n by omega);exact bB.2 ⟨Y,by dsimp only;omega⟩
def Jn(o:ah av)(q:OX):Prop:=∃y,o=some y/\q=some ((),(y,()))/\cF y/\cZ y=true
def Vi(j:av):ah av:=(zg j.queue true).bind λT=>(zf j.drain T).bind λL=>(wO (pL j j.box j.shares L j.bk j.cB)).bind λU=>(zh j.bk U).bind λO=>(Bk j.box ((j.queue.length:Int)==(0:Int))).bind λC=>bif C.2 then (uY C.1.bK.weights).bind λY=>(qZ j.config.az).bind λE=>(sA j.cB E).bind λD=>Ce (pL j C.1 Y.1 ⟨false,C.1.bK.low,C.1.bK.high⟩ O D.1) D.2 else (qZ j.config.az).bind λE=>(sA j.cB E).bind λD=>Ce (pL j C.1 j.shares L O D.1) D.2
def acj{x:av}(C:cF x)(D:cZ x=true):Jn (Ip x) (Vf x):=by
 have h:=Pq.of C D;have same:Jn (some x) (some ((),(x,()))):=⟨x,rfl,rfl,C,D⟩
 unfold Ip Vf sB;rw[aHi h,ak,zF x C,ak,D,bg,aq,aoo h];show Jn ((bif decide ((x.trace.length:Int) >= 2000)then some (sN,-1)else some (Cd x)).bind _) _;rw[show (bif decide ((x.trace.length:Int) >= 2000)then some (sN,-1)else some (Cd x))=some (bif decide ((x.trace.length:Int) >= 2000)then (sN,-1)else Cd x) by cases decide ((x.trace.length:Int) >= 2000)<;>rfl,ak];dsimp only;generalize (bif decide ((x.trace.length:Int) >= 2000)then (sN,-1)else Cd x:aH×Int)=p;obtain⟨cmd,i⟩:=p;dsimp only;cases cmd.kind != (0:Int)with
 |false=>exact same
 | true=>
  rw[au,au,aGG h,ak,anY C h];cases hm:sL x cmd i with
  |false=>exact same
  | true=>
   obtain⟨hb,E,L,O⟩:=ab0 C h hm;rw[au,au,aGx hb E L (λr O=>abR h O),anR hb E L];exact⟨tV x cmd i,rfl,rfl,anW C hb O E L,(Ck.iss C (Ck.of D) hm).ok⟩
def aoD{x:av}(U:cF x)(h:cZ x=true){n:Int}(hn:n<eI x.config.az):Jn (Ce x n) (Vg x n):=by
 unfold Ce Vg;by_cases L:n >= 0
 ·have C:=Ck.of h;have O:=dO.mV C.ar;have Y:=(vf C.rk).1;have hl:=O.cells;have hb:=kX x.config.az;obtain⟨j,rfl⟩:=eD L;have T:j<x.array.cells.length:=by omega
  have D:=O.syms _ (cM T);have Z:=OR D;have E:dO x.config.az 100000 ⟨x.array.cells.set j (mw x.array.cells[j]),x.array.bD,x.array.bC⟩:=O.zE _ (UP D);have p:=fl.of C.pa;have iQ:=(Ek.of C.er).l;rw[aQ L,au,au,anG T D,ak,abP T D,ak];dsimp only;rw[anL (c:=oE x j (mw x.array.cells[j])) C.er ⟨by omega,by omega⟩ Z,ak,abS (c:=oE x j (mw x.array.cells[j])) C.er ⟨by omega,by omega⟩ Z,ak];dsimp only;obtain⟨z1,z2,z3,z5,z6,z7,z8,z9,fy,gy,gK,gx,gE,ig⟩:=U;have J6:cF (oE x j (mw x.array.cells[j])):=⟨z1,z2,z3,qy E,z6,z7,z8,z9,fy,gy,gK,gx,gE,ig⟩
  have hc1:Ck (oE x j (mw x.array.cells[j])):=⟨C.f1,C.f2,C.nw,C.rk,C.rd,rE Y E,C.sp,C.se,C.rf,(show fl (oE x j (mw x.array.cells[j]))from ⟨p.dl,p.tl,p.gl,p.t,p.g,p.pd,p.u⟩).ok,C.qu,C.sh,C.sl,C.dr,C.pw,C.ps,C.si,C.s1,C.s2,C.s3,C.er,C.tr,C.rp⟩
  unfold B8;by_cases e:jG x.array.cells[j]=0
  ·rw[e];exact acj J6 hc1.ok
  ·rw[ic e,au];have he:=ab2 (l:=x.errors) C.er (n:=(j:Int)) ⟨by omega,by omega⟩ (code:=jG x.array.cells[j]) (by omega);have hle:=abV (l:=x.errors) (j:Int) (jG x.array.cells[j]);exact acj (x:=OQ (oE x j (mw x.array.cells[j])) (rD x.errors (j:Int) (jG x.array.cells[j]))) ⟨z1,z2,z3,qy E,z6,z7,z8,z9,fy,gy,gK,by show (rD x.errors (j:Int) (jG x.array.cells[j])).length<=_;omega,gE,ig⟩ (Ck.ok ⟨C.f1,C.f2,C.nw,C.rk,C.rd,rE Y E,C.sp,C.se,C.rf,(show fl (OQ (oE x j (mw x.array.cells[j])) (rD x.errors (j:Int) (jG x.array.cells[j])))from ⟨p.dl,p.tl,p.gl,p.t,p.g,p.pd,p.u⟩).ok,C.qu,C.sh,C.sl,C.dr,C.pw,C.ps,C.si,C.s1,C.s2,C.s3,he,C.tr,C.rp⟩)
 ·rw[aR L,aq,aq];exact acj U h
def aoE{c:av}(Y:cF c)(Z:cZ c=true):Jn (Vi c) (Vh c):=by
 have h:=Ck.of Z;obtain⟨C,z2,z3,z5,z6,z7,z8,z9,fy,gy,gK,gx,gE,ig⟩:=Y;have p:=fl.of h.pa;have hb:=kX c.config.az;have hLp:1<=eI c.config.az:=by
  have:=bB.1 h.s3;rw[aK (n:=eI c.config.az-1)]at this;omega
 have w2:c.box.next.weights.length<=1048576:=C.2
 obtain⟨n,d1,e1⟩:=aHV c.queue true (by omega);obtain⟨d,d2,e2,D⟩:=aHW h.dr n;have e3:DC (pL c c.box c.shares d c.bk c.cB)=some (tR (pL c c.box c.shares d c.bk c.cB)):=anc (c:=pL c c.box c.shares d c.bk c.cB) h.rf;have d3:wO (pL c c.box c.shares d c.bk c.cB)=some (tR (pL c c.box c.shares d c.bk c.cB)):=abx (c:=pL c c.box c.shares d c.bk c.cB) h.rf;obtain⟨pw,d4,e4,FW,yo,hp3⟩:=aHX h.pw (tR (pL c c.box c.shares d c.bk c.cB));obtain⟨t,d5,e5⟩:=aHY c.box C ((c.queue.length:Int)==(0:Int));obtain⟨u,m,O,T,I5,qb,hu3,U⟩:=aH0 h.s1 h.s2 h.s3 ⟨hLp,by omega⟩;have key:∀ (b:fL) (s:aa bZ) (d:gV),w8 b->jU c.config b.bK=true->jU c.config b.next=true->iL s=true->(s.length:Int)=4->me d=true->cF (pL c b s d pw u)/\cZ (pL c b s d pw u)=true:=λb s d rS gO hb3 IZ hs2 D=>
  ⟨⟨rS,z2,z3,z5,z6,z7,z8,z9,fy,gy,by show s.length<=_;omega,gx,gE,ig⟩,Ck.ok ⟨gO,hb3,h.nw,h.rk,h.rd,h.ar,h.sp,h.se,h.rf,(show fl (pL c b s d pw u)from ⟨p.dl,p.tl,p.gl,p.t,p.g,p.pd,p.u⟩).ok,h.qu,IZ,hs2,D,FW,yo.trans h.ps,by show pw.since<=c.now;rw[hp3];exact h.si,I5,qb,hu3,h.er,h.tr,h.rp⟩⟩
 unfold Vi Vh;rw[d1,ak,d2,ak,d3,ak,d4,ak,d5,ak,e1,ak,e2,ak,e3,ak,e4,ak,e5,ak];dsimp only;cases t with
 | false=>
  rw[aq,aq,aq,HK,ak,T,ak,wS,ak,O,ak];obtain⟨E,L⟩:=key c.box c.shares d C h.f1 h.f2 h.sh h.sl D;exact aoD E L U
 | true=>
  obtain⟨l,t2,d7,e7,p7,kN,Im⟩:=aHZ (p:=c.box.next) (by omega) h.f2;rw[au,au,au];dsimp only;rw[e7,ak,HK,ak,T,ak,d7,ak,wS,ak,O,ak];obtain⟨E,L⟩:=key ⟨c.box.next,c.box.next,false⟩ l ⟨false,c.box.next.low,c.box.next.high⟩ ⟨C.2,C.2⟩ h.f2 h.f2 p7 kN Im;exact aoD E L U
def aH1{c:av}(C:cF c)(D:cZ c=true):Jn (zn c) (Mt c):=by
 have h:=Ck.of D;have p:=fl.of h.pa;have U6:=bB.1 h.nw;have w1:c.box.bK.weights.length<=1048576:=C.1.1;have hi:=aoC (p:=c.box.bK) (by omega) h.f1;unfold zn Mt;rw[zG c C,ak,zF c C,ak,D,bg,aq];by_cases Z:c.now=1000000
 ·rw[aQ (show c.now >= 1000000 by omega),au,Z];exact⟨c,rfl,rfl,C,D⟩
 rw[kA Z,aq,aR (show ¬ c.now >= 1000000 by omega),aq];have e1:W6 (c.now+1)=c.now+1:=aK;show Jn (bif (c.bq.bk != (2:Int))then (Ea c.aV c.config.interval).bind λE=>(Eb c.config.az c.array (1:Int)).bind λL=>Vi (cx (pI (vO c (W6 (c.now+1))) E) L)else Vi (vO c (W6 (c.now+1)))) (bif (c.bq.bk != (2:Int))then (Mq (vO c (W6 (c.now+1))) c.config.interval).bind λE=>(Ms E.2.1 (1:Int)).bind λL=>Vh L.2.1 else Vh (vO c (W6 (c.now+1))));rw[e1];obtain⟨z1,z2,z3,z5,z6,z7,z8,z9,fy,gy,gK,gx,gE,ig⟩:=C;have key:∀ (r:cO) (a:cN),dV r=true->r.aI.length=c.aV.aI.length->kY c.config.az a=true->cF (cx (pI (vO c (c.now+1)) r) a)/\cZ (cx (pI (vO c (c.now+1)) r) a)=true:=λr a O T ha=>by
  refine⟨⟨z1,z2,z3,qy (dO.mV ha),z6,by have:=z7;unfold xb at this ⊢;show r.aI.length<=_;omega,z8,z9,fy,gy,gK,gx,gE,ig⟩,Ck.ok ⟨h.f1,h.f2,bB.2 ⟨by show 0<=c.now+1;omega,by show c.now+1<=_;omega⟩,h.rk,h.rd,ha,h.sp,h.se,O,(show fl (cx (pI (vO c (c.now+1)) r) a)from ⟨by show (r.aI.length:Int)=_;rw[T];exact p.dl,p.tl,p.gl,p.t,p.g,p.pd,p.u⟩).ok,h.qu,h.sh,h.sl,h.dr,h.pw,h.ps,by show c.bk.since<=c.now+1;have:=h.si;omega,h.s1,h.s2,h.s3,h.er,h.tr,h.rp⟩⟩
 cases c.bq.bk != (2:Int)with
 | true=>
  obtain⟨O,T⟩:=aHP h.rf hi;obtain⟨U,Y⟩:=key _ _ O T (aHS h.ar);rw[au,au,aHQ h.rf hi,ak,aHT h.ar,ak,aHR (c:=vO c (c.now+1)) h.rf hi,ak];dsimp only;rw[aHU (c:=pI (vO c (c.now+1)) (Ch (vO c (c.now+1)).aV c.config.interval)) h.ar,ak];exact aoE U Y
 | false=>
  obtain⟨U,Y⟩:=key c.aV c.array h.rf rfl h.ar;exact aoE (c:=vO c (c.now+1)) U Y
def ack{c:av}(D:cF c)(E:cZ c=true):zn c=some (ju c)/\Mt c=some ((),(ju c,()))/\cF (ju c)/\cZ (ju c)=true:=by
 obtain⟨y,C,L,O,T⟩:=aH1 D E;have U:ju c=y:=by unfold ju;rw[C];rfl
 rw[U];exact⟨C,L,O,T⟩
def acm{c:av}(D:cF c)(E:cZ c=true)(n:Nat):cF (zU c n)/\cZ (zU c n)=true:=by
 induction n with
 |zero=>exact⟨D,E⟩
 | succ n C=>
  obtain⟨_,_,L,O⟩:=ack C.1 C.2;exact⟨L,O⟩
def aH2{c:av}(C:cF c)(D:cZ c=true){n:Nat}(U:n<=5000):HC c (n:Int)=some (zU c n):=by
 have E:aM (n:Int) 0 5000=true:=bB.2 ⟨by omega,by omega⟩;unfold HC bh;rw[zG c C,ak];generalize (⟨⟨⟨(0:Int),(0:Int),(0:Int),(0:Int)⟩,⟨(0:Int),(0:Int),(0:Int),(0:Int),(0:Int),(0:Int),(0:Int),(0:Int),(0:Int),(0:Int),(0:Int),(0:Int),(0:Int),(0:Int),(0:Int),(0:Int),(0:Int)⟩,⟨(0:Int),false⟩,(0:Int),(0:Int),(0:Int),⟨(0:Int),(0:Int)⟩⟩,_,_,_,_,_,_,_,_,_,_,_,_,_,_,_,_,_,_⟩:av)=Z;have e:=cv (step:=Bu) n (λi=>(((n:Int),(),(),(i:Int),()),(Z,zU c i,()))) (.inl (((),(),()),(Z,zU c n,()))) aT (λk Y=>by
  obtain⟨L,O⟩:=acm C D k;obtain⟨T,_⟩:=ack L O;unfold Bu ax xG;dsimp only;rw[aQ (show (k:Int)<(n:Int) by omega),au,cW,ak,E,au,T,ak,bA];rfl) (by
  unfold Bu ax xG;dsimp only;rw[aR (show ¬ (n:Int)<(n:Int) by omega),aq]) (bH)
 rw[cm]at e;exact(bf (λo=>Option.bind o _) e).trans rfl
def aoF{g:aL}{s:c8}{D R:Nat}(h:Sp g s D R)(b r:Int):∃ y,zj g s b r=some y/\yX g s b r=some y/\(dn (ei g s) ⟨b,r,0⟩=true->0<=y/\y<g.rows):=by
 unfold zj xI;rw[zD,ak,OV,ak];cases E:dn (ei g s) ⟨b,r,0⟩with
 |false=>exact⟨-1,rfl,aoA h E,λh=>by cases h⟩
 | true=>
  obtain⟨⟨O,a2⟩,T,a4⟩:=(h.ex b r).1 E;obtain⟨b,rfl⟩:=eD O;obtain⟨r,rfl⟩:=eD T;have hb:b<D:=by omega
  have C:r<R:=by omega
  obtain⟨U,Ve,Y,Z,n2⟩:=h.lens hb;obtain⟨hg,qH,eg,eb,h8,nG,kg,hc,zC,_⟩:=h.qz;have L:((s.map.take ((b+1)*R)).drop (b*R))=eZ s.map R b:=rfl;have OE:(eZ s.map R b)[r]'(by omega)=s.map.getD (b*R+r) 0:=by
   have:=bY (l:=eZ s.map R b) (i:=r) (by omega);rw[Cf C U]at this;injection this with this;exact this.symm
  rw[bg,aq,Ok h.hR nG h8 hb h.hl,ak];dsimp only;rw[Z,n2,cC,au,aA ⟨by omega,by rw[L,Y,br];exact C⟩];simp only[br,L,OE];exact⟨_,rfl,aoz h hb C,λ_=>h.bound hb C⟩
def xw(m:aa Int)(R b:Nat)(x:Int):Bool:=!(eZ m R b).any λe=>e==x
def acn{g:aL}{s:c8}{D R:Nat}(h:Sp g s D R){b:Nat}(hb:b<D)(x:Int):xw s.map R b x=true ↔ ∀ k,k<R->s.map.getD (b*R+k) 0≠x:=by
 obtain⟨E,_,O,_⟩:=h.lens hb;unfold xw;rw[g9,oJ];constructor
 ·intro h k C e;exact h _ (List.mem_iff_getElem?.2 ⟨k,Cf C E⟩) (by rw[e];exact en _)
 ·intro h y L;obtain⟨k,C⟩:=List.mem_iff_getElem?.1 L;have T:=(eo.1 C).1;rw[Cf (by omega) E]at C;injection C with C;rw[<-C]
  simpa using h k (by omega)
def aH3{g:aL}{s:c8}{O R:Nat}(h:Sp g s O R){b:Nat}(hb:b<O){x:Int}(E:0<=x):∃ y,SM g s (b:Int) x=some y/\decide (y<0)=xw s.map R b x:=by
 have nG:=h.qz.2.2.2.2.2.1;unfold SM bE;obtain⟨z,e,Y⟩:=aas (step:=MD) 16 (λk t=>t=(((b:Int),x,(),(),(k:Int),()),((g.cg,g.aC,g.rows,g.aO,()),(s.bF,s.map,()),()))/\∀ j,j<k->j<R->s.map.getD (b*R+j) 0≠x)
  (λz=>(∃r:Nat,(r<R/\s.map.getD (b*R+r) 0=x)/\z = .inl (((r:Int),()),()))\/(z = .inr (.inl ((),()))/\∀j,j<R->s.map.getD (b*R+j) 0≠x)) aT (x:=(((b:Int),x,(),(),(0:Int),()),((g.cg,g.aC,g.rows,g.aO,()),(s.bF,s.map,()),()))) ⟨rfl,λj D=>by omega⟩ (by
  rintro k hk t ⟨rfl,C⟩;unfold MD ax aU xG;dsimp only;rw[jr,show (⟨s.bF,s.map⟩:c8)=s from rfl,aQ (show (k:Int)<16 by omega),au,aQ (show x >= 0 from E),au];by_cases T:k<R
  ·rw[aoz h hb T,ak];by_cases e:s.map.getD (b*R+k) 0=x
   ·rw[e,en,au];exact .inr ⟨_,rfl,.inl ⟨k,⟨T,e⟩,rfl⟩⟩
   ·rw[kA e,aq,bA]
    refine .inl ⟨_,rfl,rfl,λj D L=>?_⟩
    by_cases Z:j=k
    ·subst Z;exact e
    ·exact C j (by omega) L
  ·have ha:dn (ei g s) ⟨(b:Int),(k:Int),0⟩=false:=by
    cases E:dn (ei g s) ⟨(b:Int),(k:Int),0⟩with
    |false=>rfl
    |true=>have:=((h.ex (b:Int) (k:Int)).1 E).2;omega
   rw[aoA h ha,ak,kA (show ¬ (-1:Int)=x by omega),aq,bA];exact .inl ⟨_,rfl,rfl,λj D L=>C j (by omega) L⟩) (by
  rintro t ⟨rfl,C⟩;unfold MD ax aU xG;dsimp only;rw[aR,aq];exact⟨_,rfl,.inr ⟨rfl,λj D=>C j (by omega) D⟩⟩) (bH)
 rw[e,ak];rcases Y with ⟨r,U,rfl⟩|⟨rfl,C⟩
 ·refine⟨(r:Int),rfl,?_⟩;rw[aR];cases hf:xw s.map R b x with
  |false=>rfl
  |true=>exact absurd U.2 ((acn h hb x).1 hf r U.1)
 ·refine⟨-1,rfl,?_⟩;rw[(acn h hb x).2 C];rfl
def aH4{g:aL}{s:c8}{D R:Nat}(h:Sp g s D R)(b r:Int):∃ y t,HF g s b r=some (y,t)/\SN g s b r=some (y,t)/\Sp g y D R/\y.bF=s.bF/\(t=true->dn (ei g s) ⟨b,r,0⟩=true):=by
 obtain⟨hg,qH,T,eb,U,Y,kg,hc,zC,Ft⟩:=h.qz;have hm:s.map.length<=128:=by
  rw[h.hl];exact Nat.mul_le_mul U Y
 have hR:=h.hR;have Z:W6 (g.rows-s.bF)=(R:Int):=by rw[h.hR];exact aK
 unfold HF SN Ld xA bE xZ;rw[cD (by simp;omega),au,au,jX,zD,ak,OV,ak,ak,ach h,ak];cases ha:dn (ei g s) ⟨b,r,0⟩with
 |false=>exact⟨s,false,rfl,rfl,h,rfl,λh=>by cases h⟩
 | true=>
  obtain⟨⟨a1,a2⟩,a3,a4⟩:=(h.ex b r).1 ha;obtain⟨b,rfl⟩:=eD a1;obtain⟨r,rfl⟩:=eD a3;have hb:b<D:=by omega
  have hr:r<R:=by omega
  obtain⟨hle,Ve,kO,n1,n2⟩:=h.lens hb;have hp:b*R+r<s.map.length:=by
   rw[iF]at hle;omega
  have OF:W6 ((b:Int)*(R:Int))=((b*R:Nat):Int):=by rw[<-Int.natCast_mul];exact aK
  have Ih:W6 (((b*R:Nat):Int)+(r:Int))=((b*R+r:Nat):Int):=by rw[<-Int.natCast_add];exact aK
  have e0:(b:Int)*(R:Int)+(r:Int)=((b*R+r:Nat):Int):=by rw[Int.natCast_add,Int.natCast_mul]
  rw[bg,aq,T,au,e0,aR (show ¬ ((b*R+r:Nat):Int)<0 by omega),aq,Z];dsimp only;obtain⟨n,hn⟩:=eD (show 0<=g.rows-(R:Int) by omega);have E:=sE (step:=Bv) (List.range n) (λk=>xw s.map R b ((R:Int)+(k:Int))) (λk=>(((b:Int),(r:Int),(),(),(),(),(),(R:Int)+(k:Int),()),((g.cg,g.aC,g.rows,g.aO,()),(s.bF,s.map,()),((0:Int),(),()),(s.bF,(),()),(g.cg,g.aC,(R:Int),g.aO,()),([]:aa Int),s.map,()))) (λk=>.inl (((),true,()),((s.bF,(),()),s.map.set (b*R+r) ((R:Int)+(k:Int)),()))) (.inr (.inl (((),(),()),(((0:Int),(),()),(s.bF,(),()),([]:aa Int),s.map,())))) aT (λk C=>by
   rw[di]at C;rw[jH];unfold Bv ax aU xG xL;dsimp only;rw[jr,aQ (show (R:Int)+(k:Int)<g.rows by omega),au,show (⟨s.bF,s.map⟩:c8)=s from rfl,aou h hb,ak,(UK (λe=>e==(R:Int)+(k:Int)) (eZ s.map R b)).1];show (bif xw s.map R b ((R:Int)+(k:Int))then _ else _)=_;cases xw s.map R b ((R:Int)+(k:Int))with
   | true=>
    rw[au,au,OF,Ih,aA ⟨by omega,by omega⟩,aA];simp only[br]
   | false=>
    rw[aq,aq,aK (n:=(R:Int)+(k:Int)+1),show ((k+1:Nat):Int)=(k:Int)+1 from Int.natCast_succ k,<-Int.add_assoc]) (by
   rw[di];unfold Bv ax aU xG xL;dsimp only;rw[aR (show ¬ (R:Int)+(n:Int)<g.rows by omega),aq]) (bH (by rw[di];omega))
  have L:=sE (step:=ME) (List.range n) (λk=>xw s.map R b ((R:Int)+(k:Int))) (λk=>(((b:Int),(),(),(),(),((b*R+r:Nat):Int),(R:Int)+(k:Int),()),((g.cg,g.aC,g.rows,g.aO,()),(s.bF,s.map,()),((0:Int),(),()),(s.bF,(),()),([]:aa Int),s.map,()))) (λk=>.inl (((),true,()),((s.bF,(),()),s.map.set (b*R+r) ((R:Int)+(k:Int)),()))) (.inr (.inl (((),(),()),(((0:Int),(),()),(s.bF,(),()),([]:aa Int),s.map,())))) aT (λk C=>by
   rw[di]at C;rw[jH];obtain⟨y,ey,hy⟩:=aH3 h hb (x:=(R:Int)+(k:Int)) (by omega);unfold ME ax aU xG xL;dsimp only;rw[jr,aQ (show (R:Int)+(k:Int)<g.rows by omega),au,show (⟨s.bF,s.map⟩:c8)=s from rfl,ey,ak,hy];cases xw s.map R b ((R:Int)+(k:Int))with
   | true=>
    rw[au,au,aA ⟨by omega,by omega⟩,aA];simp only[br]
   | false=>
    rw[aq,aq,aK (n:=(R:Int)+(k:Int)+1),show ((k+1:Nat):Int)=(k:Int)+1 from Int.natCast_succ k,<-Int.add_assoc]) (by
   rw[di];unfold ME ax aU xG xL;dsimp only;rw[aR (show ¬ (R:Int)+(n:Int)<g.rows by omega),aq]) (bH (by rw[di];omega))
  rw[cm,Int.add_zero]at E L;rw[E,L];cases hf:(List.range n).findIdx? (λk:Nat=>xw s.map R b ((R:Int)+(k:Int)))with
  |none=>exact⟨_,false,rfl,rfl,h,rfl,λh=>by cases h⟩
  | some k=>
   obtain⟨C,O,_⟩:=mY.1 hf;rw[di]at C;rw[jH]at O;exact⟨_,true,rfl,rfl,h.set hb hr (by omega) (by omega) ((acn h hb _).1 O),rfl,λ_=>rfl⟩
def lG(g:aL)(b f q:Int)(a:cN):Nat->cN
 |0=>a
 |k+1=>⟨(lG g b f q a k).cells.set (fO g ⟨b,q,(k:Int)⟩) ((lG g b f q a k).cells.getD (fO g ⟨b,f,(k:Int)⟩) ⟨[],false⟩),(lG g b f q a k).bD,(lG g b f q a k).bC⟩
def aH5{c:av}(hz:cF c)(D:cZ c=true)(t:aJ):∃ v y,HG c t.ay t.row=some (v,(y,()))/\SO c t=some (v,(y,()))/\cF y/\cZ y=true/\(v=false->y=c):=by
 have h:=Ck.of D;obtain⟨bn,R,L⟩:=Sp.of h.sp;obtain⟨hg,qH,eg,eb,h8,nG,kg,hc,zC,Ft⟩:=L.qz;obtain⟨f,d1,e1,hf⟩:=aoF L t.ay t.row;obtain⟨y,v,d2,e2,hy,um,ht⟩:=aH4 L t.ay t.row;unfold HG SO bh xL;rw[d1,ak,d2,ak,e1,ak,e2,ak];cases v with
 |false=>exact⟨false,c,rfl,rfl,hz,D,λ_=>rfl⟩
 | true=>
  have ha:=ht rfl;obtain⟨⟨a1,a2⟩,a3,a4⟩:=(L.ex t.ay t.row).1 ha;have kO:=(vf h.rk).2.1;have Ew:=L.hb;have hR:=L.hR;obtain⟨f1,f2⟩:=hf ha;have OW:ei c.config.az y=ei c.config.az c.spare:=by
   unfold ei;rw[hy.ok,h.sp,um]
  obtain⟨q,d3,e3,O⟩:=aoF hy t.ay t.row;have O:=O (by rw[OW];exact ha);have Vj:0<=t.ay/\t.ay.toNat<c.bq.aC.length:=⟨a1,by omega⟩
  rw[bg,aq,aq,aA Vj,aA Vj.2,aA Vj,aA Vj.2];dsimp only;cases c.bq.aC[t.ay.toNat].open_ with
  |true=>exact⟨false,c,rfl,rfl,hz,D,λ_=>rfl⟩
  | false=>
   rw[aq,aq,d3,ak,e3,ak];obtain⟨n,hn⟩:=eD (show 0<=c.config.az.aO by omega);have gb:=fN hg;have T:∀(row:Int) (k:Nat),0<=row->row<c.config.az.rows->k<n->dn c.config.az ⟨t.ay,row,(k:Int)⟩=true:=λrow k r1 r2 D=>wT hg a1 (by rw[Ew];exact a2) r1 r2 (by dsimp only;omega) (by dsimp only;omega)
   have mv:∀ k,k<=n->dO c.config.az 100000 (lG c.config.az t.ay f q c.array k):=λk=>by
    induction k with
    |zero=>exact λ_=>dO.mV h.ar
    | succ k ih=>
     intro hkn;have C:=ih (by omega);have l2:=C.lt (T f k f1 f2 (by omega));unfold lG;rw[lC _ l2];exact C.zE _ (C.syms _ (cM l2))
   have e4:=cv (step:=wR) n (λk=>(((),t.ay,(),f,(),q,(k:Int),()),(cx c (lG c.config.az t.ay f q c.array k),(c.config.az.cg,c.config.az.aC,c.config.az.rows,c.config.az.aO,()),(y.bF,(),()),y.map,()))) (.inl (((),(),()),(cx c (lG c.config.az t.ay f q c.array n),(y.bF,(),()),y.map,()))) aT (λk D=>by
    have C:=mv k (by omega);have U:=T q k O.1 O.2 D;have Y:=T f k f1 f2 D;obtain⟨i1,_⟩:=w7 U;obtain⟨i2,_⟩:=w7 Y;have l1:=C.lt U;have l2:=C.lt Y;have Z:=C.syms _ (cM l2);show wR _=some (.inl (((),t.ay,(),f,(),q,((k+1:Nat):Int),()),(cx c ⟨(lG c.config.az t.ay f q c.array k).cells.set (fO c.config.az ⟨t.ay,q,(k:Int)⟩) ((lG c.config.az t.ay f q c.array k).cells.getD (fO c.config.az ⟨t.ay,f,(k:Int)⟩) ⟨[],false⟩),(lG c.config.az t.ay f q c.array k).bD,(lG c.config.az t.ay f q c.array k).bC⟩,_,_,_,())));rw[lC _ l2];generalize lG c.config.az t.ay f q c.array k=a at C l1 l2 Z ⊢;unfold wR ax xG xL xM;dsimp only;rw[jr,aQ (show (k:Int)<c.config.az.aO by omega),au,Bz,ak,Bz,ak,i1,i2];have E:0<=(fO c.config.az ⟨t.ay,f,(k:Int)⟩:Int)/\(fO c.config.az ⟨t.ay,f,(k:Int)⟩:Int).toNat<(cx c a).array.cells.length:=⟨by omega,by simpa [cx]using l2⟩
    have c2:0<=(fO c.config.az ⟨t.ay,q,(k:Int)⟩:Int)/\(fO c.config.az ⟨t.ay,q,(k:Int)⟩)<(cx c a).array.cells.length:=⟨by omega,by simpa [cx]using l1⟩
    rw[aA E,aA E.2,aA E.2];simp only[br];rw[aaB _ (by simp only[cx];rw[Z.1];omega),ak,aA c2,aA c2.2,bA];rfl) (by
    unfold wR ax xG xL xM;dsimp only;rw[aR (show ¬ (n:Int)<c.config.az.aO by omega),aq]) (bH)
   have e5:=cv (step:=GP) n (λk=>(((),(),(),f,(),q,(k:Int),()),(cx c (lG c.config.az t.ay f q c.array k),(t.ay,t.row,t.bR,()),(c.config.az.cg,c.config.az.aC,c.config.az.rows,c.config.az.aO,()),(y.bF,(),()),y.map,()))) (.inl (((),(),()),(cx c (lG c.config.az t.ay f q c.array n),(y.bF,(),()),y.map,()))) aT (λk D=>by
    have C:=mv k (by omega);have U:=T q k O.1 O.2 D;have Y:=T f k f1 f2 D;obtain⟨i1,_⟩:=w7 U;obtain⟨i2,_⟩:=w7 Y;have l1:=C.lt U;have l2:=C.lt Y;have Z:=C.syms _ (cM l2);show GP _=some (.inl (((),(),(),f,(),q,((k+1:Nat):Int),()),(cx c ⟨(lG c.config.az t.ay f q c.array k).cells.set (fO c.config.az ⟨t.ay,q,(k:Int)⟩) ((lG c.config.az t.ay f q c.array k).cells.getD (fO c.config.az ⟨t.ay,f,(k:Int)⟩) ⟨[],false⟩),(lG c.config.az t.ay f q c.array k).bD,(lG c.config.az t.ay f q c.array k).bC⟩,_,_,_,_,())));rw[lC _ l2];generalize lG c.config.az t.ay f q c.array k=a at C l1 l2 Z ⊢;unfold GP ax xG xL xM;dsimp only;rw[jr,aQ (show (k:Int)<c.config.az.aO by omega),au,T9,ak,T9,ak,i1,i2];have E:0<=(fO c.config.az ⟨t.ay,f,(k:Int)⟩:Int)/\(fO c.config.az ⟨t.ay,f,(k:Int)⟩:Int).toNat<(cx c a).array.cells.length:=⟨by omega,by simpa [cx]using l2⟩
    have c2:0<=(fO c.config.az ⟨t.ay,q,(k:Int)⟩:Int)/\(fO c.config.az ⟨t.ay,q,(k:Int)⟩)<(cx c a).array.cells.length:=⟨by omega,by simpa [cx]using l1⟩
    rw[aA E,aA E.2,aA E.2];simp only[br];rw[alL _ (by simp only[cx];rw[Z.1];omega),ak,aA c2,aA c2.2,bA];rfl) (by
    unfold GP ax xG xL xM;dsimp only;rw[aR (show ¬ (n:Int)<c.config.az.aO by omega),aq]) (bH)
   rw[cm]at e4 e5;have C:=mv n (dW _)
   refine⟨true,⟨c.config,c.box,c.now,c.bq,c.ready,lG c.config.az t.ay f q c.array n,y,c.aV,c.bL,c.guard,c.pending,c.queue,c.shares,c.drain,c.bk,c.cB,c.errors,c.trace,c.cr⟩,(bf (λo=>Option.bind o _) e4).trans rfl,(bf (λo=>Option.bind o _) e5).trans rfl,?_⟩
   generalize lG c.config.az t.ay f q c.array n=a at C ⊢;have p:=fl.of h.pa;obtain⟨z1,z2,z3,z5,z6,z7,z8,z9,fy,gy,gK,gx,gE,ig⟩:=hz;have hml:y.map.length<=128:=by
    rw[hy.hl];exact Nat.mul_le_mul h8 nG
   refine⟨⟨z1,z2,z3,qy C,by show y.map.length<=1048576;omega,z7,z8,z9,fy,gy,gK,gx,gE,ig⟩,Ck.ok ⟨h.f1,h.f2,h.nw,h.rk,h.rd,rE hg C,hy.ok,um.trans h.se,h.rf,(show fl ⟨c.config,c.box,c.now,c.bq,c.ready,a,y,c.aV,c.bL,c.guard,c.pending,c.queue,c.shares,c.drain,c.bk,c.cB,c.errors,c.trace,c.cr⟩from ⟨p.dl,p.tl,p.gl,p.t,p.g,p.pd,p.u⟩).ok,?_,h.sh,h.sl,h.dr,h.pw,h.ps,h.si,h.s1,h.s2,h.s3,h.er,h.tr,h.rp⟩,λh=>by cases h⟩
   show gX (eI (ei c.config.az y)) c.queue=true;rw[OW];exact h.qu
def aH6{r:cO}(h:dV r=true)(x:Bool):∃ y,HE r x=some y/\SI r x=some y/\dV y=true/\y.aI.length=r.aI.length:=by
 have hl:=mq h;have C:=h;simp only[dV,aS,bB]at h;have mk:∀ (w:Int) (b:Bool),1<=w/\w<=10000->dV ⟨r.aI,w,b⟩=true:=λw b D=>by
  simp only[dV,aS,bB];exact⟨h.1,h.2.1,D⟩
 have E:W6 ((W6 (r.wait+1)).tdiv 2)=(r.wait+1) / 2:=by
  rw[aK (n:=r.wait+1),pO (by omega)];exact aK
 have L:W6 (W6 (2*r.wait)-1)=2*r.wait-1:=by
  rw[aK (n:=2*r.wait)];exact aK
 unfold HE SI uX Dy xA xZ;rw[cD (by simp;omega),au,jX,ak,BG _ (by omega),ak,Ul _ (by omega),C];simp only[ak,bg,aq];rw[E,L];cases x with
 | true=>
  cases r.dy with
  |false=>exact⟨_,rfl,rfl,mk _ _ (by omega),rfl⟩
  |true=>exact⟨_,rfl,rfl,mk _ _ h.2.2,rfl⟩
 | false=>
  cases r.dy with
  |false=>exact⟨_,rfl,rfl,mk _ _ h.2.2,rfl⟩
  |true=>exact⟨_,rfl,rfl,mk _ _ (by split<;>omega),rfl⟩
def aH7{c:av}(C:cZ c=true)(r:aN):(EJ c r).1=(tO c r).2:=by
 unfold EJ tO;rw[C,bg,Bool.false_or];cases (c.cr.any λx=>x.id==r.id)with
 |true=>rw[Bool.or_true];rfl
 |false=>cases (mm c r).2<;>rfl
def aH8{c:av}(hz:cF c)(C:cZ c=true)(a:cV)(Y:a.bW.weights.length<=1048576):∃ y t,zo c a=some (y,t)/\MG c a=some (t,(y,()))/\cF y/\cZ y=true/\(t=false->y=c):=by
 have h:=Ck.of C;have p:=fl.of h.pa;have D:=hz;obtain⟨U,Z,z3,z5,z6,z7,z8,z9,fy,gy,gK,gx,gE,ig⟩:=hz;have no:∃y t',some (c,false)=some (y,t')/\some (false,(c,()))=some (t',(y,()))/\cF y/\cZ y=true/\(t'=false->y=c):=⟨c,false,rfl,rfl,D,C,λ_=>rfl⟩
 unfold zo MG xC bh xL xM;rw[zG c D,ak,zF c D,ak,C,bg,aq];cases a.kind==(1:Int)with
 | true=>
  obtain⟨q1,q2⟩:=aoy C a.request;rw[au,au,amZ c a.request D,ak,aEU c a.request D C,ak];dsimp only;rw[aHL C,aH7 C];exact⟨_,_,rfl,rfl,am0 c a.request D,q1,q2⟩
 |false=>
 rw[aq,aq];cases a.kind==(2:Int)with
 | true=>
  rw[au,au,cW,ak,eS,ak];cases hn:aM a.n 0 500 with
  |false=>exact no
  | true=>
   have hb:=bB.1 hn;obtain⟨m,hm⟩:=eD hb.1;obtain⟨E,L⟩:=acm D C m;rw[au,bg,aq,hm,aH2 D C (by omega),ak]
   refine⟨zU c m,true,rfl,?_,E,L,λh=>by cases h⟩
   have e:=cv (step:=MF) m (λk=>(((),(),(k:Int),()),(zU c k,a,()))) (.inl ((),(zU c m,()))) aT (λk X8=>by
    obtain⟨E,L⟩:=acm D C k;obtain⟨_,e',_⟩:=ack E L;unfold MF ax xG;dsimp only;rw[hm,aQ (show (k:Int)<(m:Int) by omega),au,e',ak,bA];rfl) (by
    unfold MF ax xG;dsimp only;rw[hm,aR (show ¬ (m:Int)<(m:Int) by omega),aq]) (bH)
   rw[cm]at e;exact(bf (λo=>Option.bind o _) e).trans rfl
 |false=>
 rw[aq,aq];cases a.kind==(3:Int)with
 | true=>
  have hg:=(vf h.rk).1;have ha:=dO.mV h.ar;obtain⟨x,e,hx,EX⟩:=aow h.ar a.addr a.gB a.n;rw[au,au,By,ak,aat,ak];cases T:dn c.config.az a.addr with
  | false=>
   rw[aq,e,ak,EX (by rw[T];rfl)];exact no
  |true=>
  rw[au,bg,aq,cW,ak,eS,ak];cases c2:aM a.gB 0 10 with
  | false=>
   rw[aq,e,ak,EX (by rw[T,c2];rfl)];exact no
  |true=>
  unfold sy yO;rw[au,bg,aq,cW,ak,ak,e,ak,eS];cases c3:aM a.n 0 15 with
  | false=>
   rw[EX (by rw[T,c2,c3];rfl)];exact no
  | true=>
   have b2:=bB.1 c2;have b3:=bB.1 c3;obtain⟨k,hkc⟩:=eD b2.1;have hl:=ha.lt T;obtain⟨i1,i2⟩:=w7 T;have hs:=ha.syms _ (cM hl);have hkl:k<c.array.cells[fO c.config.az a.addr].symbols.length:=by rw[hs.1];omega
   have O:=amA ha (Int.le_refl _) T hl (show k<11 by omega) hkl b3;rw[<-hkc,e]at O;injection O with O
   refine⟨cx c x,true,rfl,?_,⟨U,Z,z3,qy (dO.mV hx),z6,z7,z8,z9,fy,gy,gK,gx,gE,ig⟩,Ck.ok ⟨h.f1,h.f2,h.nw,h.rk,h.rd,hx,h.sp,h.se,h.rf,(show fl (cx c x)from ⟨p.dl,p.tl,p.gl,p.t,p.g,p.pd,p.u⟩).ok,h.qu,h.sh,h.sl,h.dr,h.pw,h.ps,h.si,h.s1,h.s2,h.s3,h.er,h.tr,h.rp⟩,λh=>by cases h⟩
   rw[O];simp[T9,i1,hl,hkc,hkl,cx]
 |false=>
 rw[aq,aq];cases a.kind==(4:Int)with
 | true=>
  rw[au,au,cW,ak,eS,ak];cases hn:aM a.n 0 1 with
  |false=>exact no
  | true=>
   obtain⟨y,e,e2,E,L⟩:=aH6 h.rf (a.n==(1:Int));rw[au,bg,aq,e,ak,e2,ak];exact⟨pI c y,true,rfl,rfl,⟨U,Z,z3,z5,z6,by unfold xb at z7 ⊢;show y.aI.length<=_;omega,z8,z9,fy,gy,gK,gx,gE,ig⟩,Ck.ok ⟨h.f1,h.f2,h.nw,h.rk,h.rd,h.ar,h.sp,h.se,E,(show fl (pI c y)from ⟨by show (y.aI.length:Int)=_;rw[L];exact p.dl,p.tl,p.gl,p.t,p.g,p.pd,p.u⟩).ok,h.qu,h.sh,h.sl,h.dr,h.pw,h.ps,h.si,h.s1,h.s2,h.s3,h.er,h.tr,h.rp⟩,λh=>by cases h⟩
 |false=>
 rw[aq,aq];cases a.kind==(5:Int)with
 | true=>
  rw[au,au,BX _ _ (by omega),ak,aba _ _ (by omega),ak];cases O:jU c.config a.bW with
  |false=>exact no
  | true=>
   have hp:=(xk (by omega) O).2;rw[au,bg,aq,aox c.box U a.bW Y,ak,aHK c.box U a.bW Y,ak,hp,au];exact⟨⟨c.config,⟨c.box.bK,a.bW,true⟩,c.now,c.bq,c.ready,c.array,c.spare,c.aV,c.bL,c.guard,c.pending,c.queue,c.shares,c.drain,c.bk,c.cB,c.errors,c.trace,c.cr⟩,true,rfl,rfl,⟨⟨U.1,Y⟩,Z,z3,z5,z6,z7,z8,z9,fy,gy,gK,gx,gE,ig⟩,Ck.ok ⟨h.f1,O,h.nw,h.rk,h.rd,h.ar,h.sp,h.se,h.rf,(show fl ⟨c.config,⟨c.box.bK,a.bW,true⟩,c.now,c.bq,c.ready,c.array,c.spare,c.aV,c.bL,c.guard,c.pending,c.queue,c.shares,c.drain,c.bk,c.cB,c.errors,c.trace,c.cr⟩from ⟨p.dl,p.tl,p.gl,p.t,p.g,p.pd,p.u⟩).ok,h.qu,h.sh,h.sl,h.dr,h.pw,h.ps,h.si,h.s1,h.s2,h.s3,h.er,h.tr,h.rp⟩,λh=>by cases h⟩
 |false=>
 rw[aq,aq];cases a.kind==(6:Int)with
 | true=>
  obtain⟨v,y,e1,e2,E,L,y3⟩:=aH5 D C a.addr;rw[au,au,e1,ak,e2,ak];exact⟨y,v,rfl,rfl,E,L,y3⟩
 |false=>exact no
def aoG{g:aL}{n:Int}(h:jD g n=true):∃ C R,Sp g (rq g n).1 C R/\(rq g n).1.bF=n:=by
 obtain⟨O,T,U,Y,Z⟩:=Oa h;have hb:=eY g;obtain⟨C,D⟩:=eD hb.1;obtain⟨R,hR⟩:=eD (show 0<=g.rows-n by omega);unfold rq;rw[h,au,D,hR,br,br]
 refine⟨C,R,⟨h,D,hR,Uh _ _,λb hb j E=>.inl ?_⟩,rfl⟩
 have L:b*R+j<C*R:=by
  have:=iW R (show b+1<=C from hb);rw[iF]at this;omega
 show (lR (C*R) R).getD (b*R+j) 0=_;unfold lR HM;rw[fA,ff,List.getElem?_range L];show (((b*R+j) % R:Nat):Int)=_;rw[Nat.add_comm,Nat.add_mul_mod_self_right,Nat.mod_eq_of_lt E]
def aH9:((List.range 16).all λn=>ld (nN ((n:Int)+1)))=true:=by kernel_rfl
def aIa{k:Int}(h:aM k 1 16=true):ld (nN k)=true:=by
 have hb:=bB.1 h;obtain⟨n,C⟩:=eD (show 0<=k-1 by omega);obtain rfl:k=(n:Int)+1:=by omega
 exact cw.1 aH9 n (fI.2 (by omega))
def aIb:Iq.symbols.length=11/\∀s∈Iq.symbols,0<=s/\s<=15:=⟨rfl,λs C=>by obtain rfl:=List.eq_of_mem_replicate C;decide⟩
def aIc{g:aL}(D:cA g=true):kY g (Ir g)=true:=by
 have L:=kX g;have O:=oA g
 refine rE D ⟨?_,λc E=>?_,?_,?_,λx C=>?_,λx C=>?_⟩
 ·show ((List.replicate _ _).length:Int)=_;rw[jk];omega
 ·obtain rfl:=List.eq_of_mem_replicate E;exact aIb
 ·show ((List.replicate _ _).length:Int)=_;rw[jk];omega
 ·show ((List.replicate _ _).length:Int)=_;rw[jk];omega
 ·obtain rfl:=List.eq_of_mem_replicate C;decide
 ·obtain rfl:=List.eq_of_mem_replicate C;decide
def aId{g:aL}(C:cA g=true):mS g (EB g)=true:=by
 have hb:=eY g;have D:=fN C;unfold mS EB;simp only[C,jk,List.all_replicate,aS,fJ,true_and];refine⟨by omega,rfl,?_,rfl⟩;split
 ·rfl
 ·unfold zy;rw[aS];exact⟨bB.2 ⟨by decide,by dsimp only;omega⟩,rfl⟩
def aIe{g:aL}(C:cA g=true):lu g (EH g)=true:=by
 have hb:=eY g;unfold lu EH;simp only[C,jk,aS,fJ,true_and,cw,fI]
 refine⟨by omega,rfl,λi hi=>?_,λi hi=>by cases hi⟩
 rw[HO (by rw[jk];exact hi),List.getElem_replicate];simp[aM]
def ji(c:eT)(p:dB):av:=⟨c,⟨p,p,false⟩,0,EB c.az,EH c.az,Ir c.az,(rq c.az c.bF).1,⟨List.replicate (aY c.az).toNat 0,c.interval,false⟩,List.replicate (aY c.az).toNat (nN c.fZ),List.replicate (aY c.az).toNat p.dK,[],[],p.weights.map kZ,⟨false,p.low,p.high⟩,⟨0,0,0⟩,⟨0,10,10⟩,[],[],[]⟩
structure Fit (c:eT) (p:dB):Prop where
 w:p.weights.length=4
 f:jU c p=true
 g:cA c.az=true
 sp:jD c.az c.bF=true
 tr:aM c.fZ 1 16=true
 iv:2<=c.interval/\c.interval<=10000
 po:mg p=true
 sh:iL (p.weights.map kZ)=true
 dr:me ⟨false,p.low,p.high⟩=true
 li:aM p.dK 3 1000=true
def Fit.of{c:eT}{p:dB}(hl:p.weights.length<=1048576)(h:jU c p=true):Fit c p:=by
 obtain⟨f1,f2⟩:=xk (by omega) h;have iv:=aoC (by omega) h;obtain⟨D,O,E,L⟩:=Uj f1;have C:=f2;simp only[mg,aS,fJ]at C;exact⟨by omega,h,D,E,L,iv,f2,C.2.2.2.2.2.1,C.2.2.2.1,C.2.2.1⟩
def aIf{c:eT}{p:dB}(h:Fit c p):cF (ji c p):=by
 have hb:=eY c.az;have hl:=kX c.az;have E:=oA c.az;have L:=h.w;have O:=bB.1 h.tr;obtain⟨T,R,C,_⟩:=aoG h.sp;have U:(rq c.az c.bF).1.map.length<=8*16:=by
  rw[C.hl];exact Nat.mul_le_mul C.qz.2.2.2.2.1 C.qz.2.2.2.2.2.1
 refine⟨⟨?_,?_⟩,?_,⟨?_,?_⟩,⟨⟨?_,λy D=>?_⟩,?_,?_⟩,(by show (rq c.az c.bF).1.map.length<=1048576;omega),?_,⟨?_,λy D=>?_⟩,?_,?_,?_,?_,?_,?_,?_⟩
 ·show p.weights.length<=_;omega
 ·show p.weights.length<=_;omega
 ·show (List.replicate _ _).length<=_;rw[jk];omega
 ·show (List.replicate _ _).length<=_;rw[jk];omega
 ·exact fz _
 ·show (List.replicate _ _).length<=_;rw[jk];omega
 ·obtain rfl:=List.eq_of_mem_replicate D;exact cX rfl
 ·show (List.replicate _ _).length<=_;rw[jk];omega
 ·show (List.replicate _ _).length<=_;rw[jk];omega
 ·show (List.replicate _ _).length<=_;rw[jk];omega
 ·show (List.replicate _ _).length<=_;rw[jk];omega
 ·obtain rfl:=List.eq_of_mem_replicate D;exact⟨by show (List.replicate _ _).length<=_;rw[jk];omega,by show (List.replicate _ _).length<=_;rw[jk];omega⟩
 ·show (List.replicate _ _).length<=_;rw[jk];omega
 ·exact fz _
 ·exact fz _
 ·show (p.weights.map kZ).length<=_;rw[eK];omega
 ·exact fz _
 ·exact fz _
 ·exact fz _
def aIg{g:aL}(h:cA g=true):1<=eI g:=by
 have C:=N1 h;obtain⟨_,_,_,_,D,_,E,_⟩:=fN h;simp only[eI,h,au];have:=Int.mul_pos (Int.mul_pos (show 0<aY g by omega) (show 0<g.rows by omega)) (show 0<g.aO by omega);omega
def aIh{c:eT}{p:dB}(h:Fit c p):cZ (ji c p)=true:=by
 have hb:=eY c.az;have T:=N1 h.g;have hl:=kX c.az;have U:1<=eI c.az:=aIg h.g;have Y:=h.iv;obtain⟨Z,R,C,D⟩:=aoG h.sp;have E:dV (ji c p).aV=true:=by
  unfold dV;simp only[ji,jk,aM,aS,iN,List.all_replicate];refine⟨?_,by omega,aQ,aQ⟩;split<;>rfl
 have L:tK (ji c p)=true:=by
  unfold tK;simp only[ji,jk,aS,fJ,List.length_nil,List.range_zero,List.all_nil];refine⟨by omega,by omega,by omega,rfl,?_,trivial⟩;rw[cw];intro i hi;have hi:i<(aY c.az).toNat:=fI.1 hi;unfold partAt;simp only[List.getElem?_replicate,hi,if_true,aIa h.tr,cC];exact h.li
 have O:aM 0 0 (W6 (eI c.az-1))=true:=by
  rw[aK];exact bB.2 ⟨by omega,by omega⟩
 have hw:=h.w;exact Ck.ok (c:=ji c p) ⟨h.f,h.f,rfl,aId h.g,aIe h.g,aIc h.g,C.ok,D,E,L,rfl,h.sh,by show ((p.weights.map kZ).length:Int)=4;rw[eK];omega,h.dr,rfl,rfl,Int.le_refl _,rfl,rfl,O,rfl,fz _,fz _⟩
def sQ(x:av)(t:bU)(l:Int)(i:Nat):av:=⟨x.config,x.box,x.now,x.bq,x.ready,x.array,x.spare,x.aV,x.bL++List.replicate i t,x.guard++List.replicate i l,x.pending,x.queue,x.shares,x.drain,x.bk,x.cB,x.errors,x.trace,x.cr⟩
def aoH{x:av}{t:bU}{l:Int}:sQ x t l 0=x:=by
 unfold sQ;simp only[List.replicate_zero,List.append_nil]
def aIi(Z C:av)(c:eT)(p:dB)(n:Nat)(D:aY c.az=(n:Int))(T:n<=8)(E:aM c.fZ 1 16=true)(L:C.bL=[])(O:C.guard=[]):
  iter HH aT (((),(),(),(),(),(0:Int),()),(Z,C,c,(p.dM,p.cap,p.dK,p.low,p.high,p.weights,p.de.down,p.de.sleep,()),(c.az.cg,c.az.aC,c.az.rows,c.az.aO,()),()))=some (.inl (((),(),()),(Z,sQ C (nN c.fZ) p.dK n,()))):=by
 have e:=cv (step:=HH) n (λi=>(((),(),(),(),(),(i:Int),()),(Z,sQ C (nN c.fZ) p.dK i,c,(p.dM,p.cap,p.dK,p.low,p.high,p.weights,p.de.down,p.de.sleep,()),(c.az.cg,c.az.aC,c.az.rows,c.az.aO,()),()))) (.inl (((),(),()),(Z,sQ C (nN c.fZ) p.dK n,()))) aT (λk h=>by
  unfold HH sQ ax xG;dsimp only;rw[jr,kW,ak,D,aQ,au,ann E,ak,L,O,cD (by simp;omega),au,cD (by simp;omega),au,bA,List.replicate_succ' (n:=k),List.replicate_succ' (n:=k),List.append_assoc,List.append_assoc]) (by
  unfold HH ax xG;dsimp only;rw[jr,kW,ak,D,aR,aq]) (bH)
 rw[cm,aoH]at e;exact e
def aIj(Z C:av)(c:eT)(p:dB)(n:Nat)(O:n<=8)(D:aM c.fZ 1 16=true)(E:C.bL=[])(L:C.guard=[]):
  iter Gn aT (((),(),(),(),(n:Int),(0:Int),()),(Z,C,c,(p.dM,p.cap,p.dK,p.low,p.high,p.weights,p.de.down,p.de.sleep,()),()))=some (.inl (((),(),(),()),(Z,sQ C (nN c.fZ) p.dK n,(p.dM,p.cap,p.dK,p.low,p.high,p.weights,p.de.down,p.de.sleep,()),()))):=by
 have e:=cv (step:=Gn) n (λi=>(((),(),(),(),(n:Int),(i:Int),()),(Z,sQ C (nN c.fZ) p.dK i,c,(p.dM,p.cap,p.dK,p.low,p.high,p.weights,p.de.down,p.de.sleep,()),()))) (.inl (((),(),(),()),(Z,sQ C (nN c.fZ) p.dK n,(p.dM,p.cap,p.dK,p.low,p.high,p.weights,p.de.down,p.de.sleep,()),()))) aT (λk h=>by
  unfold Gn sQ ax xG;dsimp only;rw[aQ,au,ano D,ak,E,L,cD (by simp;omega),au,cD (by simp;omega),au,bA,List.replicate_succ' (n:=k),List.replicate_succ' (n:=k),List.append_assoc,List.append_assoc]) (by
  unfold Gn sQ ax xG;dsimp only;rw[aR,aq]) (bH)
 rw[cm,aoH]at e;exact e
def aIk{p:dB}(D:mg p=true)(C:p.weights.length=4):T3 p=some (⟨p,p,false⟩,true)/\RJ p=some (⟨p,p,false⟩,true):=by
 unfold T3 RJ wJ xA xZ;rw[Od _ (by omega),aaM _ (by omega),ak,D,bg,aq,aHE C,cD (by simp[C])];exact⟨rfl,rfl⟩
def aoI{c:eT}{p:dB}(h:Fit c p):HI c p=some (ji c p,true)/\Gq c p=some (ji c p,true):=by
 have hb:=eY c.az;have hbp:=N1 h.g;obtain⟨n,C⟩:=eD hb.1;have hiv:=h.iv;have E:=h.w;obtain⟨L,O⟩:=aIk h.po E;have T:T4 (n:Int) c.interval=some (⟨List.replicate n 0,c.interval,false⟩,true):=by
  unfold T4;rw[cW,ak,bB.2 ⟨by omega,by omega⟩,bg,aq,cW,ak,bB.2 ⟨by omega,by omega⟩,bg,aq,bJ ⟨by omega,by omega,by omega⟩,br]
 have U:RK (n:Int) c.interval=some (⟨List.replicate n 0,c.interval,false⟩,true):=by
  unfold RK;rw[eS,ak,bB.2 ⟨by omega,by omega⟩,bg,aq,eS,ak,bB.2 ⟨by omega,by omega⟩,bg,aq,bJ ⟨by omega,by omega,by omega⟩,br]
 have Y:aap 10=some (⟨0,10,10⟩,true):=rfl;have Z:Zr 10=some (⟨0,10,10⟩,true):=rfl;have D:wY p.weights=(p.weights.map kZ,true):=by unfold wY;rw[h.sh,au]
 constructor
 ·unfold HI bh;rw[BX _ _ (by omega),ak,h.f,bg,aq,aC2,ak,aDc h.g,ak,aHD h.g,ak,L,ak,aaG,ak,kW,ak,C,T,ak,Uk _ (by omega),ak,Y,ak,D];dsimp only;rw[aIi _ _ c p n C (by omega) h.tr rfl rfl,ak];unfold ji sQ;rw[C];rfl
 ·unfold Gq bh;rw[aba _ _ (by omega),ak,h.f,bg,aq,aC3,ak,aDd h.g,ak,aHJ h.g,ak,q9,ak,O,ak,aaF,ak,C,U,ak];dsimp only;rw[aIj _ _ c p n (by omega) h.tr rfl rfl,ak];simp only[eC];rw[aaK _ (by omega),ak,Z,ak,D];unfold ji sQ;rw[C,br];rfl
def aIl{c:eT}{p:dB}(hl:p.weights.length<=1048576)(h:jU c p=false):∃ z,HI c p=some (z,false)/\Gq c p=some (z,false):=by
 unfold HI Gq bh;rw[BX _ _ (by omega),aba _ _ (by omega),ak,ak,h];exact⟨_,rfl,rfl⟩
def aco{c:av}(C:cF c)(D:cZ c=true){a:cV}(E:a.bW.weights.length<=1048576):zo c a=some (lF c a)/\MG c a=some ((lF c a).2,((lF c a).1,()))/\cF (lF c a).1/\cZ (lF c a).1=true/\((lF c a).2=false->(lF c a).1=c):=by
 obtain⟨y,t,e,L,O,T,U⟩:=aH8 C D a E;have:lF c a=(y,t):=by unfold lF;rw[e];rfl
 rw[this];exact⟨e,L,O,T,U⟩
def aIm{s:av×Int}{n:Nat}(h:Cg s n){a:cV}(C:a.bW.weights.length<=1048576):Cg (kC s a) (n+1):=by
 obtain⟨D,E,T,U⟩:=h;obtain⟨_,_,L,O,_⟩:=aco D E C;unfold kC;refine⟨L,O,?_⟩;cases (lF s.1 a).2 with
 |true=>dsimp only;rw[au];omega
 |false=>dsimp only;rw[aq];omega
def Vk{s:av×Int}{aX:aa cV}(C:∀ a∈aX,a.bW.weights.length<=1048576){n:Nat}(h:Cg s n):∀ k,k<=aX.length->Cg ((aX.take k).foldl kC s) (n+k)
 |0,_=>h
 | k+1,D=>by
  rw[OI kC aX s D];exact aIm (Vk C h k (by omega)) (C _ (cM D))
def aIn{c:eT}{p:dB}(h:Fit c p){aX:aa cV}(C:∀ a∈aX,a.bW.weights.length<=1048576)(hl:aX.length<=60):Bw c p aX=some (aX.foldl kC (ji c p,0))/\DZ c p aX=some (aX.foldl kC (ji c p,0))/\cF (aX.foldl kC (ji c p,0)).1:=by
 have L:Cg (ji c p,0) 0:=⟨aIf h,aIh h,Int.le_refl _,Int.le_refl _⟩
 have O:=Vk C L aX.length (dW _);rw[iu]at O;obtain⟨d1,d2⟩:=aoI h;unfold Bw DZ bh;rw[d1,ak,d2,ak];dsimp only;rw[bg,aq,aq,aR (show ¬ (aX.length:Int) > 60 by omega),aq,aq];generalize (⟨⟨⟨(0:Int),(0:Int),(0:Int),(0:Int)⟩,⟨(0:Int),(0:Int),(0:Int),(0:Int),(0:Int),(0:Int),(0:Int),(0:Int),(0:Int),(0:Int),(0:Int),(0:Int),(0:Int),(0:Int),(0:Int),(0:Int),(0:Int)⟩,⟨(0:Int),false⟩,(0:Int),(0:Int),(0:Int),⟨(0:Int),(0:Int)⟩⟩,⟨⟨(0:Int),(0:Int),(0:Int),(0:Int),(0:Int),([]:aa Int),⟨(0:Int),(0:Int)⟩⟩,⟨(0:Int),(0:Int),(0:Int),(0:Int),(0:Int),([]:aa Int),⟨(0:Int),(0:Int)⟩⟩,false⟩,(0:Int),⟨([]:aa dG),(0:Int)⟩,⟨([]:aa Int),([]:aa Int)⟩,⟨([]:aa bN),([]:aa Int),([]:aa Int)⟩,⟨(0:Int),([]:aa Int)⟩,⟨([]:aa Int),(0:Int),false⟩,([]:aa bU),([]:aa Int),([]:aa aJ),([]:aa aN),([]:aa bZ),⟨false,(0:Int),(0:Int)⟩,⟨(0:Int),(0:Int),(0:Int)⟩,⟨(0:Int),(0:Int),(0:Int)⟩,([]:aa bV),([]:aa dA),([]:aa cR)⟩:av)=Z;have e:=cv (step:=NX) aX.length (λi=>(((),(),((aX.take i).foldl kC (ji c p,0)).2,aX,(aX.length:Int),(i:Int),()),(Z,((aX.take i).foldl kC (ji c p,0)).1,()))) (.inl (((),(),(aX.foldl kC (ji c p,0)).2,()),(Z,(aX.foldl kC (ji c p,0)).1,()))) aT (λk D=>by
  have E:=Vk C L k (by omega);have T:=OI kC aX (ji c p,0) D;rw[T];generalize (aX.take k).foldl kC (ji c p,0)=s at E ⊢;obtain⟨U,Y,r3,r4⟩:=E;obtain⟨k0,_,k1,k2,k3⟩:=aco U Y (C _ (cM D));unfold NX ax xG xI;dsimp only;rw[aQ (show (k:Int)<(aX.length:Int) by omega),au,aA ⟨by omega,by omega⟩];simp only[br];rw[k0,ak,bA];unfold kC;cases hd:(lF s.1 aX[k]).2 with
  | true=>
   rw[au,au,aK (n:=s.2+1)]
  | false=>
   rw[aq,aq,k3 hd]) (by
  rw[iu];unfold NX ax xG xI;dsimp only;rw[aR (show ¬ (aX.length:Int)<(aX.length:Int) by omega),aq]) (bH)
 have e2:=cv (step:=MI) aX.length (λi=>((aX,(),(),((aX.take i).foldl kC (ji c p,0)).2,(i:Int),()),(Z,((aX.take i).foldl kC (ji c p,0)).1,()))) (.inl (((),(),(aX.foldl kC (ji c p,0)).2,()),(Z,(aX.foldl kC (ji c p,0)).1,()))) aT (λk D=>by
  have E:=Vk C L k (by omega);have T:=OI kC aX (ji c p,0) D;rw[T];generalize (aX.take k).foldl kC (ji c p,0)=s at E ⊢;obtain⟨U,Y,r3,r4⟩:=E;obtain⟨_,k0,k1,k2,k3⟩:=aco U Y (C _ (cM D));unfold MI ax xG xI;dsimp only;rw[aQ (show (k:Int)<(aX.length:Int) by omega),au,aA ⟨by omega,by omega⟩];simp only[br];rw[k0,ak,bA];dsimp only;unfold kC;cases hd:(lF s.1 aX[k]).2 with
  | true=>
   rw[au,aK (n:=s.2+1)];rfl
  | false=>
   rw[aq];rfl) (by
  rw[iu];unfold MI ax xG xI;dsimp only;rw[aR (show ¬ (aX.length:Int)<(aX.length:Int) by omega),aq]) (bH)
 rw[cm]at e e2
 refine⟨(bf (λo=>Option.bind o _) e).trans rfl,(bf (λo=>Option.bind o _) e2).trans ?_,O.1⟩
 rw[ak];simp only[eC];rw[aEP _ O.1,ak]
def aIo(x:aa cV)(h:x.length<=maxLen/\∀ y∈x,HX y){n:Int}(L:0<=n)(O:n<=1048576):Sz n (x.length<=1048576/\∀ y∈x,HY y) (Rv x n):=by
 have hl:=h.1;unfold maxLen at hl;unfold Rv bE;rw[aK];by_cases c:n-(x.length:Int)<0
 ·rw[aQ c];exact⟨-1,rfl,.inl (by omega)⟩
 ·rw[aR c,aq];exact Sz.imp (Sz.le (aDl K9 x (Q:=λx=>HY x) (by omega) (λy C m D E=>aDs y (h.2 y C) D E) (n:=n-(x.length:Int)) (by omega) (by omega)) (by omega)) λq=>⟨by omega,q⟩
def aIp(x:aa cV)(hl:x.length<=1048576)(C:∀ y∈x,HY y):D0 x=some x:=by
 have D:=amv (⟨(0:Int),⟨(0:Int),(0:Int),(0:Int),false,(0:Int),(0:Int)⟩,(0:Int),(0:Int),⟨(0:Int),(0:Int),(0:Int)⟩,⟨(0:Int),(0:Int),(0:Int),(0:Int),(0:Int),[],⟨(0:Int),(0:Int)⟩⟩⟩:cV) MJ x (λy E=>aDt y (C y E)) (by omega);unfold D0 bh;rw[bJ ⟨by omega,by omega,by omega⟩]
 refine(bf (λo=>Option.bind o _) D).trans ?_
 rfl
def aIq{c:eT}{p:dB}(L:p.weights.length<=1048576){aX:aa cV}(U:∀ a∈aX,a.bW.weights.length<=1048576)(hl:aX.length<=1048576):∃ y n,Bw c p aX=some (y,n)/\DZ c p aX=some (y,n)/\cF y:=by
 have O:cF ⟨⟨⟨0,0,0,0⟩,⟨0,0,0,0,0,0,0,0,0,0,0,0,0,0,0,0,0⟩,⟨0,false⟩,0,0,0,⟨0,0⟩⟩,⟨⟨0,0,0,0,0,[],⟨0,0⟩⟩,⟨0,0,0,0,0,[],⟨0,0⟩⟩,false⟩,0,⟨[],0⟩,⟨[],[]⟩,⟨[],[],[]⟩,⟨0,[]⟩,⟨[],0,false⟩,[],[],[],[],[],⟨false,0,0⟩,⟨0,0,0⟩,⟨0,0,0⟩,[],[],[]⟩:=⟨⟨fz _,fz _⟩,fz _,⟨fz _,fz _⟩,⟨⟨fz _,λy E=>by cases E⟩,fz _,fz _⟩,fz _,fz _,⟨fz _,λy E=>by cases E⟩,fz _,fz _,fz _,fz _,fz _,fz _,fz _⟩
 cases T:jU c p with
 | false=>
  obtain⟨z,C,D⟩:=aIl L T;unfold Bw DZ bh;rw[C,D];exact⟨_,_,rfl,rfl,O⟩
 | true=>
  have h:=Fit.of L T;by_cases Y:aX.length<=60
  ·obtain⟨C,D,Z⟩:=aIn h U Y;exact⟨_,_,C,D,Z⟩
  ·obtain⟨C,D⟩:=aoI h;unfold Bw DZ bh;rw[C,D,ak,ak];dsimp only;rw[aQ (show (aX.length:Int) > 60 by omega)];exact⟨_,_,rfl,rfl,O⟩
def aIr(c:eT)(p:dB)(l:aa cV)(U:HW p)(Y:l.length<=maxLen/\∀ y∈l,HX y):aaq c p l=some true:=by
 unfold aaq;obtain⟨y,e,h|⟨h1,h2,D⟩⟩:=amy p U (n:=1048576) (by omega) (by omega)
 ·rw[e,ak,aQ h];rfl
 obtain⟨y',E,Z|⟨Vy,h2',hl,L⟩⟩:=aIo l Y (n:=y) (by omega) (by omega)
 ·rw[e,ak,aR,aq,E,ak,aQ Z];rfl
 ·have O:p.weights.length<=1048576:=D;have C:∀ a∈l,a.bW.weights.length<=1048576:=L;obtain⟨d,n,e1,e2,T⟩:=aIq (c:=c) O C hl;rw[e,ak,aR,aq,E,ak,aR,aq];simp only[toConfig c,amz p D,aIp l hl L,e1,e2,aEt _ T,Uu p D,aHN l hl C,ak,eN,bg,aq];obtain⟨m,l',em,_,d1,d2⟩:=xg p.weights O 1 (by omega) (by omega);have b2:=H9 EY 2097153 l m λx hx=>aoB x (C x hx)
  rw[em,ak];dsimp only;rw[aHM l hl C m (by omega) (by omega),ak];dsimp only;rw[aR,aq]
  refine aFi d T _ _ λr0 r1 r2 r3 r4 r5 r6 r7 r8 r9 BP BQ BR BS BU BV BW r17 hk hh=>?_
  rw[hh];simp only[ak];rw[aR,aq,eN,aq];rfl
def aIs{w:World}{U Y:aa V}{us L:Array Value}{Z:V}{C:Value}(h:cY w w.heap.size U us.toList)(h1:cY w w.heap.size Y L.toList)(h2:RV w w.heap.size (λ_=>none) [] Z C):qc w [(true,U),(true,Y),(false,[Z])] #[.agg us,.agg L,C]:=by
 refine⟨rfl,λi p E=>?_⟩
 rcases i with _|_|_|i
 ·cases E
  refine⟨_,rfl,.v _ _ ⟨us,rfl,by simpa using h.1,λj x D=>?_⟩⟩
  obtain⟨u,O,T⟩:=h.2 j x D;exact⟨u,by simpa using O,T _⟩
 ·cases E
  refine⟨_,rfl,.v _ _ ⟨L,rfl,by simpa using h1.1,λj x D=>?_⟩⟩
  obtain⟨u,O,T⟩:=h1.2 j x D;exact⟨u,by simpa using O,T _⟩
 ·cases E;exact⟨C,rfl,.v _ _ ⟨#[C],rfl,rfl,λj x D=>by rcases j with _|j<;>cases D;exact⟨C,rfl,h2⟩⟩⟩
 ·cases E
def aIt{H:Type}{fF:TypeId×Value->H}{w:World}{base:Nat}{v:Value}{d:DataW H}{p:aa MemPlace}(C:Value.okWide Tryz.prog w .any base 31 v)(h:DataW.Trod fF Tryz.prog w 0 (λ_=>true) true 31 v d p):Kb .Config aa8 w v:=
 afw aDT Tryz.underlying31 C h
def aIu{H:Type}{fF:TypeId×Value->H}{w:World}{base:Nat}{v:Value}{d:DataW H}{p:aa MemPlace}(C:Value.okWide Tryz.prog w .any base 36 v)(h:DataW.Trod fF Tryz.prog w 0 (λ_=>true) true 36 v d p):Kb .jK HW w v:=
 afw amu Tryz.underlying36 C h
def aIv{H:Type}{fF:TypeId×Value->H}{w:World}{base:Nat}{v:Value}{d:DataW H}{p:aa MemPlace}(C:Value.okWide Tryz.prog w .any base 106 v)(h:DataW.Trod fF Tryz.prog w 0 (λ_=>true) true 106 v d p):YH .Act HX w v:=
 ata Tryz.underlying106 (by kernel_rfl) aDj C h
def aIw(C D E:Value)(w:World)(O:Kb .Config aa8 w C)(T:Kb .jK HW w D)(U:YH .Act HX w E):Calls Tryz.prog 6 #[C,D,E] w λe w'=>e = .returned (.bool true)/\Below w.heap.size w w':=by
 obtain⟨x,hx,us,rfl,Y⟩:=O;obtain⟨L,Z,us1,rfl,h1⟩:=T;obtain⟨l,hl,hi,h2⟩:=U;exact as8 aBW (as9 (ai:=[(true,.Config),(true,.jK),(false,.sl .Act)]) (x:=(x,L,l,())) (by kernel_rfl) (aIr x L l Z ⟨hl,hi⟩)) (aIs Y h1 h2)
end Go.Proofs.YtnilicojgkhpnaaGreat
