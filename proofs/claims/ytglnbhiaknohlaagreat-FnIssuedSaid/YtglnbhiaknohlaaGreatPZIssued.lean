/-
  Plain laws. Nothing here is a claim.
-/
import Derived.Test.YtglnbhiaknohlaaGreatPYIssued
namespace Go.Proofs.YtglnbhiaknohlaaGreat
set_option linter.defProp false
open Go.RowKit
set_option linter.unusedVariables false
set_option linter.unusedSimpArgs false
set_option maxRecDepth 100000
def Zo{T:Type}{p:T -> Bool}{l:aa T}{k:Nat}(h:l.findIdx? p=some k):l.filter (λx=>!p x)=l.take k++(l.drop (k+1)).filter (λx=>!p x):=by
 have⟨D,E,I⟩:=m8.1 h;have e:l=l.take k++l[k] :: l.drop (k+1):=by
  simp[*]
 have L:(l.take k).filter (λx=>!p x)=l.take k:=by
  rw[List.filter_eq_self];intro a C;obtain⟨i,hi,rfl⟩:=jN.1 C
  grind
 grind
def Zp{T:Type}(s r:aa T)(i:Nat)(h:i <= s.length):(splice s i r).take i=s.take i:=by
 unfold splice;simp_all
def aDc(l:aa aJ)(a:aJ)(hl:l.length<1073741824):Qf l a=some (gL (gM a) l):=by
 unfold Qf gL;have e:=vE (step:=Ky) l (gM a) (λi=>((l,a,(l.length:Int),(i:Int),()),())) (λi=>.inl (((i:Int),()),())) (.inr (.inl ((),()))) aS (λk h=>by
  unfold Ky gM az aT xG xI;dsimp only;rw[aZ,aq,aA ⟨by omega,by omega⟩];simp only[bC];rw[bE];cases (l[k].ay==a.ay&&(l[k].row==a.row&&(l[k].bL==a.bL&&true)))<;>rfl) (by
  unfold Ky az aT xG xI;dsimp only;rw[bq,au]) (bJ hl)
 rw[cc]at e;rw[e];cases l.findIdx? (gM a)<;>rfl
def aDd(l:aa aJ)(x:aF)(hl:l.length<1073741824):Qy l x=some (gL (λa=>a.ay==x.ay) l):=by
 unfold Qy gL;have e:=vE (step:=KO) l (λa=>a.ay==x.ay) (λi=>((l,x,(l.length:Int),(i:Int),()),())) (λi=>.inl (((i:Int),()),())) (.inr (.inl ((),()))) aS (λk h=>by
  unfold KO az aT xG xI;dsimp only;rw[aZ,aq,aA ⟨by omega,by omega⟩];simp only[bC];rw[bE];cases (l[k].ay==x.ay)<;>rfl) (by
  unfold KO az aT xG xI;dsimp only;rw[bq,au]) (bJ hl)
 rw[cc]at e;rw[e];cases l.findIdx? (λa=>a.ay==x.ay)<;>rfl
def aDe(l:aa aJ)(a:aJ)(hl:l.length<1000000):Qg l a=some (l.filter (λx=>!gM a x),([],())):=by
 unfold Qg;rw[aDc l a (by omega),ak];unfold gL;cases C:l.findIdx? (gM a)with
 | none=>
  have e:l.filter (λx=>!gM a x)=l:=by
   rw[List.filter_eq_self];intro x D;have:=List.findIdx?_eq_none_iff.1 C x D;simp[this]
  rw[e];rfl
 | some k=>
  obtain⟨L,O,T⟩:=m8.1 C;rw[Zo C];simp only;rw[kR (show ¬ (k:Int) = -1 by omega),au,bE];obtain⟨U,Y,E,Z,h3,I⟩:=alb (step:=Kz) (gM a) (λi j s=>(((),a,(i:Int),(j:Int),()),(s,()))) (λi s=>.inl (((),(i:Int),()),(s,()))) (λi j s hj hi hb=>by
   unfold Kz gM az xG xL;dsimp only;rw[aZ,aq,aA ⟨by omega,by omega⟩,aA];simp only[bC];rw[bE,bE,aA ⟨by omega,by omega⟩,aA];cases (s[j].ay==a.ay&&(s[j].row==a.row&&(s[j].bL==a.bL&&true)))<;>rfl) (λi s hi=>by
   unfold Kz az xG xL;dsimp only;rw[bq,au]) (l.length-(k+1)) k (k+1) aS l (by omega) (by omega) (by omega) (by unfold aS;omega)
  rw[E,ak,dZ];dsimp only;rw[bN ⟨by omega,by omega,by omega⟩,bN ⟨by omega,by omega⟩,bN ⟨by omega,by omega,by
   rw[sR _ _ _ (by simp;omega)];omega⟩]
  rw[Zp _ _ _ (by omega),bC,I]
def aDf(l:aa aJ)(c:aF)(hl:l.length<1000000):Qz l c=some (l.filter (λx=>!(x.ay==c.ay)),([],())):=by
 unfold Qz;rw[aDd l c (by omega),ak];unfold gL;cases C:l.findIdx? (λa=>a.ay==c.ay)with
 | none=>
  have e:l.filter (λx=>!(x.ay==c.ay))=l:=by
   rw[List.filter_eq_self];intro x D;have:=List.findIdx?_eq_none_iff.1 C x D;simp[this]
  rw[e];rfl
 | some k=>
  obtain⟨L,O,T⟩:=m8.1 C;rw[Zo C];simp only;rw[kR (show ¬ (k:Int) = -1 by omega),au,bE];obtain⟨U,Y,E,Z,h3,I⟩:=alb (step:=KP) (λx=>x.ay==c.ay) (λi j s=>(((),c,(i:Int),(j:Int),()),(s,()))) (λi s=>.inl (((),(i:Int),()),(s,()))) (λi j s hj hi hb=>by
   unfold KP az xG xL;dsimp only;rw[aZ,aq,aA ⟨by omega,by omega⟩,aA];simp only[bC];rw[bE,bE,aA ⟨by omega,by omega⟩,aA];cases (s[j].ay==c.ay)<;>rfl) (λi s hi=>by
   unfold KP az xG xL;dsimp only;rw[bq,au]) (l.length-(k+1)) k (k+1) aS l (by omega) (by omega) (by omega) (by unfold aS;omega)
  rw[E,ak,dZ];dsimp only;rw[bN ⟨by omega,by omega,by omega⟩,bN ⟨by omega,by omega⟩,bN ⟨by omega,by omega,by
   rw[sR _ _ _ (by simp;omega)];omega⟩]
  rw[Zp _ _ _ (by omega),bC,I]
def mY(b:Int)(pd:aa aJ)(n:Int):aa aJ:=bif pd.any (gM ⟨b,n,0⟩)then pd else pd++[⟨b,n,0⟩]
def qf(c:av)(t:aa ck)(C:aa Int)(pd:aa aJ):av:=⟨c.config,c.box,c.now,c.bk,c.ready,c.array,c.spare,c.aL,t,C,pd,c.queue,c.shares,c.drain,c.aR,c.bY,c.errors,c.trace,c.cr⟩
def alc{T:Type}(p:T -> Bool)(l:aa T):decide (gL p l<0) = !l.any p/\decide (gL p l >= 0)=l.any p:=by
 unfold gL
 grind
def RS(b:Int):∀ (ns:aa Int) (pd:aa aJ),(ns.foldl (mY b) pd).length <= pd.length+ns.length
 |[],pd=>dJ _
 | n :: ns,pd=>by
  have:=RS b ns (mY b pd n);have C:(mY b pd n).length <= pd.length+1:=by
   unfold mY
   grind
  grind
def ald{T U:Type}(f:U->T->U)(l:aa T)(u:U){k:Nat}(h:k<l.length):(l.take (k+1)).foldl f u=f ((l.take k).foldl f u) l[k]:=by
 rw[List.take_add_one,bS h,List.foldl_append];rfl
def aDg(c:av)(x:aF)(ns:aa Int)(C:ns.length <= 1000)(D:c.pending.length <= 1000):iter Fl aS (((),(),(),(ns.length:Int),(0:Int),()),(c,(x.kind,x.ay,x.row,x.bL,()),ns,()))=some (.inl ((),(qf c c.bH c.guard (ns.foldl (mY x.ay) c.pending),()))):=by
 have e:=cz (step:=Fl) _ (λi=>(((),(),(),ns.length,i,()),(qf c c.bH c.guard ((ns.take i).foldl _ _),(x.kind,x.ay,x.row,x.bL,()),ns,()))) _ aS (λk h=>by
  have hl:=RS x.ay (ns.take k) c.pending;rw[gF]at hl;rw[ald _ _ _ h];generalize (ns.take k).foldl (mY x.ay) c.pending=pd at hl;unfold Fl mY qf Xu az xG xL;dsimp only;rw[aZ,aq,aA ⟨by omega,by omega⟩,aA];simp only[bC];rw[akf _ _ (by omega),ak,ak,(alc _ _).2,bE,cM (by simp;omega)];cases pd.any (gM ⟨x.ay,ns[k],0⟩)<;>rfl) (by
  unfold Fl qf az xG xL;dsimp only;rw[bq,au]) (bJ)
 rw[ jz]at e;exact e
def aDh(c:av)(x:aF)(ns:aa Int)(C:ns.length <= 1000)(D:c.pending.length <= 1000):iter tP aS (((),(),true,(),(0:Int),()),(c,(x.kind,x.ay,x.row,x.bL,()),ns,()))=some (.inl ((),(qf c c.bH c.guard (ns.foldl (mY x.ay) c.pending),()))):=by
 have e:=cz (step:=tP) _ (λi=>(((),(),true,(),i,()),(qf c c.bH c.guard ((ns.take i).foldl _ _),(x.kind,x.ay,x.row,x.bL,()),ns,()))) _ aS (λk h=>by
  have hl:=RS x.ay (ns.take k) c.pending;rw[gF]at hl;rw[ald _ _ _ h];generalize (ns.take k).foldl (mY x.ay) c.pending=pd at hl;unfold tP mY qf az xG xL;dsimp only;rw[aZ,aq,aq,aA ⟨by omega,by omega⟩,aA];simp only[bC];rw[YP _ _ (by omega),ak,(alc _ _).1,bE,cM (by simp;omega)];cases pd.any (gM ⟨x.ay,ns[k],0⟩)<;>rfl) (by
  unfold tP qf az xG xL;dsimp only;rw[bq,au]) (bJ)
 rw[ jz]at e;exact e
def aDi(c:av)(x:aF)(ns:aa Int):iter tP aS (((),(),false,(),(0:Int),()),(c,(x.kind,x.ay,x.row,x.bL,()),ns,()))=some (.inl ((),(c,()))):=by
 have e:=cz (step:=tP) 0 (λi=>(((),(),false,(),i,()),(c,(x.kind,x.ay,x.row,x.bL,()),ns,()))) _ aS (λk h=>by omega) (by
  unfold tP az xG xL;cases decide ((0:Int)<ns.length)<;>rfl) (bJ)
 simp_all
def zT:ck:=⟨[],[],0⟩
def sH(c:av)(x:aF):ck×Bool:=ug (c.bH.getD x.ay.toNat zT) x.row (c.guard.getD x.ay.toNat 0)
def oq(c:av)(x:aF):aa aJ:=c.pending.filter (λa=>!gM ⟨x.ay,x.row,0⟩ a)
def uh(c:av)(x:aF):av:=
 qf (cQ c (uc c.config.ax c.config.cA c.array x.ay x.row)) (c.bH.set x.ay.toNat (sH c x).1) c.guard (bif (sH c x).2 then (mm c.config.ax.rows x.row).foldl (mY x.ay) (oq c x)else oq c x)
def mq{T:Type}{l:aa T}{i:Nat}(d:T)(h:i<l.length):l.getD i d=l[i]:=by
 rw[fj,bS h];rfl
def Zq(R r:Int):(mm R r).length <= 2:=by
 unfold mm
 grind
def Zr{T:Type}(p:T->Bool)(l:aa T):(l.filter p).length<=l.length:=List.length_filter_le p l
def aDj{B:Int}(c:av)(x:aF)(I:cy c.config.ax=true)(U:fy c.config.ax B c.array)(hp:c.pending.length <= 200)(Y:∀ t∈c.bH,jK t)(D:0 <= x.ay)(Z:x.ay<aW c.config.ax)(L:0 <= x.row)(O:x.row<c.config.ax.rows)(C:x.ay.toNat<c.bH.length)(E:x.ay.toNat<c.guard.length):Qh c x=some ((),(uh c x,())):=by
 have⟨_,_,_,_,g5,g6,g7,g8⟩:=fm I;have T:=akS I c.config.cA c U D Z L O;have e2:=aDe c.pending ⟨x.ay,x.row,0⟩ (by omega);have hf:(oq c x).length <= c.pending.length:=List.length_filter_le _ _;have qF:=Zq c.config.ax.rows x.row;simp only[cQ]at T;unfold Qh bA xL xM
 refine(bx (λo=>Option.bind o _) T).trans ?_
 rw[ak];dsimp only
 refine(bx (λo=>Option.bind o _) e2).trans ?_
 rw[ak];dsimp only;rw[aA ⟨D,C⟩,aA C,aA ⟨D,E⟩,aA E,aA C,aA C];rw[aC6 _ (Y _ (cS C)),ak,aA ⟨D,C⟩,aA C];unfold uh sH;rw[mq _ C,mq _ E];cases (ug (c.bH[x.ay.toNat]'C) x.row (c.guard[x.ay.toNat]'E)).2 with
 |false=>rfl
 | true=>
  rw[bK,au,YZ (by omega) (by omega) L O,ak]
  refine(bx (λo=>Option.bind o _) (aDg (qf (cQ c (uc _ _ c.array x.ay x.row)) _ c.guard (oq c x)) x _ (by omega) (by unfold qf;dsimp only;omega))).trans ?_
  rfl
def vR(l:aa aJ):Prop:=∀i (h:i<l.length),(l.take i).any (gM l[i])=false
def LX{a b:aJ}:gM a b=true ↔ a=b:=by
 have⟨C,D,E⟩:=a;have⟨I,L,O⟩:=b;simp[gM,aQ,fT,and_true,aJ.mk.injEq]
 grind
def vR.cut{l:aa aJ}(h:vR l){a:aJ}{k:Nat}(C:l.findIdx? (gM a)=some k):l.take k++l.drop (k+1)=l.filter (λx=>!gM a x):=by
 have⟨L,D,O⟩:=m8.1 C;rw[Zo C];congr 1;symm;rw[List.filter_eq_self];intro x E;obtain⟨i,hi,rfl⟩:=jN.1 E;rw[List.length_drop]at hi;rw[List.getElem_drop];cases I:gM a _ with
 |false=>rfl
 | true=>
  have T:=LX.1 I;have U:=LX.1 D;have:=List.any_eq_false.1 (h (k+1+i) (by omega)) l[k] (jN.2 ⟨k,by rw[gF];omega,by rw[List.getElem_take]⟩);simp_all
def aDk{B:Int}(c:av)(x:aF)(I:cy c.config.ax=true)(ha:fy c.config.ax B c.array)(hp:c.pending.length <= 200)(hu:vR c.pending)(L:∀ t∈c.bH,jK t)(D:0 <= x.ay)(h2:x.ay<aW c.config.ax)(O:0 <= x.row)(T:x.row<c.config.ax.rows)(C:x.ay.toNat<c.bH.length)(E:x.ay.toNat<c.guard.length):OP c x=some ((),(uh c x,())):=by
 have⟨_,_,_,_,g5,g6,g7,g8⟩:=fm I;have U:=akW I c.config.cA c ha D h2 O T;have e2:=YP c.pending ⟨x.ay,x.row,0⟩ (by omega);have hf:(oq c x).length <= c.pending.length:=List.length_filter_le _ _;have qF:=Zq c.config.ax.rows x.row;have Y:WO c.config.ax.rows x.row=some (mm c.config.ax.rows x.row):=YZ (by omega) (by omega) O T;simp only[cQ]at U;unfold OP xA bA xL xM xZ
 refine(bx (λo=>Option.bind o _) U).trans ?_
 rw[ak];dsimp only
 refine(bx (λo=>Option.bind o _) e2).trans ?_
 rw[ak];have Z:∀ pd:aa aJ,pd=oq c x -> ∀ t:ck×Bool,t=sH c x -> (iter tP aS (((),(),t.2,(),(0:Int),()),((⟨c.config,c.box,c.now,c.bk,c.ready,uc c.config.ax c.config.cA c.array x.ay x.row,c.spare,c.aL,(c.bH.set x.ay.toNat t.1),c.guard,pd,c.queue,c.shares,c.drain,c.aR,c.bY,c.errors,c.trace,c.cr⟩:av),(x.kind,x.ay,x.row,x.bL,()),mm c.config.ax.rows x.row,()))).bind (Sum.elim (λIQ=>some ((),(IQ.2.1,()))) (λz=>nomatch z))=some ((),(uh c x,())):=by
  rintro pd rfl ⟨t1,t2⟩ C;unfold uh;rw[<- C];cases t2 with
  | false=>
   refine(bx (λo=>Option.bind o _) (aDi _ x _)).trans ?_
   rfl
  | true=>
   refine(bx (λo=>Option.bind o _) (aDh _ x _ (by omega) (by dsimp only;omega))).trans ?_
   rfl
 have hT:sH c x=ug (c.bH[x.ay.toNat]'C) x.row (c.guard[x.ay.toNat]'E):=by
  unfold sH;simp[*]
 unfold gL;cases hi:c.pending.findIdx? (gM ⟨x.ay,x.row,0⟩)with
 | none=>
  have e:oq c x=c.pending:=by
   unfold oq;rw[List.filter_eq_self];simp_all
  dsimp only;rw[bq,au,aA ⟨D,C⟩,aA C,aA ⟨D,E⟩,aA E,aA C,aA C];rw[ala _ (L _ (cS C)),ak,aA ⟨D,C⟩,aA C,Y,ak];exact Z _ e.symm _ hT.symm
 | some k=>
  have⟨k1,N0,hq⟩:=m8.1 hi;have e:=hu.cut hi;dsimp only;rw[aZ,aq,bE,bN ⟨by omega,by omega,by omega⟩,bN ⟨by omega,by omega,by omega⟩];simp only[bC,Int.toNat_zero,List.drop_zero,kZ,jz];rw[cM (by simp;omega),aq,cM (by simp;omega),aq,aA ⟨D,C⟩,aA C,aA ⟨D,E⟩,aA E,aA C,aA C];rw[ala _ (L _ (cS C)),ak,aA ⟨D,C⟩,aA C,Y,ak];exact Z _ e _ hT.symm
def yo{U:Type}(f:U->Nat->U)(u:U)(k:Nat):(List.range (k+1)).foldl f u=f ((List.range k).foldl f u) k:=by
 rw[List.range_succ,List.foldl_append];rfl
def qg(g:aN)(l:nc)(a:dU)(b:Int)(n:Nat):dU:=(List.range n).foldl (λa (r:Nat)=>uc g l a b (r:Int)) a
def FU{g:aN}(C:cy g=true)(l:nc){B:Int}(hB:0<=B){a:dU}(D:fy g B a){b:Int}(E:0<=b)(I:b<aW g):∀ n:Nat,(n:Int)<=g.rows->fy g B (qg g l a b n)
 |0,_=>D
 | n+1,h=>by
  unfold qg;rw[yo];exact Y6 C l hB (FU C l hB D E I n (by omega)) E I (by omega) (by omega)
def ale{B:Int}(hB:0 <= B)(c:av)(C:cy c.config.ax=true)(L:fy c.config.ax B c.array){b:Int}(D:0 <= b)(E:b<aW c.config.ax):Qi c b=some ((),(cQ c (qg c.config.ax c.config.cA c.array b c.config.ax.rows.toNat),())):=by
 have⟨_,_,_,_,O,T,U,Y⟩:=fm C;have e:=cz (step:=KA) c.config.ax.rows.toNat (λi=>(((),b,i,()),(cQ c (qg _ _ _ b i),()))) _ aS (λk h=>by
  have I:=akS C c.config.cA (cQ c (qg c.config.ax c.config.cA c.array b k)) (FU C c.config.cA hB L D E k (by omega)) D E (show 0 <= (k:Int) by omega) (by omega);simp only[cQ]at I;unfold KA cQ az xG;dsimp only;rw[aZ,aq,I,ak,bE];dsimp only;unfold qg;rw[yo]) (by
  unfold KA cQ az xG;dsimp only;rw[bq,au]) (bJ)
 refine(bx (λo=>Option.bind o _) e).trans ?_
 rfl
def aDl{B:Int}(hB:0 <= B)(c:av)(C:cy c.config.ax=true)(L:fy c.config.ax B c.array){b:Int}(D:0 <= b)(E:b<aW c.config.ax):WU c.config.ax c.config.cA c b=some ((),(cQ c (qg c.config.ax c.config.cA c.array b c.config.ax.rows.toNat),())):=by
 have⟨_,_,_,_,O,T,U,Y⟩:=fm C;have e:=cz (step:=IT) c.config.ax.rows.toNat (λi=>(((),b,(),(),i,()),(cQ c _,(c.config.ax.bR,c.config.ax.aB,c.config.ax.rows,c.config.ax.aM,()),(c.config.cA.br,c.config.cA.bh,()),()))) _ aS (λk h=>by
  have I:=akW C c.config.cA (cQ c (qg c.config.ax c.config.cA c.array b k)) (FU C c.config.cA hB L D E k (by omega)) D E (show 0 <= (k:Int) by omega) (by omega);simp only[cQ]at I;unfold IT cQ az xG;dsimp only;rw[aZ,aq,I,ak,bE];dsimp only;unfold qg;rw[yo]) (by
  unfold IT cQ az xG;dsimp only;rw[bq,au]) (bJ)
 refine(bx (λo=>Option.bind o _) e).trans ?_
 rfl
def LY(c:av)(b:Int)(pd:aa aJ):av:=
 qf (cQ c (qg c.config.ax c.config.cA c.array b c.config.ax.rows.toNat)) (c.bH.set b.toNat (yl c.config.eD)) (c.guard.set b.toNat c.box.bz.dK) pd
def alf(c:av)(I:aP c.config.eD 1 16=true){b:Int}(C:0<=b)(D:b.toNat<c.bH.length)(E:b.toNat<c.guard.length):KB c b=some ((),(qf c (c.bH.set b.toNat (yl c.config.eD)) (c.guard.set b.toNat c.box.bz.dK) c.pending,())):=by
 unfold KB xL;rw[aC7 I,ak,aA ⟨C,D⟩,aA D,aA ⟨C,E⟩,aA E];rfl
def aDm(c:av)(b:Int)(D:c.pending.length <= 1000):iter Ev aS (((),b,(),(0:Int),()),(c,([]:aa aJ),()))=some (.inl (((),(),()),(c,c.pending.filter (λa=>!(a.ay==b)),()))):=by
 have e:=cz (step:=Ev) c.pending.length (λi=>(((),b,(),(i:Int),()),(c,(c.pending.take i).filter (λa=>!(a.ay==b)),()))) (.inl (((),(),()),(c,(c.pending.take c.pending.length).filter (λa=>!(a.ay==b)),()))) aS (λk h=>by
  have hl:=Zr (λa:aJ=>!(a.ay==b)) (c.pending.take k);rw[gF]at hl;have C:c.pending.take (k+1)=c.pending.take k++[c.pending[k]]:=by rw[List.take_add_one,bS h];rfl
  rw[C,List.filter_append];generalize (c.pending.take k).filter (λa=>!(a.ay==b))=ls at hl;unfold Ev az xG xL;dsimp only;rw[aZ,aq,aA ⟨by omega,by omega⟩,aA];simp only[bC];rw[bE,bne];cases hb:c.pending[k].ay==b with
  |true=>rw[List.filter_cons_of_neg (by simp[hb])];simp
  | false=>
   rw[gZ,aA ⟨by omega,by omega⟩,aA,cM (by simp;omega),List.filter_cons_of_pos (by simp[hb])];rfl) (by
  unfold Ev az xG xL;dsimp only;rw[bq,au]) (bJ)
 rw[cc,jz]at e;exact e
def alg{B:Int}(hB:0 <= B)(c:av)(L:cy c.config.ax=true)(O:fy c.config.ax B c.array)(T:aP c.config.eD 1 16=true)(Y:c.pending.length <= 200){b:Int}(C:0 <= b)(U:b<aW c.config.ax)(D:b.toNat<c.bH.length)(E:b.toNat<c.guard.length):IU c b=some ((),(LY c b (c.pending.filter (λa=>!(a.ay==b))),())):=by
 have I:=aDl hB c L O C U;simp only[cQ]at I;unfold IU bA xL
 refine(bx (λo=>Option.bind o _) I).trans ?_
 rw[ak];rw[aC8 T,ak,aA ⟨C,D⟩,aA D,aA ⟨C,E⟩,aA E]
 refine(bx (λo=>Option.bind o _) (aDm _ b (by dsimp only;omega))).trans ?_
 rfl
def gN(c:av)(k:Nat)(pd:aa aJ):av:=
 ⟨c.config,c.box,c.now,c.bk,c.ready,(List.range k).foldl (λa (b:Nat)=>qg c.config.ax c.config.cA a (b:Int) c.config.ax.rows.toNat) c.array,c.spare,⟨(List.range k).foldl (λd b=>d.set b 0) c.aL.aH,c.aL.wait,c.aL.dL⟩,(List.range k).foldl (λd b=>d.set b (yl c.config.eD)) c.bH,(List.range k).foldl (λd b=>d.set b c.box.bz.dK) c.guard,pd,c.queue,c.shares,c.drain,c.aR,c.bY,c.errors,c.trace,c.cr⟩
def yp{T:Type}(x:T)(l:aa T):∀ k:Nat,((List.range k).foldl (λd b=>d.set b x) l).length=l.length
 |0=>rfl
 |k+1=>by rw[yo,iY,yp x l k]
def RT{g:aN}(C:cy g=true)(l:nc){B:Int}(hB:0 <= B){a:dU}(D:fy g B a):∀ k:Nat,(k:Int) <= aW g -> fy g B ((List.range k).foldl (λa (b:Nat)=>qg g l a (b:Int) g.rows.toNat) a)
 |0,_=>D
 | k+1,h=>by
  have⟨_,_,_,_,E,I,L,O⟩:=fm C;rw[yo];exact FU C l hB (RT C l hB D k (by omega)) (by omega) (by omega) _ (by omega)
structure uj (B:Int) (c:av):Prop where
 hB:0<=B
 g:cy c.config.ax=true
 a:fy c.config.ax B c.array
 k:aP c.config.eD 1 16=true
 p:c.pending.length<=200
 t:(c.bH.length:Int)=aW c.config.ax
 d:(c.guard.length:Int)=aW c.config.ax
 r:(c.aL.aH.length:Int)=aW c.config.ax
def uj.RU{B:Int}{c:av}(h:uj B c)(k:Nat)(C:(k:Int)<=aW c.config.ax)(pd:aa aJ)(D:pd.length<=200):uj B (gN c k pd):=
 ⟨h.hB,h.g,RT h.g c.config.cA h.hB h.a k C,h.k,D,(bx (λn:Nat=>(n:Int)) (yp _ _ k)).trans h.t,(bx (λn:Nat=>(n:Int)) (yp _ _ k)).trans h.d,(bx (λn:Nat=>(n:Int)) (yp _ _ k)).trans h.r⟩
def alh(c:av)(k:Nat)(pd C:aa aJ):gN c (k+1) C=⟨c.config,c.box,c.now,c.bk,c.ready,(LY (gN c k pd) (k:Int) C).array,c.spare,⟨(gN c k pd).aL.aH.set k 0,c.aL.wait,c.aL.dL⟩,(LY (gN c k pd) (k:Int) C).bH,(LY (gN c k pd) (k:Int) C).guard,C,c.queue,c.shares,c.drain,c.aR,c.bY,c.errors,c.trace,c.cr⟩:=by
 unfold gN;simp only[yo];rfl
def aDn{B:Int}{c:av}(h:uj B c):iter xP aS (((),(c.bH.length:Int),(0:Int),()),(gN c 0 [],()))=some (.inl ((),(gN c c.bH.length [],()))):=by
 have T:=eN c.config.ax;have U:=h.t;have e:=cz (step:=xP) c.bH.length (λi=>(((),c.bH.length,i,()),(gN c i [],()))) _ aS (λk Y=>by
  have C:=h.RU k (by omega) [] (by simp);have w1:=C.t;have E:=C.d;have I:=C.r;have D:aW (gN c k []).config.ax=aW c.config.ax:=rfl;rw[D]at w1 E I;have L:=ale C.hB _ C.g C.a (b:=(k:Int)) (by omega) (by rw[D];omega);have O:=alf (cQ (gN c k []) (qg (gN c k []).config.ax (gN c k []).config.cA (gN c k []).array (k:Int) (gN c k []).config.ax.rows.toNat)) C.k (b:=(k:Int)) (by omega) (by show (k:Int).toNat<(gN c k []).bH.length;omega) (by show (k:Int).toNat<(gN c k []).guard.length;omega);rw[alh c k [] []];unfold xP az xG xL;dsimp only;rw[aZ,aq,L,ak,O,ak,bE];have Z:k<(gN c k []).aL.aH.length:=by omega
  rw[aA ⟨by omega,by show (k:Int).toNat<(gN c k []).aL.aH.length;omega⟩,aA (by show (k:Int).toNat<(gN c k []).aL.aH.length;omega)];rfl) (by
  unfold xP az xG xL;dsimp only;rw[bq,au]) (bJ)
 simp_all
def qh(pd:aa aJ):Nat->aa aJ
 |0=>pd
 |k+1=>(qh pd k).filter (λa=>!(a.ay==(k:Int)))
def ali(pd:aa aJ):∀ k,(qh pd k).length<=pd.length
 |0=>dJ _
 |k+1=>Nat.le_trans (Zr _ _) (ali pd k)
def alj(pd:aa aJ){a:aJ}:∀ k,a∈qh pd k -> a∈pd /\ ∀ b:Nat,b<k -> a.ay≠(b:Int)
 |0,h=>⟨h,λb hb=>by omega⟩
 | k+1,h=>by
  have⟨C,D⟩:=List.mem_filter.1 h;have⟨E,I⟩:=alj pd k C
  grind
def aDo{pd:aa aJ}{k:Nat}(h:∀ a∈pd,0 <= a.ay/\a.ay<(k:Int)):qh pd k=[]:=by
 rw[List.eq_nil_iff_forall_not_mem];intro a C;have⟨D,E⟩:=alj pd k C;have:=h a D;exact E a.ay.toNat (by omega) (by omega)
def aDp{B:Int}{c:av}(h:uj B c)(Z:c.bk.aB.length=c.bH.length)(E:∀ a∈c.pending,0<=a.ay/\a.ay<aW c.config.ax):iter Cd aS (((),(0:Int),()),(c,()))=some (.inl ((),(gN c c.bH.length [],()))):=by
 have b1:=eN c.config.ax;have htr:=h.t;have e:=cz (step:=Cd) c.bH.length (λi=>(((),(i:Int),()),(gN c i (qh c.pending i),()))) (.inl ((),(gN c c.bH.length (qh c.pending c.bH.length),()))) aS (λk hk=>by
  have C:=h.RU k (by omega) (qh c.pending k) (Nat.le_trans (ali _ _) h.p);have w1:=C.t;have I:=C.d;have L:=C.r;have D:aW (gN c k (qh c.pending k)).config.ax=aW c.config.ax:=rfl;rw[D]at w1 I L;have O:=alg C.hB _ C.g C.a C.k C.p (b:=(k:Int)) (by omega) (by rw[D];omega) (by omega) (by omega);rw[alh c k (qh c.pending k) (qh c.pending (k+1))];unfold Cd az xG xL;dsimp only;rw[aZ (by show (k:Int)<((c.bk.aB.length:Nat):Int);omega),aq,O,ak,bE];rw[aA ⟨by omega,by show (k:Int).toNat<(gN c k (qh c.pending k)).aL.aH.length;omega⟩,aA (by show (k:Int).toNat<(gN c k (qh c.pending k)).aL.aH.length;omega)];rfl) (by
  unfold Cd az xG xL;dsimp only;rw[bq (by show ¬ ((c.bH.length:Nat):Int)<((c.bk.aB.length:Nat):Int);omega),au]) (bJ)
 have T:qh c.pending c.bH.length=[]:=aDo (λa U=>by have:=E a U;omega);have Y:gN c 0 (qh c.pending 0)=c:=rfl;rw[cc,T,Y]at e;exact e
def wv(l:aa Int):Nat->Int
 |0=>0
 |i+1=>bits .or .i64 (wv l i) (W6 (l.getD i 0*2 ^ (min (4*(i:Int)).toNat IntKind.i64.bits)))
def alk{l:aa Int}(h:l.length=8)(C:∀ s∈l,0 <= s/\s <= 15):rm l 8=true:=by
 simp[rm,aQ,cv,vB,bG];simp_all
def aDq{l:aa Int}(h:l.length=8)(D:∀ s∈l,0<=s/\s<=15):Qo l=some (wv l 8,true):=by
 unfold Qo bA;rw[ajR _ _ (by omega),alk h D,ak];have e:=cz (step:=KG) 8 (λi=>((wv l i,l,(l.length:Int),(i:Int),()),())) (.inl ((wv l 8,()),())) aS (λi hi=>by
  have C:i<l.length:=by omega
  have E:W6 (4*(i:Int))=4*(i:Int):=aY;have I:¬ 4*(i:Int)<0:=by omega
  have L:l.getD i 0=l[i]:=by rw[fj,bS C];rfl
  have O:wv l (i+1)=bits .or .i64 (wv l i) (W6 (l.getD i 0*2 ^ (min (4*(i:Int)).toNat IntKind.i64.bits))):=rfl;unfold KG az xG xI;rw[O,L];simp (disch:=omega) [C,E,I,bE]) (by unfold KG az xG xI;simp[h]) (bJ)
 rw[cc]at e;simp only[bK,au];have T:wv l 0=0:=rfl;rw[T]at e;rw[e];rfl
def aDr{l:aa Int}(h:l.length=8)(D:∀ s∈l,0<=s/\s<=15):OY l=some (wv l 8,true):=by
 unfold OY bA;rw[Ll _ _ (by omega),alk h D,ak];have e:=cz (step:=I2) 8 (λi=>((l,wv l i,(i:Int),()),())) (.inl ((wv l 8,()),())) aS (λi hi=>by
  have C:i<l.length:=by omega
  have E:W6 (4*(i:Int))=4*(i:Int):=aY;have I:IntKind.u64.wrap (4*(i:Int))=4*(i:Int):=akD (by omega) (by omega);have L:¬ 4*(i:Int)<0:=by omega
  have O:l.getD i 0=l[i]:=by rw[fj,bS C];rfl
  have T:wv l (i+1)=bits .or .i64 (wv l i) (W6 (l.getD i 0*2 ^ (min (4*(i:Int)).toNat IntKind.i64.bits))):=rfl;unfold I2 az xG xI;rw[T,O];simp (disch:=omega) [C,E,I,L,bE]) (by unfold I2 az xG xI;simp[h]) (bJ)
 rw[cc]at e;simp only[bK,au];have U:wv l 0=0:=rfl;rw[U]at e;rw[e];rfl
def aDs{w:aa Nat}(D:dD w)(hl:w.length=11):OZ (bu w)=some (bu (w.drop 3)):=by
 have E:=(Lo D hl).ok;have hlen:(bu w).length=11:=by rw[ic,hl]
 have C:(bu w).drop 3=bu (w.drop 3):=by simp
 unfold OZ xA xZ;rw[Ll _ _ (by rw[ic];omega),E];generalize bu w=W at hlen C ⊢;rw[<- C];have I:W.take 11=W:=by rw[<- hlen,jz]
 simp[hlen,bF,I]
def alm{w:aa Nat}(D:dD w)(hl:w.length=11):(bu (w.drop 3)).length=8 /\ ∀ s∈bu (w.drop 3),0 <= s/\s <= 15:=by
 refine⟨by rw[ic];simp[hl],λs C=>?_⟩
 simp only[ List.mem_map]at C;obtain⟨x,E,rfl⟩:=C;have:=D x (List.mem_of_mem_drop E);omega
def AI(w:aa Nat):Int:=bif (gC w).2.1==2 then 0 else wv (bu ((gC w).1.drop 3)) 8
def aDt{w:aa Nat}(C:dD w)(hl:w.length=11):Qq (bu w)=some (AI w,(gC w).2.1,(gC w).2.2):=by
 have⟨D,E,_⟩:=CU C hl;have⟨d1,d2⟩:=alm E D;unfold Qq AI;rw[akG C hl,ak];cases h:(gC w).2.1==2 with
 |true=>simp
 | false=>
  rw[ aCa E D,ak,aDq d1 d2];rfl
def aDu{w:aa Nat}(C:dD w)(hl:w.length=11):O0 (bu w)=some (AI w,(gC w).2.1,(gC w).2.2):=by
 have⟨D,E,_⟩:=CU C hl;have⟨d1,d2⟩:=alm E D;unfold O0 AI;rw[aB3 C hl,ak];cases h:(gC w).2.1==2 with
 |true=>simp
 | false=>
  rw[ aDs E D,ak,aDr d1 d2];rfl
def nw(c:bX):aa Nat:=c.symbols.map Int.toNat
def RX{c:bX}(h:Sy c.symbols):bu (nw c)=c.symbols/\dD (nw c)/\(nw c).length=11:=by
 have⟨C,D⟩:=Ys _ h.2;exact⟨C,D,by simp[nw,h.1]⟩
def mw(c:bX):Int:=bif c.jb then 2 else (gC (nw c)).2.1
def sI(c:bX):bX:=bif c.jb then c else bif (gC (nw c)).2.1==1 then ⟨bu (gC (nw c)).1,c.jb⟩else bif (gC (nw c)).2.1==2 then ⟨c.symbols,true⟩else c
def aDv{l:aa bX}{j:Nat}(h:j<l.length):l.set j l[j]=l:=List.set_getElem_self h
def Zs{c:bX}(h:Sy c.symbols):Sy (sI c).symbols:=by
 have⟨L,C,D⟩:=RX h;have⟨E,I,_⟩:=CU C D;unfold sI;cases c.jb with
 |true=>exact h
 | false=>
  cases (gC _).2.1==1 with
  |true=>exact Lo I E
  |false=>grind
def aDw(a:dU)(I:a.cells.length<1073741823)(C:a.br.length<1073741823)(D:a.bh.length<1073741823)(E:∀ c∈a.cells,c.symbols.length<1073741823):QD a a=some true:=by
 have e:=cz (step:=KT) a.cells.length (λi=>(((),(),(i:Int),()),((a.cells,a.br,a.bh,()),(a.cells,a.br,a.bh,()),()))) (.inr (.inl ((),()))) aS (λi hi=>by
  unfold KT az aT xG xI;simp (disch:=omega) [hi,aBS _ (E _ (cS hi)),bE]) (by unfold KT az aT xG xI;simp) (bJ)
 rw[cc]at e;unfold QD bM;simp[tT a.br C,tT a.bh D,e]
def FV(x:Int)(k:Nat):Int:=bits .and .i64 (x.fdiv (2 ^ (min (4*(k:Int)).toNat IntKind.i64.bits))) 15
def kJ(x:Int):Nat->aa Int
 |0=>[]
 |k+1=>kJ x k++[FV x k]
def LZ(x:Int):∀ k,(kJ x k).length=k
 |0=>rfl
 |k+1=>by simp[kJ,LZ x k]
def Zt(x:Int):∀ k,∀ s∈kJ x k,0<=s/\s<=15
 |0,s,h=>by cases h
 | k+1,s,h=>by
  rcases List.mem_append.1 h with h|h
  ·exact Zt x k s h
  ·rw[oy.1 h];exact aBV _
def aDx{x:Int}(U:0<=x)(Y:x<=4294967295):OV x=some (kJ x 8):=by
 have C:aP x 0 4294967295=true:=by rw[bG];omega
 unfold OV bA;have e:=cz (step:=I0) 8 (λk=>((x,(),(k:Int),()),(kJ x k,()))) (.inl (((),()),(kJ x 8,()))) aS (λk Z=>by
  have D:(k:Int)<8:=by omega
  have E:bF ((kJ x k).length+1)=true:=cM (by rw[LZ];omega);have I:W6 (4*(k:Int))=4*(k:Int):=aY;have L:IntKind.u64.wrap (4*(k:Int))=4*(k:Int):=akD (by omega) (by omega);have O:¬ 4*(k:Int)<0:=by omega
  unfold I0 Io az xG;simp (disch:=omega) [D,dO,C,I,L,O,E,bE,kJ,FV]) (by
  unfold I0 az xG;simp) (bJ)
 rw[cc]at e;have T:kJ x 0=[]:=rfl;rw[T]at e;rw[e];rfl
def aDy{x:Int}(T:0<=x)(U:x<=4294967295):Qu x=some (kJ x 8):=by
 have C:aP x 0 4294967295=true:=by rw[bG];omega
 unfold Qu Cw bA;rw[dY,ak,ak,C,bK,au];have e:=cz (step:=KN) 8 (λk=>((x,(),(k:Int),()),(kJ x k,()))) (.inl (((),()),(kJ x 8,()))) aS (λk Y=>by
  have D:(k:Int)<8:=by omega
  have E:bF ((kJ x k).length+1)=true:=cM (by rw[LZ];omega);have I:W6 (4*(k:Int))=4*(k:Int):=aY;have L:¬ 4*(k:Int)<0:=by omega
  unfold KN az xG;simp (disch:=omega) [D,I,L,E,bE,kJ,FV]) (by
  unfold KN az xG;simp) (bJ)
 rw[cc]at e;have O:kJ x 0=[]:=rfl;rw[O]at e;rw[e];rfl
def aln:(js λx=>js λy=>js λz=>(λC D E=>Nat.beq (gm (gm 2 (C ^^^ D) ^^^ gm 5 (C ^^^ E)) 13) y&&(Nat.beq (gm (gm 3 (C ^^^ E) ^^^ gm 5 (C ^^^ D)) 13) z&&Nat.beq (C ^^^ (y ^^^ z)) x)) (gm x (pw 0) ^^^ (gm y (pw 0) ^^^ gm z (pw 0))) (gm x (pw 0) ^^^ (gm y (pw 1) ^^^ gm z (pw 2))) (gm x (pw 0) ^^^ (gm y (pw 2) ^^^ gm z (pw 4))))=true:=by kernel_rfl
def aDz{x y z:Nat}{d:aa Nat}(j:Nat):bQ (x :: y :: z :: d) j 11=(gm x (pw (0*j)) ^^^ (gm y (pw (1*j)) ^^^ gm z (pw (2*j)))) ^^^ bQ (0 :: 0 :: 0 :: d) j 11:=by
 simp[bQ,List.getD_cons_zero,List.getD_cons_succ,Nat.xor_assoc,Nat.zero_xor,Q7 (tU _)]
def FW{a b:Nat}(h:a ^^^ b=0):a=b:=by
 have C:(a ^^^ b) ^^^ b=0 ^^^ b:=by rw[h]
 grind
def alo{w v:aa Nat}(I:dD w)(L:dD v)(lw:w.length=11)(lv:v.length=11)(O:w.drop 3=v.drop 3)(zw:nJ w=true)(zv:nJ v=true):w=v:=by
 obtain⟨x,y,z,d,rfl⟩:∃ x y z d,w=x :: y :: z :: d:=by
  match w,lw with
  |x::y::z::d,_=>simp_all
 obtain⟨C,D,E,d',rfl⟩:∃ x y z d,v=x :: y :: z :: d:=by
  match v,lv with
  |x::y::z::d,_=>simp_all
 have O:d=d':=O;subst O;simp only[nJ,aQ]at zw zv;have⟨w0,w1,T⟩:=zw;have⟨U,Y,Z⟩:=zv;rw[aDz]at w0 w1 T U Y Z;have w0:gm x (pw 0) ^^^ (gm y (pw 0) ^^^ gm z (pw 0))=bQ (0::0::0::d) 0 11:=FW (cB w0);have w1:gm x (pw 0) ^^^ (gm y (pw 1) ^^^ gm z (pw 2))=bQ (0::0::0::d) 1 11:=FW (cB w1);have T:gm x (pw 0) ^^^ (gm y (pw 2) ^^^ gm z (pw 4))=bQ (0::0::0::d) 2 11:=FW (cB T);have U:gm C (pw 0) ^^^ (gm D (pw 0) ^^^ gm E (pw 0))=bQ (0::0::0::d) 0 11:=FW (cB U);have Y:gm C (pw 0) ^^^ (gm D (pw 1) ^^^ gm E (pw 2))=bQ (0::0::0::d) 1 11:=FW (cB Y);have Z:gm C (pw 0) ^^^ (gm D (pw 2) ^^^ gm E (pw 4))=bQ (0::0::0::d) 2 11:=FW (cB Z);have m:∀{l:aa Nat} {n:Nat},dD l -> n∈l -> n<16:=λh hn=>h _ hn
 have k1:=gK (gK (gK aln (m I (n:=x) (by simp))) (m I (n:=y) (by simp))) (m I (n:=z) (by simp));have k2:=gK (gK (gK aln (m L (n:=C) (by simp))) (m L (n:=D) (by simp))) (m L (n:=E) (by simp));simp_all
def alp(w r:aa Nat):∀ k,k<=3->(qb w r k).drop 3=w.drop 3
 |0,_=>rfl
 | k+1,h=>by
  show (List.set _ _ _).drop 3=_;rw[List.drop_set_of_lt (by omega),alp w r k (by omega)]
def Zu{a b:aa Nat}(h:bu a=bu b):a=b:=(List.map_inj_right (λx y h=>by
 omega)).1 h
def aDA{d:aa Nat}(D:dD d)(hl:d.length=8):∃ w,Ab (bu d)=some (bu w)/\w.length=11/\dD w/\w.drop 3=d/\nJ w=true:=by
 have E:dD (0 :: 0 :: 0 :: d):=by
  intro x hx;simp only[gJ]at hx;rcases hx with rfl|rfl|rfl|hx
  ·decide
  ·decide
  ·decide
  ·exact D x hx
 have C:(0::0::0::d).length=11:=by simp[hl]
 obtain⟨w,e,I,L,O,T,U⟩:=aAQ D hl;refine⟨w,e,I,L,?_,by simp[nJ,O,T,U]⟩;have Y:Ab (bu d)=some (bu (qb (0 :: 0 :: 0 :: d) (out (0 :: 0 :: 0 :: d) 8) 3)):=by
  unfold Ab xA bA xZ;have c0:((d.length:Int)==(8:Int))=true:=by rw[hl];rfl
  have Z:bF ((List.replicate (3:Int).toNat (0:Int)).length+(bu d).length)=true:=by
   rw[ic,hl];rfl
  have c2:bF (([]:aa Int).length+(bu (0 :: 0 :: 0 :: d)).length)=true:=by
   rw[ic,C];rfl
  have c3:W6 (((bu (0 :: 0 :: 0 :: d)).length:Int)-(1:Int))=10:=by
   rw[ic,C];rfl
  have eW:List.replicate (3:Int).toNat (0:Int)++bu d=bu (0::0::0::d):=rfl;rw[ajJ D (by omega),ak,c0,show (!true)=false from rfl,au,bN (by decide),Z,aq,eW,ajI,ak,dZ];dsimp only;rw[kZ,c2,aq,c3,ajK E C,ak,dZ];dsimp only;rw[ajQ C (by rw[CH,C]),ak,dZ]
 rw[Y]at e;injection e with e;rw[<-Zu e,alp _ _ 3 (dJ _)];rfl
def C0(x:Int):aa Int:=(Fq x).getD []
def L0{x:Int}(E:0 <= x)(I:x <= 4294967295):Fq x=some (C0 x)/\Sy (C0 x) /\ ∃ w,C0 x=bu w/\w.length=11/\dD w/\bu (w.drop 3)=kJ x 8/\nJ w=true:=by
 have L:aP x 0 4294967295=true:=by rw[bG];omega
 have⟨t1,t2⟩:=Ys _ (Zt x 8);have tl:((kJ x 8).map Int.toNat).length=8:=by rw[eM,LZ]
 have⟨w,C,l1,d1,O,T,U,Y⟩:=aAG t2 tl;have Z:nJ w=true:=by simp[nJ,T,U,Y]
 rw[t1]at C;have D:Fq x=some (bu w):=by
  unfold Fq Cw;rw[dY,ak,ak,L,bK,au,aDy E I,ak,C,ak]
 have ee:C0 x=bu w:=by unfold C0;rw[D];rfl
 rw[ee];exact⟨D,Lo d1 l1,w,rfl,l1,d1,by rw[O,t1],Z⟩
def alq{x:Int}(C:0 <= x)(D:x <= 4294967295):EC x=some (C0 x):=by
 have⟨t1,t2⟩:=Ys _ (Zt x 8);have tl:((kJ x 8).map Int.toNat).length=8:=by rw[eM,LZ]
 have⟨_,_,w,I,l1,d1,L,O⟩:=L0 C D;have⟨v,E,l2,d2,T,U⟩:=aDA t2 tl;have Y:=alo d1 d2 l1 l2 (by rw[T];exact Zu (by rw[L,t1])) O U;subst Y;rw[t1]at E;unfold EC;rw[aDx C D,ak,E,ak,I]
def aDB{a b:Nat}(E:a<9223372036854775808)(hb:b<9223372036854775808):bits .or .i64 (a:Int) (b:Int)=((a ||| b:Nat):Int):=by
 have e:bits .or .i64 (a:Int) (b:Int)=W6 ((BitVec.ofInt 64 (a:Int) |||BitVec.ofInt 64 (b:Int)).toNat:Int):=rfl;have h:a |||b<2 ^ 63:=Nat.or_lt_two_pow (by omega) (by omega);have C:BitVec.ofInt 64 (a:Int)=BitVec.ofNat 64 a:=BitVec.ofInt_natCast 64 a;have D:BitVec.ofInt 64 (b:Int)=BitVec.ofNat 64 b:=BitVec.ofInt_natCast 64 b;rw[e,C,D,BitVec.toNat_or,BitVec.toNat_ofNat,BitVec.toNat_ofNat,Nat.mod_eq_of_lt (by omega),Nat.mod_eq_of_lt (by omega),aY]
def aDC(a:Nat)(I:a<9223372036854775808):bits .and .i64 (a:Int) 15=((a % 16:Nat):Int):=by
 have e:bits .and .i64 (a:Int) 15=W6 ((BitVec.ofInt 64 (a:Int) &&& BitVec.ofInt 64 15).toNat:Int):=rfl;have C:BitVec.ofInt 64 (a:Int)=BitVec.ofNat 64 a:=BitVec.ofInt_natCast 64 a;have D:(BitVec.ofInt 64 15).toNat=15:=rfl;have E:a &&& 15=a % 16:=Nat.and_two_pow_sub_one_eq_mod a 4;rw[e,C,BitVec.toNat_and,BitVec.toNat_ofNat,Nat.mod_eq_of_lt (by omega),D,E,aY]
def nv(d:aa Nat):Nat->Nat
 |0=>0
 |k+1=>nv d k+d.getD k 0*16 ^ k
def L1{d:aa Nat}(C:dD d):∀ k,nv d k<16 ^ k
 |0=>Nat.one_pos
 | k+1=>by
  have D:=L1 C k;have E:=C.get k;have I:d.getD k 0*16 ^ k <= 15*16 ^ k:=iZ _ (by omega);show nv d k+d.getD k 0*16 ^ k<16 ^ (k+1)
  grind
def alr(k:Nat)(C:k<8):(min (4*(k:Int)).toNat IntKind.i64.bits)=4*k:=by
 have:IntKind.i64.bits=64:=rfl;rw[this];omega
def Zv{d:aa Nat}(C:dD d)(hl:d.length=8):∀ k,k<=8->wv (bu d) k=(nv d k:Int)
 |0,_=>rfl
 | k+1,h=>by
  have E:=L1 C k;have O:=C.get k;have T:(16:Nat) ^ k<=16 ^ 7:=Nat.pow_le_pow_right (by decide) (by omega);have D:(2:Nat) ^ (4*k)=16 ^ k:=by rw[Nat.pow_mul]
  have U:d.getD k 0*16 ^ k<=15*16 ^ k:=iZ _ (by omega);have I:(bu d).getD k 0=((d.getD k 0:Nat):Int):=by
   rw[fj,bS (by rw[ic];omega)];exact tV (by rw[ic];omega)
  have L:((d.getD k 0:Nat):Int)*2 ^ (4*k)=((d.getD k 0*16 ^ k:Nat):Int):=by
   rw[<-D]
   push_cast
   rfl
  show bits .or .i64 (wv (bu d) k) (W6 ((bu d).getD k 0*2 ^ (min (4*(k:Int)).toNat IntKind.i64.bits)))=((nv d k+d.getD k 0*16 ^ k:Nat):Int)
  rw[Zv C hl k (by omega),alr k (by omega),I,L,aY,aDB (by omega) (by omega)];congr 1;have:=Nat.two_pow_add_eq_or_of_lt (i:=4*k) (b:=nv d k) (by rw[D];exact E) (d.getD k 0);rw[D,Nat.mul_comm]at this;rw[Nat.or_comm,<-this];omega
def als{d:aa Nat}(C:dD d):∀ n k,k<n -> nv d n / 16 ^ k % 16=d.getD k 0
 |0,k,h=>by omega
 | n+1,k,h=>by
  have D:=L1 C n;have I:=C.get n;show (nv d n+d.getD n 0*16 ^ n) / 16 ^ k % 16=_;by_cases e:k=n
  ·subst e;rw[Nat.add_mul_div_right _ _ (Nat.pow_pos (by decide)),Nat.div_eq_of_lt D,fh];omega
  ·have L:n=(n-k-1)+1+k:=by omega
   have E:d.getD n 0*16 ^ n=(d.getD n 0*16 ^ (n-k-1)*16)*16 ^ k:=by
    grind
   rw[E,Nat.add_mul_div_right _ _ (Nat.pow_pos (by decide)),Nat.add_mul_mod_self_right,als C n k (by omega)]
def aDD{d:aa Nat}(C:dD d)(hl:d.length=8):kJ (wv (bu d) 8) 8=bu d:=by
 have L:nv d 8<16 ^ 8:=L1 C 8;rw[Zv C hl 8 (dJ _)];have key:∀ k,k <= 8 -> kJ (nv d 8:Int) k=bu (d.take k):=by
  intro k
  induction k with
  |zero=>intro _;rfl
  | succ k D=>
   intro O;have T:(2:Nat) ^ (4*k)=16 ^ k:=by rw[Nat.pow_mul]
   have E:(nv d 8:Int).fdiv (2 ^ (4*k))=((nv d 8 / 16 ^ k:Nat):Int):=by
    grind
   have I:FV (nv d 8:Int) k=((d.getD k 0:Nat):Int):=by
    unfold FV;rw[alr k (by omega),E,aDC _ (Nat.lt_of_le_of_lt (Nat.div_le_self _ _) (by omega)),als C 8 k (by omega)]
   show kJ (nv d 8:Int) k++[FV (nv d 8:Int) k]=_;rw[D (by omega),I,List.take_add_one,bS (by omega),fj,bS (by omega)];exact(List.map_append (f:=λn:Nat=>(n:Int)) (l₁:=d.take k) (l₂:=[d[k]])).symm
 rw[key 8 (dJ _),<- hl,jz]
def aDE{d:aa Nat}(C:dD d)(hl:d.length=8):0 <= wv (bu d) 8/\wv (bu d) 8 <= 4294967295:=by
 have D:=L1 C 8;rw[Zv C hl 8 (dJ _)];omega
def aDF{w:aa Nat}(C:dD w)(hl:w.length=11)(h:(gC w).2.1=1):EC (AI w)=some (bu (gC w).1):=by
 have⟨D,E,_⟩:=CU C hl;have Y:=aB9 C hl (by omega);have I:dD ((gC w).1.drop 3):=λx Z=>E x (List.mem_of_mem_drop Z)
 have L:((gC w).1.drop 3).length=8:=by rw[List.length_drop,D]
 have he:AI w=wv (bu ((gC w).1.drop 3)) 8:=by
  unfold AI;simp_all
 have⟨O,T⟩:=aDE I L;have e2:=alq O T;have⟨_,_,v,ev,vl,v16,U,vz⟩:=L0 O T;rw[aDD I L]at U;have:=alo v16 E vl D (Zu U) vz Y;simp_all
def L2(d:bX):Int:=bif d.jb then 0 else AI (nw d)
def vS(c:av)(j:Nat)(d:bX):av:=cQ c ⟨c.array.cells.set j d,c.array.br,c.array.bh⟩
def alu{c:av}{j:Nat}(h:j<c.array.cells.length):vS c j c.array.cells[j]=c:=by
 unfold vS cQ;rw[aDv h]
def aDG{c:av}{j:Nat}(C:j<c.array.cells.length)(O:Sy c.array.cells[j].symbols):As c (j:Int)=some ((L2 c.array.cells[j],mw c.array.cells[j]),(vS c j (sI c.array.cells[j]),())):=by
 have⟨T,D,E⟩:=RX O;have I:=akG D E;have L:=aDt D E;rw[T]at I L;have Y:=alu C;unfold As mw sI L2 xL xM;rw[aA ⟨by omega,by omega⟩,aA];simp only[bC];cases U:c.array.cells[j].jb with
 |true =>simp_all
 | false=>
  rw[au,au,au,au,aA C,aA C,I,ak,aA C,aA C,L,ak];dsimp only;rcases(CU D E).2.2 with q|q|q
  ·grind
  ·rw[q,lT,aA C,U];rfl
  ·rw[q,kR (by omega),au,lT,aA C];rfl
def alv{c:av}{j:Nat}(C:j<c.array.cells.length)(L:Sy c.array.cells[j].symbols):Cc c (j:Int)=some ((L2 c.array.cells[j],mw c.array.cells[j]),(vS c j (sI c.array.cells[j]),())):=by
 have⟨O,D,E⟩:=RX L;have I:=aDu D E;rw[O]at I;have U:=alu C;unfold Cc mw sI L2 xL xM;rw[aA ⟨by omega,by omega⟩,aA];simp only[bC];cases T:c.array.cells[j].jb with
 |true =>simp_all
 | false=>
  rw[au,au,au,au,aA C,I,ak];dsimp only;rcases(CU D E).2.2 with q|q|q
  ·grind
  ·rw[q,lT,aDF D E q,ak,aA ⟨by omega,C⟩,aA C,kR (by omega),au,T];rfl
  ·rw[q,kR (by omega),lT,au,aA ⟨by omega,C⟩,aA C];rfl
def uk(q:aa aU)(i:Nat):Bool:=match q[i]? with
 |some r=>(q.take i).any λx=>x.line==r.line
 |none=>false
def alw{q:aa aU}{i:Nat}(h:i<q.length):uk q i=(q.take i).any λx=>x.line==q[i].line:=by
 unfold uk;rw[bS h]
def aDH{α:Type}(p:α -> Bool)(q:aa α)(i:Nat)(hi:i <= q.length):c8 p (q.take i)=min (c8 p q) i:=by
 have L:=ua p q;have D:=ua p (q.take i);rw[gF,Nat.min_eq_left hi]at D;rcases Nat.lt_or_ge (c8 p (q.take i)) i with h|h
 ·have E:c8 p (q.take i)<(q.take i).length:=by rw[gF,Nat.min_eq_left hi];exact h
  have I:=qe E;rw[List.getElem_take]at I;rcases Nat.lt_or_ge (c8 p q) (c8 p (q.take i))with h5|h5
  ·have h6:=qe (p:=p) (q:=q) (by omega);have C:=mW h5 (by rw[gF];omega);simp_all
  ·rcases Nat.lt_or_ge (c8 p (q.take i)) (c8 p q)with h6 | h6
   ·have C:=mW h6 (by omega);simp_all
   ·omega
 ·have e:c8 p (q.take i)=i:=by omega
  rw[e];rcases Nat.lt_or_ge (c8 p q) i with h5|h5
  ·have h6:=qe (p:=p) (q:=q) (by omega);have C:=mW (p:=p) (q:=q.take i) (i:=c8 p q) (by omega) (by rw[gF];omega);simp_all
  ·omega
def aDI{q:aa aU}{i:Nat}(h:i<q.length)(I:q.length <= 1000):X5 q (i:Int)=some (uk q i):=by
 have L:=ua (λx:aU=>x.line==q[i].line) (q.take i);have hlen:(q.take i).length=i:=by rw[gF];omega
 unfold X5 bM;rw[dY,ak,LV (by omega) (by omega) (by omega),bK,au,bN ⟨by omega,by omega,by omega⟩,alw h,LL];simp only[bC,Int.toNat_zero,List.drop_zero];generalize O:q.take i=t at *
 have e:=cz (step:=K8) (c8 (λx:aU=>x.line==q[i].line) t) (λj=>((q,(i:Int),t,(t.length:Int),(j:Int),()),())) (if c8 (λx:aU=>x.line==q[i].line) t<t.length then .inl ((true,()),())else .inr (.inl ((),()))) aS (λk E=>by
  have D:=mW E (by omega);unfold K8 az aT xG xI;dsimp only;rw[aZ,aq,aA ⟨by omega,by omega⟩,aA ⟨by omega,by omega⟩];simp only[bC];rw[D,au,bE]) (by
  by_cases C:c8 (λx:aU=>x.line==q[i].line) t<t.length
  ·have D:=qe C;unfold K8 az aT xG xI;dsimp only;rw[aZ,aq,aA ⟨by omega,by omega⟩,aA ⟨by omega,by omega⟩]
   grind
  ·unfold K8 az aT xG xI;dsimp only;rw[bq,au,bO C]) (bJ)
 rw[cc]at e
 refine(bx (λo=>Option.bind o _) e).trans ?_
 by_cases C:c8 (λx:aU=>x.line==q[i].line) t<t.length
 ·rw[bN C,aZ C];rfl
 ·rw[bO C,bq C];rfl
def alx{q:aa aU}{i:Nat}(h:i<q.length)(E:q.length <= 1000):Je q (i:Int)=some (uk q i):=by
 have I:=aDH (λx:aU=>x.line==q[i].line) q i (by omega);have L:=ua (λx:aU=>x.line==q[i].line) (q.take i);have hlen:(q.take i).length=i:=by rw[gF];omega
 unfold Je bM;rw[alw h,LL,hlen];generalize O:c8 (λx:aU=>x.line==q[i].line) (q.take i)=n at *
 have e:=cz (step:=EK) n (λj=>((q,(i:Int),(j:Int),()),())) (if n<i then .inl ((true,()),())else .inr (.inl ((),()))) aS (λk T=>by
  have D:=mW (p:=λx:aU=>x.line==q[i].line) (q:=q) (i:=k) (by omega) (by omega);unfold EK az aT xG xI;dsimp only;rw[aZ,aq,aZ,aq,aA ⟨by omega,by omega⟩,aA ⟨by omega,by omega⟩];simp only[bC];rw[D,au,bE]) (by
  by_cases C:n<i
  ·have D:((q[n]'(by omega)).line==q[i].line)=true:=by
    have U:c8 (λx:aU=>x.line==q[i].line) q=n:=by omega
    have:=qe (p:=λx:aU=>x.line==q[i].line) (q:=q) (by omega)
    grind
   unfold EK az aT xG xI;dsimp only;rw[aZ,aq,aZ,aq,aA ⟨by omega,by omega⟩,aA ⟨by omega,by omega⟩]
   grind
  ·unfold EK az aT xG xI;dsimp only;rw[bq,au,bO C]) (bJ)
 rw[cc]at e
 refine(bx (λo=>Option.bind o _) e).trans ?_
 by_cases C:n<i
 ·rw[bN C,aZ C];rfl
 ·rw[bO C,bq C];rfl
def AJ(d:jn)(n:Int)(w:Bool):Bool:=bif w then d.on ||decide (n<1)else !d.on
def aDJ{d:jn}(n:Int)(w:Bool)(h:mS d=true):X6 d n w=some (AJ d n w):=by
 unfold X6 AJ;rw[YB,h]
 grind
def aDK{d:jn}(n:Int)(w:Bool)(h:mS d=true):O9 d n w=some (AJ d n w):=by
 unfold O9 AJ;rw[Rf,h]
 grind
def AK(p:Nat->Bool)(k:Nat):Int:=((List.range k).countP p:Nat)
def RY(p:Nat -> Bool)(k:Nat):AK p (k+1)=AK p k+(bif p k then 1 else 0):=by
 unfold AK;rw[List.range_succ,List.countP_append,List.countP_singleton]
 grind
def RZ(p:Nat -> Bool)(k:Nat):0 <= AK p k/\AK p k <= k:=by
 unfold AK;have:=List.countP_le_length (p:=p) (l:=List.range k);simp_all
def rB(f:Nat->Bool)(n k:Nat):aa Bool:=(List.range k).map f++List.replicate (n-k) false
def R0{f:Nat->Bool}{n k:Nat}(h:k<=n):(rB f n k).length=n:=by unfold rB;simp;omega
def R1{f:Nat -> Bool}{n k:Nat}(h:k<n):(rB f n k).set k (f k)=rB f n (k+1):=by
 unfold rB;rw[List.set_append_right _ _ (by simp),eM,cT,Nat.sub_self,show n-k=(n-(k+1))+1 by omega,List.replicate_succ,List.range_succ,List.map_append,List.append_assoc];rfl
def Zw(f:Nat->Bool)(n:Nat):rB f n 0=List.replicate n false:=rfl
def R2(f:Nat->Bool)(n:Nat):rB f n n=(List.range n).map f:=by unfold rB;simp
def yu{f:Nat->Bool}{n k:Nat}(h:k<n)(C:k<((List.range n).map f).length):((List.range n).map f)[k]=f k:=by simp
def qi(q:aa aU)(i:Nat):Bool:=match q[i]? with
 |some r=>r.write
 |none=>false
def C1{q:aa aU}{i:Nat}(h:i<q.length):qi q i=q[i].write:=by
 unfold qi;rw[bS h]
def kK(q:aa aU)(i:Nat):Bool:=!uk q i
def qj(q:aa aU)(k:Nat):Int:=AK (λi=>kK q i && !qi q i) k
def rC(q:aa aU)(k:Nat):Int:=AK (λi=>kK q i&&qi q i) k
def ig(c:av)(i:Nat):Bool:=kK c.queue i&&(AJ c.drain (qj c.queue c.queue.length) (qi c.queue i) ||(!qi c.queue i&&rC c.queue c.queue.length==0))
def aDL{c:av}(h:Pq c):Pa c=some ((List.range c.queue.length).map (ig c)):=by
 have I:=h.ql;have e:=cz (step:=Jf) c.queue.length (λi=>((c,qj c.queue i,rC c.queue i,(i:Int),()),())) (.inl ((c,qj c.queue c.queue.length,rC c.queue c.queue.length,()),())) aS (λk C=>by
  have L:=RZ (λi=>kK c.queue i && !qi c.queue i) k;have O:=RZ (λi=>kK c.queue i&&qi c.queue i) k;unfold Jf az xG xI;dsimp only;rw[aZ,aq,alx C (by omega),ak,bE];unfold qj rC at *
  have E:kK c.queue k = !uk c.queue k:=rfl;rw[RY,RY];simp only[E,C1 C];cases uk c.queue k with
  |true=>simp
  | false=>
   rw[au,aA ⟨by omega,by omega⟩];simp only[bC];cases c.queue[k].write with
   |true=>rw[aq,aY];simp[kK]
   |false=>rw[au,aY];simp[kK]) (by
  unfold Jf az xG xI;dsimp only;rw[bq,au]) (bJ)
 have D:=cz (step:=Jg) c.queue.length (λi=>((c,qj c.queue c.queue.length,rC c.queue c.queue.length,(),(i:Int),()),((List.range i).map (ig c),()))) (.inl (((),()),((List.range c.queue.length).map (ig c),()))) aS (λk C=>by
  have hl:((List.range k).map (ig c)).length=k:=by simp
  unfold Jg az xG xI;dsimp only;rw[aZ,aq,aA ⟨by omega,by omega⟩,alx C (by omega),ak,bE,List.range_succ,List.map_append,hl,List.map_singleton];simp only[bC,jO,cM (show k+1<1073741824 by omega),aq,aDK _ _ h.dr,ak];unfold ig kK;rw[C1 C];cases uk c.queue k<;>cases c.queue[k].write<;>cases AJ c.drain (qj c.queue c.queue.length) _<;>first|rfl|simp) (by
  unfold Jg az xG xI;dsimp only;rw[bq,au]) (bJ)
 rw[cc]at e D;unfold Pa bA
 refine(bx (λo=>Option.bind o _) e).trans ?_
 rw[ak]
 refine(bx (λo=>Option.bind o _) D).trans ?_
 rfl
def fG(c:av):aa aJ:=c.queue.map λr=>gQ c r.line
def um(c:av):(fG c).length=c.queue.length:=by unfold fG;rw[eM]
def aDM{c:av}{i:Nat}(h:i<c.queue.length)(C:i<(fG c).length):(fG c)[i]=gQ c c.queue[i].line:=by simp only[fG,List.getElem_map]
def R3{c:av}(h:Pq c){r:aU}(C:r∈c.queue):vr c r.line=some (gQ c r.line,true)/\dx c.config.ax (gQ c r.line)=true:=
 aCY h.p h.sp h.se h.mo (h.q r C).1.1 (h.q r C).1.2
def R4{c:av}(h:Pq c){r:aU}(C:r∈c.queue):xk c r.line=some (gQ c r.line):=
 aC0 h.p h.sp h.se h.mo (h.q r C).1.1 (h.q r C).1.2
def aDN{c:av}(h:Pq c):X4 c=some (fG c):=by
 have D:=h.ql;have e:=cz (step:=QN) c.queue.length (λi=>(((),(),c.queue,c.queue.length,i,()),(c,(c.queue.take i).map _,()))) (.inl (((),()),(fG c,()))) aS (λk C=>by
  have hl:((c.queue.take k).map (λr=>gQ c r.line)).length=k:=by simp;omega
  unfold QN az xG xI;dsimp only;rw[aZ,aq,aA ⟨by omega,by omega⟩];simp only[bC];rw[(R3 h (cS C)).1,ak,bE,hl,jO,cM,aq,qa C,List.map_append];rfl) (by
  unfold QN az xG xI;dsimp only;rw[bq,au,jz];rfl) (bJ)
 unfold X4 bA;simp_all
def aly{c:av}(h:Pq c):Jd c=some (fG c):=by
 have D:=h.ql;have e:=cz (step:=Jc) c.queue.length (λi=>((c,(),i,()),((c.queue.take i).map _,()))) (.inl (((),()),(fG c,()))) aS (λk C=>by
  have hl:((c.queue.take k).map (λr=>gQ c r.line)).length=k:=by simp;omega
  unfold Jc az xG xI;dsimp only;rw[aZ,aq,aA ⟨by omega,by omega⟩];simp only[bC];rw[R4 h (cS C),ak,bE,hl,jO,cM,aq,qa C,List.map_append];rfl) (by
  unfold Jc az xG xI;dsimp only;rw[bq,au,jz];rfl) (bJ)
 unfold Jd bA;simp_all
def zA:aJ:=⟨0,0,0⟩
def zQ:aU:=⟨0,0,0,false,0,0⟩
def fK(c:av)(i:Nat):aJ:=(fG c).getD i zA
def lR(c:av)(i:Nat):aU:=c.queue.getD i zQ
def C2{c:av}{i:Nat}(h:i<(fG c).length):(fG c)[i]=fK c i:=by
 unfold fK;rw[fj,bS h];rfl
def pn{c:av}{i:Nat}(h:i<c.queue.length):c.queue[i]=lR c i:=by
 unfold lR;rw[fj,bS h];rfl
def C3{c:av}(h:Pq c){i:Nat}(hi:i<c.queue.length):dx c.config.ax (fK c i)=true/\0 <= (fK c i).ay/\(fK c i).ay.toNat<c.bk.aB.length/\(fK c i).ay.toNat<c.aL.aH.length/\(fK c i).ay<aW c.config.ax/\0 <= (fK c i).row:=by
 have e:=aDM hi (by rw[um];exact hi);rw[C2]at e;have C:=(R3 h (cS hi)).2;rw[<- e]at C;have⟨_,D,E,I,L,O,T⟩:=q9 C;have:=h.p.bl;have:=h.dl;simp_all
def vT{c:av}(h:Pq c):c.bk.aB.length<=1048576:=by
 have:=h.p.bl;have:=eN c.config.ax;omega
def eo(c:av)(i:Nat):Bool:=vP c.bk (fK c i)
def aDO{c:av}(h:Pq c)(C:aa Int)(D:aa aJ)(Z:Int×Int×Int×Int×af)(P:Int×Int×Int×Int×Int×(aa Int)×Int×Int×af):iter La aS ((C,D,(),(),(),(),(0:Int),(0:Int),c.queue,(c.queue.length:Int),(0:Int),()),(c,Z,P,List.replicate c.queue.length false,()))=some (.inl ((C,D,(),(),(),(),qj c.queue c.queue.length,rC c.queue c.queue.length,()),(c,Z,P,(List.range c.queue.length).map (kK c.queue),()))):=by
 have L:=h.ql;have e:=cz (step:=La) c.queue.length (λi=>((C,D,(),(),(),(),qj c.queue i,rC c.queue i,c.queue,(c.queue.length:Int),(i:Int),()),(c,Z,P,rB (kK c.queue) c.queue.length i,()))) (.inl ((C,D,(),(),(),(),qj c.queue c.queue.length,rC c.queue c.queue.length,()),(c,Z,P,(List.range c.queue.length).map (kK c.queue),()))) aS (λk E=>by
  have O:=RZ (λi=>kK c.queue i && !qi c.queue i) k;have T:=RZ (λi=>kK c.queue i&&qi c.queue i) k;have I:kK c.queue k = !uk c.queue k:=rfl;have hl:=R0 (f:=kK c.queue) (n:=c.queue.length) (k:=k) (by omega);have U:((rB (kK c.queue) c.queue.length k).set k (!uk c.queue k)).length=c.queue.length:=by rw[iY,hl]
  rw[<- R1 E];unfold La az xG xI xL;dsimp only;rw[aZ,aq,aA ⟨by omega,by omega⟩,aDI E (by omega),ak,aA ⟨by omega,by omega⟩,aA,aA ⟨by omega,by simp only[bC];omega⟩,aA (by simp only[bC];omega),bE];simp only[bC,List.getElem_set_self];unfold qj rC at *
  rw[RY,RY];simp only[I,C1 E];cases uk c.queue k with
  | true=>
   simp[*]
  | false=>
   rw[gZ,aq];cases c.queue[k].write with
   |true=>rw[ aY];simp
   | false=>
    rw[au,aA ⟨by omega,by rw[iY];omega⟩,aA (by rw[iY];omega),aY];simp) (by
  unfold La az xG xI xL;dsimp only;rw[bq,au,R2]) (bJ)
 rw[cc,Zw]at e;exact e
def sJ(c:av):Nat->aa (Int×Bool)
 |0=>[]
 |k+1=>bif ig c k&&eo c k then nD (sJ c k) (fK c k).ay true else sJ c k
def yw(c:av)(k:Nat)(b:Int):Bool:=(List.range k).any λi=>ig c i&&eo c i&&b==(fK c i).ay
def alz(c:av)(b:Int):∀ k,mI (sJ c k) b=yw c k b
 |0=>rfl
 | k+1=>by
  have C:=alz c b k;have e:yw c (k+1) b=(yw c k b || (ig c k&&eo c k&&b==(fK c k).ay)):=by
   unfold yw
   grind
  rw[e,<- C];show mI (bif ig c k&&eo c k then nD _ (fK c k).ay true else sJ c k) b=_;cases ig c k&&eo c k with
  |false=>simp
  |true=>rw[aq,aBQ,cm,Bool.or_comm]
def aDP{c:av}(h:Pq c)(D:aa Int)(Z:Int×Int×Int×Int×af)(P:Int×Int×Int×Int×Int×(aa Int)×Int×Int×af):iter Lb aS ((D,fG c,(),(),(),(),qj c.queue c.queue.length,rC c.queue c.queue.length,(),(),(),c.queue,(c.queue.length:Int),(0:Int),()),(c,Z,P,(List.range c.queue.length).map (kK c.queue),List.replicate c.queue.length false,List.replicate c.queue.length false,([]:aa (Int×Bool)),()))=some (.inl ((D,fG c,(),(),(),(),(),(),()),(c,Z,P,(List.range c.queue.length).map (ig c),(List.range c.queue.length).map (eo c),sJ c c.queue.length,()))):=by
 have hq:=h.ql;have E:=vT h;have e:=cz (step:=Lb) c.queue.length (λi=>((D,fG c,(),(),(),(),qj c.queue c.queue.length,rC c.queue c.queue.length,(),(),(),c.queue,(c.queue.length:Int),(i:Int),()),(c,Z,P,(List.range c.queue.length).map (kK c.queue),rB (ig c) c.queue.length i,rB (eo c) c.queue.length i,sJ c i,()))) (.inl ((D,fG c,(),(),(),(),(),(),()),(c,Z,P,(List.range c.queue.length).map (ig c),(List.range c.queue.length).map (eo c),sJ c c.queue.length,()))) aS (λk C=>by
  have hl:=R0 (f:=ig c) (n:=c.queue.length) (k:=k) (by omega);have I:=R0 (f:=eo c) (n:=c.queue.length) (k:=k) (by omega);have L:=um c;have Zx:((List.range c.queue.length).map (kK c.queue)).length=c.queue.length:=by simp
  obtain⟨ho,O,T,o3,o4,U⟩:=C3 h C;have Y:=aC2 (r:=c.bk) (a:=fK c k) U O T E;have hd:ig c k=(kK c.queue k&&(AJ c.drain (qj c.queue c.queue.length) c.queue[k].write ||(!c.queue[k].write&&rC c.queue c.queue.length==0))):=by unfold ig;rw[C1 C]
  have hhb:sJ c (k+1)=bif ig c k&&eo c k then nD (sJ c k) (fK c k).ay true else sJ c k:=rfl;have jt:eo c k=vP c.bk (fK c k):=rfl;rw[<-R1 C,<-R1 C,hhb];unfold Lb az xG xI xL;dsimp only;rw[aZ,aq,aA ⟨by omega,by omega⟩,aA ⟨by omega,by omega⟩,aA];simp only[bC,yu C,aDJ _ _ h.dr,ak,C2,Y,bE (show k<4611686018427387904 by omega),List.getElem_set_self,iY,hl,I,L];rw[hd,jt];cases kK c.queue k<;>cases AJ c.drain (qj c.queue c.queue.length) c.queue[k].write<;>cases c.queue[k].write<;>cases vP c.bk (fK c k)<;>cases rC c.queue c.queue.length==0<;>simp[C]) (by
  unfold Lb az xG xI xL;dsimp only;rw[bq,au,R2,R2]) (bJ)
 rw[cc,Zw,Zw]at e;exact e
def R5(e:cq):cq:=⟨e.line,e.code,(if (999:Int)<(W6 (e.times+(1:Int)))then (999:Int)else (W6 (e.times+(1:Int))))⟩
def zEE:cq:=⟨0,0,0⟩
def uq(l:aa cq)(line code:Int):aa cq:=match l.findIdx? (lQ ⟨line,code,1⟩)with
 |some i=>l.set i (R5 (l.getD i zEE))
 |none=>bif ((l.length:Int)==(6:Int))then l.drop 1++[⟨line,code,1⟩]else l++[⟨line,code,1⟩]
def aDQ{l:aa cq}(h:kT l=true){line code:Int}(D:0<=line/\line<=1023)(E:code=1\/code=2):Qr l line code=some (uq l line code,true):=by
 have hl:l.length<=6:=by
  simp only[kT,aQ,gS]at h;omega
 have I:aP line 0 1023=true:=bG.2 D;unfold Qr KH uq bM xA xZ;rw[cM (by simp;omega),aq,ak,aj8 _ (by omega),ak,h,bK,au,dY,ak,I,bK,au,kZ];have e:=vE (step:=KI) l (lQ ⟨line,code,1⟩) (λk=>((line,code,(),(),(l.length:Int),(k:Int),()),(l,()))) (λi=>.inl (((),true,()),(l.set i (R5 (l.getD i zEE)),()))) (.inr (.inl ((line,code,(),()),(l,())))) aS (λk L=>by
  unfold KI lQ az aT xG xL;dsimp only;rw[aZ,aq,aA ⟨by omega,by omega⟩,aA];simp only[bC];rw[aA ⟨by omega,by omega⟩,aA,bE,mq _ L];cases l[k].line==line<;>cases l[k].code==code<;>rfl) (by
  unfold KI az aT xG xL;dsimp only;rw[bq,au]) (bJ)
 rw[cc]at e;have O:iter Xy aS ((line,code,(),(),(l.length:Int),(0:Int),()),(l,()))=_:=e;rcases E with rfl|rfl
 ·rw[bne_self_eq_false,au,O];cases l.findIdx? (lQ ⟨line,1,1⟩)with
  |some i=>rfl
  | none=>
   rw[ak,Sum.elim_inr,dZ];dsimp only;cases C:(l.length:Int)==(6:Int)with
   |false=>rw[au,au,cM (by simp;omega)];rfl
   | true=>
    have C:=eq_of_beq C;rw[aq,aq,bN ⟨by omega,by omega,by omega⟩,cM (by simp;omega),aq,ak,cM (by simp;omega),aq];simp
 ·rw[fZ (by omega),aq,bne_self_eq_false,au,e];cases l.findIdx? (lQ ⟨line,2,1⟩)with
  |some i=>rfl
  | none=>
   rw[ak,Sum.elim_inr,dZ];dsimp only;cases C:(l.length:Int)==(6:Int)with
   |false=>rw[au,au,cM (by simp;omega)];rfl
   | true=>
    have C:=eq_of_beq C;rw[aq,aq,bN ⟨by omega,by omega,by omega⟩,cM (by simp;omega),aq,ak,cM (by simp;omega),aq];simp
def aDR{l:aa cq}(h:kT l=true){line code:Int}(D:0 <= line/\line <= 1023)(U:code=1 \/ code=2):O1 l line code=some (uq l line code,true):=by
 have hl:l.length <= 6:=by
  simp only[kT,aQ,gS]at h;omega
 have E:aP line 0 1023=true:=bG.2 D;have I:aP 1 1 999=true:=rfl;have L:EF ⟨line,code,1⟩=some true:=by
  unfold EF;rw[dO,ak,E,dO,I]
  grind
 unfold O1 uq xA xC xZ;rw[cM (by simp;omega),aq,aj7,ak,h,bK,au,L,ak,bK,au];have C:=aj6 l ⟨line,code,1⟩ (by omega);dsimp only at C;rw[C,ak,kZ];unfold gL;cases hi:l.findIdx? (lQ ⟨line,code,1⟩)with
 | some i=>
  have⟨O,Y,Z⟩:=m8.1 hi;dsimp only;rw[aZ,aq,aA ⟨by omega,by omega⟩,aA,aA ⟨by omega,by omega⟩,aA];rw[mq _ O];rfl
 | none=>
  dsimp only;rw[bq,au];by_cases T:l.length=6
  ·rw[aZ,show ((l.length:Int)==6)=true by rw[T];rfl,bN ⟨by omega,by omega,by omega⟩,cM (by simp;omega),cM (by simp;omega)];simp
  ·rw[bq,au,kR (by omega),au,cM (by simp;omega),aq]
def Zy(c:av)(l:aa cq):av:=⟨c.config,c.box,c.now,c.bk,c.ready,c.array,c.spare,c.aL,c.bH,c.guard,c.pending,c.queue,c.shares,c.drain,c.aR,c.bY,l,c.trace,c.cr⟩
def C4(c:av)(n code:Int):av:=bif code != 0 then Zy c (uq c.errors n code)else c
def aDS{c:av}(h:kT c.errors=true){n code:Int}(C:0<=n/\n<=1023)(h2:code=0\/code=1\/code=2):Aq c n code=some ((),(C4 c n code,())):=by
 unfold Aq C4;rcases h2 with rfl|h2
 ·rfl
 ·rw[aDQ h C h2,fZ (by omega)];rfl
def alA{c:av}(h:kT c.errors=true){n code:Int}(C:0<=n/\n<=1023)(h2:code=0\/code=1\/code=2):Cb c n code=some ((),(C4 c n code,())):=by
 unfold Cb C4;rcases h2 with rfl|h2
 ·rfl
 ·rw[aDR h C h2,fZ (by omega)];rfl
def alB(q:aa aU):Prop:=∀i (h:i<q.length),(q.take i).any (λx=>x.id==q[i].id)=false
def aDT{q:aa aU}{i:Nat}(h:i<q.length)(hl:q.length<=12):Qt q (i:Int) (W6 ((i:Int)+1))=some (q.take i++q.drop (i+1),([],())):=by
 have C:(splice q i ((q.take ((q.length:Int).toNat)).drop (i+1))).length=q.length:=by
  rw[sR _ _ _ (by simp;omega)]
 have E:((q.take ((q.length:Int).toNat)).drop (i+1))=q.drop (i+1):=by rw[bC,jz]
 unfold Qt;rw[bE,bN ⟨by omega,by omega,by omega,by omega⟩,kR (by omega),au,bN ⟨by omega,by omega,by omega⟩,bN ⟨by omega,by omega,by omega⟩];simp only[bC]at C ⊢;rw[bN ⟨by omega,by omega,by omega,by omega⟩,bN ⟨by omega,by omega,by omega⟩,bN ⟨by omega,by omega⟩];have D:i+(q.length-(i+1))-0=i+(q.length-(i+1)):=by omega
 rw[D,Zp _ _ _ (by omega)];unfold splice;rw[jz,List.take_append_of_le_length (by simp;omega),List.take_of_length_le (by simp;omega)]
def aDU{q:aa aU}(C:alB q){i:Nat}(h:i<q.length)(hl:q.length <= 12):OR q q[i].id=some (q.take i++q.drop (i+1),true):=by
 have D:q.findIdx? (λr=>r.id==q[i].id)=some i:=by
  rw[m8]
  refine⟨h,by simp,λj E=>?_⟩
  have:=List.any_eq_false.1 (C i h) q[j] (jN.2 ⟨j,by rw[gF];omega,by rw[List.getElem_take]⟩);simp_all
 unfold OR xA xZ;rw[YF _ _ (by omega),ak];unfold gL;rw[D];dsimp only;rw[bq,au,bN ⟨by omega,by omega,by omega⟩,cM (by simp;omega),aq,bE,bN ⟨by omega,by omega,by omega⟩,cM (by simp;omega),aq];simp_all
def vU:aU:=⟨0,0,0,false,0,0⟩
def AL(s:aa cw)(t:Int):aa cw:=match pZ s ((List.replicate 4 false).set t.toNat true)with
 |some (l,_)=>l
 |none=>[]
def ot(c:av)(i:Nat)(a:dU)(e:aa cq)(x:eR):av:=
 ⟨c.config,c.box,c.now,c.bk,c.ready,a,c.spare,c.aL,c.bH,c.guard,c.pending,c.queue.take i++c.queue.drop (i+1),AL c.shares (c.queue.getD i vU).dh,c.drain,c.aR,c.bY,e,c.trace,c.cr++[x]⟩
def ur(c:av)(i:Nat):av:=
 let r:=c.queue.getD i vU
 let n:=iB c.config.ax (gQ c r.line)
 bif r.write then ot c i ⟨c.array.cells.set n ⟨C0 r.data,false⟩,c.array.br,c.array.bh⟩ c.errors ⟨r.id,c.now,0,0⟩
 else ot c i ⟨c.array.cells.set n (sI (c.array.cells.getD n vM)),c.array.br,c.array.bh⟩ (bif mw (c.array.cells.getD n vM) != 0 then uq c.errors (n:Int) (mw (c.array.cells.getD n vM))else c.errors) ⟨r.id,c.now,L2 (c.array.cells.getD n vM),mw (c.array.cells.getD n vM)⟩
def R6{d:bX}(h:Sy d.symbols):mw d=0 \/ mw d=1 \/ mw d=2:=by
 have⟨E,C,D⟩:=RX h;unfold mw;cases d.jb with
 |true=>simp_all
 |false=>exact(CU C D).2.2
structure ou (c:av) (i:Nat) (B:Int):Prop where
 ad:∀r∈c.queue,vr c r.line=some (gQ c r.line,true)/\dx c.config.ax (gQ c r.line)=true
 tn:∀r∈c.queue,0<=r.dh/\r.dh<=3
 ql:c.queue.length<=12
 sh:iA c.shares=true
 shl:c.shares.length=4
 u:alB c.queue
 i:i<c.queue.length
 d:∀r∈c.queue,0<=r.data/\r.data<=4294967295
 a:fy c.config.ax B c.array
 e:kT c.errors=true
 r:c.cr.length<=1000
def ou.facts{c:av}{i:Nat}{B:Int}(h:ou c i B){r:aU}(C:r∈c.queue):vr c r.line=some (gQ c r.line,true)/\p9 c.config.ax (gQ c r.line)=(iB c.config.ax (gQ c r.line):Int)/\iB c.config.ax (gQ c r.line)<c.array.cells.length/\(iB c.config.ax (gQ c r.line):Int) <= 1023/\pZ c.shares ((List.replicate 4 false).set r.dh.toNat true)=some (AL c.shares r.dh,(pZ c.shares ((List.replicate 4 false).set r.dh.toNat true)).get!.2)/\0 <= r.dh/\r.dh.toNat<4:=by
 obtain⟨D,E⟩:=h.ad _ C;have I:=h.tn _ C;obtain⟨L,O⟩:=LF E;have T:=h.a.cells;have hl:=mQ c.config.ax;obtain⟨y,t,e,_⟩:=Zh ((List.replicate 4 false).set _ true) (by have:=h.shl;omega) h.sh (by simp[h.shl]);refine⟨D,L,by omega,by omega,?_,I.1,by omega⟩;unfold AL;rw[e];rfl
def alC{c:av}{i:Nat}{B:Int}(h:ou c i B):Qv c (i:Int)=some ((),(ur c i,())):=by
 have hi:=h.i;have⟨f1,f3,f4,f5,f6,f7,f8⟩:=h.facts (cS hi);have C:=h.d _ (cS hi);have D:=h.a.syms _ (cS f4);have E:c.queue.getD i vU=c.queue[i]:=mq _ hi;have L:=h.r;unfold Qv xL;rw[aA ⟨by omega,by omega⟩,aA];simp only[bC];rw[f1,ak,aDT hi h.ql,ak,bN (by decide)];have I:(4:Int).toNat=4:=rfl;rw[I,aA ⟨f7,by simpa using f8⟩,aA (by simpa using f8)];dsimp only;rw[f6,ak];dsimp only;unfold ur;rw[E];dsimp only;cases hw:c.queue[i].write with
 | true=>
  rw[ Yl,ak,(L0 C.1 C.2).1,ak,aA ⟨by omega,by omega⟩,aA,cM (by simp;omega)];unfold ot;simp_all
 | false=>
  rw[au,au,Yl,ak,f3,mq _ f4]
  refine(bx (λo=>Option.bind o _) (aDG (c:=⟨c.config,c.box,c.now,c.bk,c.ready,c.array,c.spare,c.aL,c.bH,c.guard,c.pending,c.queue.take i++c.queue.drop (i+1),AL c.shares c.queue[i].dh,c.drain,c.aR,c.bY,c.errors,c.trace,c.cr⟩) f4 D)).trans ?_
  rw[ak];unfold vS cQ;dsimp only;rw[cM (by simp;omega),aq,ak]
  refine(bx (λo=>Option.bind o _) (aDS (by exact h.e) ⟨by omega,f5⟩ (R6 D))).trans ?_
  rw[ak];unfold C4 ot Zy;rw[E];dsimp only;cases mw c.array.cells[iB c.config.ax (gQ c c.queue[i].line)] != 0<;>rfl
def alD{c:av}{i:Nat}{B:Int}(h:ou c i B)(I:∀ r∈c.queue,xk c r.line=some (gQ c r.line)):O2 c (i:Int)=some ((),(ur c i,())):=by
 have hi:=h.i;have⟨f1,f3,f4,f5,f6,f7,f8⟩:=h.facts (cS hi);have f2:=I _ (cS hi);have C:=h.d _ (cS hi);have D:=h.a.syms _ (cS f4);have E:c.queue.getD i vU=c.queue[i]:=mq _ hi;have O:=h.r;unfold O2 xL;rw[aA ⟨by omega,by omega⟩,aA];simp only[bC];rw[f2,ak,Q4,ak,f3,aDU h.u hi h.ql,ak,bN (by decide)];have L:(4:Int).toNat=4:=rfl;rw[L,aA ⟨f7,by simpa using f8⟩,aA (by simpa using f8)];dsimp only;rw[ak2 _ _ (by have:=h.shl;omega),f6,ak];dsimp only;unfold ur;rw[E];dsimp only;cases hw:c.queue[i].write with
 | true=>
  rw[ alq C.1 C.2,ak,aA ⟨by omega,by omega⟩,aA,cM (by simp;omega)];unfold ot;simp_all
 | false=>
  rw[au,au,mq _ f4]
  refine(bx (λo=>Option.bind o _) (alv (c:=⟨c.config,c.box,c.now,c.bk,c.ready,c.array,c.spare,c.aL,c.bH,c.guard,c.pending,c.queue.take i++c.queue.drop (i+1),AL c.shares c.queue[i].dh,c.drain,c.aR,c.bY,c.errors,c.trace,c.cr⟩) f4 D)).trans ?_
  rw[ak];dsimp only
  refine(bx (λo=>Option.bind o _) (alA (by exact h.e) ⟨by omega,f5⟩ (R6 D))).trans ?_
  rw[ak];unfold C4 ot Zy vS cQ;rw[E];dsimp only;cases mw c.array.cells[iB c.config.ax (gQ c c.queue[i].line)] != 0 with
  | true=>
   rw[aq];rw[cM (by simp;omega)];rfl
  | false=>
   rw[au];rw[cM (by simp;omega)];rfl
def dN(c:av)(x:aF):av:=⟨c.config,c.box,c.now,gj c.bk x,tY c.config.ax c.ready ⟨c.now,x⟩,c.array,c.spare,c.aL,c.bH,c.guard,c.pending,c.queue,c.shares,c.drain,c.aR,c.bY,c.errors,c.trace++[⟨c.now,x⟩],c.cr⟩
def alE(c:av)(p:fE):av:=⟨c.config,c.box,c.now,c.bk,c.ready,c.array,c.spare,c.aL,c.bH,c.guard,c.pending,c.queue,c.shares,c.drain,p,c.bY,c.errors,c.trace,c.cr⟩
def qk(c:av)(r:dn):av:=⟨c.config,c.box,c.now,c.bk,c.ready,c.array,c.spare,r,c.bH,c.guard,c.pending,c.queue,c.shares,c.drain,c.aR,c.bY,c.errors,c.trace,c.cr⟩
def alF(c:av)(r:cD):av:=⟨c.config,c.box,c.now,r,c.ready,c.array,c.spare,c.aL,c.bH,c.guard,c.pending,c.queue,c.shares,c.drain,c.aR,c.bY,c.errors,c.trace,c.cr⟩
def C5(c:av)(k:Int):av:=alE c (ym c.aR k c.now)
def R7(c:av)(b:Int):av:=qk (LY c b (c.pending.filter (λa=>!(a.ay==b)))) (vQ c.aL b)
def sK(c:av)(x:aF)(i:Int):av:=
 bif x.kind==1 then uh (dN c x) x else
 bif x.kind==5 then R7 (dN c x) x.ay else
 bif x.kind==2 ||x.kind==3 then ur (dN c x) i.toNat else
 bif x.kind==4 then dN c x else
 bif x.kind==9 then gN (C5 (dN c x) 9) c.bH.length []else C5 (dN c x) x.kind
structure Bs (c:av):Prop where
 w:uj 100000 c
 u:vR c.pending
 pk:∀a∈c.pending,0<=a.ay/\a.ay<aW c.config.ax
 zt:∀t∈c.bH,jK t
 rf:ff c.aL=true
 bl:(c.bk.aB.length:Int)=aW c.config.ax
 l1:c.ready.last.length<1073741824
 l2:c.ready.bf.length<1073741824
 tl:c.trace.length<10000
def Bs.dN{c:av}(h:Bs c)(x:aF):uj 100000 (dN c x):=⟨h.w.hB,h.w.g,h.w.a,h.w.k,h.w.p,h.w.t,h.w.d,h.w.r⟩
def ou.dN{c:av}{n:Nat}{B:Int}(h:ou c n B)(x:aF):ou (dN c x) n B:=⟨h.ad,h.tn,h.ql,h.sh,h.shl,h.u,h.i,h.d,h.a,h.e,h.r⟩
def aDV{c:av}(h:uj 100000 c):iter xP aS (((),(c.bH.length:Int),(0:Int),()),((⟨c.config,c.box,c.now,c.bk,c.ready,c.array,c.spare,c.aL,c.bH,c.guard,([]:aa aJ),c.queue,c.shares,c.drain,c.aR,c.bY,c.errors,c.trace,c.cr⟩:av),()))=some (.inl ((),(gN c c.bH.length [],()))):=aDn h
def aDW{c:av}{x:aF}(C:1 <= x.kind/\x.kind <= 9)(hb:x.kind <= 5 -> 0 <= x.ay/\x.ay.toNat<c.bk.aB.length):O5 c x=some ((),(alF c (gj c.bk x),())):=by
 unfold O5 gj alF xL;rcases kinds C with h|h|h|h|h|h|h|h|h<;>(try (have hb:=hb _))<;>simp[h,hb]
def R8{g:aN}{x:aF}(h:dI g x=true)(C:x.kind=1):0 <= x.row/\x.row<g.rows:=by
 simp[dI,aQ]at h;have D:=h.2.2.2.1;rw[sD,C,show ((1:Int)==1)=true from rfl,aq,bG]at D;omega
def aDX{c:av}(h:Bs c){x:aF}(E:mT c.config.ax c.bk x=true){i:Int}(I:x.kind=2 \/ x.kind=3 -> ou c i.toNat 100000/\0 <= i):Fs c x i=some ((),(sK c x i,())):=by
 have⟨hg,hlen,L,hb⟩:=FI E;have O:dI c.config.ax x=true:=by
  simp only[mT,aQ]at E
  grind
 have b1:=eN c.config.ax;have w:=h.dN x;have ht:=h.w.t;have hd:=h.w.d;have hr:=h.w.r;have R9:=h.tl;have er:Kv c.config.ax c.bk x=some (gj c.bk x,true):=by
  rw[aBB _ _ _ (by omega)];unfold YS;simp_all
 unfold Fs sK bA;rw[cM (by simp;omega),aq,aBI _ _ _ h.l1 h.l2,ak,er,ak];rcases kinds L with q|q|q|q|q|q|q|q|q<;>rw[q]<;>simp only[Int.reduceBEq,Int.reduceBNe,aq,au,Bool.or_true,Bool.or_false,Bool.true_or,Bool.false_or,Bool.or_self]
 ·have⟨C,T⟩:=hb (by omega);have⟨U,Y⟩:=R8 O q
  refine(bx (λo=>Option.bind o _) (aDj (c:=dN c x) x w.g w.a w.p h.zt C (by show x.ay<aW c.config.ax;omega) U Y (by show x.ay.toNat<c.bH.length;omega) (by show x.ay.toNat<c.guard.length;omega))).trans ?_
  rfl
 ·have⟨s,D⟩:=I (.inl q);have e:=alC (s.dN x);rw[Int.toNat_of_nonneg D]at e
  refine(bx (λo=>Option.bind o _) e).trans ?_
  rfl
 ·have⟨s,D⟩:=I (.inr q);have e:=alC (s.dN x);rw[Int.toNat_of_nonneg D]at e
  refine(bx (λo=>Option.bind o _) e).trans ?_
  rfl
 ·rfl
 ·have⟨C,T⟩:=hb (by omega);have⟨y,Z⟩:=aDb h.rf (b:=x.ay) C (by omega)
  refine(bx (λo=>Option.bind o _) (ale w.hB (dN c x) w.g w.a C (by show x.ay<aW c.config.ax;omega))).trans ?_
  rw[ak];unfold cQ;dsimp only;rw[aDf _ _ (by show c.pending.length<1000000;have:=h.w.p;omega),ak];dsimp only
  refine(bx (λo=>Option.bind o _) (alf _ (by exact w.k) C (by show x.ay.toNat<c.bH.length;omega) (by show x.ay.toNat<c.guard.length;omega))).trans ?_
  rw[ak];unfold qf;dsimp only
  refine(bx (λo=>Option.bind o _) Z).trans ?_
  rfl
 ·have⟨y,e⟩:=RQ c.aR (k:=6) (by omega) c.now;rw[e,ak];rfl
 ·have⟨y,e⟩:=RQ c.aR (k:=7) (by omega) c.now;rw[e,ak];rfl
 ·have⟨y,e⟩:=RQ c.aR (k:=8) (by omega) c.now;rw[e,ak];rfl
 ·have⟨y,e⟩:=RQ c.aR (k:=9) (by omega) c.now;rw[e,ak]
  refine(bx (λo=>Option.bind o _) (aDV (c:=C5 (dN c x) 9) ⟨w.hB,w.g,w.a,w.k,w.p,w.t,w.d,w.r⟩)).trans ?_
  rfl
def alG{c:av}(h:Bs c){x:aF}(E:mT c.config.ax c.bk x=true){i:Int}(I:x.kind=2 \/ x.kind=3 -> ou c i.toNat 100000/\0 <= i)(L:∀ r∈c.queue,xk c r.line=some (gQ c r.line)):xy c x i=some ((),(sK c x i,())):=by
 have⟨hg,hlen,O,hb⟩:=FI E;have T:dI c.config.ax x=true:=by
  simp[mT,aQ]at E;simp_all
 have b1:=eN c.config.ax;have w:=h.dN x;have ht:=h.w.t;have hd:=h.w.d;have hr:=h.w.r;have R9:=h.tl;unfold xy sK bA;rw[cM (by simp;omega),aq,aBJ _ _ _ h.l1 h.l2,ak]
 refine(bx (λo=>Option.bind o _) (aDW O (λU=>by have:=hb U;exact⟨this.1,this.2⟩))).trans ?_
 rw[ak];rcases kinds O with q|q|q|q|q|q|q|q|q<;>rw[q]<;>simp only[Int.reduceBEq,Int.reduceBNe,aq,au,Bool.or_true,Bool.or_false,Bool.true_or,Bool.false_or,Bool.or_self]
 ·have⟨C,Y⟩:=hb (by omega);have⟨Z,r1⟩:=R8 T q
  refine(bx (λo=>Option.bind o _) (aDk (c:=dN c x) x w.g w.a w.p h.u h.zt C (by show x.ay<aW c.config.ax;omega) Z r1 (by show x.ay.toNat<c.bH.length;omega) (by show x.ay.toNat<c.guard.length;omega))).trans ?_
  rfl
 ·have⟨s,D⟩:=I (.inl q);have e:=alD (s.dN x) L;rw[Int.toNat_of_nonneg D]at e
  refine(bx (λo=>Option.bind o _) e).trans ?_
  rfl
 ·have⟨s,D⟩:=I (.inr q);have e:=alD (s.dN x) L;rw[Int.toNat_of_nonneg D]at e
  refine(bx (λo=>Option.bind o _) e).trans ?_
  rfl
 ·rfl
 ·have⟨C,Y⟩:=hb (by omega);have⟨y,e4⟩:=aDa h.rf (b:=x.ay) C (by omega)
  refine(bx (λo=>Option.bind o _) (alg w.hB (dN c x) w.g w.a w.k w.p C (by show x.ay<aW c.config.ax;omega) (by show x.ay.toNat<c.bH.length;omega) (by show x.ay.toNat<c.guard.length;omega))).trans ?_
  rw[ak]
  refine(bx (λo=>Option.bind o _) e4).trans ?_
  rfl
 ·have⟨y,e⟩:=RR c.aR (k:=6) (by omega) c.now
  refine(bx (λo=>Option.bind o _) e).trans ?_
  rfl
 ·have⟨y,e⟩:=RR c.aR (k:=7) (by omega) c.now
  refine(bx (λo=>Option.bind o _) e).trans ?_
  rfl
 ·have⟨y,e⟩:=RR c.aR (k:=8) (by omega) c.now
  refine(bx (λo=>Option.bind o _) e).trans ?_
  rfl
 ·have⟨y,e⟩:=RR c.aR (k:=9) (by omega) c.now
  refine(bx (λo=>Option.bind o _) e).trans ?_
  rw[ak]
  refine(bx (λo=>Option.bind o _) (aDp (c:=C5 (dN c x) 9) ⟨w.hB,w.g,w.a,w.k,w.p,w.t,w.d,w.r⟩ (by show (gj c.bk x).aB.length=c.bH.length;rw[akq];omega) h.pk)).trans ?_
  rfl
def aDY{l m:aa Int}(h:l.length=m.length)(D:(l.zip m).all vC=true):(∀ x∈l,0 <= x/\x <= 100000) /\ ∀ x∈m,0 <= x/\x <= 100000:=by
 rw[cv]at D;have key:∀ i _ (E:i<m.length),(0 <= l[i]/\l[i] <= 100000)/\(0 <= m[i]/\m[i] <= 100000):=λi L E=>by
  have I:i<(l.zip m).length:=by rw[List.length_zip];omega
  have:=D _ (cS I);rw[List.getElem_zip]at this;simp[vC,aQ,bG]at this;exact this
 constructor
 ·intro x C;obtain⟨i,hi,rfl⟩:=jN.1 C
  grind
 ·intro x C;obtain⟨i,hi,rfl⟩:=jN.1 C;simp_all
def fy.vV{g:aN}{a:dU}(h:od g a=true):fy g 100000 a:=by
 simp only[od,aQ,gS]at h;have⟨Y,C,D,E,I,L⟩:=h;have⟨O,T⟩:=aDY (by omega) L
 refine⟨C,λc U=>?_,D,E,O,T⟩
 exact Sy.of (cv.1 I c U)
def Bs.of{c:av}(D:dg c)(h:dP c=true)(I:c.trace.length<10000):Bs c:=by
 have E:=Pq.of D h;have z1:c.box.bz.weights.length <= 1048576:=D.1.1;have h0:=h;simp only[dP,aQ]at h;have⟨L,h2,h3,h4,O,T,h7,h8,C,FH,AA,pR,sx,vH,ya,vI,At,Au,FP,LQ,xu,LR⟩:=h;have⟨f1,f2⟩:=FT (by omega) L;simp only[nH,aQ]at f1;simp only[qd,aQ,fT,iq,qw,cv,fz]at C;have⟨C,U,Y,Z,g4,g5,g6⟩:=C;have uG:=E.pl;have⟨hg,rl,ra⟩:=Ru O;have b1:=eN c.config.ax
 refine⟨⟨by decide,hg,fy.vV T,f1.2.2.2.2.2.1,by omega,Y,Z,U⟩,λi hi=>?_,λa ha=>?_,D.2.2.2.2.2.2.1.2,C,E.p.bl,by omega,by omega,I⟩
 ·have hb:=g6 i hi;unfold tX at hb
  grind
 ·have⟨_,k1,k2,_⟩:=q9 (E.pe a ha);simp_all
def ou.of{c:av}(L:dg c)(h:dP c=true){n:Nat}(O:n<c.queue.length)(C:c.cr.length <= 1000):ou c n 100000:=by
 have D:=Pq.of L h;simp[dP,aQ]at h;have⟨Y,Z,h3,h4,h5,T,h7,h8,h9,E,AA,pR,sx,vH,ya,vI,At,Au,FP,U,xu,LR⟩:=h;simp[jl,aQ,cv,fz]at E;have⟨I,q2⟩:=E
 refine⟨λr C=>R3 D C,λr C=>(D.q r C).2.1,D.ql,D.sh,D.shl,λi hi=>?_,O,λr C=>?_,fy.vV T,U,C⟩
 ·cases i with
  |zero=>simp
  | succ i=>
   have hb:=I _ hi;rw[Lv hi]at hb;simp_all
 ·obtain⟨i,hi,rfl⟩:=jN.1 C;have hb:=I i hi;unfold rz at hb;rw[bS hi]at hb;simp[o8,Ri,aQ,bG]at hb;simp_all
def vW{g:aN}{B:Int}{a:dU}(h:fy g B a):Rz a:=by
 have D:=h.cells;have E:=h.br;have I:=h.bh;have L:=mQ g;have O:=p7 g;exact⟨⟨by omega,λc C=>by unfold LH;rw[(h.syms c C).1];omega⟩,by omega,by omega⟩
def Zz{l:aa ck}(h:l.length <= 1048576 /\ ∀y∈l,jK y){t:ck}(C:jK t)(i:Nat):(l.set i t).length <= 1048576 /\ ∀y∈l.set i t,jK y:=by grind
def alH{k:Int}(h:aP k 1 16=true):jK (yl k):=by
 have:=bG.1 h;unfold yl jK
 grind
def aDZ{t:ck}(h:jK t)(row dm:Int):jK (ug t row dm).1:=by
 have hl:=Zm (t:=t) row;unfold jK at h ⊢;unfold ug
 grind
def aD0{c:av}(E:dg c)(I:c.ready.bf.length <= 4)(ht:c.trace.length <= 10000)(x:aF):dg (dN c x):=by
 have⟨L,C,⟨O,z4⟩,T,U,Y,Z,z9,fq,gD,jx,jy,fR,kV⟩:=E;have D:=aBP c.config.ax c.ready ⟨c.now,x⟩;refine⟨L,by unfold Ry at C ⊢;show (gj _ x).aB.length <= _;rw[akq];exact C,⟨by show (tY _ _ _).last.length <= _;rw[D.1];exact O,Nat.le_trans (D.2 I) (by decide)⟩,T,U,Y,Z,z9,fq,gD,jx,jy,by simp[dN];omega,kV⟩
def Sa{c:av}(D:dg c){a:dU}(E:Rz a){r:dn}(I:yc r){t:aa ck}(L:t.length <= 1048576 /\ ∀ y∈t,jK y){C:aa Int}(O:C.length <= 1048576){pd:aa aJ}(T:pd.length <= 1048576)(pw:fE):dg ⟨c.config,c.box,c.now,c.bk,c.ready,a,c.spare,r,t,C,pd,c.queue,c.shares,c.drain,pw,c.bY,c.errors,c.trace,c.cr⟩:=by
 have⟨U,Y,Z,z5,z6,z7,z8,z9,fq,gD,jx,jy,fR,kV⟩:=D;exact⟨U,Y,Z,E,z6,I,L,O,T,gD,jx,jy,fR,kV⟩
def aD1{c:av}(C:dg c)(h:uj 100000 c)(x:aF)(D:0 <= x.ay)(E:x.ay<aW c.config.ax)(I:0 <= x.row)(L:x.row<c.config.ax.rows):dg (uh c x):=by
 have zt:=C.2.2.2.2.2.2.1;have hb:x.ay.toNat<c.bH.length:=by have:=h.t;omega
 have O:=h.p;refine Sa C (vW (Y6 h.g _ h.hB h.a D E I L)) C.2.2.2.2.2.1 (Zz zt ?_ _) C.2.2.2.2.2.2.2.1 ?_ _
 ·unfold sH;rw[mq];exact aDZ (zt.2 _ (cS hb)) _ _
 ·have T:(oq c x).length <= c.pending.length:=List.length_filter_le _ _;have U:=Zq c.config.ax.rows x.row;have Y:=RS x.ay (mm c.config.ax.rows x.row) (oq c x)
  grind
def alI(r:dn)(b:Int):(vQ r b).aH.length=r.aH.length:=by
 unfold vQ;cases decide (r.aH.getD b.toNat 0 = -2)<;>simp
def aD2{c:av}(C:dg c)(h:uj 100000 c){b:Int}(D:0 <= b)(E:b<aW c.config.ax):dg (R7 c b):=by
 have⟨_,_,_,_,I,L,O,T⟩:=fm h.g;have zt:=C.2.2.2.2.2.2.1;have U:=h.p;have Y:=Zr (λa:aJ=>!(a.ay==b)) c.pending;exact Sa C (vW (FU h.g _ h.hB h.a D E _ (by omega))) (by unfold yc;rw[alI];exact C.2.2.2.2.2.1) (Zz zt (alH h.k) _) (by show (c.guard.set _ _).length <= _;rw[iY];exact C.2.2.2.2.2.2.2.1) (by show (c.pending.filter _).length <= _;omega) _
def alJ{l:aa ck}(h:l.length<=1048576/\∀ y∈l,jK y){t:ck}(C:jK t):∀ k:Nat,((List.range k).foldl (λd b=>d.set b t) l).length<=1048576/\∀ y∈(List.range k).foldl (λd b=>d.set b t) l,jK y
 |0=>h
 |k+1=>by rw[yo];exact Zz (alJ h C k) C k
def aD3{c:av}(C:dg c)(h:uj 100000 c)(k:Nat)(D:(k:Int)<=aW c.config.ax):dg (gN c k []):=
 Sa C (vW (RT h.g c.config.cA h.hB h.a k D)) (by unfold yc;rw[yp];exact C.2.2.2.2.2.1) (alJ C.2.2.2.2.2.2.1 (alH h.k) k) (by rw[yp];exact C.2.2.2.2.2.2.2.1) (by simp) c.aR
def alK{l:aa cq}(n code:Int):(uq l n code).length <= l.length+1:=by
 unfold uq
 grind
def alL{c:av}(I:dg c){i:Nat}(h:ou c i 100000):dg (ur c i):=by
 have⟨L,O,T,z5,U,Y,Z,z9,fq,gD,jx,jy,fR,kV⟩:=I;have hi:=h.i;have hql:=h.ql;have hr:=h.r;have⟨f1,f3,f4,f5,f6,f7,f8⟩:=h.facts (cS hi);have C:c.queue.getD i vU=c.queue[i]:=mq _ hi;have D:=h.d _ (cS hi);have VQ:(AL c.shares c.queue[i].dh).length <= 1048576:=by
  have⟨y,t,e,hl⟩:=Zh ((List.replicate 4 false).set c.queue[i].dh.toNat true) (by have:=h.shl;omega) h.sh (by simp[h.shl])
  grind
 have iT:c.errors.length <= 6:=by
  have E:=h.e;simp only[kT,aQ,gS]at E;omega
 have key:∀ (a:dU) (e:aa cq) (x:eR),Rz a -> e.length <= 100 -> dg (ot c i a e x):=λa e x ha E=>
  ⟨L,O,T,ha,U,Y,Z,z9,fq,by simp[ot];omega,by unfold ot;rw[C];exact VQ,by show e.length <= _;omega,fR,by simp[ot];omega⟩
 unfold ur;rw[C];dsimp only;cases c.queue[i].write with
 |true=>exact key _ _ _ (vW (h.a.CT _ (c:=⟨_,false⟩) (L0 D.1 D.2).2.1)) (by omega)
 | false=>
  rw[au,mq _ f4];refine key _ _ _ (vW (h.a.CT _ (Zs (h.a.syms _ (cS f4))))) ?_;have:=alK (l:=c.errors) (iB c.config.ax (gQ c c.queue[i].line):Int) (mw c.array.cells[iB c.config.ax (gQ c c.queue[i].line)]);cases mw c.array.cells[iB c.config.ax (gQ c c.queue[i].line)] != 0 with
  |true=>grind
  |false=>grind
def alM{c:av}(L:dg c)(h:Bs c)(O:c.ready.bf.length <= 4){x:aF}(E:mT c.config.ax c.bk x=true){i:Int}(I:x.kind=2 \/ x.kind=3 -> ou c i.toNat 100000/\0 <= i):dg (sK c x i):=by
 have⟨hg,hlen,T,hb⟩:=FI E;have U:dI c.config.ax x=true:=by
  simp[mT,aQ]at E;simp_all
 have w:=h.dN x;have ht:=h.w.t;have R9:=h.tl;have z:=aD0 L O (by omega) x;have C:∀k,dg (C5 (dN c x) k):=λk=>Sa z z.2.2.2.1 z.2.2.2.2.2.1 z.2.2.2.2.2.2.1 z.2.2.2.2.2.2.2.1 z.2.2.2.2.2.2.2.2.1 _
 unfold sK;rcases kinds T with q|q|q|q|q|q|q|q|q<;>rw[q]<;>simp
 ·have⟨D,Y⟩:=hb (by omega);have⟨Z,r1⟩:=R8 U q;exact aD1 z w x D (by show _<aW c.config.ax;omega) Z r1
 ·exact alL z ((I (.inl q)).1.dN x)
 ·exact alL z ((I (.inr q)).1.dN x)
 ·exact z
 ·have⟨D,Y⟩:=hb (by omega);exact aD2 z w D (by show x.ay<aW c.config.ax;omega)
 ·exact C 6
 ·exact C 7
 ·exact C 8
 ·exact aD3 (C 9) ⟨w.hB,w.g,w.a,w.k,w.p,w.t,w.d,w.r⟩ _ (by show (c.bH.length:Int) <= aW c.config.ax;omega)
def nK(c:av)(b:Int):Bool:=decide (c.aL.aH.getD b.toNat 0 >= 4)
def L3(c:av)(b:Int):Bool:=c.pending.any λa=>a.ay==b
def mZ(c:av)(i:Nat):aF:=CZ c.bk (fK c i) (qi c.queue i)
def Sb(c:av)(i:Nat):Bool:=decide (c.now-(lR c i).at_<c.box.bz.cap)
def kX(c:av)(i:Nat):Bool:=
 ig c i&&(!nK c (fK c i).ay&&(dj c (mZ c i)&&(!(((mZ c i).kind==1 ||(mZ c i).kind==4)&&L3 c (fK c i).ay) && !((mZ c i).kind==4&&(yw c c.queue.length (fK c i).ay&&Sb c i)))))
def aD4{l:aa Int}{b:Int}(C:0 <= b)(h:b.toNat<l.length):∀ i:Nat,(((i:Int)+b)∈cF i l) ↔ l.getD b.toNat 0 >= 4:=by
 obtain⟨n,rfl⟩:=fA C;rw[bC]at *
 clear C
 induction l generalizing n with
 |nil=>simp at h
 | cons d l E=>
  intro i;have I:∀ x∈cF (i+1) l,(i:Int)+1 <= x:=λx D=>by
   have⟨j,L,_,_⟩:=akZ D;omega
  have e:cF i (d::l)=bif decide (d >= 4)then (i:Int)::cF (i+1) l else cF (i+1) l:=rfl
  grind
def ZA{c:av}{b:Int}(hl:c.aL.aH.length <= 8)(C:0 <= b)(h:b.toNat<c.aL.aH.length):xS (cF 0 c.aL.aH) b=some (nK c b):=by
 have E:=CY 0 c.aL.aH;have D:=aD4 C h 0;rw[cc,Int.zero_add]at D;unfold xS;rw[Ro _ _ (by omega),ak];congr 1;unfold nK gL
 grind
def Sc{c:av}{b:Int}(hl:c.aL.aH.length <= 8)(C:0 <= b)(h:b.toNat<c.aL.aH.length):Ch c b=some (nK c b):=by
 unfold Ch nK xI;simp_all
def alN{c:av}(h:Pq c){i:Nat}(hi:i<c.queue.length):dI c.config.ax (mZ c i)=true:=aC3 _ (C3 h hi).1
def rD(c:av):Nat->aa Bool
 |0=>List.replicate 4 false
 |k+1=>bif kX c k then (rD c k).set (lR c k).dh.toNat true else rD c k
def Sd(c:av):∀ k,(rD c k).length=4
 |0=>rfl
 | k+1=>by
  have C:=Sd c k;show (bif kX c k then _ else _:aa Bool).length=4
  grind
def aD5{c:av}{T:aa Int}{O:aa aJ}{Z:Int×Int×Int×Int×af}{P:Int×Int×Int×Int×Int×(aa Int)×Int×Int×af}{I jt U wait:aa Bool}{hb:aa (Int×Bool)}{Y:aa aF}{k:Nat}{r:aU}{a:aJ}{nd:aF}{ct rd ib:Bool}(hq:c.queue.length<=12)(hk:k<c.queue.length)(hr:c.queue[k]=r)(h2:k<O.length)(ha:O[k]=a)(h3:k<I.length)(C:k<U.length)(h5:Y.length=k)(D:0<=r.dh)(E:r.dh.toNat<wait.length)(e1:xO c.bk a r.write=some nd)(e2:xS T a.ay=some ct)(e3:jk c nd=some rd)(e4:Fv c.pending a.ay=some ib)(b1:0<=r.at_/\r.at_<=1000000)(b2:0<=c.now/\c.now<=1000000):
  Fw ((T,O,(),(),(),(),(),(),(),(),(),c.queue,(c.queue.length:Int),(k:Int),()),(c,Z,P,I,jt,hb,Y,U,wait,()))=some (.inl ((T,O,(),(),(),(),(),(),(),(),(),c.queue,(c.queue.length:Int),((k+1:Nat):Int),()),(c,Z,P,I,jt,hb,Y++[nd],U.set k (I[k]&&(!ct&&(rd&&(!((nd.kind==1 ||nd.kind==4)&&ib) && !(nd.kind==4&&(mI hb a.ay&&decide (c.now-r.at_<P.2.1))))))),(bif (I[k]&&(!ct&&(rd&&(!((nd.kind==1 ||nd.kind==4)&&ib) && !(nd.kind==4&&(mI hb a.ay&&decide (c.now-r.at_<P.2.1)))))))then wait.set r.dh.toNat true else wait),()))):=by
 have hw:W6 (c.now-r.at_)=c.now-r.at_:=aY;unfold Fw az xG xI xL;dsimp only;rw[aZ,aq,aA ⟨by omega,by omega⟩,aA ⟨by omega,by omega⟩,aA ⟨by omega,by omega⟩];simp only[bC,hr,ha,e1,ak,h5,jO,cM (show k+1<1073741824 by omega),aq,e2,e3,e4,hw,bE (show k<4611686018427387904 by omega)];by_cases L:nd.kind=1
 ·have k4:(nd.kind==(4:Int))=false:=by rw[L];rfl
  have L:(nd.kind==(1:Int))=true:=by rw[L];rfl
  simp only[L,k4,aq,au,Bool.true_or,cm,Bool.false_and,gZ,Bool.and_true];rw[aA ⟨by omega,by omega⟩,aA];cases I[k]<;>cases ct<;>cases rd<;>cases ib<;>simp[C,D,E]
 ·have L:(nd.kind==(1:Int))=false:=by simpa using L
  simp only[L,au,Bool.false_or];rw[aA ⟨by omega,by omega⟩,aA];cases nd.kind==(4:Int)with
  |false=>cases I[k]<;>cases ct<;>cases rd<;>cases ib<;>simp[C,D,E]
  | true=>
   cases I[k]with
   |false=>simp[C,D,E]
   | true=>
    cases ct with
    |true=>simp[C,D,E]
    | false=>
     cases rd with
     |false=>simp[C,D,E]
     | true=>
      cases ib with
      |true=>simp[C,D,E]
      | false=>
       cases mI hb a.ay with
       |false=>simp[C,D,E]
       | true=>
        by_cases hc:c.now-r.at_<P.2.1
        ·simp[C,D,E,hc]
        ·simp[C,D,E,hc]
def ZB(y x:aF):Bool:=(y.kind==x.kind)&&((y.ay==x.ay)&&((y.row==x.row)&&((y.bL==x.bL)&&true)))
def L4(c:av)(x:aF)(i:Int):Bool:=aP i 0 ((c.queue.length:Int)-1)&&(decide ((c.cr.length:Int)<400)&&ZB (CZ c.bk (gQ c (c.queue.getD i.toNat vU).line) (c.queue.getD i.toNat vU).write) x)
def qm(c:av)(x:aF)(i:Int):Bool:=dI c.config.ax x&&(dj c x&&(!decide ((c.trace.length:Int) >= 2000)&&bif x.kind==2 ||x.kind==3 then L4 c x i else i == -1 ||aP i 0 ((c.queue.length:Int)-1)))
def ZC{c:av}(h:Pq c){i:Int}(hi:aP i 0 ((c.queue.length:Int)-1)=true):∃ C:i.toNat<c.queue.length,0 <= i/\c.queue.getD i.toNat vU=c.queue[i.toNat]/\vr c c.queue[i.toNat].line=some (gQ c c.queue[i.toNat].line,true)/\xO c.bk (gQ c c.queue[i.toNat].line) c.queue[i.toNat].write=some (CZ c.bk (gQ c c.queue[i.toNat].line) c.queue[i.toNat].write):=by
 have hb:=bG.1 hi;have C:i.toNat<c.queue.length:=by omega
 have⟨D,E⟩:=R3 h (cS C);have⟨_,I,L,_⟩:=q9 E;have O:=h.p.bl;have T:=eN c.config.ax;exact⟨C,hb.1,mq _ C,D,RM _ I (by omega) (by omega)⟩
def alO{c:av}(h:Pq c)(x:aF)(i:Int):xl c x i=some (qm c x i):=by
 have T:=h.ql;unfold xl qm;rw[akl,ak];cases L:dI c.config.ax x with
 |false=>rfl
 |true=>
 rw[bK,au,RL h.p L,ak];cases dj c x with
 |false=>rfl
 |true=>
 rw[bK,au];cases decide ((c.trace.length:Int) >= 2000)with
 |true=>rfl
 |false=>
 rw[au,cm,cm,gZ,cm,dO,aY (n:=(c.queue.length:Int)-1),ak];unfold L4;have nd:zX=xO:=rfl;cases hi:aP i 0 ((c.queue.length:Int)-1)with
 | true=>
  have⟨D,E,O,f1,f3⟩:=ZC h hi;have f2:=R4 h (cS D);rw[fZ (show ¬ i = -1 by omega),aq,bK,au,aZ (show i >= 0 from E),cm,Bool.or_true,O];by_cases C:x.kind=2
  ·rw[show (x.kind != 2)=false by rw[C];rfl,show (x.kind==2)=true by rw[C];rfl,au,aq,Bool.true_or,aq];cases decide ((c.cr.length:Int)<400)with
   |false=>rfl
   | true=>
    rw[ aA ⟨E,D⟩,aA ⟨E,D⟩];rw[f2,ak,nd,f3];rfl
  ·rw[fZ C,kR C,aq,Bool.false_or];by_cases I:x.kind=3
   ·rw[show (x.kind != 3)=false by rw[I];rfl,show (x.kind==3)=true by rw[I];rfl,au,aq,aq];cases decide ((c.cr.length:Int)<400)with
    |false=>rfl
    | true=>
     rw[ aA ⟨E,D⟩,aA ⟨E,D⟩];rw[f2,ak,nd,f3];rfl
   ·grind
 | false=>
  rw[Bool.false_and,gZ,aq,Bool.or_false];by_cases e:i = -1
  ·subst e;rw[bne_self_eq_false,au,lT,show decide ((-1:Int) >= 0)=false from rfl,au];by_cases C:x.kind=2
   ·simp_all
   ·rw[fZ C,kR C,aq,Bool.false_or];by_cases I:x.kind=3
    ·simp_all
    ·grind
  ·grind
def alP{c:av}(O:dg c)(h:Pq c)(x:aF)(i:Int):lO c x i=bif qm c x i then (Fs c x i).bind (λy=>some (y.2.1,true))else some (c,false):=by
 have Y:=h.ql;unfold lO qm xI;rw[Y5 c O,ak,RC c O,ak,h.p.ok,bK,au];cases T:dI c.config.ax x with
 | false=>
  have e:jk c x=some false:=by
   unfold jk;rw[Rr,T,Bool.false_and,Bool.and_false];rfl
  rw[e];rfl
 |true=>
 rw[yg h.p T,ak];cases dj c x with
 |false=>rfl
 |true=>
 rw[bK,au];cases decide ((c.trace.length:Int) >= 2000)with
 |true=>rfl
 |false=>
 rw[au,cm,cm,gZ,cm,dY,aY (n:=(c.queue.length:Int)-1),ak];unfold L4;cases hi:aP i 0 ((c.queue.length:Int)-1)with
 | true=>
  have⟨C,D,U,f1,f3⟩:=ZC h hi;rw[fZ (show ¬ i = -1 by omega),bK,au,aq,au,cm,Bool.or_true,U];by_cases E:x.kind=2
  ·rw[show (x.kind==2)=true by rw[E];rfl,aq,Bool.true_or,aq];by_cases I:(c.cr.length:Int)<400
   ·rw[aZ I,bq (show ¬ (c.cr.length:Int) >= 400 by omega),au,aA ⟨D,C⟩];dsimp only;rw[f1,ak,aA ⟨D,C⟩,f3,ak];unfold ZB
    grind
   ·grind
  ·rw[kR E,au,Bool.false_or];by_cases L:x.kind=3
   ·rw[show (x.kind==3)=true by rw[L];rfl,aq,aq];by_cases I:(c.cr.length:Int)<400
    ·rw[aZ I,bq (show ¬ (c.cr.length:Int) >= 400 by omega),au,aA ⟨D,C⟩];dsimp only;rw[f1,ak,aA ⟨D,C⟩,f3,ak];unfold ZB
     grind
    ·grind
   ·grind
 | false=>
  rw[Bool.false_and,gZ,aq,Bool.or_false];by_cases E:x.kind=2
  ·simp_all
  ·rw[kR E,au,Bool.false_or];by_cases L:x.kind=3
   ·simp_all
   ·rw[kR L,au,au];by_cases e:i = -1
    ·simp_all
    ·grind
def ZD{c:av}(D:dg c)(h:Pq c){x:aF}{i:Int}(E:qm c x i=true):Bs c/\mT c.config.ax c.bk x=true/\(x.kind=2 \/ x.kind=3 -> ou c i.toNat 100000/\0 <= i)/\c.ready.bf.length <= 4:=by
 simp only[qm,aQ,iq,qw]at E;have⟨L,I,Y,C⟩:=E;simp[dj,aQ]at I
 refine⟨Bs.of D h.p.ok (by omega),?_,λO=>?_,(Ru h.p.Zb).2.2⟩
 ·unfold mT;rw[h.p.rk,L,I.1];rfl
 ·have e:(x.kind==2 || x.kind==3)=true:=by rcases O with q | q <;>rw[q] <;>rfl
  rw[e,aq]at C;simp[L4,aQ,gS]at C;have⟨T,U,_⟩:=ZC h C.1;exact⟨ou.of D h.p.ok T (by omega),U⟩
def aD6{c:av}(C:dg c)(x:aF)(i:Int):∃ y b,lO c x i=some (y,b)/\xQ c x i=some (y,b)/\dg y:=by
 cases D:dP c with
 | false=>
  refine⟨c,false,?_,?_,C⟩
  ·unfold lO xI;rw[Y5 c C,ak,RC c C,ak,D];rfl
  ·unfold xQ;rw[RE c C,ak,Y1 c C,ak,D];rfl
 | true=>
  have h:=Pq.of C D;rw[alP C h];unfold xQ;rw[RE c C,ak,Y1 c C,ak,D,bK,au,alO h,ak];cases hm:qm c x i with
  |false=>exact⟨c,false,rfl,rfl,C⟩
  | true=>
   obtain⟨hb,E,I,L⟩:=ZD C h hm;have O:=alM C hb L E I;refine⟨sK c x i,true,?_,?_,O⟩
   ·rw[aq,aDX hb E I];rfl
   ·rw[bK,au,alG hb E I (λr L=>R4 h L),ak];dsimp only;rw[RE _ O];rfl
structure Ck (c:av):Prop where
 f1:mU c.config c.box.bz=true
 f2:mU c.config c.box.next=true
 nw:aP c.now 0 1000000=true
 rk:lP c.config.ax c.bk=true
 rd:kU c.config.ax c.ready=true
 ar:od c.config.ax c.array=true
 sp:kG c.config.ax c.spare=true
 se:c.spare.bB=c.config.bB
 rf:ff c.aL=true
 pa:qd c=true
 qu:jl (eI (eC c.config.ax c.spare)) c.queue=true
 sh:iA c.shares=true
 sl:(c.shares.length:Int)=4
 dr:mS c.drain=true
 pw:kE c.aR=true
 ps:c.aR.state=c.bk.aR
 si:c.aR.since<=c.now
 s1:aP c.bY.every 1 100000=true
 s2:aP c.bY.wait 1 c.bY.every=true
 s3:aP c.bY.next 0 (W6 (eI c.config.ax-1))=true
 er:kT c.errors=true
 tr:c.trace.length<=2000
 rp:c.cr.length<=400
def Ck.of{c:av}(h:dP c=true):Ck c:=by
 simp[dP,aQ,fT,gS,iq,qw]at h;have⟨C,D,E,I,L,O,T,U,⟨Y,Z⟩,FH,AA,pR,sx,vH,ya,vI,At,Au,FP,LQ,xu,LR⟩:=h;exact⟨C,D,E,I,L,O,T,U,Y,Z,FH,AA,pR,sx,vH,ya,by omega,At,Au,FP,LQ,by omega,by omega⟩
def Ck.ok{c:av}(h:Ck c):dP c=true:=by
 have⟨C,D,E,I,L,O,T,U,Y,Z,FH,AA,pR,sx,vH,ya,vI,At,Au,FP,LQ,xu,LR⟩:=h;simp[dP,aQ,fT,gS,iq,qw]
 grind
def alQ:∀ (l:aa Nat) (a:Nat),l.Pairwise (λx y=>x≠y) -> l.length <= (l.filter (λx=>decide (x≠a))).length+1
 |[],a,_=>by simp
 | x :: l,a,h=>by
  have⟨C,D⟩:=List.pairwise_cons.1 h;by_cases e:x=a
  ·subst e;have:(x :: l).filter (λy=>decide (y≠x))=l:=by
    rw[List.filter_cons_of_neg (by simp)];exact List.filter_eq_self.2 λy E=>by simpa using (C y E).symm
   grind
  ·rw[List.filter_cons_of_pos (by simpa using e)];have:=alQ l a D;simp only[List.length_cons];omega
def pig:∀ (n:Nat) (l:aa Nat),(∀ x∈l,x<n)->l.Pairwise (λx y=>x≠y)->l.length<=n
 | 0,l,h,_=>by
  cases l with
  |nil=>simp
  |cons x l=>exact absurd (h x (.head _)) (by omega)
 | n+1,l,h,C=>by
  have E:=alQ l n C;have I:=pig n (l.filter (λx=>decide (x≠n))) (λx D=>by
   have:=List.mem_filter.1 D;have L:=h x this.1;have O:x≠n:=by simpa using this.2
   omega) (C.filter _)
  omega
def vR.pw{l:aa aJ}(h:vR l):l.Pairwise (λx y=>x≠y):=by
 rw[List.pairwise_iff_getElem];intro i j hi D I e;have C:=h j D;rw[List.any_eq_false]at C;have E:l[i]∈l.take j:=by
  rw[List.mem_take_iff_getElem]
  grind
 exact C _ E (LX.2 e.symm)
def vR.mk{l:aa aJ}(h:l.Pairwise (λx y=>x≠y)):vR l:=by
 rw[List.pairwise_iff_getElem]at h;intro j C;rw[List.any_eq_false];intro x D e;obtain⟨i,hi,rfl⟩:=List.mem_take_iff_getElem.1 D;exact h i j _ C (by omega) (LX.1 e).symm
structure gE (c:av):Prop where
 dl:(c.aL.aH.length:Int)=aW c.config.ax
 tl:(c.bH.length:Int)=aW c.config.ax
 gl:(c.guard.length:Int)=aW c.config.ax
 t:∀x∈c.bH,kF x=true
 g:∀x∈c.guard,3<=x/\x<=1000
 pd:∀a∈c.pending,dx c.config.ax a=true/\a.bL=0
 u:c.pending.Pairwise (λx y=>x≠y)
def gE.of{c:av}(h:qd c=true):gE c:=by
 simp[qd,aQ,fT,cv,fz]at h;have⟨E,I,L,g4,O,T⟩:=h;have key:=λi C U=>by
  have:=O i C;unfold partAt at this;rw[bS C,bS U,aQ,bG]at this;exact this
 have Y:∀ i _,dx _ c.pending[i]=true/\c.pending[i].bL=0/\(c.pending.take i).any _=false:=λi C=>by
  have:=T i C;unfold tX at this;rw[bS C]at this
  simpa [aQ]using this
 refine⟨E,I,L,λx D=>?_,λx D=>?_,λa Z=>?_,vR.pw λi hi=>(Y i hi).2.2⟩
 ·obtain⟨i,hi,rfl⟩:=jN.1 D
  grind
 ·obtain⟨i,hi,rfl⟩:=jN.1 D
  grind
 ·obtain⟨i,hi,rfl⟩:=jN.1 Z;simp[*]
def aD7{g:aN}{l:aa aJ}(D:∀ a∈l,dx g a=true/\a.bL=0)(L:l.Pairwise (λx y=>x≠y)):l.length <= 128:=by
 have E:∀ a∈l,0 <= a.ay/\a.ay<8/\0 <= a.row/\a.row<16:=λa C=>by
  have⟨I,U,Y,Z,h5,_⟩:=q9 (D a C).1;have b1:=eN g;have b2:=fm I;omega
 have I:=pig 128 (l.map λa=>(a.ay*16+a.row).toNat) (λx O=>by
  obtain⟨a,C,rfl⟩:=List.mem_map.1 O;have:=E a C;omega) (by
  rw[List.pairwise_map]
  refine L.imp_of_mem λ{a b} C hb T e=>T ?_
  have r1:=E a C;have r2:=E b hb;have c1:=(D a C).2;have c2:=(D b hb).2;cases a;cases b;simp only at *
  congr 1<;>omega)
 simp_all
def gE.ok{c:av}(h:gE c):qd c=true:=by
 have⟨E,I,L,U,Y,C,D⟩:=h;have hl:=aD7 C D;have O:=vR.mk D;simp[qd,aQ,fT,iq,qw,cv,fz]
 refine⟨E,I,L,by omega,λi hi=>?_,λi hi=>?_⟩
 ·have T:i<c.guard.length:=by omega
  unfold partAt;rw[bS hi,bS T,aQ,bG];simp_all
 ·unfold tX;rw[bS hi];simp only[aQ,fT,iq];exact⟨(C _ (cS hi)).1,(C _ (cS hi)).2,O i hi⟩
def aD8{g:aN}{b n:Int}{l:aa aJ}(I:dx g ⟨b,n,0⟩=true)(L:∀ a∈l,dx g a=true/\a.bL=0)(C:l.Pairwise (λx y=>x≠y)):(∀ a∈mY b l n,dx g a=true/\a.bL=0)/\(mY b l n).Pairwise (λx y=>x≠y):=by
 unfold mY;cases h:l.any _ with
 |true=>simp_all
 | false=>
  rw[au];rw[List.any_eq_false]at h
  refine⟨λa O=>?_,?_⟩
  ·grind
  ·rw[List.pairwise_append]
   refine⟨C,List.pairwise_singleton _ _,λx D y E e=>?_⟩
   rw[oy.1 E]at e;exact h x D (LX.2 e.symm)
def alR{g:aN}{b:Int}:∀ (ns:aa Int) {l:aa aJ},(∀ n∈ns,dx g ⟨b,n,0⟩=true) -> (∀ a∈l,dx g a=true/\a.bL=0) -> l.Pairwise (λx y=>x≠y) -> (∀ a∈ns.foldl (mY b) l,dx g a=true/\a.bL=0)/\(ns.foldl (mY b) l).Pairwise (λx y=>x≠y)
 |[],l,_,C,D=>⟨C,D⟩
 | n :: ns,l,E,C,D=>by
  have⟨I,L⟩:=aD8 (E n (.head _)) C D;exact alR ns (λm O=>E m (.tail _ O)) I L
def FX{T:Type}{p:T -> Prop}{l:aa T}{i:Nat}{x:T}(h:∀y∈l,p y)(C:p x):∀y∈l.set i x,p y:=by grind
def aD9{t:ck}(h:kF t=true)(row dm:Int):kF (ug t row dm).1=true:=by
 unfold ug
 grind
def alS{k:Int}(h:aP k 1 16=true):kF (yl k)=true:=by
 have hb:=bG.1 h;simp only[kF,yl,aQ,fT,cv,m7,bG]
 refine⟨by omega,trivial,by omega,λi hi=>?_⟩
 rw[Rp (by simpa using hi) (by simpa using hi)];simp[aP]
def alT{c:eB}{p:dM}(hl:p.weights.length<1073741823)(h:mU c p=true):3 <= p.dK/\p.dK <= 1000:=by
 have⟨_,f2⟩:=FT hl h;simp[o7,aQ,bG]at f2;simp_all
def yx{g:aN}{a:dU}(C:cy g=true)(h:fy g 100000 a):od g a=true:=by
 simp only[od,aQ,gS,cv]
 refine⟨C,h.cells,h.br,h.bh,λc D=>Sy.ok (h.syms c D),λp E=>?_⟩
 have⟨x,y⟩:=p;have⟨I,L⟩:=List.of_mem_zip E;simp[vC,aQ,bG];exact⟨h.Ln x I,h.jt y L⟩
def aEa{g:aN}{c:aF}(h:dI g c=true):oe g (jw g c).toNat=true:=by
 have⟨E,D,hb,_⟩:=CN h;have⟨I,L⟩:=YW h;unfold oe;unfold jw at *
 cases C:aP _ 1 5 with
 | true=>
  have C:=bG.1 C
  grind
 | false=>
  have O:¬ c.kind <= 5:=λh=>by rw[bG.2 ⟨D.1,h⟩]at C;cases C
  grind
def alU{l:aa Int}(h:∀ i,i<l.length -> og l i=true){i:Nat}(hi:i<l.length):aP l[i] 0 1000000=true:=by
 have:=h i hi;cases i with
 |zero=>rw[Ly]at this;exact this
 |succ i=>rw[FE,aQ]at this;exact this.1
def alV{l:aa Int}(h:∀ i,i<l.length -> og l i=true){i:Nat}(hi:i+1<l.length):l[i]<l[i+1]:=by
 have:=h _ hi;rw[FE hi,aQ,iq,qw]at this;omega
def alW{l:aa Int}(C:∀ i (hi:i<l.length),aP l[i] 0 1000000=true)(D:∀ i (hi:i+1<l.length),l[i]<l[i+1]):∀ i,i<l.length -> og l i=true:=λi hi=>by
 cases i with
 |zero=>rw[Ly];exact C 0 hi
 | succ i=>
  have:=D i hi;rw[FE hi,aQ,iq,qw];simp_all
def aEb{l:aa Int}(h:∀ i,i<l.length -> og l i=true){x:Int}(I:aP x 0 1000000=true)(hl:CQ ⟨[],l⟩ x=false):∀ i,i<(l++[x]).length -> og (l++[x]) i=true:=by
 refine alW (λi hi=>?_) λi hi=>?_
 ·by_cases C:i<l.length
  ·rw[List.getElem_append_left];exact alU h C
  ·grind
 ·have D:i<l.length:=by simp at hi;omega
  by_cases C:i+1<l.length
  ·rw[List.getElem_append_left C,List.getElem_append_left];exact alV h C
  ·have e:i+1=l.length:=by omega
   have E:(l++[x])[i+1]=x:=by simp[e]
   rw[E,List.getElem_append_left D];unfold CQ at hl
   grind
def aEc{l:aa Int}(h:∀ i,i<l.length -> og l i=true)(k:Nat):∀ i,i<(l.drop k).length -> og (l.drop k) i=true:=by
 refine alW (λi hi=>?_) λi hi=>?_
 ·rw[List.getElem_drop];exact alU h _
 ·rw[List.getElem_drop,List.getElem_drop];rw[List.length_drop]at hi;exact alV h _
def alX{g:aN}{r:dy}(e:fk)(h:kU g r=true):kU g (tY g r e)=true:=by
 unfold tY;cases C:kU g r&&(dI g e.cmd&&(aP e.at_ 0 1000000 && !(e.cmd.kind==1&&CQ r e.at_)))with
 |false=>exact h
 | true=>
  rw[aq];simp only[aQ,iq]at C;have⟨_,L,D,E⟩:=C;simp only[kU,aQ,fT,iq,qw,cv,fz]at h ⊢;have⟨O,T,U,Y,I⟩:=h
  refine⟨O,by rw[iY];exact T,?_,λi hi=>?_,?_⟩
  ·cases e.cmd.kind==1 with
   |false=>exact U
   | true=>
    rw[aq];unfold CR
    grind
  ·rw[iY]at hi;have hb:=Y i hi;rw[Lx hi]at hb;rw[Lx (by rw[iY];exact hi)];by_cases Z:(jw g e.cmd).toNat=i
   ·subst Z;rw[List.getElem_set_self,aEa L];have:=bG.1 D;rw[bG.2 ⟨by omega,by omega⟩];rfl
   ·simp_all
  ·cases hk:e.cmd.kind==1 with
   |false=>exact I
   | true=>
    rw[hk]at E;exact aEc (aEb I D E) _
structure Qk (n:Int) (q:List aU):Prop where
 r:∀x∈q,o8 n x=true
 b:q.Pairwise λx y=>gB x y=true
 i:q.Pairwise λx y=>x.id≠y.id
 l:q.length<=12
def aEd{x y z:aU}(C:gB x y=true)(D:gB y z=true):gB x z=true:=by
 simp only[gB,eA,aQ,gS,fT]at *
 omega
def Qk.of{n:Int}{q:aa aU}(h:jl n q=true):Qk n q:=by
 have I:=h;simp only[jl,aQ,cv,fz,gS]at h;have⟨E,U⟩:=h;have L:∀ x∈q,o8 n x=true:=λx O=>by
  obtain⟨i,hi,rfl⟩:=jN.1 O;have:=E i hi;unfold rz at this;simp_all
 have hb:∀ j i (D:i<j) (C:j<q.length),gB q[i] q[j]=true:=by
  intro j
  induction j with
  |zero=>simp_all
  | succ j T=>
   intro i D C;have:=E (j+1) C;rw[Lv C,aQ,aQ]at this;by_cases e:i=j
   ·simp_all
   ·exact aEd (T i (by omega) _) this.2.1
 refine⟨L,?_,?_,by omega⟩
 ·rw[List.pairwise_iff_getElem]
  grind
 ·rw[List.pairwise_iff_getElem];intro i j hi C D e;have:=aCk I D C;simp_all
def Qk.ok{n:Int}{q:aa aU}(h:Qk n q):jl n q=true:=by
 have⟨C,D,E,L⟩:=h;rw[List.pairwise_iff_getElem]at D E;simp[jl,aQ,cv,fz,gS]
 refine⟨λi hi=>?_,by omega⟩
 cases i with
 |zero=>rw[YG hi];exact C _ (cS hi)
 | succ i=>
  rw[Lv hi,aQ,aQ,iq];refine⟨C _ (cS hi),D i (i+1) (by omega) hi (by omega),?_⟩;rw[List.any_eq_false];intro x I e;obtain⟨k,O,rfl⟩:=List.mem_take_iff_getElem.1 I
  grind
def Qk.sub{n:Int}{q s:aa aU}(h:Qk n q)(C:s.Sublist q):Qk n s:=
 ⟨λx D=>h.r x (C.subset D),h.b.sublist C,h.i.sublist C,Nat.le_trans C.length_le h.l⟩
def alY{T:Type}(l:aa T)(i:Nat):(l.take i++l.drop (i+1)).Sublist l:=by
 rw[<-List.eraseIdx_eq_take_drop_succ];exact List.eraseIdx_sublist l i
def aEe(e x:cq):Prop:=¬ (e.line=x.line/\e.code=x.code)
structure Ek (l:List cq):Prop where
 e:∀x∈l,x8 x=true
 k:l.Pairwise aEe
 l:l.length<=6
def ZE{e x:cq}:lQ e x=true ↔ x.line=e.line/\x.code=e.code:=by
 simp only[lQ,aQ,fT]
def Ek.of{l:aa cq}(h:kT l=true):Ek l:=by
 simp[kT,aQ,cv,fz,gS]at h;have⟨D,L⟩:=h;have key:=λi hi=>by
  have:=D i hi
  rwa [Rk hi,aQ,iq]at this
 refine⟨λx E=>?_,?_,by omega⟩
 ·obtain⟨i,hi,rfl⟩:=jN.1 E
  grind
 ·rw[List.pairwise_iff_getElem];intro i j hi I O e;have C:=(key j I).2;rw[List.any_eq_false]at C;exact C l[i] (List.mem_take_iff_getElem.2 ⟨i,by omega,rfl⟩) (ZE.2 e)
def Ek.ok{l:aa cq}(h:Ek l):kT l=true:=by
 have⟨D,C,I⟩:=h;rw[List.pairwise_iff_getElem]at C;simp only[kT,aQ,cv,fz,gS]
 refine⟨λi hi=>?_,by omega⟩
 rw[Rk hi,aQ,iq];refine⟨D _ (cS hi),?_⟩;rw[List.any_eq_false];intro x E e;obtain⟨k,L,rfl⟩:=List.mem_take_iff_getElem.1 E;exact C k i (by omega) hi (by omega) (ZE.1 e)
def alZ{l:aa cq}(h:kT l=true){n code:Int}(h1:0 <= n/\n <= 1023)(h2:code=1 \/ code=2):kT (uq l n code)=true:=by
 have C:=Ek.of h;have hl:=C.l;have aF5:x8 ⟨n,code,1⟩=true:=by
  simp[x8,aQ,eA,fT,bG];omega
 refine Ek.ok ?_;unfold uq;cases D:l.findIdx? (lQ ⟨n,code,1⟩)with
 | some i=>
  have⟨hi,hp⟩:=LW D;dsimp only;rw[mq _ hi];have T:=C.e _ (cS hi);have U:x8 (R5 l[i])=true:=by
   simp only[x8,aQ,bG]at T ⊢;unfold R5;dsimp only;rw[aY]
   grind
  refine⟨FX C.e U,?_,by rw[iY];exact hl⟩;have E:=C.k;rw[List.pairwise_iff_getElem]at E ⊢;intro a b I hb Y;rw[iY]at I hb;have:=E a b I hb Y;rw[List.getElem_set,List.getElem_set];by_cases L:i=a
  ·subst L
   rwa [bN rfl,bO]
  ·rw[bO L];by_cases Z:i=b
   ·subst Z
    rwa [bN rfl]
   ·simp[*]
 | none=>
  have hn:∀ x∈l,¬ (x.line=n/\x.code=code):=λx hx e=>by
   have:=List.findIdx?_eq_none_iff.1 D x hx;rw[ZE.2 e]at this;cases this
  have app:∀ m:aa cq,m.Sublist l -> m.length <= 5 -> Ek (m++[⟨n,code,1⟩]):=λm O hml=>by
   refine⟨λx hx=>?_,?_,by rw[ox,jO];omega⟩
   ·rcases List.mem_append.1 hx with hx | hx
    ·exact C.e x (O.subset hx)
    ·rwa [oy.1 hx]
   ·rw[List.pairwise_append]
    refine⟨C.k.sublist O,List.pairwise_singleton _ _,λx hx y hy e=>?_⟩
    rw[oy.1 hy]at e
    grind
  dsimp only;by_cases e6:l.length=6
  ·grind
  ·rw[kR (show ¬ (l.length:Int)=6 by omega),au]
   grind
def al0{l:aa cw}(h:∀ s∈l,nI s=true){k:Nat}(C:k<l.length)(E:1<=l[k].fD):∀ s∈l.set k ⟨l[k].weight,W6 (l[k].fD-1)⟩,nI s=true:=by
 have D:=h _ (cS C);simp only[nI,aQ,bG]at D;rw[aY (n:=l[k].fD-1)];refine FX h ?_;simp only[nI,aQ,bG];omega
def aEf{l:aa cw}(w:aa Bool)(hl:l.length<1073741823)(D:iA l=true)(hw:l.length=w.length):∃ y t,pZ l w=some (y,t)/\y.length=l.length/\iA y=true:=by
 have mk:∀ y:aa cw,y.length=l.length -> (∀ s∈y,nI s=true) -> y.length=l.length/\iA y=true:=λy C Z=>by
  refine⟨C,?_⟩;simp[iA,aQ,cv]at D ⊢;exact⟨Z,by rw[C];exact D.2⟩
 have E:∀ s∈l,nI s=true:=by
  simp only[iA,aQ,cv]at D;exact D.1
 unfold pZ xA xC bA xL xZ;have hb:=vO (λi=>w.getD i false) (λi=>(l.getD i ⟨0,0⟩).fD) (min l.length w.length);have O:(jm l).length=l.length:=by simp[jm]
 have gT:=vO (λi=>w.getD i false) (λi=>((jm l).getD i ⟨0,0⟩).fD) (min (jm l).length w.length);have hm:=Ze (λi=>w.getD i false) (λi=>(l.getD i ⟨0,0⟩).fD) (min l.length w.length);rw[kZ,LS l w (by omega),ak,Lt _ (by omega),ak,D,bK,au,List.length_nil,fh,cM,aq];unfold uf;generalize hr:kW (λi=>w.getD i false) (λi=>(l.getD i ⟨0,0⟩).fD) (min l.length w.length)=b at *
 by_cases T:b<0
 ·rw[aZ T];exact⟨_,_,rfl,mk _ rfl E⟩
 ·have C:b.toNat<l.length:=by omega
  rw[bq T,au,aA ⟨by omega,C⟩,aA C];dsimp only;have hsb:=E _ (cS C);simp only[nI,aQ,bG]at hsb;cases U:l[b.toNat].fD==0 with
  | false=>
   have U:¬ l[b.toNat].fD=0:=by simpa using U
   rw[ aA ⟨by omega,C⟩,aA C,aA ⟨by omega,C⟩,aA C];exact⟨_,_,rfl,mk _ (by simp) (al0 E C (by omega))⟩
  | true=>
   have aEg:∀ s∈jm l,nI s=true:=λs D=>by
    obtain⟨x,L,rfl⟩:=List.mem_map.1 D;have:=E x L;simp[nI,aQ,bG,sG]at this ⊢;omega
   rw[aq,Zg l w (by omega),ak];simp only[dZ];rw[LS _ w (by omega),ak];have Y:0 <= uf (jm l) w:=Zf _ (i:=b.toNat) (by rcases hm with h|h;exact absurd h (by omega);exact h) _ (by rw[O];omega);have hq:uf (jm l) w<((min (jm l).length w.length:Nat):Int):=gT.2;have I:(uf (jm l) w).toNat<(jm l).length:=by omega
   have h4:1 <= (jm l)[(uf (jm l) w).toNat].fD:=by
    have dW:(uf (jm l) w).toNat<l.length:=by omega
    have L:=E _ (cS dW);simp only[nI,aQ,bG]at L;simp only[jm,List.getElem_map,sG];simp only[jm]at L;omega
   rw[aA ⟨Y,I⟩,aA I,aA ⟨Y,I⟩,aA I];exact⟨_,_,rfl,mk _ (by simp[O]) (al0 aEg I h4)⟩
def al1{r:dn}(h:ff r=true)(k:Nat){d:Int}(C:-2 <= d/\d <= 5):ff ⟨r.aH.set k d,r.wait,r.dL⟩=true:=by
 simp only[ff,aQ]at h ⊢;refine⟨YY h.1 ?_,by rw[iY];exact h.2.1,h.2.2⟩;exact bG.2 C
def aEh{r:dn}(h:ff r=true){b:Int}(hb:b.toNat<r.aH.length):ff (vQ r b)=true:=by
 have C:=RO h _ (cS hb);unfold vQ;rw[mq _ hb];by_cases e:r.aH[b.toNat] = -2
 ·simp_all
 ·rw[bq e];exact al1 h _ (by omega)
def aEi{r:cD}{p:fE}{x:aF}{now:Int}(E:kE p=true)(C:p.state=r.aR)(I:p.since <= now)(L:now <= 1000000)(T:6 <= x.kind/\x.kind <= 9)(D:o9 r x=true):kE (ym p x.kind now)=true/\(ym p x.kind now).state=(gj r x).aR/\(ym p x.kind now).since <= now:=by
 have hb:0 <= p.since:=by
  simp[kE,aQ,bG]at E;omega
 have hi:0 <= p.idle/\p.idle <= 1000000:=by
  simp[kE,aQ,bG]at E;omega
 have O:=bG.2 ⟨I,L⟩;unfold ym;rw[E,O,Bool.and_self];have mk:∀ s:Int,0 <= s/\s <= 2 -> kE ⟨s,now,p.idle⟩=true:=λs C=>by
  simp[kE,aQ,bG];omega
 have:x.kind=6 \/ x.kind=7 \/ x.kind=8 \/ x.kind=9:=by omega
 rcases this with h|h|h|h
 ·have e:r.aR=0:=by simpa [o9,h]using D
  simp[gj,h,C,e,mk]
 ·have e:r.aR=1:=by simpa [o9,h]using D
  simp[gj,h,C,e,mk]
 ·have e:r.aR=0:=by have:=D;simp[o9,h]at this;exact this.1
  simp[gj,h,C,e,mk]
 ·have e:r.aR=2:=by simpa [o9,h]using D
  simp[gj,h,C,e,mk]
def aEj{c:av}(h:Pq c)(Z:Int×Int×Int×Int×af)(P:Int×Int×Int×Int×Int×(aa Int)×Int×Int×af)(I:P.2.1=c.box.bz.cap):iter Fw aS ((cF 0 c.aL.aH,fG c,(),(),(),(),(),(),(),(),(),c.queue,(c.queue.length:Int),(0:Int),()),(c,Z,P,(List.range c.queue.length).map (ig c),(List.range c.queue.length).map (eo c),sJ c c.queue.length,([]:aa aF),List.replicate c.queue.length false,List.replicate 4 false,()))=some (.inl (((),(),(),(),(),(),(),()),(c,Z,P,(List.range c.queue.length).map (eo c),(List.range c.queue.length).map (mZ c),(List.range c.queue.length).map (kX c),rD c c.queue.length,()))):=by
 have L:=h.ql;have uG:=h.pl;have O:=om h.rf;have T:=vT h;have e:=cz (step:=Fw) c.queue.length (λi=>((cF 0 _,fG c,(),(),(),(),(),(),(),(),(),c.queue,c.queue.length,i,()),(c,Z,P,(List.range _).map (ig c),(List.range c.queue.length).map (eo c),sJ c _,(List.range i).map (mZ c),rB (kX c) c.queue.length i,rD c i,()))) _ aS (λk C=>by
  have hl:=R0 (f:=kX c) (n:=c.queue.length) (k:=k) (by omega);have L5:=um c;have hwl:=Sd c k;have⟨ho,D,U,Y,o4,o5⟩:=C3 h C;have⟨q1,q2,E⟩:=h.q _ (cS C);rw[pn C]at q1 q2 E;have HO:(lR c k).write=qi c.queue k:=by rw[C1 C,pn C]
  refine(aD5 (r:=lR c k) (a:=fK c k) (nd:=mZ c k) (ct:=nK c (fK c k).ay) (rd:=dj c (mZ c k)) (ib:=L3 c (fK c k).ay) L C (pn C) (by omega) (C2 _) (by simp;exact C) (by omega) (by simp) (by omega) (by omega) (by rw[HO];exact RM _ D U T) (ZA O.1 D Y) (yg h.p (alN h C)) (Zl _ _ (by omega)) E h.nw).trans ?_;rw[yu C,alz,I,<- R1 C,List.range_succ,List.map_append];rfl) (by
  unfold Fw az xG xI xL;dsimp only;rw[bq,au,R2]) (bJ)
 exact e
def sL(f g:Nat->Bool)(n k:Nat):aa Bool:=(List.range n).map λi=>bif Nat.blt i k then f i else g i
def al2(f g:Nat->Bool)(n:Nat):sL f g n 0=(List.range n).map g:=rfl
def al3(f g:Nat -> Bool)(n:Nat):sL f g n n=(List.range n).map f:=by
 refine List.map_congr_left λi hi=>?_
 have hi:=fz.1 hi;rw[show Nat.blt i n=true from ja hi];rfl
def Se(f g:Nat->Bool)(n k:Nat):(sL f g n k).length=n:=by unfold sL;simp
def aEk(k:Nat):Nat.blt k k=false:=by
 cases h:Nat.blt k k with
 |false=>rfl
 |true=>simp_all
def al4{f g:Nat->Bool}{n k:Nat}(C:k<(sL f g n k).length):(sL f g n k)[k]=g k:=by
 simp only[sL,List.getElem_map,jM,aEk,au]
def al5{f g:Nat -> Bool}{n k:Nat}(h:k<n):(sL f g n k).set k (f k)=sL f g n (k+1):=by
 apply List.ext_getElem
 ·rw[iY,Se,Se]
 ·intro i E I;rw[List.getElem_set];simp only[sL,List.getElem_map,jM];by_cases e:k=i
  ·subst e;rw[bN rfl,show Nat.blt k _=true from ja (dJ _)];rfl
  ·rw[bO e];rcases Nat.lt_or_gt_of_ne e with h3 | h3
   ·have C:Nat.blt i k=false:=by
     cases hb:Nat.blt i k with
     |false=>rfl
     |true=>have:=cK hb;omega
    have D:Nat.blt i (k+1)=false:=by
     cases hb:Nat.blt i (k+1)with
     |false=>rfl
     |true=>have:=cK hb;omega
    rw[C,D]
   ·rw[show Nat.blt i k=true from ja h3,show Nat.blt i _=true from ja (by omega)]
def rE(c:av)(t:Int)(i:Nat):Bool:=kX c i&&(lR c i).dh==t
def aEl{c:av}(I:c.queue.length <= 12)(t:Int)(Z:Int×Int×Int×Int×af)(P:Int×Int×Int×Int×Int×(aa Int)×Int×Int×af)(jt:aa Bool)(C:aa aF):iter Ld aS (((),(),(),(),(),(),t,c.queue,(c.queue.length:Int),(0:Int),()),(c,Z,P,jt,C,(List.range c.queue.length).map (kX c),()))=some (.inl (((),(),(),(),(),(),()),(c,Z,P,jt,C,(List.range c.queue.length).map (rE c t),()))):=by
 have e:=cz (step:=Ld) c.queue.length (λi=>(((),(),(),(),(),(),t,c.queue,(c.queue.length:Int),(i:Int),()),(c,Z,P,jt,C,sL (rE c t) (kX c) c.queue.length i,()))) _ aS (λk D=>by
  have hl:=Se (rE c t) (kX c) c.queue.length k;rw[<- al5 D];unfold Ld az xG xI xL;dsimp only;rw[aZ,aq,aA ⟨by omega,by omega⟩,aA ⟨by omega,by omega⟩,aA,bE];simp only[bC,al4,pn];have E:rE c t k=(kX c k&&(lR c k).dh==t):=rfl;rw[E];cases kX c k with
  |false=>rw[au,aA ⟨by omega,by omega⟩,aA];rfl
  |true=>rw[ aA ⟨by omega,by omega⟩,aA];rfl) (by
  unfold Ld az xG xI xL;dsimp only;rw[bq,au,al3]) (bJ)
 rw[cc,al2]at e;exact e
def fS(p:Nat->Bool):Nat->Int
 |0=>-1
 |k+1=>bif decide (fS p k<0)&&p k then (k:Int)else fS p k
def C6(p:Nat->Bool)(k:Nat):fS p (k+1)=bif decide (fS p k<0)&&p k then (k:Int)else fS p k:=rfl
def uv(p:Nat -> Bool):∀ n,(fS p n = -1 /\ ∀ k,k<n -> p k=false) \/ ∃ j:Nat,j<n/\fS p n=(j:Int)/\p j=true /\ ∀ k,k<j -> p k=false
 |0=>.inl ⟨rfl,λk C=>absurd C (Nat.not_lt_zero k)⟩
 | n+1=>by
  rw[C6];rcases uv p n with ⟨D,E⟩|⟨j,D,E,I,L⟩
  ·grind
  ·grind
def uw(D jt C:Nat->Bool)(n:Nat):Int:=
 bif decide (fS (λi=>C i&&D i) n<0)then (bif decide (fS (λi=>C i&&jt i) n<0)then fS C n else fS (λi=>C i&&jt i) n)else fS (λi=>C i&&D i) n
def nL(c:av)(i:Nat):Bool:=decide ((lR c i).at_<=c.now-c.box.bz.cap)
def aEm{c:av}(h:Pq c)(C:Nat->Bool):X7 c.queue ((List.range c.queue.length).map C) ((List.range c.queue.length).map (eo c)) c.box.bz.cap c.now=some (uw (nL c) (eo c) C c.queue.length):=by
 have hq:=h.ql;have ZF:=h.nw;have hcp:=h.cap;have U:W6 (c.now-c.box.bz.cap)=c.now-c.box.bz.cap:=aY;have kY:∀ (k:Nat),k<c.queue.length->(C k&&nL c k)=false->CF (((List.range c.queue.length).map C,(List.range c.queue.length).map (eo c),c.box.bz.cap,c.now,fS C k,fS (λi=>C i&&eo c i) k,c.queue,(c.queue.length:Int),(k:Int),()),())=some (.inl (((List.range c.queue.length).map C,(List.range c.queue.length).map (eo c),c.box.bz.cap,c.now,fS C (k+1),fS (λi=>C i&&eo c i) (k+1),c.queue,(c.queue.length:Int),((k+1:Nat):Int),()),())):=by
  intro k D E;rw[C6,C6];unfold CF az aT xG xI;dsimp only;rw[aZ,aq,aA ⟨by omega,by omega⟩];simp only[eM,cT];rw[bq,au,aA ⟨by omega,by omega⟩];simp only[bC,yu D,U,pn];rw[bE];cases I:C k with
  |false=>simp[I]
  | true=>
   rw[I,cm]at E;unfold nL at E;rw[E,aZ (by omega:(k:Int)<(c.queue.length:Int)),aA ⟨by omega,by omega⟩];simp only[bK,au,aq,I,cm];cases eo c k<;>cases decide (fS C k<0)<;>cases decide (fS (λi=>C i&&eo c i) k<0)<;>simp
 unfold X7 uw bM;rw[dY,ak,bG.2 ⟨hcp.1,by omega⟩,bK,au,dY,ak,bG.2 ZF,bK,au];rcases uv (λi=>C i&&nL c i) c.queue.length with ⟨L,O⟩|⟨j,L,O,T,h4⟩
 ·have e:=cz (step:=CF) c.queue.length (λk=>(((List.range c.queue.length).map C,(List.range c.queue.length).map (eo c),c.box.bz.cap,c.now,fS C k,fS (λi=>C i&&eo c i) k,c.queue,(c.queue.length:Int),(k:Int),()),())) (.inr (.inl ((fS C c.queue.length,fS (λi=>C i&&eo c i) c.queue.length,()),()))) aS (λk D=>kY k D (O k D)) (by
   unfold CF az aT xG xI;dsimp only;rw[bq,au]) (bJ)
  rw[cc]at e
  refine(bx (λo=>Option.bind o _) e).trans ?_
  rw[ak,L];simp only[Sum.elim_inr,dZ];by_cases Y:fS (λi=>C i&&eo c i) c.queue.length<0
  ·rw[bq (by omega:¬ fS (λi=>C i&&eo c i) c.queue.length >= 0),aZ Y];rfl
  ·rw[aZ (by omega:fS (λi=>C i&&eo c i) c.queue.length >= 0),bq Y];rfl
 ·have e:=cz (step:=CF) j (λk=>(((List.range c.queue.length).map C,(List.range c.queue.length).map (eo c),c.box.bz.cap,c.now,fS C k,fS (λi=>C i&&eo c i) k,c.queue,(c.queue.length:Int),(k:Int),()),())) (.inl (((j:Int),()),())) aS (λk D=>kY k (by omega) (h4 k D)) (by
   rw[aQ]at T;have Z:=T.2;unfold nL at Z;unfold CF az aT xG xI;dsimp only;rw[aZ,aq,aA ⟨by omega,by omega⟩];simp only[eM,cT];rw[bq,au,aA ⟨by omega,by omega⟩];simp only[bC,yu L,U,pn,T.1,Z,bK,au,aq]) (bJ)
  rw[cc]at e
  refine(bx (λo=>Option.bind o _) e).trans ?_
  rw[ak,O,bq];rfl
def rkN(D jt C:Nat->Bool)(n:Nat):Int:=
 bif decide (fS (λi=>C i&&D i) n<0)then (bif decide (fS (λi=>C i&&jt i) n<0)then (bif decide (fS C n<0)then 0 else 1)else 2)else 3
def aEn{c:av}(h:Pq c)(C:Nat->Bool):Pd c.queue ((List.range c.queue.length).map C) ((List.range c.queue.length).map (eo c)) c.box.bz.cap c.now=some (uw (nL c) (eo c) C c.queue.length):=by
 have T:=h.ql;have E:=h.nw;have I:=h.cap;have L:W6 (c.now-c.box.bz.cap)=c.now-c.box.bz.cap:=aY;unfold Pd bA;rw[dO,ak,bG.2 ⟨I.1,by omega⟩,bK,au,dO,ak,bG.2 E,bK,au];have e:=cz (step:=Ji) c.queue.length (λk=>((c.queue,(List.range c.queue.length).map C,(List.range c.queue.length).map (eo c),c.box.bz.cap,c.now,uw (nL c) (eo c) C k,rkN (nL c) (eo c) C k,(k:Int),()),())) (.inl ((uw (nL c) (eo c) C c.queue.length,()),())) aS (λk D=>by
  have U:=uv C k;have Y:=uv (λi=>C i&&eo c i) k;have Z:=uv (λi=>C i&&nL c i) k;unfold Ji az xG xI;dsimp only;simp only[eM,cT];rw[aZ,aq,aq,aA ⟨by omega,by omega⟩];simp only[bC,yu D,L,pn];rw[bE];unfold uw rkN;rw[C6,C6,C6];have hold:decide ((lR c k).at_<=c.now-c.box.bz.cap)=nL c k:=rfl;rw[hold];cases O:C k with
  |false=>simp[O]
  | true=>
   simp only[bK,au,cm];rw[aA ⟨by omega,by omega⟩,aA ⟨by omega,by omega⟩];generalize fS (λi=>C i&&nL c i) k=o at *
   generalize fS (λi=>C i&&eo c i) k=u at *
   generalize fS C k=a at *
   have ao:a<0\/0<=a:=by omega
   have uo:u<0\/0<=u:=by omega
   have oo:o<0\/0<=o:=by omega
   have kn:¬ (k:Int)<0:=by omega
   rcases ao with ao|ao<;>rcases uo with uo|uo<;>rcases oo with oo|oo<;>cases eo c k<;>cases nL c k<;>simp[D,ao,uo,oo,kn,Int.not_lt.2 ao,Int.not_lt.2 uo,Int.not_lt.2 oo]) (by
  unfold Ji az xG xI;dsimp only;rw[bq,au]) (bJ)
 rw[cc]at e
 refine(bx (λo=>Option.bind o _) e).trans ?_
 rfl
def vX:aF:=⟨0,0,0,0⟩
def rF(c:av):Int:=match pZ c.shares (rD c c.queue.length)with
 |some y=>y.2
 |none=>0
def ov(c:av):Int:=uw (nL c) (eo c) (rE c (rF c)) c.queue.length
def AM(c:av):aF×Int:=bif decide (ov c<0)then (vX,-1)else (mZ c (ov c).toNat,ov c)
def al6{c:av}(h:Pq c):∃ l,pZ c.shares (rD c c.queue.length)=some (l,rF c):=by
 have⟨y,t,e,_⟩:=Zh (rD c c.queue.length) (by have:=h.shl;omega) h.sh (by rw[Sd,h.shl]);refine⟨y,?_⟩;unfold rF;rw[e]
def al7(c:av):-1 <= ov c/\ov c<c.queue.length:=by
 unfold ov uw;rcases uv _ _ with ⟨C,_⟩|⟨j,C,I,_⟩
 ·rw[C,aZ,aq];rcases uv _ _ with ⟨D,_⟩ | ⟨j,D,L,_⟩
  ·rw[D,aZ,aq];rcases uv (rE c (rF c)) c.queue.length with ⟨E,_⟩|⟨j,E,O,_⟩<;>omega
  ·grind
 ·grind
def aEo{c:av}(h:Pq c):X9 c (cF 0 c.aL.aH) (fG c)=some (AM c):=by
 have E:=h.ql;have⟨l,hl⟩:=al6 h;have hb:=al7 c;unfold X9 bA xL;rw[bN ⟨by omega,by omega,by omega⟩,bC,aDO h,ak];simp only[dZ];rw[bN ⟨by omega,by omega,by omega⟩,bN ⟨by omega,by omega,by omega⟩,bC,aDP h,ak];simp only[dZ];rw[bN ⟨by omega,by omega,by omega⟩,bN (by decide),bC,show (4:Int).toNat=4 from rfl,aEj h _ _ rfl,ak];simp only[dZ];rw[hl,ak];dsimp only;rw[aEl E,ak];simp only[dZ];rw[aEm h,ak];show (bif decide (ov c<0)then _ else _)=_;unfold AM;by_cases C:ov c<0
 ·rw[aZ C];rfl
 ·have I:(ov c).toNat<c.queue.length:=by omega
  rw[bq C,au,au];have L:¬ uw (nL c) (eo c) (rE c (rF c)) c.queue.length<0:=C;have D:=I;rw[aA ⟨by omega,by simp only[eM,cT];exact D⟩,aA (by simp only[eM,cT];exact D)];simp only[List.getElem_map,jM];rfl
def ZG(l:aa aJ)(b:Int)(hl:l.length <= 1048576):EJ l b=some (l.any λa=>a.ay==b):=by
 have E:=ua (λa:aJ=>a.ay==b) l;unfold EJ bM;rw[LL];have e:=cz (step:=EI) (c8 (λa:aJ=>a.ay==b) l) (λi=>((l,b,(i:Int),()),())) (if c8 (λa:aJ=>a.ay==b) l<l.length then .inl ((true,()),())else .inr (.inl ((),()))) aS (λk h=>by
  have D:=mW h (by omega);unfold EI az aT xG xI;dsimp only;rw[aZ,aq,aA ⟨by omega,by omega⟩];simp only[bC];rw[D,au,bE]) (by
  by_cases C:c8 (λa:aJ=>a.ay==b) l<l.length
  ·have D:=qe C;unfold EI az aT xG xI;dsimp only;simp[*]
  ·unfold EI az aT xG xI;dsimp only;rw[bq,au,bO C]) (bJ)
 rw[cc]at e
 refine(bx (λo=>Option.bind o _) e).trans ?_
 by_cases C:c8 (λa:aJ=>a.ay==b) l<l.length
 ·rw[bN C,aZ C];rfl
 ·rw[bO C,bq C];rfl
def al8{c:av}(h:Pq c)(a:aJ):(iter EL aS ((c,fG c,(List.range c.queue.length).map (ig c),(),(0:Int),()),((a.ay,a.row,a.bL,()),()))).bind (Sum.elim (λD=>some D.1.1) (Sum.elim (λZ=>some true) (λz=>nomatch z)))=some (!yw c c.queue.length a.ay):=by
 have hq:=h.ql;have E:=vT h;have e:=gi (step:=EL) (List.range c.queue.length) (λi=>!(ig c i&&eo c i&&a.ay==(fK c i).ay)) (λi=>((c,fG c,(List.range c.queue.length).map (ig c),(),(i:Int),()),((a.ay,a.row,a.bL,()),()))) (.inl ((false,()),())) (.inr (.inl ((),()))) aS (λk C=>by
  rw[cT]at C;have I:=um c;have Zx:((List.range c.queue.length).map (ig c)).length=c.queue.length:=by simp
  have⟨ho,L,O,o3,o4,T⟩:=C3 h C;have U:=ak8 (r:=c.bk) (a:=fK c k) T L O E;rw[jM];unfold EL az aT xG xI;dsimp only;rw[aZ,aq,aA ⟨by omega,by omega⟩];simp only[bC,yu C];rw[bE];cases ig c k with
  |false=>rfl
  | true=>
   rw[aq,aA ⟨by omega,by omega⟩];simp only[C2];rw[aA ⟨by omega,by omega⟩,U,ak,Bool.beq_comm];have jt:eo c k=vP c.bk (fK c k):=rfl;rw[jt];cases a.ay==(fK c k).ay<;>cases vP c.bk (fK c k)<;>rfl) (by
  rw[cT];have I:=um c;unfold EL az aT xG xI;dsimp only;rw[bq,au]) (by rw[cT];exact bJ)
 rw[cc]at e;rw[e,ak];have Y:(List.range c.queue.length).all (λi=>!(ig c i&&eo c i&&a.ay==(fK c i).ay)) = !yw c c.queue.length a.ay:=by
  unfold yw;rw[List.any_eq_not_all_not,Bool.not_not]
 rw[Y];cases yw c c.queue.length a.ay<;>rfl
def aEp{c:av}(h:Pq c){k:Nat}(C:k<c.queue.length):Pc c (fG c) ((List.range c.queue.length).map (ig c)) (k:Int)=some (kX c k):=by
 have hq:=h.ql;have uG:=h.pl;have L:=om h.rf;have O:=vT h;have L5:=um c;have Zx:((List.range c.queue.length).map (ig c)).length=c.queue.length:=by simp
 obtain⟨ho,E,T,U,o4,o5⟩:=C3 h C;obtain⟨q1,q2,Y⟩:=h.q _ (cS C);rw[pn C]at Y;have ZF:=h.nw;have Z:(lR c k).write=qi c.queue k:=by rw[C1 C,pn C]
 have hnd:zX c.bk (fK c k) (lR c k).write=some (mZ c k):=by rw[Z,ak6];exact RM _ E T O
 have hw:W6 (c.now-(lR c k).at_)=c.now-(lR c k).at_:=aY;unfold Pc xI bM;rw[aA ⟨by omega,by omega⟩];simp only[bC,C2];rw[aA ⟨by omega,by omega⟩];simp only[yu C,(Sc L.1 E U),ak,pn];unfold kX;cases ig c k with
 |false=>rfl
 | true=>
  simp only[bK,au,cm];cases nK c (fK c k).ay with
  |true=>rfl
  | false=>
   rw[au,aA ⟨by omega,by omega⟩,hnd,ak,RL h.p (alN h C),ak];cases dj c (mZ c k)with
   |false=>rfl
   | true=>
    simp only[bK,gZ,au,cm,ZG _ _ (show c.pending.length<=1048576 by omega),ak,al8 h,hw];have tC:(c.pending.any λa=>a.ay==(fK c k).ay)=L3 c (fK c k).ay:=rfl;have hyg:decide (c.now-(lR c k).at_ >= c.box.bz.cap) = !Sb c k:=by
     unfold Sb;by_cases I:c.now-(lR c k).at_<c.box.bz.cap
     ·rw[aZ I,bq];rfl
     ·rw[bq I,aZ];rfl
    rw[tC,hyg];by_cases D:(mZ c k).kind=1
    ·have k4:((mZ c k).kind==(4:Int))=false:=by rw[D];rfl
     have k4':((mZ c k).kind != (4:Int))=true:=by rw[D];rfl
     have D:((mZ c k).kind==(1:Int))=true:=by rw[D];rfl
     rw[D,k4,k4'];cases L3 c (fK c k).ay<;>rfl
    ·have D:((mZ c k).kind==(1:Int))=false:=by simpa using D
     rw[D,bne];cases (mZ c k).kind==(4:Int)with
     |false=>rfl
     | true=>
      cases L3 c (fK c k).ay with
      |true=>rfl
      | false=>
       simp only[Bool.false_or,bK,aq,au,cm,gZ];refine(aA (⟨by omega,C⟩:0<=(k:Int)/\k<c.queue.length)).trans ?_;cases Sb c k with
       |false=>rw[Bool.and_false];rfl
       |true=>rw[Bool.and_true];exact al8 h _
def aEq{c:av}(h:Pq c):Pe c=some (AM c):=by
 have hq:=h.ql;have T:=vT h;have L5:=um c;have⟨l,hl⟩:=al6 h;have hb:=al7 c;have e:=cz (step:=Jj) c.queue.length (λi=>((c,(),(),(),(),(),(),(i:Int),()),(((0:Int),(0:Int),(0:Int),(0:Int),()),fG c,(List.range c.queue.length).map (ig c),(List.range i).map (kX c),(List.range i).map (eo c),rD c i,()))) (.inl ((c,(),(),(),(),(),()),(((0:Int),(0:Int),(0:Int),(0:Int),()),fG c,(List.range c.queue.length).map (kX c),(List.range c.queue.length).map (eo c),rD c c.queue.length,()))) aS (λk C=>by
  have⟨Y,E,I,Z,o4,U⟩:=C3 h C;have⟨q1,q2,q3⟩:=h.q _ (cS C);rw[pn C]at q2;have hwl:=Sd c k;have hh:=ak8 (r:=c.bk) (a:=fK c k) U E I T;have jt:eo c k=vP c.bk (fK c k):=rfl;have hwt:rD c (k+1)=bif kX c k then (rD c k).set (lR c k).dh.toNat true else rD c k:=rfl;unfold Jj az xG xI xL;dsimp only;simp only[eM,cT,jO];rw[aZ,aq,aEp h C,ak,cM,aq,aA ⟨by omega,by omega⟩,aA];simp only[bC,C2];rw[hh,ak,aq,bE,List.range_succ,List.map_append,List.map_append,List.map_singleton,List.map_singleton,jt,hwt];cases kX c k with
  |false=>rfl
  | true=>
   rw[ aA ⟨by omega,by omega⟩];simp only[pn];rw[aA ⟨by omega,by omega⟩,aA];rfl) (by
  unfold Jj az xG xI xL;dsimp only;rw[bq,au]) (bJ)
 have L:=cz (step:=Jk) c.queue.length (λi=>((c,(),(),(),(),rF c,(i:Int),()),(((0:Int),(0:Int),(0:Int),(0:Int),()),fG c,sL (rE c (rF c)) (kX c) c.queue.length i,(List.range c.queue.length).map (eo c),()))) (.inl ((c,(),(),(),(),()),(((0:Int),(0:Int),(0:Int),(0:Int),()),fG c,(List.range c.queue.length).map (rE c (rF c)),(List.range c.queue.length).map (eo c),()))) aS (λk C=>by
  have D:=Se (rE c (rF c)) (kX c) c.queue.length k;have ht:rE c (rF c) k=(kX c k&&(lR c k).dh==rF c):=rfl;rw[<- al5 C,ht];unfold Jk az xG xI xL;dsimp only;rw[aZ,aq,aA ⟨by omega,by omega⟩,aA,bE];simp only[bC,al4];cases kX c k with
  |false=>rw[au,aA ⟨by omega,by omega⟩,aA];rfl
  | true=>
   rw[ aA ⟨by omega,by omega⟩];simp only[pn];rw[aA ⟨by omega,by omega⟩,aA];rfl) (by
  unfold Jk az xG xI xL;dsimp only;rw[bq,au,al3]) (bJ)
 rw[cc]at e L;rw[al2]at L;unfold Pe xI bA xL;rw[aly h,ak,aDL h,ak,bN (by decide)]
 refine(bx (λo=>Option.bind o _) e).trans ?_
 rw[ak];simp only[dZ];rw[ak2 _ _ (by have:=h.shl;omega),hl,ak]
 refine(bx (λo=>Option.bind o _) L).trans ?_
 rw[ak];simp only[dZ];rw[aEn h,ak];show (bif decide (ov c<0)then _ else _)=_;unfold AM;by_cases O:ov c<0
 ·rw[aZ O];rfl
 ·have D:(ov c).toNat<c.queue.length:=by omega
  have⟨Y,E,I,Z,o4,U⟩:=C3 h D;rw[bq O,au,au];have ni:¬ uw (nL c) (eo c) (rE c (rF c)) c.queue.length<0:=O;have aCZ:(uw (nL c) (eo c) (rE c (rF c)) c.queue.length).toNat<c.queue.length:=D;rw[aA ⟨by omega,by omega⟩,aA];simp only[C2];rw[aA ⟨by omega,by omega⟩];simp only[pn];have HO:(lR c (ov c).toNat).write=qi c.queue (ov c).toNat:=by rw[C1 D,pn D]
  show (zX c.bk (fK c (ov c).toNat) (lR c (ov c).toNat).write).bind _=_;rw[HO,ak6,RM _ E I T,ak];rfl
def Sf{α:Type}(p:α -> Bool)(l:aa α):(c8 p l=l.length/\l.find? p=none) \/ ∃ h:c8 p l<l.length,l.find? p=some l[c8 p l]:=by
 have E:=ua p l;rcases Nat.lt_or_ge _ _ with h|h
 ·refine .inr ⟨h,?_⟩;rw[List.find?_eq_some_iff_getElem]
  refine⟨qe h,_,h,rfl,λj C=>?_⟩
  rw[mW C];rfl
 ·refine .inl ⟨by omega,?_⟩;rw[List.find?_eq_none];intro x D;obtain⟨j,C,rfl⟩:=jN.1 D;rw[mW (p:=p) (by omega) C];simp
def L6(c:av)(l:aa aF):aF×Bool:=match l.find? (dj c)with
 |some x=>(x,true)
 |none=>(vX,false)
def al9{c:av}(h:Pq c){l:aa aF}(hl:l.length <= 1000)(I:∀ x∈l,dI c.config.ax x=true):I9 c l=some (L6 c l):=by
 have hi:=ua (dj c) l;have kY:∀ (k:Nat) (C:k<l.length),Cg ((c,l,(),(k:Int),()),(((0:Int),(0:Int),(0:Int),(0:Int),()),()))=some (bif dj c l[k]then .inr (.inl (((),true,()),((l[k].kind,l[k].ay,l[k].row,l[k].bL,()),())))else .inl ((c,l,(),((k+1:Nat):Int),()),(((0:Int),(0:Int),(0:Int),(0:Int),()),()))):=by
  intro k C;unfold Cg az aT xG xI;dsimp only;rw[aZ,aq,aA ⟨by omega,by omega⟩];simp only[bC];rw[RL h.p (I _ (cS C)),ak];cases dj c l[k]with
  |false=>rw[au,bE];rfl
  |true=>simp_all
 unfold I9 L6 bM;rcases Sf (dj c) l with ⟨D,E⟩|⟨D,E⟩
 ·have e:=cz (step:=Cg) l.length _ _ aS (λk C=>by
   rw[kY k C,mW (p:=dj c) (i:=k) (by omega) C];rfl) (by
   unfold Cg az aT xG xI;dsimp only;rw[bq,au]) (bJ)
  rw[cc]at e
  refine(bx (λo=>Option.bind o _) e).trans ?_
  rw[E];rfl
 ·have e:=cz (step:=Cg) (c8 (dj c) l) (λk=>((c,l,(),(k:Int),()),(((0:Int),(0:Int),(0:Int),(0:Int),()),()))) (.inl (((),true,()),((l[c8 (dj c) l].kind,l[c8 (dj c) l].ay,l[c8 (dj c) l].row,l[c8 (dj c) l].bL,()),()))) aS (λk C=>by
   rw[kY k (by omega),mW (p:=dj c) (i:=k) C (by omega)];rfl) (by
   rw[kY _ D,qe D];rfl) (bJ)
  rw[cc]at e
  refine(bx (λo=>Option.bind o _) e).trans ?_
  rw[E];rfl
def AN(c:av)(b:Int)(x:aF):aF:=bif (jv c.bk b).open_ then ⟨4,b,0,0⟩else x
def ZH{c:av}{b:Int}(x:aF)(C:0 <= b)(h:b.toNat<c.bk.aB.length):CE c b x=some (AN c b x):=by
 unfold CE AN xI;rw[aA ⟨C,h⟩,AG h]
 grind
def ZI{c:av}(x:aF)(C:0 <= x.ay)(h:x.ay.toNat<c.bk.aB.length):EH c x=some (AN c x.ay x):=by
 unfold EH AN xI;rw[aA ⟨C,h⟩,AG h]
 grind
def Sg{c:av}{b:Int}{x:aF}(h:Pq c)(C:0 <= b/\b<aW c.config.ax)(D:dI c.config.ax x=true):dI c.config.ax (AN c b x)=true:=by
 unfold AN;cases (jv _ b).open_ with
 |false=>exact D
 |true=>exact AH h.p.R.sF (.inl rfl) C
def ij(c:av)(b:Int):aF:=AN c b ⟨5,b,0,0⟩
def m0(c:av)(i:Nat):aJ:=c.pending.getD i zA
def ZJ{c:av}{i:Nat}(h:i<c.pending.length):c.pending[i]=m0 c i:=by
 unfold m0;rw[fj,bS h];rfl
def qp(c:av)(i:Nat):Bool:=!nK c (m0 c i).ay && !((c.pending.take i).any λa=>a.ay==(m0 c i).ay)
def jY(c:av)(i:Nat):aF:=AN c (m0 c i).ay ⟨1,(m0 c i).ay,(m0 c i).row,0⟩
def qq(c:av):aa aF:=(cF 0 c.aL.aH).map (ij c)
def rG(c:av)(k:Nat):aa aF:=((List.range k).filter (qp c)).map (jY c)
def ZK{c:av}(h:Pq c){i:Nat}(hi:i<c.pending.length):dx c.config.ax (m0 c i)=true/\0 <= (m0 c i).ay/\(m0 c i).ay.toNat<c.bk.aB.length/\(m0 c i).ay.toNat<c.aL.aH.length/\(m0 c i).ay<aW c.config.ax:=by
 have C:=h.pe _ (cS hi);rw[ZJ]at C;have⟨_,D,E,I,L,O,T⟩:=q9 C;have:=h.p.bl;have:=h.dl;simp_all
def ama{c:av}(h:Pq c){b:Int}(hb:b∈cF 0 c.aL.aH):(0 <= b/\b<aW c.config.ax)/\dI c.config.ax (ij c b)=true:=by
 obtain⟨j,rfl,C,_⟩:=akZ hb;have:=h.dl;have hb:0 <= ((0+j):Int)/\((0+j):Int)<aW c.config.ax:=by omega
 exact⟨hb,Sg h hb (AH h.p.R.sF (.inr rfl) hb)⟩
def amb{c:av}(h:Pq c){i:Nat}(hi:i<c.pending.length):dI c.config.ax (jY c i)=true:=by
 have⟨C,D,I,L,E⟩:=ZK h hi;exact Sg h ⟨D,E⟩ (aC4 C)
def amc(c:av)(k:Nat):(rG c k).length <= k:=by
 unfold rG
 grind
def aEr{c:av}(h:Pq c):O8 c=some (qq c++rG c c.pending.length):=by
 have E:=om h.rf;have uG:=h.pl;have hdn:=h.dl;have Ls:=h.p.bl;have ul:=CY 0 c.aL.aH;have e:=cz (step:=Ja) c.aL.aH.length (λi=>((c,(),(i:Int),()),((cF 0 (c.aL.aH.take i)).map (ij c),()))) (.inl ((c,(),()),(qq c,()))) aS (λk C=>by
  have L:=CY 0 (c.aL.aH.take k);rw[gF]at L;have O:=(Sc (c:=c) (b:=(k:Int)) E.1 (by omega) (by omega))
  have T:nK c (k:Int)=decide (c.aL.aH[k] >= 4):=by
   unfold nK;rw[bC,fj,bS C];rfl
  unfold Ja az xG;dsimp only;rw[aZ,aq,O,ak,bE,Zc C,T];cases decide (c.aL.aH[k] >= 4)with
  |false=>rfl
  | true=>
   rw[aq,aq,ZI _ (by show 0 <= (k:Int);omega) (by show (k:Int).toNat<_;omega),ak,eM,jO,cM,List.map_append];rfl) (by
  unfold Ja az xG;dsimp only;rw[bq,au,jz];rfl) (bJ)
 have D:=cz (step:=Jb) c.pending.length (λi=>((c,(),(i:Int),()),(qq c++rG c i,()))) (.inl (((),()),(qq c++rG c c.pending.length,()))) aS (λk C=>by
  have⟨ho,I,U,Y,o4⟩:=ZK h C;have hpk:=amc c k;have hul:(qq c).length <= 8:=by unfold qq;rw[eM];omega
  have Z:rG c (k+1)=rG c k++(bif qp c k then [jY c k]else []):=by
   unfold rG;rw[List.range_succ,List.filter_append];cases hp:qp c k<;>simp[hp]
  rw[Z];unfold Jb az xG xI;dsimp only;rw[aZ,aq,aA ⟨by omega,by omega⟩,bE];simp only[bC,ZJ,(Sc E.1 I Y),ak,Int.toNat_zero,List.drop_zero];unfold qp;cases nK c (m0 c k).ay with
  |true=>rw[bK,au,Bool.false_and,au,List.append_nil]
  | false=>
   rw[gZ,aq,bN ⟨by omega,by omega,by omega⟩,ZG _ _ (by rw[gF];omega),ak,cm];cases (c.pending.take k).any λa=>a.ay==(m0 c k).ay with
   |true=>rw[bK,au,au,List.append_nil]
   | false=>
    rw[gZ,ZI _ I U,ak,ox,jO,cM,List.append_assoc];rfl) (by
  unfold Jb az xG xI;dsimp only;rw[bq,au]) (bJ)
 rw[cc]at e D;unfold O8 bA
 refine(bx (λo=>Option.bind o _) e).trans ?_
 rw[ak];have e0:qq c++rG c 0=qq c:=List.append_nil _;rw[e0]at D
 refine(bx (λo=>Option.bind o _) D).trans ?_
 rfl
def uy(u:Bool)(l:aa Int)(idle:Nat->Bool)(i:Nat):Bool:=bif u then decide (l.getD i 0 >= 4)else decide (l.getD i 0 > 0)&&idle i
def AO(r:dn)(idle:Nat->Bool):Int:=kW (uy (decide (((cF 0 r.aH).length:Int) > 0)) r.aH idle) (λi=>r.aH.getD i 0) r.aH.length
def ZL(r:dn)(idle:Nat->Bool):-1<=AO r idle/\AO r idle<r.aH.length:=vO _ _ _
def aEs{r:dn}(D:ff r=true)(idle:Nat -> Bool):QU r ((List.range r.aH.length).map idle)=some (AO r idle):=by
 have hl:=om D;unfold QU bA;rw[Rh _ (by omega),ak,D,bK,au,Zd D,ak];generalize O:decide (((cF 0 r.aH).length:Int) > 0)=u;have e:=cz (step:=QT) r.aH.length (λi=>(((List.range r.aH.length).map idle,(),u,kW (uy u r.aH idle) (λi=>r.aH.getD i 0) i,r.aH,(r.aH.length:Int),(i:Int),()),((r.aH,r.wait,r.dL,()),()))) (.inl ((kW (uy u r.aH idle) (λi=>r.aH.getD i 0) r.aH.length,()),())) aS (λk E=>by
  have hb:=vO (uy u r.aH idle) (λi=>r.aH.getD i 0) k;rw[FQ];generalize kW (uy u r.aH idle) (λi=>r.aH.getD i 0) k=C at hb;have T:r.aH.getD k 0=r.aH[k]:=by rw[fj,bS E];rfl
  unfold QT AD uy az xG xI;dsimp only;rw[aZ,aq,aA ⟨by omega,by omega⟩];simp only[bC,T,eM,cT];rw[bE,aZ (by omega:(k:Int)<(r.aH.length:Int)),aq,aA ⟨by omega,by omega⟩];simp only[yu E];by_cases I:C<0
  ·rw[aZ I,Bool.true_or];cases u<;>cases decide (r.aH[k] > 0)<;>cases decide (r.aH[k] >= 4)<;>cases idle k<;>rfl
  ·have L:C.toNat<r.aH.length:=by omega
   have U:r.aH.getD C.toNat 0=r.aH[C.toNat]:=by rw[fj,bS L];rfl
   have Y:0 <= C/\C.toNat<r.aH.length:=⟨by omega,L⟩
   rw[bq I,U];simp only[aA Y,au];cases u<;>cases decide (r.aH[k] > 0)<;>cases decide (r.aH[k] >= 4)<;>cases idle k<;>cases decide (r.aH[k] > r.aH[C.toNat])<;>rfl) (by
  unfold QT az xG xI;dsimp only;rw[bq,au]) (bJ)
 rw[cc]at e
 refine(bx (λo=>Option.bind o _) e).trans ?_
 unfold AO;rw[O];rfl
def aEt{r:dn}(D:ff r=true)(idle:Nat -> Bool):Pf r ((List.range r.aH.length).map idle)=some (AO r idle):=by
 have hl:=om D;unfold Pf bA;rw[Lu _ (by omega),ak,D,bK,au,ak0 D,ak];generalize O:decide (((cF 0 r.aH).length:Int) > 0)=u;have e:=cz (step:=Jl) r.aH.length (λi=>(((List.range r.aH.length).map idle,(),u,kW (uy u r.aH idle) (λi=>r.aH.getD i 0) i,(i:Int),()),((r.aH,r.wait,r.dL,()),()))) (.inl ((kW (uy u r.aH idle) (λi=>r.aH.getD i 0) r.aH.length,()),())) aS (λk E=>by
  have hb:=vO (uy u r.aH idle) (λi=>r.aH.getD i 0) k;rw[FQ];generalize kW (uy u r.aH idle) (λi=>r.aH.getD i 0) k=C at hb;have T:r.aH.getD k 0=r.aH[k]:=by rw[fj,bS E];rfl
  have U:0 <= (k:Int)/\k<r.aH.length:=⟨by omega,E⟩
  unfold Jl AD uy az xG xI;dsimp only;rw[aZ,aq,aA ⟨by omega,by omega⟩];simp only[bC,T,eM,cT,aA U];rw[bE,aZ (by omega:(k:Int)<(r.aH.length:Int)),aq];simp only[yu E];by_cases I:C<0
  ·rw[aZ I,Bool.true_or];cases u<;>cases decide (r.aH[k] > 0)<;>cases decide (r.aH[k] >= 4)<;>cases idle k<;>rfl
  ·have L:C.toNat<r.aH.length:=by omega
   have Y:r.aH.getD C.toNat 0=r.aH[C.toNat]:=by rw[fj,bS L];rfl
   have Z:0 <= C/\C.toNat<r.aH.length:=⟨by omega,L⟩
   rw[bq I,Y];simp only[aA Z,au];cases u<;>cases decide (r.aH[k] > 0)<;>cases decide (r.aH[k] >= 4)<;>cases idle k<;>cases decide (r.aH[k] > r.aH[C.toNat])<;>rfl) (by
  unfold Jl az xG xI;dsimp only;rw[bq,au]) (bJ)
 rw[cc]at e
 refine(bx (λo=>Option.bind o _) e).trans ?_
 unfold AO;rw[O];rfl
def nM(w:aa aJ)(r:cD)(b:Nat):Bool:=w.any λa=>a.ay==(b:Int)&&a.row==(jv r (b:Int)).row
def sM(w:aa aJ)(r:cD)(b:Nat):Bool:=(jv r (b:Int)).open_ && !nM w r b
def yz(r:cD)(dz:Int)(w:aa aJ):Int:=bif dz != 1 then -1 else fS (sM w r) r.aB.length
def ZM(r:cD)(dz:Int)(w:aa aJ):-1 <= yz r dz w/\yz r dz w<r.aB.length:=by
 unfold yz;cases dz != 1 with
 |true=>grind
 | false=>
  rw[au];rcases uv (sM w r) r.aB.length with ⟨C,_⟩|⟨j,C,D,_⟩<;>omega
def aEu{w:aa aJ}{r:cD}{L:aa Int}{b:Nat}{i n:Int}(hb:b<r.aB.length)(hl:r.aB.length<=1048576)(D:w.length<=1000):iter Le aS ((w,(),(b:Int),false,(),n,i,w,(w.length:Int),(0:Int),()),((r.aB,r.aR,()),L,()))=some (.inl ((w,(),(b:Int),nM w r b,(),n,i,()),((r.aB,r.aR,()),L,()))):=by
 have e:=cz (step:=Le) w.length (λk=>((w,(),(b:Int),((w.take k).any λa=>a.ay==(b:Int)&&a.row==(jv r (b:Int)).row),(),n,i,w,(w.length:Int),(k:Int),()),((r.aB,r.aR,()),L,()))) (.inl ((w,(),(b:Int),nM w r b,(),n,i,()),((r.aB,r.aR,()),L,()))) aS (λk C=>by
  rw[qa C,List.any_append,List.any_cons,List.any_nil,Bool.or_false,AG (by rw[bC];exact hb)];unfold Le az xG xI;dsimp only;rw[aZ,aq,aA ⟨by omega,by omega⟩,bE];simp only[bC];cases (w.take k).any λa=>a.ay==(b:Int)&&a.row==r.aB[b].row with
  |true=>rfl
  | false=>
   rw[au,Bool.false_or];cases w[k].ay==(b:Int)with
   |false=>rfl
   |true=>rw[aq,aA ⟨by omega,hb⟩,cm]) (by
  unfold Le az xG xI;dsimp only;rw[bq,au,jz];rfl) (bJ)
 rw[cc]at e;exact e
def aEv{w:aa aJ}{r:cD}{b:Nat}(hb:b<r.aB.length)(hl:r.aB.length <= 1048576)(D:w.length <= 1000)(o:Bool):iter EM aS ((w,(),(b:Int),o,(0:Int),()),((r.aB,r.aR,()),()))=some (.inl ((w,(),(b:Int),o || nM w r b,()),((r.aB,r.aR,()),()))):=by
 have e:=cz (step:=EM) w.length (λk=>((w,(),(b:Int),o || ((w.take k).any λa=>a.ay==(b:Int)&&a.row==(jv r (b:Int)).row),(k:Int),()),((r.aB,r.aR,()),()))) (.inl ((w,(),(b:Int),o || nM w r b,()),((r.aB,r.aR,()),()))) aS (λk C=>by
  rw[qa C,List.any_append,List.any_cons,List.any_nil,Bool.or_false,AG (by rw[bC];exact hb)];unfold EM az xG xI;dsimp only;rw[aZ,aq,aA ⟨by omega,by omega⟩,bE];simp only[bC];cases w[k].ay==(b:Int)with
  |false=>rw[au,Bool.false_and,Bool.or_false]
  | true=>
   rw[aq,aA ⟨by omega,C⟩,aA ⟨by omega,hb⟩,cm];cases w[k].row==r.aB[b].row with
   |false=>simp[*]
   |true=>rw[aq,Bool.or_true,Bool.or_true]) (by
  unfold EM az xG xI;dsimp only;rw[bq,au,jz];rfl) (bJ)
 rw[cc,List.take_zero,List.any_nil,Bool.or_false]at e;exact e
def amd(w:aa aJ)(r:cD):∀ k,k <= r.aB.length -> (opens 0 (r.aB.take k)).find? (λb=>!nM w r b.toNat)=bif decide (fS (sM w r) k<0)then none else some (fS (sM w r) k)
 |0,_=>rfl
 | k+1,E=>by
  have C:=amd w r k (by omega);have hb:(jv r (k:Int)).open_=r.aB[k].open_:=by rw[AG (by rw[bC];omega)];simp only[bC]
  have D:sM w r k=(r.aB[k].open_ && !nM w r k):=by unfold sM;rw[hb]
  rw[qa (show k<r.aB.length by omega),Ym,gF,Nat.min_eq_left (by omega),fh,List.find?_append,C,C6,D];have I:opens k [r.aB[k]]=bif r.aB[k].open_ then [(k:Int)]else []:=rfl
  grind
def ame(i:Nat)(l:aa eP)(x:Int)(h:x∈opens i l):∃ j:Nat,j<l.length/\x=((i+j:Nat):Int):=by
 induction l generalizing i with
 |nil=>cases h
 | cons d l C=>
  have e:opens i (d :: l)=bif d.open_ then (i:Int) :: opens (i+1) l else opens (i+1) l:=rfl;rw[e]at h;have tl:x∈opens (i+1) l -> ∃ j:Nat,j<(d :: l).length/\x=((i+j:Nat):Int):=λh=>by
   have⟨j,D,E⟩:=C _ h;exact⟨j+1,by simpa using D,by rw[E];omega⟩
  cases I:d.open_ with
  |false=>grind
  | true=>
   rw[I,aq]at h;rcases gJ.1 h with rfl|h
   ·exact⟨0,by simp,rfl⟩
   ·exact tl h
def aEw{r:cD}(dz:Int){w:aa aJ}(hl:r.aB.length <= 1048576)(O:w.length <= 1000):QV r dz w=some (yz r dz w):=by
 unfold QV yz bM;cases dz != 1 with
 |true=>rfl
 | false=>
  rw[au,au,Q6 r (by omega),ak];have I:=amd w r r.aB.length (dJ _);rw[jz]at I;have Z:=Q5 0 r.aB;have T:=ame 0 r.aB;generalize hL:opens 0 r.aB=L at *
  have hi:=ua (λb:Int=>!nM w r b.toNat) L;have kY:∀ (k:Nat) (C:k<L.length),Fy ((w,(),(),(L.length:Int),(k:Int),()),((r.aB,r.aR,()),L,()))=some (bif !nM w r L[k].toNat then .inr (.inl ((L[k],()),()))else .inl ((w,(),(),(L.length:Int),((k+1:Nat):Int),()),((r.aB,r.aR,()),L,()))):=by
   intro k C;have⟨j,E,D⟩:=T _ (cS C);rw[fh]at D;unfold Fy az aT xG bA xL;dsimp only;rw[aZ,aq,aA ⟨by omega,by omega⟩,aA];simp only[bC,D];rw[aEu E hl O,ak];simp only[dZ];rw[bE];cases nM w r j<;>rfl
  rcases Sf (λb:Int=>!nM w r b.toNat) L with ⟨E,D⟩|⟨E,D⟩
  ·have e:=cz (step:=Fy) L.length (λk=>((w,(),(),(L.length:Int),(k:Int),()),((r.aB,r.aR,()),L,()))) (.inr (.inl ((),()))) aS (λk C=>by
    have:=mW (p:=λb:Int=>!nM w r b.toNat) (q:=L) (i:=k) (by omega) C;rw[kY k C,this];rfl) (by
    unfold Fy az aT xG bA xL;dsimp only;rw[bq,au]) (bJ)
   rw[cc]at e
   refine(bx (λo=>Option.bind o _) e).trans ?_
   rw[D]at I;by_cases U:fS (sM w r) r.aB.length<0
   ·rcases uv (sM w r) r.aB.length with ⟨Y,_⟩ | ⟨j,_,k2,_⟩
    ·rw[Y];rfl
    ·omega
   ·grind
  ·have e:=cz (step:=Fy) (c8 (λb:Int=>!nM w r b.toNat) L) (λk=>((w,(),(),(L.length:Int),(k:Int),()),((r.aB,r.aR,()),L,()))) (.inl ((L[c8 (λb:Int=>!nM w r b.toNat) L],()),())) aS (λk C=>by
    have:=mW (p:=λb:Int=>!nM w r b.toNat) (q:=L) (i:=k) C (by omega);rw[kY k (by omega),this];rfl) (by
    have:=qe (p:=λb:Int=>!nM w r b.toNat) (q:=L) E;rw[kY _ E,this];rfl) (bJ)
   rw[cc]at e
   refine(bx (λo=>Option.bind o _) e).trans ?_
   rw[D]at I;by_cases U:fS (sM w r) r.aB.length<0
   ·grind
   ·simp[*]
def aEx{r:cD}(dz:Int){w:aa aJ}(hl:r.aB.length <= 1048576)(I:w.length <= 1000):Pg r dz w=some (yz r dz w):=by
 unfold Pg yz bM;cases dz != 1 with
 |true=>rfl
 | false=>
  have kY:∀ k (C:k<r.aB.length),Cj ((w,(),k,()),((r.aB,r.aR,()),()))=some (bif sM w r k then .inr (.inl ((k,()),()))else .inl ((w,(),((k+1):Int),()),((r.aB,r.aR,()),()))):=by
   intro k C;have hb:(jv r (k:Int)).open_=r.aB[k].open_:=by rw[AG (by rw[bC];omega)];simp only[bC]
   unfold Cj sM az aT xG xI bA;dsimp only;rw[aZ,aq,aA ⟨by omega,by omega⟩,hb];simp only[bC];rw[aEv C hl I,ak];simp only[dZ];rw[bE];cases r.aB[k].open_<;>cases nM w r k<;>rfl
  rcases uv (sM w r) _ with ⟨D,E⟩|⟨j,D,E,L,O⟩
  ·have e:=cz (step:=Cj) r.aB.length (λk=>((w,(),(k:Int),()),((r.aB,r.aR,()),()))) (.inr (.inl ((),()))) aS (λk C=>by
    rw[kY k C,E k C];rfl) (by
    unfold Cj az aT xG xI bA;dsimp only;rw[bq,au]) (bJ)
   rw[cc]at e
   refine(bx (λo=>Option.bind o _) e).trans ?_
   rw[D];rfl
  ·have e:=cz (step:=Cj) j (λk=>((w,(),(k:Int),()),((r.aB,r.aR,()),()))) (.inl (((j:Int),()),())) aS (λk C=>by
    rw[kY k (by omega),O k C];rfl) (by
    rw[kY j D,L];rfl) (bJ)
   rw[cc]at e
   refine(bx (λo=>Option.bind o _) e).trans ?_
   rw[E];rfl
def cG(c:av):Int:=ue c.box.bz.cN c.aR (yh c)
def FY(c:av)(i:Nat):Bool:=!((fG c).any λa=>a.ay==(i:Int))
def gR(c:av):Int:=AO c.aL (FY c)
def iD(c:av):Int:=yz c.bk c.box.bz.dz (fG c)
def yA(c:av):aa aF:=bif decide (gR c >= 0) && !nK c (gR c)then [ij c (gR c)]else []
def sN(c:av):aa aF:=bif decide (iD c >= 0)then [⟨4,iD c,0,0⟩]else []
def ow(c:av):aa aF:=bif cG c==8&&decide (((opens 0 c.bk.aB).length:Int) > 0)then [⟨4,(opens 0 c.bk.aB).headD 0,0,0⟩]else bif cG c != 0 then [⟨cG c,0,0,0⟩]else []
def sO(c:av)(l:aa aF):aF:=(l.find? (dj c)).getD vX
def fnd_nil(c:av):sO c []=vX:=rfl
def fnd_cons(c:av)(x:aF)(l:aa aF):sO c (x :: l)=bif dj c x then x else sO c l:=by
 unfold sO;rw[List.find?_cons];cases dj c x<;>rfl
def Sh(c:av)(w:Int):ah aF:=
 let D:Int->Int->Int->Int->ah (aF):=λE I L O=>(let T:Bool->ah (aF):=λU=>bif U then some (⟨E,I,L,O⟩:aF)else some (⟨(0:Int),(0:Int),(0:Int),(0:Int)⟩:aF);bif (E != (0:Int))then (jk c (⟨E,I,L,O⟩:aF)).bind λY=>(T Y)else (T false));bif (w==(8:Int))then (Aj c.bk).bind λC=>bif (decide ((C.length:Int) > (0:Int)))then if pR:0<=(0:Int)/\(0:Int).toNat<C.length then if Z:(0:Int).toNat<C.length then (let pY:=C[(0:Int).toNat]'Z;(D (4:Int) pY (0:Int) (0:Int)))else none else none else (D w 0 0 0)else (D w 0 0 0)
def C7(c:av)(D:aa aJ)(w:Int):ah aF:=
 (QV c.bk c.box.bz.dz D).bind λC=>bif (C != (-1:Int))then (jk c (⟨(4:Int),C,(0:Int),(0:Int)⟩:aF)).bind λE=>bif E then some (⟨(4:Int),C,(0:Int),(0:Int)⟩:aF)else Sh c w else Sh c w
def amf(c:av)(L:aa Int)(D:aa aJ)(w:Int)(idle:aa Bool):ah aF:=
 (QU c.aL idle).bind λC=>(let E:Bool->ah (aF):=λO=>bif O then (CE c C (⟨(5:Int),C,(0:Int),(0:Int)⟩:aF)).bind λI=>(jk c I).bind λT=>bif T then some I else C7 c D w else C7 c D w;bif (C != (-1:Int))then (xS L C).bind λU=>(E (!U))else (E false))
def Si(c:av):cG c=0\/6<=cG c/\cG c<=9:=aCU _ _ _
def aEy(l:aa Int)(h:0<l.length):l.headD 0=l[0]:=by
 cases l with
 |nil=>cases h
 |cons x l=>rfl
def ZN(c:av)(h:Pq c)(C:0<(opens 0 c.bk.aB).length):(0 <= (opens 0 c.bk.aB)[0]/\(opens 0 c.bk.aB)[0]<aW c.config.ax)/\(opens 0 c.bk.aB).headD 0=(opens 0 c.bk.aB)[0]:=by
 have⟨j,D,E⟩:=ame 0 _ _ (cS C);have:=h.p.bl;exact⟨by omega,aEy _ C⟩
def aEz{c:av}(h:Pq c):Sh c (cG c)=some (sO c (ow c)):=by
 have lD:=vT h;have hw:=Si c;have D:=h.p.R.sF;have L:cG c≠0 -> jk c ⟨cG c,0,0,0⟩=some (dj c ⟨cG c,0,0,0⟩):=λhn=>yg h.p (RN D (by omega))
 have O:(bif (cG c != (0:Int))then (jk c (⟨cG c,0,0,0⟩:aF)).bind λT=>(bif T then some (⟨cG c,0,0,0⟩:aF)else some vX)else some vX)=some (sO c (bif cG c != 0 then [⟨cG c,0,0,0⟩]else [])):=by
  by_cases C:cG c=0
  ·rw[C];rfl
  ·rw[fZ C,aq,aq,L C,fnd_cons,fnd_nil]
   grind
 unfold Sh ow;dsimp only;by_cases E:cG c=8
 ·have U:(cG c==8)=true:=by rw[E];rfl
  rw[U,aq,Q6 _ (by omega),ak,cm];by_cases I:0<(opens 0 c.bk.aB).length
  ·have⟨Y,Z⟩:=ZN c h I;rw[aZ,aq,aq,aA ⟨by omega,I⟩,aA,Z];show (bif ((4:Int) != 0)then (jk c ⟨4,(opens 0 c.bk.aB)[0],0,0⟩).bind _ else _)=_;rw[yg h.p (AH D (.inl rfl) Y),fnd_cons,fnd_nil];cases dj c ⟨4,(opens 0 c.bk.aB)[0],0,0⟩<;>rfl
  ·rw[bq,au];exact O
 ·rwa [kR E,au,Bool.false_and,au]
def aEA{c:av}(h:Pq c):C7 c (fG c) (cG c)=some (sO c (sN c++ow c)):=by
 have C:=vT h;have E:=h.ql;have I:=h.p.bl;have hb:-1 <= iD c/\iD c<c.bk.aB.length:=ZM _ _ _;unfold C7 sN;rw[aEw _ C (by rw[um];omega),ak];show (bif iD c != -1 then (jk c ⟨4,iD c,0,0⟩).bind _ else _)=_;rw[aEz h];by_cases D:iD c >= 0
 ·rw[fZ (by omega:¬ iD c = -1),aq,aZ D,aq,yg h.p (AH h.p.R.sF (.inl rfl) (by omega)),ak,List.singleton_append,fnd_cons];cases dj c ⟨4,iD c,0,0⟩<;>rfl
 ·grind
def aEB{c:av}(h:Pq c):amf c (cF 0 c.aL.aH) (fG c) (cG c) ((List.range c.aL.aH.length).map (FY c))=some (sO c (yA c++(sN c++ow c))):=by
 have U:=vT h;have I:=om h.rf;have Y:=h.p.bl;have Z:=h.dl;have hb:-1 <= gR c/\gR c<c.aL.aH.length:=ZL _ _;unfold amf yA;rw[aEs h.rf,ak];show (bif gR c != -1 then (xS (cF 0 c.aL.aH) (gR c)).bind λL=>(bif !L then (CE c (gR c) ⟨5,gR c,0,0⟩).bind λD=>(jk c D).bind λC=>bif C then some D else C7 c (fG c) (cG c)else C7 c (fG c) (cG c))else C7 c (fG c) (cG c))=_;rw[aEA h];by_cases O:gR c >= 0
 ·have E:0 <= gR c/\gR c<aW c.config.ax:=by omega
  rw[fZ (by omega:¬ gR c = -1),aq,aZ O,cm,(ZA I.1 (by omega) (by omega)),ak];cases nK c (gR c)with
  |true=>rfl
  | false=>
   have T:dI c.config.ax (ij c (gR c))=true:=Sg h E (AH h.p.R.sF (.inr rfl) E);rw[gZ,aq,aq,ZH _ (by omega) (by omega),ak];show ((jk c (ij c (gR c))).bind λC=>bif C then some (ij c (gR c))else _)=_;rw[yg h.p T,ak,List.singleton_append,fnd_cons]
   grind
 ·grind
def aEC{c:av}(h:Pq c):QX c (cF 0 c.aL.aH) (fG c) ⟨cG c,0,0,0⟩=some (sO c (yA c++(sN c++ow c))):=by
 have D:=vT h;have E:=h.ql;have I:=h.p.bl;have L:=h.dl;have O:=om h.rf;have C:c.bk.aB.length=c.aL.aH.length:=by omega
 have e:=cz (step:=QW) c.bk.aB.length (λi=>((cF 0 c.aL.aH,fG c,(),(),(),(),(c.bk.aB.length:Int),(i:Int),()),(c,(cG c,(0:Int),(0:Int),(0:Int),()),((0:Int),(0:Int),(0:Int),(0:Int),()),(List.range i).map (FY c),()))) _ aS (λk T=>by
  unfold QW az xG;dsimp only;rw[aZ,aq,Zl _ _ (by rw[um];omega),ak,eM,cT,jO,cM,aq,bE,List.range_succ,List.map_append];rfl) (by
  unfold QW az xG;dsimp only;rw[bq,au]) (bJ)
 rw[cc]at e;unfold QX bA xL
 refine(bx (λo=>Option.bind o _) e).trans ?_
 rw[ak,C];exact aEB h
def aED{c:av}(h:Pq c):(ow c).length <= 1 /\ ∀ x∈ow c,dI c.config.ax x=true:=by
 have U:=Si c;have D:=h.p.R.sF;have E:(bif cG c != 0 then [(⟨cG c,0,0,0⟩:aF)]else []).length <= 1 /\ ∀ x∈(bif cG c != 0 then [⟨cG c,0,0,0⟩]else []),dI c.config.ax x=true:=by
  by_cases I:cG c=0
  ·simp_all
  ·rw[fZ I];exact⟨dJ _,λx C=>by rw[oy.1 C];exact RN D (by omega)⟩
 unfold ow;cases cG c==8 with
 |false=>exact E
 | true=>
  by_cases L:0<(opens 0 c.bk.aB).length
  ·have⟨O,T⟩:=ZN c h L;rw[aZ,T];exact⟨dJ _,λx C=>by rw[oy.1 C];exact AH D (.inl rfl) O⟩
  ·simp_all
def aEE{c:av}(h:Pq c):(sN c).length <= 1 /\ ∀ x∈sN c,dI c.config.ax x=true:=by
 have E:=h.p.bl;have hb:-1 <= iD c/\iD c<c.bk.aB.length:=ZM _ _ _;unfold sN;by_cases C:iD c >= 0
 ·rw[aZ C];exact⟨dJ _,λx D=>by rw[oy.1 D];exact AH h.p.R.sF (.inl rfl) (by omega)⟩
 ·grind
def aEF{c:av}(h:Pq c):(yA c).length <= 1 /\ ∀ x∈yA c,dI c.config.ax x=true:=by
 have I:=h.dl;have hb:-1 <= gR c/\gR c<c.aL.aH.length:=ZL _ _;unfold yA;by_cases D:gR c >= 0
 ·have C:0 <= gR c/\gR c<aW c.config.ax:=by omega
  rw[aZ D];cases nK c _ with
  |true=>simp_all
  |false=>exact⟨dJ _,λx E=>by rw[oy.1 E];exact Sg h C (AH h.p.R.sF (.inr rfl) C)⟩
 ·grind
def aEG{c:av}(h:Pq c):Ph c (cG c)=some (yA c++(sN c++ow c)):=by
 have U:=vT h;have hq:=h.ql;have Ls:=h.p.bl;have hdn:=h.dl;have Y:=om h.rf;have Z:c.bk.aB.length=c.aL.aH.length:=by omega
 have zM:-1 <= gR c/\gR c<c.aL.aH.length:=ZL _ _;have gT:-1 <= iD c/\iD c<c.bk.aB.length:=ZM _ _ _;have hol:=Q5 0 c.bk.aB;have e:=cz (step:=Jm) c.bk.aB.length (λi=>((c,cG c,(),(),(),(i:Int),()),(([]:aa aF),fG c,(List.range i).map (FY c),()))) (.inl ((c,cG c,(),(),(),()),(([]:aa aF),fG c,(List.range c.bk.aB.length).map (FY c),()))) aS (λk hk=>by
  unfold Jm az xG;dsimp only;rw[aZ,aq,ZG _ _ (by rw[um];omega),ak,eM,cT,jO,cM,aq,bE,List.range_succ,List.map_append];rfl) (by
  unfold Jm az xG;dsimp only;rw[bq,au]) (bJ)
 rw[cc]at e;have D:∀l:aa aF,l.length <= 5 -> bF (l.length+1)=true:=λl hl=>cM
 -- the end
 have tl:∀ l:aa aF,l.length <= 5 -> (bif (cG c==(8:Int))then (bif (decide (((opens 0 c.bk.aB).length:Int) > (0:Int)))then (if I:0 <= (0:Int)/\(0:Int).toNat<(opens 0 c.bk.aB).length then if C:(0:Int).toNat<(opens 0 c.bk.aB).length then (bif bF (l.length+([(⟨(4:Int),(opens 0 c.bk.aB)[(0:Int).toNat]'C,(0:Int),(0:Int)⟩:aF)]:aa aF).length)then some (l++([(⟨(4:Int),(opens 0 c.bk.aB)[(0:Int).toNat]'C,(0:Int),(0:Int)⟩:aF)]:aa aF))else none)else none else none)else (bif (cG c != (0:Int))then bif bF (l.length+([(⟨cG c,(0:Int),(0:Int),(0:Int)⟩:aF)]:aa aF).length)then some (l++([(⟨cG c,(0:Int),(0:Int),(0:Int)⟩:aF)]:aa aF))else none else some l))else (bif (cG c != (0:Int))then bif bF (l.length+([(⟨cG c,(0:Int),(0:Int),(0:Int)⟩:aF)]:aa aF).length)then some (l++([(⟨cG c,(0:Int),(0:Int),(0:Int)⟩:aF)]:aa aF))else none else some l))=some (l++ow c):=by
  intro l hl;have z:(bif (cG c != (0:Int))then bif bF (l.length+([(⟨cG c,(0:Int),(0:Int),(0:Int)⟩:aF)]:aa aF).length)then some (l++([(⟨cG c,(0:Int),(0:Int),(0:Int)⟩:aF)]:aa aF))else none else some l)=some (l++(bif cG c != 0 then [(⟨cG c,0,0,0⟩:aF)]else [])):=by
   rw[jO,D l hl];cases cG c != 0 with
   |true=>rfl
   |false=>rw[au,au,List.append_nil]
  unfold ow;cases cG c==8 with
  |false=>exact z
  | true=>
   rw[aq,cm];by_cases E:0<(opens 0 c.bk.aB).length
   ·have⟨k1,k2⟩:=ZN c h E;rw[aZ (by omega:((opens 0 c.bk.aB).length:Int) > 0),aq,aq,aA ⟨by omega,E⟩,aA (show Int.toNat 0<(opens 0 c.bk.aB).length from E),jO,D l hl,aq,k2];rfl
   ·rw[bq (by omega:¬ ((opens 0 c.bk.aB).length:Int) > 0),au,au];exact z
 unfold Ph bA xL;rw[aly h,ak]
 refine(bx (λo=>Option.bind o _) e).trans ?_
 rw[ak,Z];simp only[dZ,aEt h.rf,ak,aEx _ U (show (fG c).length <= 1000 by rw[um];omega),ako _ (show c.bk.aB.length<1073741823 by omega)];have er:AO c.aL (FY c)=gR c:=rfl;have ec:yz c.bk c.box.bz.dz (fG c)=iD c:=rfl;rw[er,ec];have h1:∀ l:aa aF,l.length <= 4 -> (bif decide (iD c >= 0)then bif bF (l.length+([(⟨4,iD c,0,0⟩:aF)]:aa aF).length)then some ((l++([(⟨4,iD c,0,0⟩:aF)]:aa aF))++ow c)else none else some (l++ow c))=some (l++(sN c++ow c)):=by
  intro l hl;unfold sN;rw[jO,D l (by omega)];cases decide (iD c >= 0)with
  |true=>rw[aq,aq,List.append_assoc];rfl
  |false=>rfl
 have L:∀ l:aa aF,l.length <= 1 -> (bif decide (iD c >= 0)then bif bF (l.length+([(⟨4,iD c,0,0⟩:aF)]:aa aF).length)then (bif (cG c==(8:Int))then (bif (decide (((opens 0 c.bk.aB).length:Int) > (0:Int)))then (if I:0 <= (0:Int)/\(0:Int).toNat<(opens 0 c.bk.aB).length then if C:(0:Int).toNat<(opens 0 c.bk.aB).length then (bif bF ((l++([(⟨4,iD c,0,0⟩:aF)]:aa aF)).length+([(⟨(4:Int),(opens 0 c.bk.aB)[(0:Int).toNat]'C,(0:Int),(0:Int)⟩:aF)]:aa aF).length)then some ((l++([(⟨4,iD c,0,0⟩:aF)]:aa aF))++([(⟨(4:Int),(opens 0 c.bk.aB)[(0:Int).toNat]'C,(0:Int),(0:Int)⟩:aF)]:aa aF))else none)else none else none)else (bif (cG c != (0:Int))then bif bF ((l++([(⟨4,iD c,0,0⟩:aF)]:aa aF)).length+([(⟨cG c,(0:Int),(0:Int),(0:Int)⟩:aF)]:aa aF).length)then some ((l++([(⟨4,iD c,0,0⟩:aF)]:aa aF))++([(⟨cG c,(0:Int),(0:Int),(0:Int)⟩:aF)]:aa aF))else none else some (l++([(⟨4,iD c,0,0⟩:aF)]:aa aF))))else (bif (cG c != (0:Int))then bif bF ((l++([(⟨4,iD c,0,0⟩:aF)]:aa aF)).length+([(⟨cG c,(0:Int),(0:Int),(0:Int)⟩:aF)]:aa aF).length)then some ((l++([(⟨4,iD c,0,0⟩:aF)]:aa aF))++([(⟨cG c,(0:Int),(0:Int),(0:Int)⟩:aF)]:aa aF))else none else some (l++([(⟨4,iD c,0,0⟩:aF)]:aa aF))))else none else (bif (cG c==(8:Int))then (bif (decide (((opens 0 c.bk.aB).length:Int) > (0:Int)))then (if I:0 <= (0:Int)/\(0:Int).toNat<(opens 0 c.bk.aB).length then if C:(0:Int).toNat<(opens 0 c.bk.aB).length then (bif bF (l.length+([(⟨(4:Int),(opens 0 c.bk.aB)[(0:Int).toNat]'C,(0:Int),(0:Int)⟩:aF)]:aa aF).length)then some (l++([(⟨(4:Int),(opens 0 c.bk.aB)[(0:Int).toNat]'C,(0:Int),(0:Int)⟩:aF)]:aa aF))else none)else none else none)else (bif (cG c != (0:Int))then bif bF (l.length+([(⟨cG c,(0:Int),(0:Int),(0:Int)⟩:aF)]:aa aF).length)then some (l++([(⟨cG c,(0:Int),(0:Int),(0:Int)⟩:aF)]:aa aF))else none else some l))else (bif (cG c != (0:Int))then bif bF (l.length+([(⟨cG c,(0:Int),(0:Int),(0:Int)⟩:aF)]:aa aF).length)then some (l++([(⟨cG c,(0:Int),(0:Int),(0:Int)⟩:aF)]:aa aF))else none else some l)))=some (l++(sN c++ow c)):=by
  intro l hl;rw[tl _ (by rw[ox,jO];omega),tl _ (by omega)];exact h1 l (by omega)
 have O:=L [] (by simp);unfold yA;by_cases T:gR c >= 0
 ·have hv:0 <= gR c/\gR c<aW c.config.ax:=by omega
  rw[aZ T,aq,cm,(Sc Y.1 (by omega) (by omega)),ak];cases nK c (gR c)with
  |true=>exact O
  | false=>
   rw[gZ,aq,aq,ZI _ (by show 0 <= gR c;omega) (by show (gR c).toNat<_;omega),ak,List.length_nil,jO,cM,aq];exact L [ij c (gR c)] (dJ _)
 ·rw[bq T,au,Bool.false_and,au];exact O
def ZO(c:av):ah aF:=(qq c++rG c c.pending.length).find? (dj c)
def L7(c:av):aF×Int:=
 bif c.aR.state != 0 then (bif cG c != 0 then (bif dj c ⟨cG c,0,0,0⟩then (⟨cG c,0,0,0⟩,-1)else (vX,-1))else (vX,-1))else
 match ZO c with
 |some x=>(x,-1)
 |none=>bif decide ((AM c).2 >= 0)then AM c else (sO c (yA c++(sN c++ow c)),-1)
def aEH(c:av)(l:aa aF):L6 c l=(sO c l,(l.find? (dj c)).isSome):=by
 unfold L6 sO;cases l.find? (dj c)<;>rfl
def amg{c:av}(h:Pq c):xz c=some (bif decide ((c.trace.length:Int) >= 2000)then (vX,-1)else L7 c):=by
 have D:=h.p.R.sF;have T:=Si c;have U:=h.pl;have Y:=om h.rf;have Z:=CY 0 c.aL.aH;have E:=aEF h;have I:=aEE h;have L:=aED h;unfold xz;cases decide ((c.trace.length:Int) >= 2000)with
 |true=>rfl
 | false=>
  rw[au,au,ak1 h.rf,ak,aCT _ _ _ h.cN h.pw,ak];have O:ue c.box.bz.cN c.aR (yh c)=cG c:=rfl;rw[O];unfold L7;cases c.aR.state != 0 with
  | true=>
   rw[aq,aq];by_cases C:cG c=0
   ·rw[C];rfl
   ·rw[kR C,fZ C,RL h.p (RN D (by omega))];cases dj c ⟨cG c,0,0,0⟩<;>rfl
  | false=>
   rw[au,au,aEr h,ak,al9 h (by
    rw[ox];have:=amc c c.pending.length;have:(qq c).length=(cF 0 c.aL.aH).length:=by unfold qq;rw[eM]
    omega) (λx hx=>by
    rcases List.mem_append.1 hx with hx|hx
    ·obtain⟨b,hb,rfl⟩:=List.mem_map.1 hx;exact(ama h hb).2
    ·obtain⟨i,hi,rfl⟩:=List.mem_map.1 hx;exact amb h (fz.1 (List.mem_filter.1 hi).1)),ak]
   unfold L6 ZO;cases (qq c++rG c c.pending.length).find? (dj c)with
   |some x=>rfl
   | none=>
    dsimp only;rw[au,aEq h,ak];cases decide ((AM c).2 >= 0)with
    |true=>rfl
    | false=>
     rw[au,au,aEG h,ak,al9 h (by rw[ox,ox];omega) (λx hx=>by
      rcases List.mem_append.1 hx with hx|hx
      ·exact E.2 x hx
      ·rcases List.mem_append.1 hx with hx | hx
       ·exact I.2 x hx
       ·exact L.2 x hx),ak,aEH]
def aEI(p:Nat -> Bool)(n:Nat):c8 p (List.range n) <= n/\(∀ k,k<c8 p (List.range n) -> p k=false)/\(c8 p (List.range n)<n -> p (c8 p (List.range n))=true):=by
 have C:=ua p (List.range n);rw[cT]at C
 refine⟨C,λk D=>?_,λE=>?_⟩
 ·have:=mW D (by rw[cT];omega);simp_all
 ·have:=qe (p:=p) (q:=List.range n) (by rw[cT];exact E)
  rwa [jM]at this
def aEJ(c:av)(n:Nat):(rG c n).find? (dj c)=if c8 (λi=>qp c i&&dj c (jY c i)) (List.range n)<n then some (jY c (c8 (λi=>qp c i&&dj c (jY c i)) (List.range n)))else none:=by
 unfold rG;rw[List.find?_map,List.find?_filter];have e:(List.range n).find? (λa=>decide (qp c a=true/\(dj c ∘ jY c) a=true))=(List.range n).find? (λi=>qp c i&&dj c (jY c i)):=by
  simp_all
 rw[e];rcases Sf (λi=>qp c i&&dj c (jY c i)) (List.range n)with ⟨C,D⟩|⟨C,D⟩
 ·simp_all
 ·grind
def aEK{c:av}(h:Pq c):Yc c=some (L7 c):=by
 have Y:=h.p.R.sF;have hw:=Si c;have uG:=h.pl;have Z:=om h.rf;have ul:=CY 0 c.aL.aH;have Ls:=h.p.bl;have hdn:=h.dl;unfold Yc bM;rw[Zd h.rf,ak,aCR h.rf,ak,aCS _ _ _ h.cN h.pw,ak];have ew:ue c.box.bz.cN c.aR (yh c)=cG c:=rfl;rw[ew];unfold L7;cases c.aR.state != 0 with
 | true=>
  rw[aq,aq];by_cases O:cG c=0
  ·rw[O];rfl
  ·rw[fZ O,aq,aq,yg h.p (RN Y (by omega)),ak];cases dj c ⟨cG c,0,0,0⟩<;>rfl
 | false=>
  rw[au,au];have kY:∀ (k:Nat) (C:k<(cF 0 c.aL.aH).length),Fz (((),(),(),(),(),((cF 0 c.aL.aH).length:Int),(k:Int),()),(c,((0:Int),(0:Int),(0:Int),(0:Int),()),cF 0 c.aL.aH,(cG c,(0:Int),(0:Int),(0:Int),()),()))=some (bif dj c (ij c (cF 0 c.aL.aH)[k])then .inr (.inl (((),(-1:Int),()),(((ij c (cF 0 c.aL.aH)[k]).kind,(ij c (cF 0 c.aL.aH)[k]).ay,(ij c (cF 0 c.aL.aH)[k]).row,(ij c (cF 0 c.aL.aH)[k]).bL,()),())))else .inl (((),(),(),(),(),((cF 0 c.aL.aH).length:Int),((k+1:Nat):Int),()),(c,((0:Int),(0:Int),(0:Int),(0:Int),()),cF 0 c.aL.aH,(cG c,(0:Int),(0:Int),(0:Int),()),()))):=by
   intro k C;have⟨k1,k2⟩:=ama h (cS C);unfold Fz az aT xG xL;dsimp only;rw[aZ,aq,aA ⟨by omega,by omega⟩,aA];simp only[bC];rw[ZH _ (by omega) (by omega),ak];show ((jk c (ij c (cF 0 c.aL.aH)[k])).bind _)=_;rw[yg h.p k2,ak,bE];cases dj c (ij c (cF 0 c.aL.aH)[k])<;>rfl
  have hfu:(qq c).find? (dj c)=((cF 0 c.aL.aH).find? (λb=>dj c (ij c b))).map (ij c):=by
   unfold qq;rw[List.find?_map];rfl
  unfold ZO;rw[List.find?_append,hfu,aEJ];rcases Sf (λb=>dj c (ij c b)) (cF 0 c.aL.aH)with ⟨I,T⟩|⟨I,T⟩
  ·have e:=cz (step:=Fz) (cF 0 c.aL.aH).length (λk=>(((),(),(),(),(),((cF 0 c.aL.aH).length:Int),(k:Int),()),(c,((0:Int),(0:Int),(0:Int),(0:Int),()),cF 0 c.aL.aH,(cG c,(0:Int),(0:Int),(0:Int),()),()))) (.inr (.inl (((),(),(),(),()),(c,((0:Int),(0:Int),(0:Int),(0:Int),()),cF 0 c.aL.aH,(cG c,(0:Int),(0:Int),(0:Int),()),())))) aS (λk C=>by
    have:=mW (p:=λb=>dj c (ij c b)) (q:=cF 0 c.aL.aH) (i:=k) (by omega) C;rw[kY k C,this];rfl) (by
    unfold Fz az aT xG xL;dsimp only;rw[bq,au]) (bJ)
   rw[cc]at e
   refine(bx (λo=>Option.bind o _) e).trans ?_
   rw[ak,T];simp only[Sum.elim_inr,dZ,Option.map_none,Option.none_or];have⟨i1,i2,i3⟩:=aEI (λi=>qp c i&&dj c (jY c i)) c.pending.length;have L:∀ (k:Nat) (C:k<c.pending.length),FA (((),(),(),(),c.pending,(c.pending.length:Int),(k:Int),()),(c,((0:Int),(0:Int),(0:Int),(0:Int),()),cF 0 c.aL.aH,(cG c,(0:Int),(0:Int),(0:Int),()),()))=some (bif qp c k&&dj c (jY c k)then .inr (.inl (((),(-1:Int),()),(((jY c k).kind,(jY c k).ay,(jY c k).row,(jY c k).bL,()),())))else .inl (((),(),(),(),c.pending,(c.pending.length:Int),((k+1:Nat):Int),()),(c,((0:Int),(0:Int),(0:Int),(0:Int),()),cF 0 c.aL.aH,(cG c,(0:Int),(0:Int),(0:Int),()),()))):=by
    intro k C;have⟨ho,U,o2,o3,o4⟩:=ZK h C;unfold FA az aT xG xI;dsimp only;rw[aZ,aq,aA ⟨by omega,by omega⟩,bE];simp only[bC,ZJ,(ZA Z.1 U o3),ak,Int.toNat_zero,List.drop_zero];have ek:qp c k=(!nK c (m0 c k).ay && !((c.pending.take k).any λa=>a.ay==(m0 c k).ay)):=rfl;rw[ek];cases nK c (m0 c k).ay with
    |true=>rfl
    | false=>
     rw[au,bN ⟨by omega,by omega,by omega⟩,Zl _ _ (by rw[gF];omega),ak];cases (c.pending.take k).any λa=>a.ay==(m0 c k).ay with
     |true=>rfl
     | false=>
      rw[au,ZH _ U o2,ak];show ((jk c (jY c k)).bind _)=_;rw[yg h.p (amb h C)];cases dj c (jY c k)<;>rfl
   by_cases E:c8 (λi=>qp c i&&dj c (jY c i)) (List.range c.pending.length)<c.pending.length
   ·rw[bN E];generalize hN:c8 (λi=>qp c i&&dj c (jY c i)) (List.range c.pending.length)=N at *
    have D:=cz (step:=FA) N (λk=>(((),(),(),(),c.pending,(c.pending.length:Int),(k:Int),()),(c,((0:Int),(0:Int),(0:Int),(0:Int),()),cF 0 c.aL.aH,(cG c,(0:Int),(0:Int),(0:Int),()),()))) (.inl (((),(-1:Int),()),(((jY c N).kind,(jY c N).ay,(jY c N).row,(jY c N).bL,()),()))) aS (λk C=>by
     rw[L k (by omega),i2 k C];rfl) (by
     rw[L N E,i3 E];rfl) (bJ)
    rw[cc]at D
    refine(bx (λo=>Option.bind o _) D).trans ?_
    rfl
   ·rw[bO E];have D:=cz (step:=FA) c.pending.length (λk=>(((),(),(),(),c.pending,(c.pending.length:Int),(k:Int),()),(c,((0:Int),(0:Int),(0:Int),(0:Int),()),cF 0 c.aL.aH,(cG c,(0:Int),(0:Int),(0:Int),()),()))) (.inr (.inl (((),(),(),(),()),(c,((0:Int),(0:Int),(0:Int),(0:Int),()),cF 0 c.aL.aH,(cG c,(0:Int),(0:Int),(0:Int),()),())))) aS (λk C=>by
     rw[L k C,i2 k (by omega)];rfl) (by
     unfold FA az aT xG xI;dsimp only;rw[bq,au]) (bJ)
    rw[cc]at D
    refine(bx (λo=>Option.bind o _) D).trans ?_
    rw[ak];simp only[Sum.elim_inr,dZ];rw[aDN h,ak,aEo h,ak];cases decide ((AM c).2 >= 0)with
    |true=>rfl
    | false=>
     rw[au,au];show ((QX c (cF 0 c.aL.aH) (fG c) ⟨cG c,0,0,0⟩).bind _)=_;rw[aEC h,ak]
  ·have e:=cz (step:=Fz) (c8 (λb=>dj c (ij c b)) (cF 0 c.aL.aH)) (λk=>(((),(),(),(),(),((cF 0 c.aL.aH).length:Int),(k:Int),()),(c,((0:Int),(0:Int),(0:Int),(0:Int),()),cF 0 c.aL.aH,(cG c,(0:Int),(0:Int),(0:Int),()),()))) (.inl (((),(-1:Int),()),(((ij c (cF 0 c.aL.aH)[c8 (λb=>dj c (ij c b)) (cF 0 c.aL.aH)]).kind,(ij c (cF 0 c.aL.aH)[c8 (λb=>dj c (ij c b)) (cF 0 c.aL.aH)]).ay,(ij c (cF 0 c.aL.aH)[c8 (λb=>dj c (ij c b)) (cF 0 c.aL.aH)]).row,(ij c (cF 0 c.aL.aH)[c8 (λb=>dj c (ij c b)) (cF 0 c.aL.aH)]).bL,()),()))) aS (λk C=>by
    have:=mW (p:=λb=>dj c (ij c b)) (q:=cF 0 c.aL.aH) (i:=k) C (by omega);rw[kY k (by omega),this];rfl) (by
    have:=qe (p:=λb=>dj c (ij c b)) (q:=cF 0 c.aL.aH) I;rw[kY _ I,this];rfl) (bJ)
   simp_all
def aEL{c:av}(C:dg c):vu c=Ag c/\∃ y,Ag c=some y:=by
 unfold vu Ag;rw[RC c C,Y1 c C,ak,ak];cases D:dP c with
 |false=>exact⟨rfl,_,rfl⟩
 | true=>
  have h:=Pq.of C D;rw[bK,au,au,amg h,ak,aEK h];cases decide ((c.trace.length:Int) >= 2000)with
  |true=>exact⟨rfl,_,rfl⟩
  |false=>exact⟨rfl,_,rfl⟩
def aEM{r:cD}{x:aF}(C:x.kind <= 5):(gj r x).aR=r.aR:=by
 unfold gj
 grind
def gE.dN{c:av}(p:gE c)(x:aF):gE (dN c x):=⟨p.dl,p.tl,p.gl,p.t,p.g,p.pd,p.u⟩
def Ck.dN{c:av}(h:Ck c){x:aF}(C:mT c.config.ax c.bk x=true)(D:x.kind<=5)(E:c.trace.length<2000):Ck (dN c x):=by
 simp only[mT,aQ]at C;exact⟨h.f1,h.f2,h.nw,aky C.1 C.2.1 C.2.2,alX _ h.rd,h.ar,h.sp,h.se,h.rf,((gE.of h.pa).dN x).ok,h.qu,h.sh,h.sl,h.dr,h.pw,h.ps.trans (aEM D).symm,h.si,h.s1,h.s2,h.s3,h.er,by simp[Proofs.YtglnbhiaknohlaaGreat.dN];omega,h.rp⟩
def Ck.opn{c:av}(h:Ck c){x:aF}(E:0 <= x.ay)(I:x.ay<aW c.config.ax)(L:0 <= x.row)(O:x.row<c.config.ax.rows):Ck (uh c x):=by
 have C:=(yb h.rk).1;have gb:=fm C;have p:=gE.of h.pa;have R9:=p.tl;have hgl:=p.gl;have T:x.ay.toNat<c.bH.length:=by omega
 have D:fy c.config.ax 100000 (uc c.config.ax c.config.cA c.array x.ay x.row):=Y6 C c.config.cA (by decide) (fy.vV h.ar) E I L O;have U:∀a∈oq c x,dx c.config.ax a=true/\a.bL=0:=λa D=>p.pd a (List.mem_filter.1 D).1
 have Y:(oq c x).Pairwise (λx y=>x≠y):=p.u.filter _;have q:(∀ a∈(uh c x).pending,dx c.config.ax a=true/\a.bL=0)/\(uh c x).pending.Pairwise (λx y=>x≠y):=by
  show (∀a∈(bif (sH c x).2 then (mm c.config.ax.rows x.row).foldl (mY x.ay) (oq c x)else oq c x),dx c.config.ax a=true/\a.bL=0)/\(bif (sH c x).2 then (mm c.config.ax.rows x.row).foldl (mY x.ay) (oq c x)else oq c x).Pairwise (λx y=>x≠y);cases (sH c x).2 with
  |false=>simp_all
  | true=>
   refine alR _ (λn Z=>?_) U Y
   have:=akA L O n Z;exact vw C E I this.1 this.2 (Int.le_refl 0) (by show 0<_;omega)
 have hp:gE (uh c x):=⟨p.dl,by show ((c.bH.set x.ay.toNat (sH c x).1).length:Int)=_;rw[iY];exact p.tl,p.gl,FX p.t (by unfold sH;rw[mq _ T];exact aD9 (p.t _ (cS T)) _ _),p.g,q.1,q.2⟩
 exact⟨h.f1,h.f2,h.nw,h.rk,h.rd,yx C D,h.sp,h.se,h.rf,hp.ok,h.qu,h.sh,h.sl,h.dr,h.pw,h.ps,h.si,h.s1,h.s2,h.s3,h.er,h.tr,h.rp⟩
def Ck.ref{c:av}(h:Ck c)(hl:c.box.bz.weights.length<1073741823)(E:aP c.config.eD 1 16=true){b:Int}(I:0 <= b)(L:b<aW c.config.ax):Ck (R7 c b):=by
 have C:=(yb h.rk).1;have T:=fm C;have p:=gE.of h.pa;have U:=p.dl;have D:fy _ 100000 (qg _ c.config.cA c.array b c.config.ax.rows.toNat):=FU C _ (by decide) (fy.vV h.ar) I L _ (by omega);have O:gE (R7 c b):=⟨by show ((vQ c.aL b).aH.length:Int)=_;rw[alI];exact p.dl,by show ((c.bH.set b.toNat _).length:Int)=_;rw[iY];exact p.tl,by show ((c.guard.set b.toNat _).length:Int)=_;rw[iY];exact p.gl,FX p.t (alS E),FX p.g (alT hl h.f1),λa D=>p.pd a (List.mem_filter.1 D).1,p.u.filter _⟩
 exact⟨h.f1,h.f2,h.nw,h.rk,h.rd,yx C D,h.sp,h.se,aEh h.rf (by omega),O.ok,h.qu,h.sh,h.sl,h.dr,h.pw,h.ps,h.si,h.s1,h.s2,h.s3,h.er,h.tr,h.rp⟩
def ZP{T:Type}{p:T->Prop}{l:aa T}{x:T}(h:∀ y∈l,p y)(C:p x):∀ k:Nat,∀ y∈(List.range k).foldl (λd b=>d.set b x) l,p y
 |0=>h
 | k+1=>by
  rw[yo];exact FX (ZP h C k) C
def amh{r:dn}(h:ff r=true):∀ k:Nat,ff ⟨(List.range k).foldl (λd b=>d.set b 0) r.aH,r.wait,r.dL⟩=true
 |0=>h
 | k+1=>by
  rw[yo];exact al1 (amh h k) k (by omega)
def Ck.RU{c:av}(h:Ck c)(hl:c.box.bz.weights.length<1073741823)(E:aP c.config.eD 1 16=true)(n:Nat)(I:(n:Int) <= aW c.config.ax):Ck (gN c n []):=by
 have D:=(yb h.rk).1;have p:=gE.of h.pa;have C:=RT D c.config.cA (by decide) (fy.vV h.ar) n I;have L:gE (gN c n []):=⟨by show (((List.range n).foldl _ c.aL.aH).length:Int)=_;rw[yp];exact p.dl,by show (((List.range n).foldl _ c.bH).length:Int)=_;rw[yp];exact p.tl,by show (((List.range n).foldl _ c.guard).length:Int)=_;rw[yp];exact p.gl,ZP p.t (alS E) n,ZP p.g (alT hl h.f1) n,λa C=>(by cases C),List.Pairwise.nil⟩
 exact⟨h.f1,h.f2,h.nw,h.rk,h.rd,yx D C,h.sp,h.se,amh h.rf n,L.ok,h.qu,h.sh,h.sl,h.dr,h.pw,h.ps,h.si,h.s1,h.s2,h.s3,h.er,h.tr,h.rp⟩
def Ck.acc{c:av}(h:Ck c){i:Nat}(C:ou c i 100000)(hr:c.cr.length<400):Ck (ur c i):=by
 have O:=(yb h.rk).1;have p:=gE.of h.pa;have hi:=C.i;have⟨f1,f3,f4,f5,f6,f7,f8⟩:=C.facts (cS hi);have D:c.queue.getD i vU=c.queue[i]:=mq _ hi;have E:=C.d _ (cS hi);have T:=C.shl;have I:iA (AL c.shares c.queue[i].dh)=true/\((AL c.shares c.queue[i].dh).length:Int)=4:=by
  have⟨y,t,e,hl,ho⟩:=aEf ((List.replicate 4 false).set c.queue[i].dh.toNat true) (by omega) h.sh (by simp[T])
  grind
 have U:jl (eI (eC c.config.ax c.spare)) (c.queue.take i++c.queue.drop (i+1))=true:=((Qk.of h.qu).sub (alY _ _)).ok;have key:∀ (a:dU) (e:aa cq) (x:eR),fy c.config.ax 100000 a -> kT e=true -> Ck (ot c i a e x):=λa e x Y Z=>
  ⟨h.f1,h.f2,h.nw,h.rk,h.rd,yx O Y,h.sp,h.se,h.rf,(show gE (ot c i a e x)from ⟨p.dl,p.tl,p.gl,p.t,p.g,p.pd,p.u⟩).ok,U,by unfold ot;rw[D];exact I.1,by unfold ot;rw[D];exact I.2,h.dr,h.pw,h.ps,h.si,h.s1,h.s2,h.s3,Z,h.tr,by simp[ot];omega⟩
 unfold ur;rw[D];dsimp only;cases c.queue[i].write with
 |true=>exact key _ _ _ (C.a.CT _ (c:=⟨_,false⟩) (L0 E.1 E.2).2.1) h.er
 | false=>
  have L:=C.a.syms _ (cS f4);rw[au,mq _ f4];refine key _ _ _ (C.a.CT _ (Zs L)) ?_;have hec:=R6 L;by_cases e:mw c.array.cells[iB c.config.ax (gQ c c.queue[i].line)]=0
  ·rw[e];exact h.er
  ·rw[fZ e,aq];exact alZ h.er ⟨by omega,f5⟩ (by omega)
def Ck.Sj{c:av}(h:Ck c){x:aF}(C:mT c.config.ax c.bk x=true)(D:6 <= x.kind/\x.kind <= 9)(T:c.trace.length<2000):Ck (C5 (Proofs.YtglnbhiaknohlaaGreat.dN c x) x.kind):=by
 simp[mT,aQ]at C;have E:=bG.1 h.nw;have⟨I,L,O⟩:=aEi h.pw h.ps h.si E.2 D C.2.2;have p:=gE.of h.pa;exact⟨h.f1,h.f2,h.nw,aky C.1 C.2.1 C.2.2,alX _ h.rd,h.ar,h.sp,h.se,h.rf,(show gE _ from ⟨p.dl,p.tl,p.gl,p.t,p.g,p.pd,p.u⟩).ok,h.qu,h.sh,h.sl,h.dr,I,L,O,h.s1,h.s2,h.s3,h.er,by simp[C5,alE,Proofs.YtglnbhiaknohlaaGreat.dN];omega,h.rp⟩
def Ck.iss{c:av}(I:dg c)(h:Ck c){x:aF}{i:Int}(E:qm c x i=true):Ck (sK c x i):=by
 have U:=Pq.of I h.ok;have L:c.box.bz.weights.length<1073741823:=by
  have:=I.1.1;unfold FK at this;omega
 have Y:aP c.config.eD 1 16=true:=by
  have:=(FT L h.f1).1;simp[nH,aQ]at this;exact this.2.2.2.2.2.1
 have⟨hb,C,Z,hr⟩:=ZD I U E;have D:c.trace.length<2000:=by
  simp only[qm,aQ,iq,qw]at E;omega
 have hrp:x.kind=2 \/ x.kind=3 -> c.cr.length<400:=λO=>by
  simp only[qm,aQ]at E;have e:(x.kind==2 ||x.kind==3)=true:=by rcases O with q|q<;>rw[q]<;>rfl
  rw[e,aq]at E;simp[L4,aQ,gS]at E;omega
 have⟨hg,hlen,O,hbk⟩:=FI C;have hc:dI c.config.ax x=true:=by
  simp only[mT,aQ]at C
  grind
 have R9:=(gE.of h.pa).tl;have lD:=U.p.bl;unfold sK;rcases kinds O with q|q|q|q|q|q|q|q|q<;>rw[q]<;>simp only[Int.reduceBEq,Int.reduceBNe,aq,au,Bool.or_true,Bool.or_false,Bool.true_or,Bool.false_or,Bool.or_self]
 ·have⟨T,zM⟩:=hbk (by omega);have⟨r0,r1⟩:=R8 hc q;exact(h.dN C (by omega) D).opn T (by show x.ay<aW c.config.ax;omega) r0 r1
 ·exact(h.dN C (by omega) D).acc ((Z (.inl q)).1.dN x) (hrp (.inl q))
 ·exact(h.dN C (by omega) D).acc ((Z (.inr q)).1.dN x) (hrp (.inr q))
 ·exact h.dN C (by omega) D
 ·have⟨T,zM⟩:=hbk (by omega);exact(h.dN C (by omega) D).ref L Y T (by show x.ay<aW c.config.ax;omega)
 ·have:=h.Sj C (by omega) D;rw[q]at this;exact this
 ·have:=h.Sj C (by omega) D;rw[q]at this;exact this
 ·have:=h.Sj C (by omega) D;rw[q]at this;exact this
 ·have:=h.Sj C (by omega) D;rw[q]at this;exact this.RU L Y _ (by show (c.bH.length:Int) <= aW c.config.ax;omega)
def Nx(c y:av):Prop:=y.now=c.now/\y.config=c.config/\y.queue.Sublist c.queue/\(∀r∈y.cr,r∈c.cr\/∃q∈c.queue,r.id=q.id)/\(y.trace=c.trace\/∃x,y.trace=c.trace++[⟨c.now,x⟩])
def Nx.refl(c:av):Nx c c:=⟨rfl,rfl,List.Sublist.refl _,λr C=>.inl C,.inl rfl⟩
def ami{c:av}(x:aF){i:Nat}(hi:i<c.queue.length):Nx c (ur (dN c x) i):=by
 have key:∀ a e t,t.id=c.queue[i].id -> Nx c (ot (dN c x) i a e t):=λa e t C=>by
  refine⟨rfl,rfl,alY _ _,λr hr=>?_,.inr ⟨x,rfl⟩⟩
  rcases List.mem_append.1 hr with hr|hr
  ·exact .inl hr
  ·grind
 have D:(dN c x).queue.getD i vU=c.queue[i]:=mq _ hi;unfold ur
 grind
def aEN{c:av}{x:aF}{i:Int}(I:1 <= x.kind/\x.kind <= 9)(D:x.kind=2 \/ x.kind=3 -> i.toNat<c.queue.length):Nx c (sK c x i):=by
 have C:∀y:av,y.now=c.now -> y.config=c.config -> y.queue=c.queue -> y.cr=c.cr -> y.trace=c.trace++[⟨c.now,x⟩] -> Nx c y:=λy L O T U Y=>⟨L,O,by rw[T];exact List.Sublist.refl _,λr E=>by rw[U]at E;exact .inl E,.inr ⟨x,Y⟩⟩
 unfold sK;rcases kinds I with q|q|q|q|q|q|q|q|q<;>rw[q]<;>simp
 ·exact C _ rfl rfl rfl rfl rfl
 ·exact ami x (D (.inl q))
 ·exact ami x (D (.inr q))
 ·exact C _ rfl rfl rfl rfl rfl
 ·exact C _ rfl rfl rfl rfl rfl
 ·exact C _ rfl rfl rfl rfl rfl
 ·exact C _ rfl rfl rfl rfl rfl
 ·exact C _ rfl rfl rfl rfl rfl
 ·exact C _ rfl rfl rfl rfl rfl
def yB(d:Int):Int:=if (5:Int)<W6 (d+1)then 5 else W6 (d+1)
def aEO{c:eB}{p:dM}(hl:p.weights.length<1073741823)(h:mU c p=true):∃ l t,Cr p.weights=some (l,t)/\iA l=true/\(l.length:Int)=4/\mS ⟨false,p.low,p.high⟩=true:=by
 have⟨_,f2⟩:=FT hl h;simp[o7,aQ,fT]at f2;have⟨f3,f4,f5,f6,f7,f8,f9⟩:=f2;refine⟨p.weights.map jX,true,?_,f8,by rw[eM];exact f7,f6⟩;rw[Yz _ hl];unfold xX;simp_all
def Sk(c y:av):Prop:=y.now=c.now+1/\y.config=c.config/\y.queue.Sublist c.queue/\(∀r∈y.cr,r∈c.cr\/∃q∈c.queue,r.id=q.id)/\(y.trace=c.trace\/∃x,y.trace=c.trace++[⟨c.now+1,x⟩])
def Sl(R:Nat)(M:Int)(m:aa Int)(b j:Nat):Prop:=m.getD (b*R+j) 0=(j:Int)\/((R:Int)<=m.getD (b*R+j) 0/\m.getD (b*R+j) 0<=M/\∀k,k<j->m.getD (b*R+k) 0≠m.getD (b*R+j) 0)
def ZQ{m:aa Int}{R b k:Nat}(C:k<R)(hl:(b+1)*R <= m.length):(iM m R b)[k]?=some (m.getD (b*R+k) 0):=by
 rw[iP]at hl;rw[FF,List.getElem?_take_of_lt C,List.getElem?_drop,bS (by omega),mq]
def amj{R:Nat}{M:Int}{m:aa Int}{b j:Nat}(D:j<R)(hl:(b+1)*R <= m.length):vF (R:Int) M (iM m R b) j=true ↔ Sl R M m b j:=by
 unfold vF Sl;rw[ZQ D hl];simp only[eA,aQ,fT,bG,iq,List.any_eq_false];have key:(∀ x∈(iM m R b).take j,¬ x=m.getD (b*R+j) 0) ↔ ∀ k,k<j -> m.getD (b*R+k) 0≠m.getD (b*R+j) 0:=by
  constructor
  ·intro h k C;refine h _ ?_;rw[List.mem_iff_getElem?];exact⟨k,by rw[List.getElem?_take_of_lt C,ZQ (by omega) hl]⟩
  ·intro h x E;have⟨k,C⟩:=List.mem_iff_getElem?.1 E;have I:k<j:=by
    grind
   rw[List.getElem?_take_of_lt I,ZQ (by omega) hl]at C
   grind
 rw[key,and_assoc]
structure Sp (g:aN) (s:dG) (bn R:Nat):Prop where
 sb:jJ g s.bB=true
 hb:aW g=(bn:Int)
 hR:g.rows-s.bB=(R:Int)
 hl:s.map.length=bn*R
 f:∀b,b<bn->∀j,j<R->Sl R (g.rows-1) s.map b j
def Sp.of{g:aN}{s:dG}(h:kG g s=true):∃ C R,Sp g s C R:=by
 have⟨_,Z,_,_,E,h2,h3,h4⟩:=LU h;have U:=eN g;simp only[kG,aQ,fT,cv,fz]at h;have⟨Y,hl,L⟩:=h;have⟨R,hR⟩:=fA (show 0 <= g.rows-s.bB by omega);have⟨C,I⟩:=fA U.1;rw[hR,I,bC,bC]at hl;have hl:s.map.length=C*R:=by exact_mod_cast hl
 rw[hR,I,bC,bC]at L
 refine⟨C,R,Y,I,hR,hl,λb hb j D=>?_⟩
 have O:(b+1)*R <= s.map.length:=by rw[hl];exact iZ R hb
 have T:=FG O;have e:=YM (R:Int) (g.rows-1) (iM s.map R b) (by rw[T]);rw[T]at e;have E:=cv.2 λj D=>L b hb j (fz.1 D)
 rw[e]at E;exact(amj D O).1 (cv.1 E j (fz.2 D))
def Sp.ok{g:aN}{s:dG}{I R:Nat}(h:Sp g s I R):kG g s=true:=by
 have⟨L,O,hR,hl,T⟩:=h;simp only[kG,aQ,fT,cv,fz];rw[hR,O,bC,bC]
 refine⟨L,by exact_mod_cast hl,λb hb=>?_⟩
 have C:(b+1)*R <= s.map.length:=by rw[hl];exact iZ R hb
 have D:=FG C;have e:=YM (R:Int) (g.rows-1) _ (by rw[D]);rw[D]at e;have U:=cv.2 λj E=>(amj (fz.1 E) C).2 (T b hb j (fz.1 E))
 simp_all
def aEP{R b c r j:Nat}(C:r<R)(E:j<R)(h:b*R+r=c*R+j):b=c/\r=j:=by
 have key:∀ {b c r j:Nat},r<R -> b*R+r=c*R+j -> ¬ b<c:=λ{b c r j} C h D=>by
  have:=iZ R (show b+1 <= c from D)
  grind
 grind
def Sn{m:aa Int}{p:Nat}(C:p<m.length)(i:Int)(q:Nat):(m.set p i).getD q 0=if q=p then i else m.getD q 0:=by grind
def Sp.set{g:aN}{s:dG}{D R:Nat}(h:Sp g s D R){b r:Nat}(hb:b<D)(L:r<R){i:Int}(U:(R:Int) <= i)(Y:i <= g.rows-1)(hn:∀ k,k<R -> s.map.getD (b*R+k) 0≠i):Sp g ⟨s.bB,s.map.set (b*R+r) i⟩ D R:=by
 have C:b*R+r<s.map.length:=by
  have:=Az hb (show r+1 <= R from L);rw[h.hl];omega
 refine⟨h.sb,h.hb,h.hR,by rw[iY];exact h.hl,λc Z j O=>?_⟩
 have E:=h.f c Z j O;unfold Sl at E ⊢;dsimp only;by_cases e:c=b
 ·subst e;by_cases ej:j=r
  ·subst ej;refine .inr ?_;rw[Sn C,bN rfl]
   refine⟨U,Y,λk I=>?_⟩
   rw[Sn C,bO]
   grind
  ·grind
 ·have T:∀ k,k<R -> ¬ c*R+k=b*R+r:=λk I he=>e (aEP I L he).1
  rw[Sn C,bO (T j O)];rcases E with E|⟨o1,o2,o3⟩
  ·grind
  ·refine .inr ⟨o1,o2,λk I=>?_⟩
   rw[Sn C,bO (T k (by omega))];simp_all
def Sp.AP{g:aN}{s:dG}{C R:Nat}(h:Sp g s C R):cy g=true/\cy (eC g s)=true/\eC g s=⟨g.bR,g.aB,(R:Int),g.aM⟩/\aW (eC g s)=(C:Int)/\C <= 8/\R <= 16/\2 <= R/\1 <= g.aM/\g.rows <= 16/\0 <= s.bB:=by
 have⟨e,D,E,I,L,O,T,U⟩:=LU h.ok;have Y:=eN g;have Z:=fm D;have:=h.hb;have hR:=h.hR
 grind
def Sp.bound{g:aN}{s:dG}{C R:Nat}(h:Sp g s C R){b r:Nat}(hb:b<C)(D:r<R):0<=s.map.getD (b*R+r) 0/\s.map.getD (b*R+r) 0<g.rows:=by
 have hR:=h.hR;have E:=h.AP.2.2.2.2.2.2.2.2.2;rcases h.f b hb r D with e|⟨I,L,_⟩
 ·omega
 ·omega
def Sp.ex{g:aN}{s:dG}{C R:Nat}(h:Sp g s C R)(b r:Int):dx (eC g s) ⟨b,r,0⟩=true ↔ (0 <= b/\b<(C:Int))/\0 <= r/\r<(R:Int):=by
 have⟨_,L,e,O,_,_,_,Y,_⟩:=h.AP;have er:(eC g s).rows=R:=by rw[e]
 have T:(eC g s).aM=g.aM:=by rw[e]
 constructor
 ·intro U;have⟨_,D,E,I,a4,_⟩:=q9 U;simp_all
 ·rintro⟨⟨D,E⟩,I,a4⟩;exact vw L D (by rw[O];exact E) I (by rw[er];exact a4) (Int.le_refl 0) (by rw[T];show (0:Int)<_;omega)
def Sp.lens{g:aN}{s:dG}{D R:Nat}(h:Sp g s D R){b:Nat}(hb:b<D):(b+1)*R <= s.map.length/\s.map.length <= 128/\(iM s.map R b).length=R/\Nat.ble (b*R) ((b+1)*R)=true/\Nat.ble ((b+1)*R) s.map.length=true:=by
 have hl:=h.hl;have E:=h.AP.2.2.2.2.1;have I:=h.AP.2.2.2.2.2.1;have C:(b+1)*R <= s.map.length:=by rw[hl];exact iZ R hb
 have L:=Nat.mul_le_mul E I;exact⟨C,by omega,FG C,ja (by rw[iP];omega),ja C⟩
def So:ck:=⟨List.replicate 16 (-1),List.replicate 16 0,0⟩
def amk:bX:=⟨List.replicate 11 0,false⟩
def Sq(g:aN):dU:=⟨List.replicate (eI g).toNat amk,List.replicate (fP g).toNat 0,List.replicate (fP g).toNat 0⟩
def sP(c:eB)(p:dM):av:=⟨c,⟨p,p,false⟩,0,LB c.ax,Rw c.ax,Sq c.ax,(sC c.ax c.bB).1,⟨List.replicate (aW c.ax).toNat 0,c.interval,false⟩,List.replicate (aW c.ax).toNat So,List.replicate (aW c.ax).toNat p.dK,[],[],p.weights.map jX,⟨false,p.low,p.high⟩,⟨0,0,0⟩,⟨0,10,10⟩,[],[],[]⟩
def C8{p:dM}(h:yd p):o7 p=true/\iA (p.weights.map jX)=true/\p.weights.length=4:=by
 have⟨⟨⟨D,E⟩,⟨I,L⟩,⟨O,T⟩,⟨U,Y⟩,⟨i,w,hi,Z,Zk,hw⟩,⟨h9,FH⟩,AA,pR⟩,sx,vH⟩:=h;have hl:p.weights.length=4:=by rw[hw,iY];rfl
 have C:iA (p.weights.map jX)=true:=by
  rw[hw];rcases(by omega:i=0 \/ i=1 \/ i=2 \/ i=3)with rfl|rfl|rfl|rfl<;>rcases(by omega:w=1 \/ w=2 \/ w=3 \/ w=4)with rfl|rfl|rfl|rfl<;>rfl
 refine⟨?_,C,hl⟩;unfold o7 mS xY;rw[C,hl];simp only[aP,aQ,gS]
 grind
def aEQ{n:Int}(C:8<=n)(D:n<=17):Ai n=some (2*n+2):=by
 unfold Ai;rw[dY,ak,bG.2 ⟨by omega,by omega⟩,bK,au,aY (n:=2*n),aY]
def Sr{g:aN}(h:RD g):cy g=true:=by
 have⟨⟨C,D⟩,⟨E,I⟩,⟨L,O⟩,T,U⟩:=h;simp[cy,aP,aQ,gS];omega
def aER:∀ r∈[(1:Int),2,3,4],∀ w∈[(4:Int),5,6,7,8],ju (Y2 r w)=true/\decide (CK (Y2 r w) <= 200)=true:=by
 intro r C w D;simp at C D;rcases C with rfl|rfl|rfl|rfl<;>rcases D with rfl|rfl|rfl|rfl|rfl<;>exact⟨by kernel_rfl,by kernel_rfl⟩
def aES{c:eB}(h:vL c):nH c=true:=by
 have⟨C,⟨r,w,O,T,U,Y,E⟩,⟨Z,zB⟩,⟨ZR,ZS⟩,⟨hi1,hi2⟩,I,hl⟩:=h;have L:=Sr C;have⟨t1,D⟩:=aER r (by simp;omega) w (by simp;omega);have D:=of_decide_eq_true D;have⟨⟨h1,h2⟩,⟨h3,h4⟩,⟨h5,h6⟩,h7,h8⟩:=C;unfold nH jJ;rw[L,E,t1,hl,I];rw[aY];simp only[aP,aQ,gS,true_and];omega
def aml{c:eB}{p:dM}(C:vL c)(D:yd p):su c p=some true:=by
 have I:=aES C;have⟨L,_,h3⟩:=C8 D;have⟨hg,⟨r,w,hr1,AZ,hw1,Zk,E⟩,⟨hm1,zB⟩,⟨ZR,ZS⟩,⟨hi1,hi2⟩,O,hl⟩:=C;have⟨_,T,U⟩:=D;have Y:c.aE.ef=7:=by rw[E];rfl
 have Z:c.aE.rp=3:=by rw[E];rfl
 unfold su;rw[Re,ak,I,aq,Rg _ (by omega),ak,L,aq,aEQ T U,ak,hl,O,Y,Z,aY (n:=2*p.dK+2+2)];dsimp only;rw[aZ,aq,aY (n:=7+3),bO,aY (n:=5*c.interval),qv (by omega),aY (n:=16+1),aY (n:=(16+1)*p.dK),aY (n:=5*c.interval / (7+3)),aY,aZ]
def grow(x:av)(l:Int)(i:Nat):av:=⟨x.config,x.box,x.now,x.bk,x.ready,x.array,x.spare,x.aL,x.bH++List.replicate i So,x.guard++List.replicate i l,x.pending,x.queue,x.shares,x.drain,x.aR,x.bY,x.errors,x.trace,x.cr⟩
def ZT(g:aN)(sp:Int):aN:=⟨g.bR,g.aB,g.rows-sp,g.aM⟩
def Ss(g:aN)(sp:Int):Bool:=lP g (LB g)&&(kU g (Rw g)&&(od g (Sq g)&&(kG g (sC g sp).1&&((sC g sp).1.bB==sp&&(cy (ZT g sp)&&(decide (0<eI (ZT g sp))&&(W6 (W6 ((eI g).tdiv g.rows)*W6 (g.rows-sp))==eI (ZT g sp)&&(decide (1<=eI g)&&decide ((sC g sp).1.map.length<=1048576)))))))))
def aET:(([1,2]:aa Int).all λG=>([1,2]:aa Int).all λB=>([4,5,6]:aa Int).all λR=>([1,2]:aa Int).all λC=>([0,1,2]:aa Int).all λsp=>Ss ⟨G,B,R,C⟩ sp)=true:=by kernel_rfl
def amm{g:aN}{sp:Int}(h:RD g)(C:0 <= sp)(D:sp <= 2):Ss g sp=true:=by
 have⟨⟨E,I⟩,⟨L,O⟩,⟨T,U⟩,d1,d2⟩:=h;have e:=aET;simp only[cv]at e;exact e _ (by simp;omega) _ (by simp;omega) _ (by simp;omega) _ (by simp;omega) sp (by simp;omega)
def aEU:kF So=true:=by kernel_rfl
def aEV{c:eB}{p:dM}(C:vL c)(I:yd p):dg (sP c p):=by
 have hb:=eN c.ax;have hl:=mQ c.ax;have L:=p7 c.ax;have⟨_,_,O⟩:=C8 I;have E:=amm C.1 C.2.2.2.1.1 C.2.2.2.1.2;simp only[Ss,aQ,gS]at E
 refine⟨⟨?_,?_⟩,?_,⟨?_,?_⟩,⟨⟨?_,λy D=>?_⟩,?_,?_⟩,E.2.2.2.2.2.2.2.2.2,?_,⟨?_,λy D=>?_⟩,?_,?_,?_,?_,?_,?_,?_⟩
 ·show p.weights.length <= _;omega
 ·show p.weights.length <= _;omega
 ·show (List.replicate _ _).length <= _;rw[m7];omega
 ·show (List.replicate _ _).length <= _;rw[m7];omega
 ·exact Nat.zero_le _
 ·show (List.replicate _ _).length <= _;rw[m7];omega
 ·obtain rfl:=List.eq_of_mem_replicate D;exact cK rfl
 ·show (List.replicate _ _).length <= _;rw[m7];omega
 ·show (List.replicate _ _).length <= _;rw[m7];omega
 ·show (List.replicate _ _).length <= _;rw[m7];omega
 ·show (List.replicate _ _).length <= _;rw[m7];omega
 ·obtain rfl:=List.eq_of_mem_replicate D;exact⟨cK rfl,cK rfl⟩
 ·show (List.replicate _ _).length <= _;rw[m7];omega
 ·exact Nat.zero_le _
 ·exact Nat.zero_le _
 ·show (p.weights.map jX).length <= _;rw[eM];omega
 ·exact Nat.zero_le _
 ·exact Nat.zero_le _
 ·exact Nat.zero_le _
def aEW{c:eB}{p:dM}(C:vL c)(D:yd p):dP (sP c p)=true:=by
 have hb:=eN c.ax;have hbp:=FB (Sr C.1);have hl:=mQ c.ax;obtain⟨_,L,O⟩:=C8 D;have E:=amm C.1 C.2.2.2.1.1 C.2.2.2.1.2;simp only[Ss,aQ,gS]at E;obtain⟨T,U,Y,Z,g5,g6,g7,g8,g9,g10⟩:=E;have I:mU c p=true:=by unfold mU;rw[aml C D];rfl
 have hiv:200<=c.interval/\c.interval<=259:=C.2.2.2.2.1;obtain⟨⟨_,_,⟨l1,l2⟩,⟨l3,l4⟩,_⟩,p1,p2⟩:=D;have e1:ff (sP c p).aL=true:=by
  unfold ff;simp only[sP,m7,aP,aQ,gS,List.all_replicate];refine⟨?_,by omega,aZ,aZ⟩;split<;>rfl
 have e2:qd (sP c p)=true:=by
  unfold qd;simp only[sP,m7,aQ,fT,List.length_nil,List.range_zero,List.all_nil];refine⟨by omega,by omega,by omega,rfl,?_,trivial⟩;rw[cv];intro i hi;have hi:i<(aW c.ax).toNat:=fz.1 hi;unfold partAt;simp only[List.getElem?_replicate,hi,if_true,aEU,cm];exact bG.2 ⟨by omega,by omega⟩
 have e3:mS (sP c p).drain=true:=by
  unfold mS;simp only[sP,aQ];exact⟨aZ l1,aZ l3,aZ⟩
 have e4:aP 0 0 (W6 (eI c.ax-1))=true:=by
  rw[aY];exact bG.2 ⟨by omega,by omega⟩
 have e5:((p.weights.map jX).length:Int)==4:=by rw[eM,O];rfl
 unfold dP;simp only[aQ];exact⟨I,I,rfl,T,U,Y,Z,g5,⟨e1,e2⟩,rfl,L,e5,e3,rfl,rfl,rfl,rfl,rfl,e4,rfl,rfl,rfl⟩
def aEX{c:av}(C:dP c=true)(r:aU):dP (sE c r).1=true/\((sE c r).2=false -> (sE c r).1=c):=by
 have h:=Ck.of C;have p:=gE.of h.pa;unfold sE;cases hb:((!dP c) ||((!(mX c r).2) ||(c.cr.any λx=>x.id==r.id)))with
 |true=>simp_all
 | false=>
  refine⟨?_,λh=>by cases h⟩
  rw[au];simp only[pq,Bool.not_eq_false']at hb;have D:jl (eI (eC c.config.ax c.spare)) (mX c r).1=true:=by
   have E:=hb.2.1;unfold mX CV at E ⊢
   grind
  exact Ck.ok ⟨h.f1,h.f2,h.nw,h.rk,h.rd,h.ar,h.sp,h.se,h.rf,(show gE { c with queue:=(mX c r).1 } from ⟨p.dl,p.tl,p.gl,p.t,p.g,p.pd,p.u⟩).ok,D,h.sh,h.sl,h.dr,h.pw,h.ps,h.si,h.s1,h.s2,h.s3,h.er,h.tr,h.rp⟩
def ZU{b:aa Int}{c:aX}(E:fQ b c):Dr b (JI c) λ_=>True:=by
 unfold JI;rw[E.eq]
 refine(cZ E 4).bind λx O T D=>?_
 rw[D.eta];cases hb:(x==0)with
 | true=>
  refine(iL D _ (by decide)).bind λy I _ C=>?_
  rw[C.eta];exact Dr.pure C trivial
 | false=>
  cases U:(x==1)with
  | true=>
   refine(cZ D 200).bind λy I _ C=>?_
   rw[C.eta];exact Dr.pure C trivial
  | false=>
   refine(cZ D 65536).bind λy I _ C=>?_
   rw[C.eta]
   refine(cZ C 65536).bind λy Y _ L=>?_
   rw[L.eta];exact Dr.pure L trivial
def aEY{b:aa Int}{c:aX}(E:fQ b c):Dr b (PD c) λ_=>True:=by
 unfold PD;rw[E.eq]
 refine(Av E 8).bind λx L _ D=>?_
 dsimp only;rw[D.eta];cases x with
 | true=>
  rw[aq]
  refine(iL D _ (by decide)).bind λy I _ C=>?_
  dsimp only;rw[C.eta];exact Dr.pure C trivial
 | false=>
  rw[au]
  refine(ZU D).bind λy I _ C=>?_
  dsimp only;rw[C.eta];exact Dr.pure C trivial
def aEZ{b:aa Int}{c:aX}(I:fQ b c)(n:Int)(hn:0<n):Dr b (Cm c n) λr=>(0<=r.line/\r.line<n)/\0<=r.at_/\r.at_<50:=by
 unfold Cm;rw[I.eq]
 refine(cZ I 60).bind λx1 k1 h1 L=>?_
 dsimp only;rw[L.eta]
 refine(cZ L 3).bind λx2 k2 h2 O=>?_
 dsimp only;rw[O.eta]
 refine(cZ O n).bind λx3 k3 C T=>?_
 dsimp only;rw[T.eta]
 refine(cZ T 50).bind λx4 k4 D U=>?_
 dsimp only;rw[U.eta]
 refine(Av U 2).bind λx5 k5 h5 E=>?_
 dsimp only;rw[E.eta];have Y:=C.2.2 hn;have Z:=D.2.2 (by omega);cases x5 with
 | true=>
  rw[aq]
  refine(ZU E).bind λx6 k6 h6 AB=>?_
  dsimp only;rw[AB.eta];exact Dr.pure AB ⟨⟨C.1,Y⟩,D.1,Z⟩
 |false=>exact Dr.pure E ⟨⟨C.1,Y⟩,D.1,Z⟩
def aE0(l:aa aJ)(h:l.length<=1048576):QF l l=some true:=by
 have e:=cz (step:=KV) l.length (λi=>((l,l,(i:Int),()),())) (.inr (.inl ((),()))) aS (λi hi=>by
  unfold KV az aT xG xI;simp (disch:=omega) [hi,bE]) (by unfold KV az aT xG xI;simp) (bJ)
 rw[cc]at e;unfold QF bM;simp[e]
def aE1(l:aa aU)(h:l.length<=1048576):QG l l=some true:=by
 have e:=cz (step:=KW) l.length (λi=>((l,l,(i:Int),()),())) (.inr (.inl ((),()))) aS (λi hi=>by
  unfold KW az aT xG xI;simp (disch:=omega) [hi,bE]) (by unfold KW az aT xG xI;simp) (bJ)
 rw[cc]at e;unfold QG bM;simp[e]
def aE2(l:aa cw)(h:l.length<=1048576):QH l l=some true:=by
 have e:=cz (step:=KZ) l.length (λi=>((l,l,(i:Int),()),())) (.inr (.inl ((),()))) aS (λi hi=>by
  unfold KZ az aT xG xI;simp (disch:=omega) [hi,bE]) (by unfold KZ az aT xG xI;simp) (bJ)
 rw[cc]at e;unfold QH bM;simp[e]
def aE3(l:aa cq)(h:l.length<=1048576):QI l l=some true:=by
 have e:=cz (step:=K0) l.length (λi=>((l,l,(i:Int),()),())) (.inr (.inl ((),()))) aS (λi hi=>by
  unfold K0 az aT xG xI;simp (disch:=omega) [hi,bE]) (by unfold K0 az aT xG xI;simp) (bJ)
 rw[cc]at e;unfold QI bM;simp[e]
def aE4(l:aa fk)(h:l.length<=1048576):QJ l l=some true:=by
 have e:=cz (step:=K1) l.length (λi=>((l,l,(i:Int),()),())) (.inr (.inl ((),()))) aS (λi hi=>by
  unfold K1 az aT xG xI;simp (disch:=omega) [hi,bE]) (by unfold K1 az aT xG xI;simp) (bJ)
 rw[cc]at e;unfold QJ bM;simp[e]
def aE5(l:aa eR)(h:l.length<=1048576):QK l l=some true:=by
 have e:=cz (step:=K2) l.length (λi=>((l,l,(i:Int),()),())) (.inr (.inl ((),()))) aS (λi hi=>by
  unfold K2 az aT xG xI;simp (disch:=omega) [hi,bE]) (by unfold K2 az aT xG xI;simp) (bJ)
 rw[cc]at e;unfold QK bM;simp[e]
def aE6(l:aa ck)(h:l.length<=1048576/\∀ y∈l,jK y):QE l l=some true:=by
 have e:=cz (step:=KU) l.length (λi=>((l,l,(i:Int),()),())) (.inr (.inl ((),()))) aS (λi hi=>by
  have C:=h.2 _ (cS hi);unfold jK at C;unfold KU az aT xG xI;simp (disch:=omega) [hi,bE,tT _ (show l[i].rows.length<1073741823 by omega),tT _ (show l[i].counts.length<1073741823 by omega)]) (by unfold KU az aT xG xI;simp) (bJ)
 rw[cc]at e;unfold QE bM;simp[e]
def amn(p:dM)(h:p.weights.length<=1048576):KS p p=some true:=by
 unfold KS;simp[tT _ (show p.weights.length<1073741823 by omega)]
def aE7{c:av}(E:dg c):CC c c=some true:=by
 obtain⟨⟨C,D⟩,I,⟨z3,z3'⟩,⟨⟨z5,L⟩,z5a,z5b⟩,O,T,U,z9,Y,Z,jx,jy,fR,kV⟩:=E;unfold FK at C D;unfold Ry at I;unfold akI at O;unfold yc at T;have Su:∀ x∈c.array.cells,x.symbols.length<1073741823:=λx hx=>by
  have:=L x hx;unfold LH at this;omega
 have hrk:QB c.bk c.bk=some true:=by
  unfold QB;simp[aAu _ (show c.bk.aB.length<1073741823 by omega)]
 unfold CC;simp only[lT,bne_self_eq_false,Bool.and_self,bK,au,aq,ak,amn _ C,amn _ D,hrk,tT _ (show c.ready.last.length<1073741823 by omega),tT _ (show c.ready.bf.length<1073741823 by omega),aDw _ (show c.array.cells.length<1073741823 by omega) (show c.array.br.length<1073741823 by omega) (show c.array.bh.length<1073741823 by omega) Su,tT _ (show c.spare.map.length<1073741823 by omega),tT _ (show c.aL.aH.length<1073741823 by omega),aE6 _ U,tT _ (show c.guard.length<1073741823 by omega),aE0 _ Y,aE1 _ Z,aE2 _ jx,aE3 _ jy,aE4 _ fR,aE5 _ kV]
def aE8{b:aa Int}{c:aX}(D:fQ b c)(n:Int):Dr b (Cm c n) λ_=>True:=by
 unfold Cm;rw[D.eq]
 refine(cZ D 60).bind λY Z h1 E=>?_
 dsimp only;rw[E.eta]
 refine(cZ E 3).bind λx2 k2 h2 I=>?_
 dsimp only;rw[I.eta]
 refine(cZ I n).bind λx3 k3 h3 L=>?_
 dsimp only;rw[L.eta]
 refine(cZ L 50).bind λx4 k4 h4 O=>?_
 dsimp only;rw[O.eta]
 refine(Av O 2).bind λU k5 h5 C=>?_
 dsimp only;rw[C.eta];cases U with
 | true=>
  refine(ZU C).bind λx6 k6 h6 T=>?_
  rw[T.eta];exact Dr.pure T trivial
 |false=>exact Dr.pure C trivial
def L8(a:ke):Prop:=a.nN.weights.length<=1048576
def WtI(i:Int)(a:ke):Prop:=L8 a/\(a.request.id=0\/a.request.id=i)
def aE9{b:aa Int}{c:aX}(L:fQ b c){x:eB}(hx:vL x)(i:Int):Dr b (PB c x i) (WtI i):=by
 have O:=Sr hx.1;have gb:=fm O;unfold PB;rw[xV,ak,bO,L.eq];dsimp only
 refine(cZ L 12).bind λD k2 h2 C=>?_
 dsimp only;rw[C.eta];have hA:∀ l:aa Int,0<l.length -> Dr b ((fO k2 l).bind λE=>some ((⟨(2:Int),⟨(0:Int),(0:Int),(0:Int),false,(0:Int),(0:Int)⟩,E.1,(0:Int),⟨(0:Int),(0:Int),(0:Int)⟩,⟨(0:Int),(0:Int),(0:Int),(0:Int),(0:Int),[],⟨(0:Int),(0:Int)⟩⟩⟩:ke),((⟨b,E.2.1.i,E.2.1.h⟩:aX),()))) (WtI i):=λl hl=>by
  refine(iL C l hl).bind λy k hy T=>?_
  rw[T.eta];exact Dr.pure T ⟨by show 0 <= 1048576;omega,.inl rfl⟩
 cases h0:D==(0:Int)with
 |true =>grind
 |false=>
 rw[au];cases h1:D==(1:Int)with
 |true =>grind
 |false=>
 rw[au];cases D==(2:Int)with
 | true=>
  rw[aq]
  refine(ajT C O).bind λy5 k5 h5 U=>?_
  dsimp only;rw[U.eta]
  refine(cZ U 11).bind λy6 k6 h6 Y=>?_
  dsimp only;rw[Y.eta]
  refine(cZ Y 16).bind λy7 k7 h7 Z=>?_
  dsimp only;rw[Z.eta];exact Dr.pure Z ⟨by show (0:Nat) <= 1048576;omega,.inl rfl⟩
 |false=>
 rw[au];cases D==(3:Int)with
 | true=>
  rw[aq]
  refine(iL C _ (by simp)).bind λy8 k8 h8 LK=>?_
  dsimp only;rw[LK.eta]
  refine(cZ LK 2).bind λy9 k9 h9 CS=>?_
  rw[mg,ak];dsimp only;rw[CS.eta]
  refine(cZ CS _).bind λfY EG AA amo=>?_
  dsimp only;rw[amo.eta]
  refine(cZ amo _).bind λiz Xr pR amp=>?_
  dsimp only;rw[amp.eta]
  refine(akK amp).bind λiK Fj sx amq=>?_
  dsimp only;rw[amq.eta];have hl:=(C8 sx).2.2;exact Dr.pure amq ⟨by show iK.weights.length <= 1048576;omega,.inl rfl⟩
 |false=>
 rw[au]
 refine(aE8 C _).bind λlN Xq vH amr=>?_
 dsimp only;rw[amr.eta]
 refine(Av amr 2).bind λjj k15 ya I=>?_
 dsimp only;rw[I.eta];cases jj with
 | true=>
  refine(cZ I 3).bind λjG k16 vI ams=>?_
  rw[ams.eta];exact Dr.pure ams ⟨by show 0 <= 1048576;omega,.inr rfl⟩
 |false=>exact Dr.pure I ⟨by show 0 <= 1048576;omega,.inr rfl⟩
def aFa{b:aa Int}{c:aX}(T:fQ b c){x:eB}(hx:vL x)(m:Nat)(hm:m<=100):Dr b (PC c x (m:Int)) λl=>l.length<=m+1/\∀ a∈l,L8 a/\a.request.id<=(m:Int)+1:=by
 unfold PC bA;rw[T.eq];obtain⟨z,e,C,bf,D,hl,E,rfl⟩:=Yh (step:=JM) (m+1) (λk s=>∃ (C:aX) (bf:aa ke),fQ b C/\bf.length=k/\(∀ a∈bf,L8 a/\a.request.id<=(m:Int)+1)/\s=(((),(m:Int),(),(),(k:Int),()),(((),C.i,C.h,()),x,bf,b,())))
  (λz=>∃(C:aX) (bf:aa ke),fQ b C/\bf.length<=m+1/\(∀a∈bf,L8 a/\a.request.id<=(m:Int)+1)/\z = .inl (((),()),(bf,((),C.i,C.h,()),b,()))) aS (x:=(((),(m:Int),(),(),(0:Int),()),(((),c.i,c.h,()),x,([]:aa ke),b,()))) ⟨c,[],T,rfl,λa ha=>(by cases ha),rfl⟩ (by
  rintro k hk s ⟨C,bf,D,hl,E,rfl⟩;unfold JM az xG;dsimp only;rw[D.eta,aY (n:=(m:Int)+1)];obtain⟨U,L,O,I,Y⟩:=cZ D ((m:Int)+1);rw[O,ak];dsimp only;by_cases Z:(k:Int)<U
  ·obtain⟨y2,k2,e2,uZ,h2,h3⟩:=aE9 I hx (W6 ((k:Int)+1));rw[aZ Z,aq,I.eta,e2,ak];dsimp only;rw[aY (n:=(k:Int)+1)]at h3;rw[cM (by rw[jO];omega),aq,bE]
   refine .inl ⟨_,rfl,k2,bf++[y2],uZ,by rw[ox,jO,hl],λa ha=>?_,rfl⟩
   rcases List.mem_append.1 ha with ha|ha
   ·exact E a ha
   ·rw[oy.1 ha];exact⟨h2,by omega⟩
  ·rw[bq Z,au];exact .inr ⟨_,rfl,L,bf,I,by omega,E,rfl⟩) (by
  rintro s ⟨C,bf,D,hl,E,rfl⟩;unfold JM az xG;dsimp only;rw[D.eta,aY (n:=(m:Int)+1)];obtain⟨U,L,O,I,Y⟩:=cZ D ((m:Int)+1);have h31:=Y.2.2 (by omega);rw[O,ak];dsimp only;rw[bq,au];exact⟨_,rfl,L,bf,I,by omega,E,rfl⟩) (bJ)
 rw[e,ak];simp only[dZ];rw[D.eta];exact Dr.pure D ⟨hl,E⟩
abbrev L9:=ah (af×(av×af))
def Ks(s:av)(o:L9):Prop:=∃y,o=some ((),(y,()))/\dg y/\dP y=true/\Nx s y
def aFb{c:av}(h:ff c.aL=true){n:Int}(Z:2<=n/\n<=10000):∃ r,Jt c n=some ((),(qk c r,()))/\ff r=true/\r.aH.length=c.aL.aH.length:=by
 have hl:=om h;have C:=RO h;have hw:1<=c.aL.wait/\c.aL.wait<=10000:=by
  simp only[ff,aQ,bG]at h;exact h.2.2
 have mk:∀ (l:aa Int) (w:Int) (b:Bool),l.length=c.aL.aH.length->(∀ x∈l,-2<=x/\x<=5)->1<=w/\w<=10000->ff ⟨l,w,b⟩=true:=λl w b h1 L O=>by
  simp only[ff,aQ,cv,Ay,bG];exact⟨L,by omega,O⟩
 have D:W6 (c.aL.wait-1)=c.aL.wait-1:=aY;unfold Jt bA;by_cases E:c.aL.wait-1 > 0
 ·rw[D,aZ E,aq];exact⟨⟨c.aL.aH,c.aL.wait-1,c.aL.dL⟩,rfl,mk _ _ _ rfl C (by omega),rfl⟩
 ·have e:=cz (step:=Js) c.aL.aH.length (λi=>(((),n,(i:Int),()),(qk c ⟨upto yB c.aL.aH i,c.aL.wait-1,c.aL.dL⟩,()))) (.inl (((),n,()),(qk c ⟨c.aL.aH.map yB,c.aL.wait-1,c.aL.dL⟩,()))) aS (λi hi=>by
   have hlen:=Lg yB c.aL.aH i;unfold Js qk az xG xL;dsimp only;rw[aZ,aq,aA ⟨by omega,by omega⟩,aA,aA ⟨by omega,by omega⟩,aA,bE];simp only[bC];rw[Q0 yB c.aL.aH i hi,<-Q1 yB c.aL.aH i hi];rfl) (by
   unfold Js qk az xG xL;dsimp only;rw[QZ,bq (by rw[eM];omega),au]) (bJ)
  rw[cc,ajB]at e;have I:∀ x∈c.aL.aH.map yB,-2<=x/\x<=5:=λx T=>by
   obtain⟨d,U,rfl⟩:=List.mem_map.1 T;have:=C d U;unfold yB;rw[aY (n:=d+1)];split<;>omega
  have Y:W6 (n.tdiv 2)=n / 2:=by rw[qv (by omega)];exact aY
  rw[D,bq E,au]
  refine(bx (λo=>∃r,Option.bind o _=some ((),(qk c r,()))/\ff r=true/\r.aH.length=c.aL.aH.length) e).mpr ?_
  rw[ak];simp only[dZ,qk];rw[Y];cases c.aL.dL with
  |true=>exact⟨⟨c.aL.aH.map yB,n / 2,true⟩,rfl,mk _ _ _ (by simp) I (by omega),by simp⟩
  |false=>exact⟨⟨c.aL.aH.map yB,n,false⟩,rfl,mk _ _ _ (by simp) I (by omega),by simp⟩
def aFc{c:av}(h:od c.config.ax c.array=true):∃ a,Jv c 1=some ((),(cQ c a,()))/\od c.config.ax a=true:=by
 have E:=(aCd h).1;have C:=fy.vV h;have hb:=p7 c.config.ax;have hl:=C.br
 refine⟨⟨c.array.cells,c.array.br.map (rq 1),c.array.bh⟩,?_,yx E ⟨C.cells,C.syms,by rw[eM];exact C.br,C.bh,λx D=>?_,C.jt⟩⟩
 ·have e:=cz (step:=Ju) c.array.br.length (λi=>(((),(1:Int),(i:Int),()),(cQ c ⟨c.array.cells,upto (rq 1) c.array.br i,c.array.bh⟩,()))) (.inl ((),(cQ c ⟨c.array.cells,c.array.br.map (rq 1),c.array.bh⟩,()))) aS (λi hi=>by
   have hlen:=Lg (rq 1) c.array.br i;have D:=C.Ln _ (cS hi);unfold Ju cQ az xG xL;dsimp only;rw[aZ,aq,aA ⟨by omega,by omega⟩,aA,aA ⟨by omega,by omega⟩,aA,bE];simp only[bC];rw[Q0 (rq 1) c.array.br i hi,aY (n:=c.array.br[i]+1),<- Q1 (rq 1) c.array.br i hi];rfl) (by
   unfold Ju cQ az xG xL;dsimp only;rw[QZ,bq (by rw[eM];omega),au]) (bJ)
  rw[cc,ajB]at e;unfold Jv bA;exact(bx (λo=>Option.bind o _) e).trans rfl
 ·obtain⟨y,I,rfl⟩:=List.mem_map.1 D;exact ajU (C.Ln y I) (by decide)
def aFd(q:aa aU)(w:Bool)(hl:q.length<1073741824):∃ n,Jp q w=some n:=by
 unfold Jp bA;have e:=cz (step:=Jo) q.length (λi=>((q,w,(((q.take i).countP λr=>r.write==w:Nat):Int),(i:Int),()),())) (.inl (((((q.take q.length).countP λr=>r.write==w:Nat):Int),()),())) aS (λk C=>by
  have D:=List.countP_le_length (p:=λr:aU=>r.write==w) (l:=q.take k);rw[gF]at D;unfold Jo az xG xI;dsimp only;rw[aZ,aq,aA ⟨by omega,by omega⟩,bE];simp only[bC];rw[qa C,List.countP_append,List.countP_singleton];cases q[k].write==w with
  |true=>rw[ bE];rfl
  |false=>rw[ bE];rfl) (by
  unfold Jo az xG xI;dsimp only;rw[bq,au]) (bJ)
 rw[cc]at e;exact⟨_,(bx (λo=>Option.bind o _) e).trans rfl⟩
def aFe{d:jn}(h:mS d=true)(n:Int):∃ y,Jn d n=some y/\mS y=true:=by
 unfold Jn;rw[Rf,ak,h,bK];cases decide (n >= d.high)with
 | true=>
  cases decide (n <= d.low)with
  |true=>exact⟨_,rfl,h⟩
  |false=>exact⟨_,rfl,h⟩
 | false=>
  cases decide (n <= d.low)with
  |true=>exact⟨_,rfl,h⟩
  |false=>simp_all
def aFf{p:fE}(h:kE p=true)(w:Bool):∃ y,Jq p w=some y/\kE y=true/\y.state=p.state/\y.since=p.since:=by
 unfold Jq;rw[Rj,ak,h,bK];simp[kE,aQ,bG]at h;cases w with
 |true=>exact⟨_,rfl,by simp[kE,aQ,bG];omega,rfl,rfl⟩
 | false=>
  refine⟨_,rfl,?_,rfl,rfl⟩;rw[aY];simp[kE,aQ,bG]
  grind
def aFg(b:iR)(h:FN b)(x:Bool):∃ t,Jr b x=some (bif t then ⟨b.next,b.next,false⟩else b,t):=by
 have C:b.next.weights.length <= 1048576:=h.2
 unfold Jr;rw[Y4 b h];cases x with
 |false=>simp_all
 | true=>
  cases b.waits with
  |false=>simp_all
  | true=>
   refine⟨true,?_⟩;unfold vg xA xZ;rw[iC _];rfl
def aFh{c:eB}{p:dM}(hl:p.weights.length<1073741823)(h:mU c p=true):∃ l t,zP p.weights=some (l,t)/\iA l=true/\(l.length:Int)=4/\mS ⟨false,p.low,p.high⟩=true:=by
 have⟨l,t,e,C⟩:=aEO hl h;rw[Yz _ hl]at e;exact⟨l,t,by rw[YA _ hl];exact e,C⟩
def aFi{s:oz}{n:Int}(C:aP s.every 1 100000=true)(D:aP s.wait 1 s.every=true)(E:aP s.next 0 (W6 (n-1))=true)(Y:1<=n/\n<=1000000):∃ y m,Cl s n=some (y,m)/\aP y.every 1 100000=true/\aP y.wait 1 y.every=true/\aP y.next 0 (W6 (n-1))=true/\m<n:=by
 have O:=bG.1 C;have Z:=bG.1 D;have I:W6 (n-1)=n-1:=aY;have T:=bG.1 E;rw[I]at T;unfold Cl;rw[dO,ak,C,bK,au,dO,ak,D,bK,au,bq (show ¬ n<1 by omega),au,bq (show ¬ s.next<0 by omega),au,bq (show ¬ s.next >= n by omega),au,aY (n:=s.wait-1)];by_cases L:s.wait-1 > 0
 ·rw[aZ L,aq];exact⟨_,_,rfl,C,bG.2 ⟨by dsimp only;omega,by dsimp only;omega⟩,E,by omega⟩
 ·rw[bq L,au,bO,aY (n:=s.next+1)];refine⟨_,_,rfl,C,bG.2 ⟨O.1,Int.le_refl _⟩,?_,by omega⟩;rw[I,qt (by omega)];have U:=Int.emod_nonneg (s.next+1) (show n≠0 by omega);have e2:=Int.emod_lt_of_pos (s.next+1) (show 0<n by omega);exact bG.2 ⟨U,by dsimp only;omega⟩
def vY(j:av)(b:iR)(s:aa cw)(d:jn)(p:fE)(u:oz):av:=⟨j.config,b,j.now,j.bk,j.ready,j.array,j.spare,j.aL,j.bH,j.guard,j.pending,j.queue,s,d,p,u,j.errors,j.trace,j.cr⟩
def Sv(x:av):L9:=(xz x).bind λC=>(let D:Bool -> L9:=λE=>bif E then (xy x C.1 C.2).bind λI=>some ((),(I.2.1,()))else some ((),(x,()));bif (C.1.kind != (0:Int))then (xl x C.1 C.2).bind λL=>(D L)else (D false))
def Sw(x:av)(n:Int):L9:=bif (decide (n >= (0:Int)))then (Cc x n).bind λC=>(Cb C.2.1 n C.1.2).bind λD=>Sv D.2.1 else Sv x
def FZ(j:av):L9:=(Jp j.queue true).bind λO=>(Jn j.drain O).bind λD=>(Cf (vY j j.box j.shares D j.aR j.bY)).bind λT=>(Jq j.aR T).bind λE=>(Jr j.box ((j.queue.length:Int)==(0:Int))).bind λC=>bif C.2 then (zP C.1.bz.weights).bind λU=>(pW j.config.ax).bind λY=>(Cl j.bY Y).bind λI=>Sw (vY j C.1 U.1 ⟨false,C.1.bz.low,C.1.bz.high⟩ E I.1) I.2 else (pW j.config.ax).bind λZ=>(Cl j.bY Z).bind λL=>Sw (vY j C.1 j.shares D E L.1) L.2
def ZV{x:av}(C:dg x)(D:dP x=true):Ks x (Sv x):=by
 have h:=Pq.of C D;have same:Ks x (some ((),(x,()))):=⟨x,rfl,C,D,Nx.refl x⟩
 unfold Sv;rw[amg h,ak];dsimp only;generalize (bif decide ((x.trace.length:Int) >= 2000)then (vX,-1)else L7 x:aF×Int)=p;have⟨cmd,i⟩:=p;dsimp only;cases cmd.kind != (0:Int)with
 |false=>exact same
 | true=>
  rw[aq,alO h,ak];cases hm:qm x cmd i with
  |false=>exact same
  | true=>
   have⟨hb,E,I,L⟩:=ZD C h hm;rw[ alG hb E I (λr L=>R4 h L)];exact⟨sK x cmd i,rfl,alM C hb L E I,(Ck.iss C (Ck.of D) hm).ok,aEN (FI E).2.2.1 λq=>(I q).1.i⟩
def amt{x:av}(O:dg x)(h:dP x=true){n:Int}(hn:n<eI x.config.ax):Ks x (Sw x n):=by
 unfold Sw;by_cases E:n >= 0
 ·have C:=Ck.of h;have I:=fy.vV C.ar;have T:=(yb C.rk).1;have hl:=I.cells;have hb:=mQ x.config.ax;obtain⟨j,rfl⟩:=fA E;have U:j<x.array.cells.length:=by omega
  have L:=I.syms _ (cS U);have hec:=R6 L;have D:fy x.config.ax 100000 ⟨x.array.cells.set j (sI x.array.cells[j]),x.array.br,x.array.bh⟩:=I.CT _ (Zs L);have p:=gE.of C.pa;have iT:=(Ek.of C.er).l;rw[aZ E,aq,alv U L,ak];dsimp only;rw[alA (c:=vS x j (sI x.array.cells[j])) C.er ⟨by omega,by omega⟩ hec,ak];dsimp only;have⟨Y,Z,z3,z5,z6,z7,z8,z9,fq,gD,jx,jy,fR,kV⟩:=O;have VK:dg (vS x j (sI x.array.cells[j])):=⟨Y,Z,z3,vW D,z6,z7,z8,z9,fq,gD,jx,jy,fR,kV⟩
  have Uw:Ck (vS x j (sI x.array.cells[j])):=⟨C.f1,C.f2,C.nw,C.rk,C.rd,yx T D,C.sp,C.se,C.rf,(show gE (vS x j (sI x.array.cells[j]))from ⟨p.dl,p.tl,p.gl,p.t,p.g,p.pd,p.u⟩).ok,C.qu,C.sh,C.sl,C.dr,C.pw,C.ps,C.si,C.s1,C.s2,C.s3,C.er,C.tr,C.rp⟩
  unfold C4;by_cases e:mw x.array.cells[j]=0
  ·rw[e];exact ZV VK Uw.ok
  ·rw[fZ e,aq];have he:=alZ C.er ⟨by omega,by omega⟩ (code:=mw x.array.cells[j]) (by omega);have hle:=alK (l:=x.errors) (j:Int) (mw x.array.cells[j]);exact ZV ⟨Y,Z,z3,vW D,z6,z7,z8,z9,fq,gD,jx,by show (uq x.errors (j:Int) _).length <= _;omega,fR,kV⟩ (Ck.ok ⟨C.f1,C.f2,C.nw,C.rk,C.rd,yx T D,C.sp,C.se,C.rf,(show gE _ from ⟨p.dl,p.tl,p.gl,p.t,p.g,p.pd,p.u⟩).ok,C.qu,C.sh,C.sl,C.dr,C.pw,C.ps,C.si,C.s1,C.s2,C.s3,he,C.tr,C.rp⟩)
 ·rw[bq E];exact ZV O h
def amu{c:av}(O:dg c)(T:dP c=true):Ks c (FZ c):=by
 have h:=Ck.of T;have⟨C,U,Y,Z,z6,z7,z8,z9,fq,gD,jx,jy,fR,kV⟩:=O;have p:=gE.of h.pa;have hb:=mQ c.config.ax;have hLp:1 <= eI c.config.ax:=by
  have:=bG.1 h.s3;rw[aY]at this;omega
 have w2:c.box.next.weights.length <= 1048576:=C.2
 have⟨n,e1⟩:=aFd c.queue true (by omega);have⟨d,e2,D⟩:=aFe h.dr n;have e3:Cf (vY c c.box c.shares d c.aR c.bY)=some (yh (vY c c.box c.shares d c.aR c.bY)):=ak1 (c:=vY c c.box c.shares d c.aR c.bY) h.rf;have⟨pw,e4,N0,HA,hp3⟩:=aFf h.pw (yh (vY c c.box c.shares d c.aR c.bY));have⟨t,e5⟩:=aFg c.box C ((c.queue.length:Int)==(0:Int));have⟨u,m,L,Tl,qG,hu3,hm⟩:=aFi h.s1 h.s2 h.s3 ⟨hLp,by omega⟩;have key:∀ (b:iR) (s:aa cw) (d:jn),FN b -> mU c.config b.bz=true -> mU c.config b.next=true -> iA s=true -> (s.length:Int)=4 -> mS d=true -> dg (vY c b s d pw u)/\dP (vY c b s d pw u)=true:=λb s d zM gT hb3 ZR ZS D=>
  ⟨⟨zM,U,Y,Z,z6,z7,z8,z9,fq,gD,by show s.length <= _;omega,jy,fR,kV⟩,Ck.ok ⟨gT,hb3,h.nw,h.rk,h.rd,h.ar,h.sp,h.se,h.rf,(show gE (vY c b s d pw u)from ⟨p.dl,p.tl,p.gl,p.t,p.g,p.pd,p.u⟩).ok,h.qu,ZR,ZS,D,N0,HA.trans h.ps,by show pw.since <= c.now;rw[hp3];exact h.si,Tl,qG,hu3,h.er,h.tr,h.rp⟩⟩
 unfold FZ;rw[e1,ak,e2,ak,e3,ak,e4,ak,e5,ak];dsimp only;cases t with
 | false=>
  rw[ xV,ak,L,ak];have⟨E,I⟩:=key c.box _ d C h.f1 h.f2 h.sh h.sl D;exact amt E I hm
 | true=>
  have⟨l,t2,e7,pI,kM,L5⟩:=aFh (by omega) h.f2;rw[aq,aq];rw[e7,ak,xV,ak,L];have⟨E,I⟩:=key ⟨c.box.next,c.box.next,false⟩ l ⟨false,c.box.next.low,c.box.next.high⟩ ⟨C.2,C.2⟩ h.f2 h.f2 pI kM L5;exact amt E I hm
def yC(c:av)(n:Int):av:=⟨c.config,c.box,n,c.bk,c.ready,c.array,c.spare,c.aL,c.bH,c.guard,c.pending,c.queue,c.shares,c.drain,c.aR,c.bY,c.errors,c.trace,c.cr⟩
def aFj{c:av}(hz:dg c)(hk:dP c=true)(hi:2<=c.config.interval/\c.config.interval<=10000)(hn:c.now<1000000):∃ y,Pj c=some ((),(y,()))/\dg y/\dP y=true/\Sk c y:=by
 have h:=Ck.of hk;have p:=gE.of h.pa;have ZF:=bG.1 h.nw;have z:=hz;obtain⟨z1,z2,z3,z5,z6,z7,z8,z9,fq,gD,jx,jy,fR,kV⟩:=z;have e1:W6 (c.now+1)=c.now+1:=aY;have T:∀ (j:av),j.now=c.now+1->j.config=c.config->j.queue=c.queue->j.cr=c.cr->j.trace=c.trace->Ks j (FZ j)->∃ y,FZ j=some ((),(y,()))/\dg y/\dP y=true/\Sk c y:=λj U j2 j3 j4 j5 hj=>by
  obtain⟨y,f1,f2,f3,Y,Z,f6,D,f8⟩:=hj;rw[U]at Y;rw[j2]at Z;rw[j3]at f6 D;rw[j4]at D;rw[U,j5]at f8;exact⟨y,f1,f2,f3,Y,Z,f6,D,f8⟩
 have key:∀ (r:dn) (a:dU),ff r=true->r.aH.length=c.aL.aH.length->od c.config.ax a=true->dg (cQ (qk (yC c (c.now+1)) r) a)/\dP (cQ (qk (yC c (c.now+1)) r) a)=true:=λr a E I C=>by
  refine⟨⟨z1,z2,z3,vW (fy.vV C),z6,by have:=z7;unfold yc at this ⊢;show r.aH.length<=_;omega,z8,z9,fq,gD,jx,jy,fR,kV⟩,Ck.ok ⟨h.f1,h.f2,bG.2 ⟨by show 0<=c.now+1;omega,by show c.now+1<=_;omega⟩,h.rk,h.rd,C,h.sp,h.se,E,(show gE (cQ (qk (yC c (c.now+1)) r) a)from ⟨by show (r.aH.length:Int)=_;rw[I];exact p.dl,p.tl,p.gl,p.t,p.g,p.pd,p.u⟩).ok,h.qu,h.sh,h.sl,h.dr,h.pw,h.ps,by show c.aR.since<=c.now+1;have:=h.si;omega,h.s1,h.s2,h.s3,h.er,h.tr,h.rp⟩⟩
 unfold Pj;rw[bq (show ¬ c.now >= 1000000 by omega),au,e1];show ∃y,(bif (c.bk.aR != (2:Int))then (Jt (yC c (c.now+1)) c.config.interval).bind λy1=>(Jv y1.2.1 (1:Int)).bind λy2=>FZ y2.2.1 else FZ (yC c (c.now+1)))=some ((),(y,()))/\dg y/\dP y=true/\Sk c y;cases c.bk.aR != (2:Int)with
 | true=>
  obtain⟨r,f1,E,I⟩:=aFb (c:=yC c (c.now+1)) h.rf hi;obtain⟨a,f2,C⟩:=aFc (c:=qk (yC c (c.now+1)) r) h.ar;obtain⟨L,O⟩:=key r a E I C;rw[aq,f1,ak];dsimp only;rw[f2,ak];exact T _ rfl rfl rfl rfl rfl (amu L O)
 | false=>
  obtain⟨L,O⟩:=key c.aL c.array h.rf rfl h.ar;rw[au];exact T (yC c (c.now+1)) rfl rfl rfl rfl rfl (amu (c:=yC c (c.now+1)) L O)
def ZW{g:aN}{s:dG}{D R:Nat}(h:Sp g s D R)(b r:Int):JC g s b r=some (bif dx (eC g s) ⟨b,r,0⟩then b*(R:Int)+r else -1):=by
 obtain⟨Y,Z,eg,eb,h8,vI,lE,hc,Rq,ML⟩:=h.AP;have hR:W6 (g.rows-s.bB)=(R:Int):=by rw[h.hR];exact aY
 unfold JC;rw[YN,ak,h.ok,bK,au,mg,ak,h.hb,hR,aY (n:=(D:Int)-1),aY (n:=(R:Int)-1),dO,ak];by_cases E:0<=b/\b<(D:Int)
 ·rw[bG.2 ⟨E.1,by omega⟩,bK,au,dO,ak];by_cases L:0<=r/\r<(R:Int)
  ·have I:=(h.ex b r).2 ⟨E,L⟩;obtain⟨b,rfl⟩:=fA E.1;have T:=(h.lens (b:=b) (by omega)).1;have aF6:=(h.lens (b:=b) (by omega)).2.1;rw[iP]at T;have U:W6 ((b:Int)*(R:Int))=((b*R:Nat):Int):=by rw[<-Int.natCast_mul];exact aY
   rw[bG.2 ⟨L.1,by omega⟩,bK,au,I,aq,U,aY,Int.natCast_mul]
  ·have I:dx (eC g s) ⟨b,r,0⟩=false:=by
    cases C:dx (eC g s) ⟨b,r,0⟩with
    |false=>rfl
    |true=>exact absurd ((h.ex b r).1 C).2 L
   have O:aP r 0 ((R:Int)-1)=false:=by
    cases C:aP r 0 ((R:Int)-1)with
    |false=>rfl
    |true=>have:=bG.1 C;exact absurd ⟨this.1,by omega⟩ L
   rw[O,I];rfl
 ·have I:dx (eC g s) ⟨b,r,0⟩=false:=by
   cases C:dx (eC g s) ⟨b,r,0⟩with
   |false=>rfl
   |true=>exact absurd ((h.ex b r).1 C).1 E
  have O:aP b 0 ((D:Int)-1)=false:=by
   cases C:aP b 0 ((D:Int)-1)with
   |false=>rfl
   |true=>have:=bG.1 C;exact absurd ⟨this.1,by omega⟩ E
  rw[O,I];rfl
def amv{g:aN}{s:dG}{C R:Nat}(h:Sp g s C R){b r:Nat}(hb:b<C)(I:r<R):xB g s (b:Int) (r:Int)=some (s.map.getD (b*R+r) 0):=by
 have D:=(h.lens hb).1;rw[iP]at D;have E:=(h.ex (b:Int) r).2 ⟨⟨by omega,by omega⟩,by omega,by omega⟩;have e:b*R+r=((b*R+r:Nat):Int):=by rw[Int.natCast_add,Int.natCast_mul]
 unfold xB xI;rw[ZW h,ak,E,aq,e,bq,au,aA ⟨by omega,by rw[bC];omega⟩]
 grind
def amw{g:aN}{s:dG}{C R:Nat}(h:Sp g s C R){b r:Int}(D:dx (eC g s) ⟨b,r,0⟩=false):xB g s b r=some (-1):=by
 unfold xB xI;rw[ZW h,ak,D];rfl
def amx{g:aN}{s:dG}{D R:Nat}(h:Sp g s D R)(b r:Int):∃ y,xB g s b r=some y/\(dx (eC g s) ⟨b,r,0⟩=true -> 0 <= y/\y<g.rows):=by
 cases C:dx _ ⟨b,r,0⟩with
 |false=>exact⟨-1,amw h C,λh=>by cases h⟩
 | true=>
  have⟨⟨E,L⟩,I,a4⟩:=(h.ex b r).1 C;obtain⟨b,rfl⟩:=fA E;obtain⟨r,rfl⟩:=fA I;exact⟨_,amv h (by omega) (by omega),λ_=>h.bound (by omega) (by omega)⟩
def aFk{g:aN}{s:dG}{I R:Nat}(h:Sp g s I R){b:Nat}(hb:b<I){x:Int}(E:0 <= x):∃ y,Pr g s (b:Int) x=some y/\(y<0 -> ∀ k,k<R -> s.map.getD (b*R+k) 0≠x):=by
 have Y:=h.AP.2.2.2.2.2.1;unfold Pr bM;have⟨z,e,O⟩:=Yh (step:=JD) 16 (λk t=>t=(((b:Int),x,(),(),(k:Int),()),((g.bR,g.aB,g.rows,g.aM,()),(s.bB,s.map,()),())) /\ ∀ j,j<k -> j<R -> s.map.getD (b*R+j) 0≠x)
  (λz=>(∃r:Int,0 <= r/\z = .inl ((r,()),())) \/ (z = .inr (.inl ((),())) /\ ∀j,j<R -> s.map.getD (b*R+j) 0≠x)) aS (x:=(((b:Int),x,(),(),(0:Int),()),((g.bR,g.aB,g.rows,g.aM,()),(s.bB,s.map,()),()))) ⟨rfl,λj C=>by omega⟩ (by
  rintro k Z t ⟨rfl,D⟩;unfold JD az aT xG;dsimp only;rw[mR,show (⟨s.bB,s.map⟩:dG)=s from rfl,aZ (show (k:Int)<16 by omega),aq,aZ (show x >= 0 from E),aq];by_cases T:k<R
  ·rw[amv h hb T,ak];by_cases e:s.map.getD (b*R+k) 0=x
   ·simp_all
   ·rw[kR e,au,bE]
    refine .inl ⟨_,rfl,rfl,λj C L=>?_⟩
    by_cases hjk:j=k
    ·simp_all
    ·grind
  ·have U:dx (eC g s) ⟨(b:Int),(k:Int),0⟩=false:=by
    cases E:dx (eC g s) ⟨(b:Int),(k:Int),0⟩with
    |false=>rfl
    |true=>have:=((h.ex b _).1 E).2;omega
   rw[amw h U,ak,kR (show ¬ (-1:Int)=x by omega),au,bE];exact .inl ⟨_,rfl,rfl,λj C L=>D j (by omega) L⟩) (by
  rintro t ⟨rfl,D⟩;unfold JD az aT xG;dsimp only;rw[bq,au];exact⟨_,rfl,.inr ⟨rfl,λj C=>D j (by omega) C⟩⟩) (bJ)
 rw[e,ak];rcases O with ⟨r,hr,rfl⟩|⟨rfl,D⟩
 ·exact⟨r,rfl,λhn=>by omega⟩
 ·simp_all
def aFl{g:aN}{s:dG}{C R:Nat}(h:Sp g s C R)(b r:Int):∃ y t,Pu g s b r=some (y,t)/\Sp g y C R/\y.bB=s.bB/\(t=true->dx (eC g s) ⟨b,r,0⟩=true):=by
 obtain⟨hg,yN,eg,eb,E,I,lE,hc,Rq,ML⟩:=h.AP;have hm:s.map.length<=128:=by
  rw[h.hl];exact Nat.mul_le_mul E I
 have hR:=h.hR;have L:W6 (g.rows-s.bB)=(R:Int):=by rw[h.hR];exact aY
 unfold Pu Ib bM xA xZ;rw[cM (by simp;omega),aq,kZ,ak,ZW h,ak];cases O:dx (eC g s) ⟨b,r,0⟩with
 |false=>exact⟨s,false,rfl,h,rfl,λh=>by cases h⟩
 | true=>
  obtain⟨⟨T,a2⟩,U,a4⟩:=(h.ex b r).1 O;obtain⟨b,rfl⟩:=fA T;obtain⟨r,rfl⟩:=fA U;have hb:b<C:=by omega
  have Y:r<R:=by omega
  have Z:=(h.lens hb).1;have hp:b*R+r<s.map.length:=by
   rw[iP]at Z;omega
  have e0:(b:Int)*(R:Int)+(r:Int)=((b*R+r:Nat):Int):=by rw[Int.natCast_add,Int.natCast_mul]
  rw[aq,e0,bq,au,L];dsimp only;obtain⟨n,hn⟩:=fA (show 0<=g.rows-(R:Int) by omega);obtain⟨z,e,hz⟩:=Yh (step:=JE) n (λk x=>x=(((b:Int),(),(),(),(),((b*R+r:Nat):Int),(R:Int)+(k:Int),()),((g.bR,g.aB,g.rows,g.aM,()),(s.bB,s.map,()),((0:Int),(),()),(s.bB,(),()),([]:aa Int),s.map,())))
   (λz=>(∃i:Int,z = .inl (((),true,()),((s.bB,(),()),s.map.set (b*R+r) i,()))/\(R:Int)<=i/\i<=g.rows-1/\∀k,k<R->s.map.getD (b*R+k) 0≠i)\/z = .inr (.inl (((),(),()),(((0:Int),(),()),(s.bB,(),()),([]:aa Int),s.map,())))) aS (x:=(((b:Int),(),(),(),(),((b*R+r:Nat):Int),(R:Int),()),((g.bR,g.aB,g.rows,g.aM,()),(s.bB,s.map,()),((0:Int),(),()),(s.bB,(),()),([]:aa Int),s.map,()))) (by rw[cc,Int.add_zero]) (by
   rintro k hk x rfl;obtain⟨y,ey,hy⟩:=aFk h hb (x:=(R:Int)+(k:Int)) (by omega);unfold JE az aT xG xL;dsimp only;rw[mR,aZ (show (R:Int)+(k:Int)<g.rows by omega),aq];rw[show (⟨s.bB,s.map⟩:dG)=s from rfl,ey,ak];by_cases D:y<0
   ·rw[aZ D,aq,aA ⟨by omega,by omega⟩,aA];refine .inr ⟨_,rfl,.inl ⟨(R:Int)+(k:Int),?_,by omega,by omega,hy D⟩⟩;simp only[bC]
   ·rw[bq D,au,aY (n:=(R:Int)+(k:Int)+1)];exact .inl ⟨_,rfl,by rw[show ((k+1:Nat):Int)=(k:Int)+1 from Int.natCast_succ k,<-Int.add_assoc]⟩) (by
   rintro x rfl;unfold JE az aT xG xL;dsimp only;rw[bq (show ¬ (R:Int)+(n:Int)<g.rows by omega),au];exact⟨_,rfl,.inr rfl⟩) (bJ)
  rw[e,ak];rcases hz with ⟨i,rfl,i1,i2,i3⟩|rfl
  ·exact⟨_,true,rfl,h.set hb Y i1 i2 i3,rfl,λ_=>rfl⟩
  ·exact⟨_,false,rfl,h,rfl,λh=>by cases h⟩
def aFm{c:av}(O:dg c)(D:dP c=true)(t:aJ):∃ v y,Pv c t=some (v,(y,()))/\dg y/\dP y=true/\Nx c y:=by
 have h:=Ck.of D;have⟨bn,R,E⟩:=Sp.of h.sp;have⟨T,yN,eg,eb,h8,vI,lE,hc,Rq,ML⟩:=E.AP;have⟨f,e1,hf⟩:=amx E t.ay t.row;have⟨y,v,e2,I,Z,ht⟩:=aFl E t.ay t.row;unfold Pv bA xL;rw[e1,ak,e2,ak];cases v with
 |false=>exact⟨false,c,rfl,O,D,Nx.refl c⟩
 | true=>
  have U:=ht rfl;have⟨⟨a1,a2⟩,a3,a4⟩:=(E.ex t.ay t.row).1 U;have lD:=(yb h.rk).2.1;have Ls:=E.hb;have hR:=E.hR;have⟨f1,f2⟩:=hf U;have egy:eC c.config.ax y=eC c.config.ax c.spare:=by
   unfold eC;rw[I.ok,h.sp,Z]
  have⟨q,e3,L⟩:=amx I t.ay t.row;have L:=L (by rw[egy];exact U);rw[bK,au,aA ⟨a1,by omega⟩,aA];dsimp only;cases c.bk.aB[t.ay.toNat].open_ with
  |true=>exact⟨false,c,rfl,O,D,Nx.refl c⟩
  | false=>
   rw[au,e3,ak];have⟨n,hn⟩:=fA (show 0 <= c.config.ax.aM by omega);have gb:=fm T;have LP:∀(row:Int) (k:Nat),0 <= row -> row<c.config.ax.rows -> k<n -> dx c.config.ax ⟨t.ay,row,(k:Int)⟩=true:=λrow k r1 r2 D=>vw T a1 (by rw[Ls];exact a2) r1 r2 (by dsimp only;omega) (by dsimp only;omega)
   have⟨z,e,zk⟩:=Yg (step:=ES) n (λk x=>∃ a:dU,fy c.config.ax 100000 a/\x=(((),(),(),f,(),q,(k:Int),()),(cQ c a,(t.ay,t.row,t.bL,()),(c.config.ax.bR,c.config.ax.aB,c.config.ax.rows,c.config.ax.aM,()),(y.bB,(),()),y.map,())))
    (λz=>∃a:dU,fy c.config.ax 100000 a/\z = .inl (((),(),()),(cQ c a,(y.bB,(),()),y.map,()))) aS (x:=(((),(),(),f,(),q,(0:Int),()),(c,(t.ay,t.row,t.bL,()),(c.config.ax.bR,c.config.ax.aB,c.config.ax.rows,c.config.ax.aM,()),(y.bB,(),()),y.map,()))) ⟨c.array,fy.vV h.ar,rfl⟩ (by
    rintro k D x ⟨a,C,rfl⟩;have at1:=LP q k L.1 L.2 D;have at2:=LP f k f1 f2 D;have⟨i1,_⟩:=LF at1;have⟨i2,_⟩:=LF at2;have l1:=C.lt at1;have l2:=C.lt at2;have Su:=C.syms _ (cS l2);have st:ES (((),(),(),f,(),q,(k:Int),()),(cQ c a,(t.ay,t.row,t.bL,()),(c.config.ax.bR,c.config.ax.aB,c.config.ax.rows,c.config.ax.aM,()),(y.bB,(),()),y.map,()))=some (.inl (((),(),(),f,(),q,((k+1:Nat):Int),()),(cQ c ⟨a.cells.set (iB c.config.ax ⟨t.ay,q,(k:Int)⟩) a.cells[iB c.config.ax ⟨t.ay,f,(k:Int)⟩],a.br,a.bh⟩,(t.ay,t.row,t.bL,()),(c.config.ax.bR,c.config.ax.aB,c.config.ax.rows,c.config.ax.aM,()),(y.bB,(),()),y.map,()))):=by
     unfold ES az xG xL xM;dsimp only;rw[mR,aZ (show (k:Int)<c.config.ax.aM by omega),aq,Q4,ak,Q4,ak,i1,i2];have Y:0 <= (iB c.config.ax ⟨t.ay,f,(k:Int)⟩:Int)/\(iB c.config.ax ⟨t.ay,f,(k:Int)⟩:Int).toNat<(cQ c a).array.cells.length:=⟨by omega,by simpa [cQ]using l2⟩
     have c2:0 <= (iB c.config.ax ⟨t.ay,q,(k:Int)⟩:Int)/\(iB c.config.ax ⟨t.ay,q,(k:Int)⟩)<(cQ c a).array.cells.length:=⟨by omega,by simpa [cQ]using l1⟩
     rw[aA Y,aA Y.2,aA Y.2];simp only[bC];rw[ajS _ (by simp only[cQ];rw[Su.1];omega),ak,aA c2,aA c2.2,bE];rfl
    exact⟨_,st,_,C.CT _ Su,rfl⟩) (by
    rintro x ⟨a,C,rfl⟩;unfold ES az xG xL xM;dsimp only;rw[bq (show ¬ (n:Int)<c.config.ax.aM by omega),au];exact⟨_,rfl,a,C,rfl⟩) (bJ)
   rw[e,ak];obtain⟨a,C,rfl⟩:=zk;have p:=gE.of h.pa;have⟨z1,z2,z3,z5,z6,z7,z8,z9,fq,gD,jx,jy,fR,kV⟩:=O;have hml:y.map.length <= 128:=by
    rw[I.hl];exact Nat.mul_le_mul h8 vI
   refine⟨true,⟨c.config,c.box,c.now,c.bk,c.ready,a,y,c.aL,c.bH,c.guard,c.pending,c.queue,c.shares,c.drain,c.aR,c.bY,c.errors,c.trace,c.cr⟩,rfl,⟨z1,z2,z3,vW C,by show y.map.length <= 1048576;omega,z7,z8,z9,fq,gD,jx,jy,fR,kV⟩,Ck.ok ⟨h.f1,h.f2,h.nw,h.rk,h.rd,yx T C,I.ok,Z.trans h.se,h.rf,(show gE ⟨c.config,c.box,c.now,c.bk,c.ready,a,y,c.aL,c.bH,c.guard,c.pending,c.queue,c.shares,c.drain,c.aR,c.bY,c.errors,c.trace,c.cr⟩from ⟨p.dl,p.tl,p.gl,p.t,p.g,p.pd,p.u⟩).ok,?_,h.sh,h.sl,h.dr,h.pw,h.ps,h.si,h.s1,h.s2,h.s3,h.er,h.tr,h.rp⟩,rfl,rfl,List.Sublist.refl _,λr hr=>.inl hr,.inl rfl⟩
   show jl (eI (eC c.config.ax y)) c.queue=true;rw[egy];exact h.qu
def aFn{g:aN}(D:cy g=true):Oo g=some (Sq g):=by
 have E:=mQ g;have I:=p7 g;have er:aW g*g.rows=fP g:=by simp[fP,D]
 have⟨n,C⟩:=fA E.1;unfold Oo bA;have e:=cz (step:=Im) n (λi=>(((),(),(),(i:Int),()),((g.bR,g.aB,g.rows,g.aM,()),((),(),(),()),((),(),(),()),([]:aa bX),([]:aa Int),([]:aa Int),List.replicate i amk,([]:aa Int),([]:aa Int),()))) _ aS (λk h=>by
  unfold Im az xG;dsimp only;rw[mR,xV,ak,C,aZ,aq,cM (by simp;omega),aq,bE,List.replicate_succ' (n:=k)];rfl) (by
  unfold Im az xG;dsimp only;rw[mR,xV,ak,C,bq,au]) (bJ)
 rw[cc,List.replicate_zero]at e
 refine(bx (λo=>Option.bind o _) e).trans ?_
 rw[ak];simp only[dZ];rw[mR,mg,ak,er,aY (n:=fP g),bq,au,xU,ak,D,bK,au,bN ⟨by omega,by omega,by omega⟩,bN ⟨by omega,by omega,by omega⟩];unfold Sq;rw[C,bC]
def aFo{p:dM}(C:yd p):Oq p=some (⟨p,p,false⟩,true):=by
 have⟨D,_,E⟩:=C8 C;unfold Oq vg xA xZ;rw[YC _ (by omega),ak,D,bK,au,cM (by simp[E]),aq,kZ,ak,ak]
def aFp:Em 16=some (So,true):=by kernel_rfl
def aFq(Z C:av)(c:eB)(p:dM)(n:Nat)(O:n <= 8)(D:c.eD=16)(E:C.bH=[])(I:C.guard=[]):
  iter En aS (((),(),(),(),(n:Int),(0:Int),()),(Z,C,c,(p.dz,p.cap,p.dK,p.low,p.high,p.weights,p.cN.down,p.cN.sleep,()),()))=some (.inl (((),(),(),()),(Z,grow C p.dK n,(p.dz,p.cap,p.dK,p.low,p.high,p.weights,p.cN.down,p.cN.sleep,()),()))):=by
 have e:=cz (step:=En) n (λi=>(((),(),(),(),n,i,()),(Z,grow C _ i,c,(p.dz,p.cap,p.dK,p.low,p.high,p.weights,p.cN.down,p.cN.sleep,()),()))) _ aS (λk h=>by
  unfold En grow az xG;dsimp only;rw[aZ,aq,D,aFp,ak,E,I,cM (by simp;omega),aq,cM (by simp;omega),aq,bE,List.replicate_succ' (n:=k),List.replicate_succ' (n:=k),List.append_assoc,List.append_assoc]) (by
  unfold En grow az xG;dsimp only;rw[bq,au]) (bJ)
 have L:grow C p.dK 0=C:=by
  unfold grow;simp only[List.replicate_zero,List.append_nil]
 rw[cc,L]at e;exact e
def aFr{c:eB}{p:dM}(D:vL c)(C:yd p):xj c p=some true:=by
 have⟨_,_,E⟩:=C8 C;have e:=aml D C;rw[LI _ _ (by omega)]at e
 rwa [RB _ _ (by omega)]
def aFs{c:eB}{p:dM}(C:vL c)(D:yd p):Ou c p=some (sP c p,true):=by
 have E:=Sr C.1;have hb:=eN c.ax;have Z:=FB E;have⟨h2,L,h3⟩:=C8 D;have⟨n,I⟩:=fA hb.1;have O:c.eD=16:=C.2.2.2.2.2.1;have hiv:200 <= c.interval/\c.interval <= 259:=C.2.2.2.2.1;have T:Ot (n:Int) c.interval=some (⟨List.replicate n 0,c.interval,false⟩,true):=by
  unfold Ot;rw[dO,ak,bG.2 ⟨by omega,by omega⟩,bK,au,dO,ak,bG.2 ⟨by omega,by omega⟩,bK,au,bN ⟨by omega,by omega,by omega⟩,bC]
 have U:WH 10=some (⟨0,10,10⟩,true):=rfl;have Y:xX p.weights=(p.weights.map jX,true):=by unfold xX;rw[L,aq]
 unfold Ou bA;rw[aFr C D,ak,bK,au,akp,ak,aBO E,ak,aFn E,ak,mg,ak,aFo D,ak,Yv,ak,I,T,ak];dsimp only;rw[aFq _ _ c p n (by omega) O rfl rfl,ak];simp only[dZ];rw[YA _ (by omega),ak,U,ak,Y];unfold sP grow;rw[I,bC];rfl
def Rv(c:av)(N:Int):Prop:=(∀r∈c.queue,r.id<=N/\r.at_<=c.now)/\∀r∈c.cr,r.id<=N
def Rv.nx{c y:av}{N:Int}(h:Rv c N)(D:Nx c y):Rv y N:=by
 have⟨E,T,I,L,U⟩:=D
 refine⟨λr C=>by rw[E];exact h.1 r (I.subset C),λr C=>?_⟩
 rcases L r C with q|⟨q,O,e⟩
 ·exact h.2 r q
 ·rw[e];exact(h.1 q O).1
def Rv.kY{c y:av}{N:Int}(h:Rv c N)(D:Sk c y):Rv y N:=by
 have⟨O,T,E,I,U⟩:=D
 refine⟨λr C=>?_,λr C=>?_⟩
 ·have:=h.1 r (E.subset C)
  grind
 ·rcases I r C with q | ⟨q,L,e⟩
  ·exact h.2 r q
  ·rw[e];exact(h.1 q L).1
def aFt{r:dn}(h:ff r=true)(x:Bool):∃ y,Pn r x=some y/\ff y=true/\y.aH.length=r.aH.length:=by
 have hl:=om h;have C:=h;simp only[ff,aQ,bG]at h;have mk:∀ (w:Int) (b:Bool),1<=w/\w<=10000->ff ⟨r.aH,w,b⟩=true:=λw b D=>by
  simp only[ff,aQ,bG];exact⟨h.1,h.2.1,D⟩
 have E:W6 ((W6 (r.wait+1)).tdiv 2)=(r.wait+1) / 2:=by
  rw[aY (n:=r.wait+1),qv (by omega)];exact aY
 have I:W6 (W6 (2*r.wait)-1)=2*r.wait-1:=by
  rw[aY (n:=2*r.wait)];exact aY
 unfold Pn BZ xA xZ;rw[cM (by simp;omega),aq,kZ,ak,Lu _ (by omega),ak,C,bK,au];dsimp only;rw[E,I];cases x with
 | true=>
  cases r.dL with
  |false=>exact⟨_,rfl,mk _ _ (by omega),rfl⟩
  |true=>exact⟨_,rfl,mk _ _ h.2.2,rfl⟩
 | false=>
  cases r.dL with
  |false=>exact⟨_,rfl,mk _ _ h.2.2,rfl⟩
  |true=>exact⟨_,rfl,mk _ _ (by split<;>omega),rfl⟩
def aFu(b:iR)(C:FN b)(p:dM)(D:p.weights.length <= 1048576):Po b p=some (bif o7 p then ⟨b.bz,p,true⟩else b,o7 p):=by
 unfold Po;rw[Y4 b C,ak,YC _ (by omega),ak];cases o7 p with
 |false=>rfl
 | true=>
  unfold vg xA xZ;rw[bK,iC _,aq];rfl
def aFv{c:av}(C:dP c=true)(r:aU):(LM c r).2=(sE c r).1:=by
 unfold LM sE
 grind
def aFw{c:av}{N:Int}(h:Rv c N){r:aU}(D:r.id <= N):Rv (sE c r).1 N/\(sE c r).1.now=c.now/\(sE c r).1.config=c.config:=by
 unfold sE;cases hb:((!dP c) ||((!(mX c r).2) ||(c.cr.any λx=>x.id==r.id)))with
 |true=>simp_all
 | false=>
  refine⟨⟨λx hx=>?_,h.2⟩,rfl,rfl⟩
  unfold mX CV at hx;cases C:(jl _ c.queue&&jl _ _)with
  | false=>
   rw[C]at hx;exact h.1 x hx
  | true=>
   rw[C,aq]at hx;unfold ye at hx;rcases List.mem_append.1 hx with hx|hx
   ·rcases List.mem_append.1 hx with hx | hx
    ·exact h.1 x (List.mem_of_mem_take hx)
    ·rw[oy.1 hx];exact⟨D,Int.le_refl _⟩
   ·exact h.1 x (List.mem_of_mem_drop hx)
def Do(c:av)(N:Int)(o:ah (Bool×(av×af))):Prop:=∃t y,o=some (t,(y,()))/\dg y/\dP y=true/\y.config=c.config/\(0<=y.now/\y.now<=c.now+500)/\Rv y N
def aFx{c:av}{N:Int}(hz:dg c)(I:dP c=true)(hi:2 <= c.config.interval/\c.config.interval <= 10000)(hn:c.now <= 900000)(L:Rv c N){a:ke}(hw:a.nN.weights.length <= 1048576)(hid:a.request.id <= N):Do c N (Pw c a):=by
 have h:=Ck.of I;have p:=gE.of h.pa;have O:=bG.1 h.nw;have T:=hz;have⟨Z,z2,z3,z5,z6,z7,z8,z9,fq,gD,jx,jy,fR,kV⟩:=hz;have no:∀t:Bool,Do c N (some (t,(c,()))):=λt=>⟨t,c,rfl,T,I,rfl,⟨O.1,by omega⟩,L⟩
 unfold Pw xC bA xL xM;cases a.kind==(1:Int)with
 | true=>
  have⟨q1,q2⟩:=aEX I a.request;have⟨v1,v2,v3⟩:=aFw L hid;rw[aq,aCD c a.request T I,ak];dsimp only;rw[aFv I];exact⟨_,_,rfl,aCC c a.request T,q1,v3,⟨by rw[v2];exact O.1,by rw[v2];omega⟩,v1⟩
 |false=>
 rw[au];cases a.kind==(2:Int)with
 | true=>
  rw[aq,dO,ak];cases U:aP a.n 0 500 with
  |false=>exact no _
  | true=>
   have hb:=bG.1 U;have⟨m,hm⟩:=fA hb.1;rw[bK,au];obtain⟨z,e,y,rfl,D,E,C,y4,Y⟩:=Yg (step:=JF) m (λk x=>∃ y:av,x=(((),(),(k:Int),()),(y,a,()))/\dg y/\dP y=true/\y.config=c.config/\(0 <= y.now/\y.now=c.now+(k:Int))/\Rv y N) (λz=>∃ y:av,z = .inl ((),(y,()))/\dg y/\dP y=true/\y.config=c.config/\(0 <= y.now/\y.now <= c.now+500)/\Rv y N) aS (x:=(((),(),(0:Int),()),(c,a,()))) ⟨c,rfl,T,I,rfl,⟨O.1,by omega⟩,L⟩ (by
    rintro k hkk x ⟨y,rfl,D,E,C,y4,Y⟩;have⟨v,f1,f2,f3,f4⟩:=aFj D E (by rw[C];exact hi) (by omega);unfold JF az xG;dsimp only;rw[hm,aZ (show (k:Int)<(m:Int) by omega),aq,f1,ak,bE];have aF7:=f4.1;exact⟨_,rfl,v,rfl,f2,f3,f4.2.1.trans C,⟨by omega,by omega⟩,Y.kY f4⟩) (by
    rintro x ⟨y,rfl,D,E,C,y4,Y⟩;unfold JF az xG;dsimp only;rw[hm,bq (show ¬ (m:Int)<(m:Int) by omega),au];exact⟨_,rfl,y,rfl,D,E,C,⟨y4.1,by omega⟩,Y⟩) (bJ)
   rw[e,ak];exact⟨true,y,rfl,D,E,C,y4,Y⟩
 |false=>
 rw[au];cases a.kind==(3:Int)with
 | true=>
  have hg:=(yb h.rk).1;have ha:=fy.vV h.ar;rw[aq,Q3,ak];cases c1:dx c.config.ax a.addr with
  |false=>exact no _
  |true=>
  rw[bK,au,dO,ak];cases c2:aP a.yE 0 10 with
  |false=>exact no _
  |true=>
  unfold xw;rw[bK,au,dO];cases c3:aP a.n 0 15 with
  |false=>exact no _
  | true=>
   have b2:=bG.1 c2;have b3:=bG.1 c3;have⟨k,hkc⟩:=fA b2.1;have hl:=ha.lt c1;have⟨i1,i2⟩:=LF c1;have hs:=ha.syms _ (cS hl);have hkl:k<c.array.cells[iB c.config.ax a.addr].symbols.length:=by rw[hs.1];omega
   have U:=Yr (hs.get hkl) b3;have ha2:fy c.config.ax 100000 ⟨c.array.cells.set (iB c.config.ax a.addr) ⟨c.array.cells[iB c.config.ax a.addr].symbols.set k (bits .xor .i64 c.array.cells[iB c.config.ax a.addr].symbols[k] a.n),c.array.cells[iB c.config.ax a.addr].jb⟩,c.array.br,c.array.bh⟩:=ha.CT _ (c:=⟨_,_⟩) (hs.set ⟨U.1,U.2.1⟩);refine⟨true,cQ c ⟨c.array.cells.set (iB c.config.ax a.addr) ⟨c.array.cells[iB c.config.ax a.addr].symbols.set k (bits .xor .i64 c.array.cells[iB c.config.ax a.addr].symbols[k] a.n),c.array.cells[iB c.config.ax a.addr].jb⟩,c.array.br,c.array.bh⟩,?_,⟨Z,z2,z3,vW ha2,z6,z7,z8,z9,fq,gD,jx,jy,fR,kV⟩,Ck.ok ⟨h.f1,h.f2,h.nw,h.rk,h.rd,yx hg ha2,h.sp,h.se,h.rf,(show gE (cQ c _)from ⟨p.dl,p.tl,p.gl,p.t,p.g,p.pd,p.u⟩).ok,h.qu,h.sh,h.sl,h.dr,h.pw,h.ps,h.si,h.s1,h.s2,h.s3,h.er,h.tr,h.rp⟩,rfl,⟨O.1,by show c.now <= c.now+500;omega⟩,L⟩;simp[Q4,i1,hl,hkc,hkl,cQ]
 |false=>
 rw[au];cases a.kind==(4:Int)with
 | true=>
  rw[aq,dO,ak];cases U:aP a.n 0 1 with
  |false=>exact no _
  | true=>
   have⟨y,e,D,E⟩:=aFt h.rf (a.n==(1:Int));rw[bK,au,e,ak];exact⟨true,qk c y,rfl,⟨Z,z2,z3,z5,z6,by unfold yc at z7 ⊢;show y.aH.length <= _;omega,z8,z9,fq,gD,jx,jy,fR,kV⟩,Ck.ok ⟨h.f1,h.f2,h.nw,h.rk,h.rd,h.ar,h.sp,h.se,D,(show gE (qk c y)from ⟨by show (y.aH.length:Int)=_;rw[E];exact p.dl,p.tl,p.gl,p.t,p.g,p.pd,p.u⟩).ok,h.qu,h.sh,h.sl,h.dr,h.pw,h.ps,h.si,h.s1,h.s2,h.s3,h.er,h.tr,h.rp⟩,rfl,⟨O.1,by show c.now <= c.now+500;omega⟩,L⟩
 |false=>
 rw[au];cases a.kind==(5:Int)with
 | true=>
  rw[aq,RB _ _ (by omega),ak];cases hf:mU c.config a.nN with
  |false=>exact no _
  | true=>
   have hp:=(FT (by omega) hf).2;rw[bK,au,aFu c.box Z a.nN hw,ak,hp,aq];exact⟨true,⟨c.config,⟨c.box.bz,a.nN,true⟩,c.now,c.bk,c.ready,c.array,c.spare,c.aL,c.bH,c.guard,c.pending,c.queue,c.shares,c.drain,c.aR,c.bY,c.errors,c.trace,c.cr⟩,rfl,⟨⟨Z.1,hw⟩,z2,z3,z5,z6,z7,z8,z9,fq,gD,jx,jy,fR,kV⟩,Ck.ok ⟨h.f1,hf,h.nw,h.rk,h.rd,h.ar,h.sp,h.se,h.rf,(show gE ⟨c.config,⟨c.box.bz,a.nN,true⟩,c.now,c.bk,c.ready,c.array,c.spare,c.aL,c.bH,c.guard,c.pending,c.queue,c.shares,c.drain,c.aR,c.bY,c.errors,c.trace,c.cr⟩from ⟨p.dl,p.tl,p.gl,p.t,p.g,p.pd,p.u⟩).ok,h.qu,h.sh,h.sl,h.dr,h.pw,h.ps,h.si,h.s1,h.s2,h.s3,h.er,h.tr,h.rp⟩,rfl,⟨O.1,by show c.now <= c.now+500;omega⟩,L⟩
 |false=>
 rw[au];cases a.kind==(6:Int)with
 | true=>
  have⟨t,y,e,D,E,C⟩:=aFm T I a.addr;rw[aq,e,ak];exact⟨t,y,rfl,D,E,C.2.1,⟨by rw[C.1];exact O.1,by rw[C.1];omega⟩,L.nx C⟩
 |false=>exact no _
def aFy{c:eB}{p:dM}(L:vL c)(T:yd p){bf:aa ke}{N:Int}(hN:0 <= N)(Y:∀ a∈bf,L8 a/\a.request.id <= N)(hl:bf.length <= 60):∃ y n,Py c p bf=some (y,n)/\dg y/\dP y=true/\y.config=c/\(0 <= y.now/\y.now <= 30000)/\Rv y N:=by
 have hiv:200 <= c.interval/\c.interval <= 259:=L.2.2.2.2.1;have hz:=aEV L T;have hk:=aEW L T;unfold Py bA;rw[aFs L T,ak];dsimp only;rw[bK,au,bq (show ¬ (bf.length:Int) > 60 by omega),au];generalize (⟨⟨⟨(0:Int),(0:Int),(0:Int),(0:Int)⟩,⟨(0:Int),(0:Int),(0:Int),(0:Int),(0:Int),(0:Int),(0:Int),(0:Int),(0:Int),(0:Int),(0:Int),(0:Int),(0:Int),(0:Int),(0:Int),(0:Int),(0:Int)⟩,⟨(0:Int),false⟩,(0:Int),(0:Int),(0:Int),⟨(0:Int),(0:Int)⟩⟩,⟨⟨(0:Int),(0:Int),(0:Int),(0:Int),(0:Int),([]:aa Int),⟨(0:Int),(0:Int)⟩⟩,⟨(0:Int),(0:Int),(0:Int),(0:Int),(0:Int),([]:aa Int),⟨(0:Int),(0:Int)⟩⟩,false⟩,(0:Int),⟨([]:aa eP),(0:Int)⟩,⟨([]:aa Int),([]:aa Int)⟩,⟨([]:aa bX),([]:aa Int),([]:aa Int)⟩,⟨(0:Int),([]:aa Int)⟩,⟨([]:aa Int),(0:Int),false⟩,([]:aa ck),([]:aa Int),([]:aa aJ),([]:aa aU),([]:aa cw),⟨false,(0:Int),(0:Int)⟩,⟨(0:Int),(0:Int),(0:Int)⟩,⟨(0:Int),(0:Int),(0:Int)⟩,([]:aa cq),([]:aa fk),([]:aa eR)⟩:av)=Z;obtain⟨z,e,y,n,rfl,D,E,C,O,I⟩:=Yg (step:=JG) bf.length (λk x=>∃ (y:av) (n:Int),x=((bf,(),(),n,(k:Int),()),(Z,y,()))/\dg y/\dP y=true/\y.config=c/\(0 <= y.now/\y.now <= 500*(k:Int))/\Rv y N) (λz=>∃ (y:av) (n:Int),z = .inl (((),(),n,()),(Z,y,()))/\dg y/\dP y=true/\y.config=c/\(0 <= y.now/\y.now <= 30000)/\Rv y N) aS (x:=((bf,(),(),(0:Int),(0:Int),()),(Z,sP c p,()))) ⟨sP c p,0,rfl,hz,hk,rfl,⟨Int.le_refl _,Int.le_refl _⟩,λr U=>(by cases U),λr U=>(by cases U)⟩ (by
  rintro k hkk x ⟨y,n,rfl,D,E,C,O,I⟩;have⟨w1,w2⟩:=Y _ (cS hkk);have⟨t,v,f1,f2,f3,f4,f5,f6⟩:=aFx D E (by rw[C];omega) (by omega) I (a:=bf[k]) w1 w2;unfold JG az xG xI;dsimp only;rw[aZ (show (k:Int)<(bf.length:Int) by omega),aq,aA ⟨by omega,by omega⟩];simp only[bC];rw[f1,ak,bE (i:=k)];dsimp only;cases t with
  |true=>exact⟨_,rfl,v,_,rfl,f2,f3,f4.trans C,⟨f5.1,by omega⟩,f6⟩
  |false=>exact⟨_,rfl,v,_,rfl,f2,f3,f4.trans C,⟨f5.1,by omega⟩,f6⟩) (by
  rintro x ⟨y,n,rfl,D,E,C,O,I⟩;unfold JG az xG xI;dsimp only;rw[bq (show ¬ (bf.length:Int)<(bf.length:Int) by omega),au];exact⟨_,rfl,y,n,rfl,D,E,C,⟨O.1,by omega⟩,I⟩) (bJ)
 refine⟨y,n,?_,D,E,C,O,I⟩
 refine(bx (λo=>Option.bind o _) e).trans ?_
 rw[ak];simp only[dZ];rw[RE y D,ak]
def kY(c:av):av:=(aAo c).getD c
def fQ.cs{b:aa Int}{c:aX}(h:fQ b c):∃i k,c=⟨b,i,k⟩:=⟨c.i,c.h,h.eta.symm⟩
def Dr.nx{α β:Type}{b:aa Int}{f:ah (α×(aX×af))}{g:α×(aX×af)->ah (β×(aX×af))}{P:α->Prop}{Q:β->Prop}(h:Dr b f P)(D:∀ x i k,fQ b ⟨b,i,k⟩->P x->Dr b (g (x,(⟨b,i,k⟩,()))) Q):Dr b (f.bind g) Q:=
 h.bind λx c E C=>by
  obtain⟨i,k,rfl⟩:=C.cs;exact D x i k C E
def Dr.ls{α β:Type}{b:aa Int}{f:ah (α×(aX×af))}{g:α×(aX×af) -> ah β}{P:α -> Prop}{r:β}(h:Dr b f P)(D:∀ x i k,fQ b ⟨b,i,k⟩ -> P x -> g (x,(⟨b,i,k⟩,()))=some r):f.bind g=some r:=by
 have⟨x,c,e,C,E⟩:=h;obtain⟨i,k,rfl⟩:=C.cs;rw[e];exact D x i k C E
def Dr.cd{α:Type}{b:aa Int}{f g:ah (α×(aX×af))}{P:α->Prop}{t:Bool}(C:Dr b f P)(D:Dr b g P):Dr b (bif t then f else g) P:=by
 cases t with
 |true=>exact C
 |false=>exact D
def uz{β:Type}{f g:ah β}{r:β}{t:Bool}(C:f=some r)(D:g=some r):(bif t then f else g)=some r:=by
 cases t with
 |true=>exact C
 |false=>exact D
def aFz{b:aa Int}{i k:Int}(C:fQ b ⟨b,i,k⟩):Dr b (JP ⟨b,i,k⟩ 4) λ_=>True:=by
 unfold JP;exact Dr.nx (aEZ C 4 (by decide)) λx i k C _=>Dr.nx (cZ C 16) λy i k C _=>
  Dr.cd (Dr.nx (iL C _ (by decide)) λz i k C _=>Dr.pure C trivial) <|
  Dr.cd (Dr.nx (iL C _ (by decide)) λz i k C _=>Dr.pure C trivial) <|
  Dr.cd (Dr.nx (iL C _ (by decide)) λz i k C _=>Dr.pure C trivial) <|
  Dr.cd (Dr.nx (aEY C) λz i k C _=>Dr.pure C trivial) <|
  Dr.cd (Dr.nx (iL C _ (by decide)) λz i k C _=>Dr.pure C trivial) (Dr.pure C trivial)
def aFA{b:aa Int}{i k:Int}(C:fQ b ⟨b,i,k⟩):Dr b (PF ⟨b,i,k⟩) λ_=>True:=by
 unfold PF;exact Dr.nx (aBk C) λx i k C _=>Dr.nx (cZ C 16) λy i k C _=>
  Dr.cd (Dr.nx (iL C _ (by decide)) λz i k C _=>Dr.pure C trivial) <|
  Dr.cd (Dr.nx (iL C _ (by decide)) λz i k C _=>Dr.pure C trivial) <|
  Dr.cd (Dr.nx (iL C _ (by decide)) λz i k C _=>Dr.pure C trivial) <|
  Dr.cd (Dr.nx (iL C _ (by decide)) λz i k C _=>Dr.pure C trivial) <|
  Dr.cd (Dr.nx (iL C _ (by decide)) λz i k C _=>Dr.pure C trivial) (Dr.pure C trivial)
def aFB{b:aa Int}{i k:Int}(C:fQ b ⟨b,i,k⟩):Dr b (JQ ⟨b,i,k⟩) λ_=>True:=by
 unfold JQ;exact Dr.nx (akL C) λx i k C _=>Dr.nx (cZ C 14) λy i k C _=>
  Dr.cd (Dr.nx (iL C _ (by decide)) λz i k C _=>Dr.pure C trivial) <|
  Dr.cd (Dr.nx (iL C _ (by decide)) λz i k C _=>Dr.pure C trivial) <|
  Dr.cd (Dr.nx (iL C _ (Nat.zero_lt_succ _)) λz i k C _=>Dr.pure C trivial) <|
  Dr.cd (Dr.nx (iL C _ (by decide)) λz i k C _=>Dr.pure C trivial) <|
  Dr.cd (Dr.nx (iL C _ (by decide)) λz i k C _=>Dr.pure C trivial) <|
  Dr.cd (Dr.nx (aFA C) λz i k C _=>Dr.pure C trivial) <|
  Dr.cd (Dr.pure C trivial) (Dr.pure C trivial)
def aFC{b:aa Int}{i k:Int}(C:fQ b ⟨b,i,k⟩){g:aN}(D:cy g=true):Dr b (Co ⟨b,i,k⟩ g) λ_=>True:=by
 have E:∀ {i k:Int},fQ b ⟨b,i,k⟩->Dr b (PR ⟨b,i,k⟩ g) λ_=>True:=λC=>by
  unfold PR
  refine Dr.nx (cZ C 9) λx i k C _=>Dr.nx (ajT C D) λy i k C _=>?_
  rw[akk,ak];exact Dr.cd (Dr.cd (Dr.cd (Dr.pure C trivial) (Dr.pure C trivial)) (Dr.cd (Dr.pure C trivial) (Dr.pure C trivial))) (Dr.cd (Dr.cd (Dr.pure C trivial) (Dr.pure C trivial)) (Dr.cd (Dr.pure C trivial) (Dr.pure C trivial)))
 unfold Co;exact Dr.nx (E C) λx i k C _=>Dr.nx (cZ C 14) λy i k C _=>
  Dr.cd (Dr.nx (iL C _ (by decide)) λz i k C _=>Dr.pure C trivial) <|
  Dr.cd (Dr.nx (iL C _ (by decide)) λz i k C _=>Dr.pure C trivial) <|
  Dr.cd (Dr.nx (iL C _ (by decide)) λz i k C _=>Dr.pure C trivial) <|
  Dr.cd (Dr.nx (iL C _ (by decide)) λz i k C _=>Dr.pure C trivial) (Dr.pure C trivial)
def aFD(g:aN):∃ C,Cp g=some C/\cy C=true:=by
 unfold Cp;rw[xU,ak];cases h:cy g with
 |true=>exact⟨g,rfl,h⟩
 |false=>exact⟨_,rfl,by decide⟩
def Sx(c:av)(x:aF)(i:Int):ah Bool:=(lO c x i).bind λC=>(xQ c x i).bind λD=>bif (!(C.2==D.2))then some false else bif (!C.2)then (CC C.1 c).bind λE=>bif E then (CD).bind λI=>(q7 I).bind λL=>some (L==(162:Int))else some false else (xN c.config.ax c.bk x).bind λO=>bif O then (An c.config.ax c.config.aE c.ready x).bind λT=>some (decide (T<=c.now))else some false
def aFE{c:av}(D:dg c)(x:aF)(i:Int):∃ y b,lO c x i=some (y,b)/\xQ c x i=some (y,b)/\(b=false->y=c)/\(b=true->dP c=true/\qm c x i=true):=by
 obtain⟨y,b,C,L,_⟩:=aD6 D x i;refine⟨y,b,C,L,?_⟩;cases I:dP c with
 | false=>
  have e:lO c x i=some (c,false):=by
   unfold lO xI;rw[Y5 c D,ak,RC c D,ak,I];rfl
  rw[e]at C;injection C with C;injection C with C E;subst C E;exact⟨λ_=>rfl,λh=>(by cases h)⟩
 | true=>
  rw[alP D (Pq.of D I)]at C;cases hm:qm c x i with
  | false=>
   rw[hm,au]at C;injection C with C;injection C with C E;subst C E;exact⟨λ_=>rfl,λh=>(by cases h)⟩
  | true=>
   rw[hm,aq]at C
   refine⟨λh=>?_,λ_=>⟨rfl,rfl⟩⟩
   subst h;exfalso;cases hi:Fs c x i with
   |none=>rw[hi]at C;cases C
   | some v=>
    rw[hi,ak]at C;injection C with C;injection C with C E;cases E
def aFF:(CD.bind λC=>(q7 C).bind λD=>some (D==(162:Int)))=some true:=by
 unfold CD;rw[ak,Yw];rfl
def amy{c:av}(D:dg c)(x:aF)(i:Int):Sx c x i=some true:=by
 obtain⟨y,b,I,L,O,T⟩:=aFE D x i;unfold Sx;rw[I,ak,L,ak];dsimp only;rw[lT,bK,au];cases b with
 | false=>
  rw[O rfl,gZ,aq,aE7 D,ak,aq];exact aFF
 | true=>
  obtain⟨U,C⟩:=T rfl;have h:=Pq.of D U;simp only[qm,aQ]at C;have E:=C.2.1;simp only[dj,aQ,gS]at E;rw[bK,au,Rr,ak,h.p.rk,C.1,E.1,cm,cm,aq,akY h.p.R h.p.Zb C.1,ak,bq (show ¬ vN c.config.ax c.config.aE c.ready x > 1000000 by omega),au,aZ E.2.2]
def rH(l:aa Int)(a b:Int)(c:av):ah Bool:=(qZ ⟨l,a,b⟩ 2).bind λy=>bif y.1 then (Ag c).bind λz=>Sx c z.1 z.2 else (Cp c.config.ax).bind λg=>(Co ⟨l,y.2.1.i,y.2.1.h⟩ g).bind λx=>(fO ⟨l,x.2.1.i,x.2.1.h⟩ [-1,-1,0,1,12,-2]).bind λi=>Sx c x.1 i.1
def uA{l:aa Int}{a b:Int}(C:fQ l ⟨l,a,b⟩){c:av}(D:dg c):rH l a b c=some true:=by
 unfold rH
 refine Dr.ls (Av C 2) λt i k C _=>uz ?_ ?_
 ·obtain⟨_,y,e⟩:=aEL D;rw[e,ak];exact amy D _ _
 ·obtain⟨g,e,E⟩:=aFD c.config.ax;rw[e,ak];exact Dr.ls (aFC C E) λx i k C _=>Dr.ls (iL C _ (by decide)) λy i k C _=>amy D _ _
def anyI(l:aa Int)(D:av×(aX×af)):ah Bool:=(cX ⟨l,D.2.1.i,D.2.1.h⟩ 30).bind λC=>
 bif C.1==0 then (fO ⟨l,C.2.1.i,C.2.1.h⟩ [-1,1000000,1000001]).bind λy=>rH l y.2.1.i y.2.1.h { D.1 with now:=y.1 } else
 bif C.1==1 then (JO ⟨l,C.2.1.i,C.2.1.h⟩).bind λy=>(Eg y.1).bind λr=>rH l y.2.1.i y.2.1.h { D.1 with bk:=r } else
 bif C.1==2 then (cX ⟨l,C.2.1.i,C.2.1.h⟩ 4).bind λE=>(cX ⟨l,E.2.1.i,E.2.1.h⟩ 5).bind λI=>(cX ⟨l,I.2.1.i,I.2.1.h⟩ 2).bind λy=>bif bF (D.1.pending.length+([(⟨E.1,I.1,y.1⟩:aJ)]:aa aJ).length)then rH l y.2.1.i y.2.1.h { D.1 with pending:=D.1.pending++[⟨E.1,I.1,y.1⟩] } else none else
 bif C.1==3 then (fO ⟨l,C.2.1.i,C.2.1.h⟩ [2,3,1000,1001]).bind λy=>if L:0<=(0:Int)/\(0:Int).toNat<D.1.guard.length then if O:(0:Int).toNat<D.1.guard.length then rH l y.2.1.i y.2.1.h { D.1 with guard:=D.1.guard.set (0:Int).toNat y.1 } else none else none else
 bif C.1==4 then (cX ⟨l,C.2.1.i,C.2.1.h⟩ 3).bind λy=>rH l y.2.1.i y.2.1.h { D.1 with aR:={ D.1.aR with state:=y.1 } } else
 bif C.1==5 then (fO ⟨l,C.2.1.i,C.2.1.h⟩ [4,5,6,-2,-3]).bind λy=>if L:0<=(0:Int)/\(0:Int).toNat<D.1.aL.aH.length then if O:(0:Int).toNat<D.1.aL.aH.length then rH l y.2.1.i y.2.1.h { D.1 with aL:={ D.1.aL with aH:=D.1.aL.aH.set (0:Int).toNat y.1 } } else none else none else
 bif C.1==6 then (fO ⟨l,C.2.1.i,C.2.1.h⟩ [-1,0,1000]).bind λy=>rH l y.2.1.i y.2.1.h { D.1 with bY:={ D.1.bY with next:=y.1 } } else
 bif C.1==7 then (JP ⟨l,C.2.1.i,C.2.1.h⟩ 4).bind λy=>bif bF (D.1.queue.length+([y.1]:aa aU).length)then rH l y.2.1.i y.2.1.h { D.1 with queue:=D.1.queue++[y.1] } else none else
 bif C.1==8 then (JQ ⟨l,C.2.1.i,C.2.1.h⟩).bind λy=>rH l y.2.1.i y.2.1.h { D.1 with config:=y.1 } else
 bif C.1==9 then if 0<=(1:Int)/\(1:Int)<=(D.1.shares.length:Int)/\(D.1.shares.length:Int)<=(D.1.shares.length:Int)then rH l C.2.1.i C.2.1.h { D.1 with shares:=(D.1.shares.take ((D.1.shares.length:Int).toNat)).drop ((1:Int).toNat) } else none else
 rH l C.2.1.i C.2.1.h D.1
def any_eq(l:aa Int):XA l=(Oc l).bind λC=>bif C then some true else (BY l).bind λD=>(JN ⟨l,0,D⟩).bind λE=>anyI l E:=by kernel_rfl
def aFG{b:aa Int}{c:aX}(C:fQ b c):Dr b (JN c) λy=>dg y/\dP y=true:=by
 unfold JN;obtain⟨x,k,T,D,E⟩:=akL C;obtain⟨p,k2,U,I,Y⟩:=akK D;obtain⟨bf,k3,Z,L,O,hw⟩:=aFa I E 12 (by decide);obtain⟨y,n,e4,y1,y2,y3,y4,y5⟩:=aFy E Y (N:=13) (by decide) (λa O=>hw a O) (by omega);rw[C.eq,T,ak];dsimp only;rw[D.eta,U,ak];dsimp only;rw[I.eta,show (12:Int)=((12:Nat):Int)from rfl,Z,ak];dsimp only;rw[e4,ak,L.eta];exact Dr.pure L ⟨y1,y2⟩
def aFH{l:aa Int}{i k:Int}(C:fQ l ⟨l,i,k⟩){c:av}(hz:dg c)(hk:dP c=true):anyI l (c,(⟨l,i,k⟩,()))=some true:=by
 have h:=Pq.of hz hk;have hp:=gE.of (Ck.of hk).pa;have hb:=FB (yb (Ck.of hk).rk).1;have pI:=h.ql;have kM:=h.pl;have L5:=h.dl;have Zx:=h.shl;obtain⟨D,z2,E,I,L,O,T,U,z9,fq,gD,Y,Z,fR⟩:=hz;have hz:dg c:=⟨D,z2,E,I,L,O,T,U,z9,fq,gD,Y,Z,fR⟩
 unfold anyI
 refine Dr.ls (cZ C 30) λt i k C _=>?_
 refine uz (Dr.ls (iL C _ (by decide)) λx i k C _=>uA C ⟨D,z2,E,I,L,O,T,U,z9,fq,gD,Y,Z,fR⟩) ?_
 refine uz (Dr.ls (aAr C) λg i k C _=>?_) ?_
 ·rw[akp,ak];exact uA C ⟨D,by unfold Ry LB;have:=eN g;simp;omega,E,I,L,O,T,U,z9,fq,gD,Y,Z,fR⟩
 refine uz (Dr.ls (cZ C 4) λx1 i k C _=>Dr.ls (cZ C 5) λx2 i k C _=>Dr.ls (cZ C 2) λx3 i k C _=>?_) ?_
 ·rw[cM (by show c.pending.length+1<_;omega),aq];exact uA C ⟨D,z2,E,I,L,O,T,U,by show (c.pending++[_]).length<=_;rw[ox,jO];omega,fq,gD,Y,Z,fR⟩
 refine uz (Dr.ls (iL C _ (by decide)) λx i k C _=>?_) ?_
 ·have h0:0<c.guard.length:=by have:=hp.gl;omega
  rw[aA ⟨Int.le_refl _,h0⟩,aA (by exact h0)];exact uA C ⟨D,z2,E,I,L,O,T,by show (c.guard.set _ _).length<=_;rw[iY];exact U,z9,fq,gD,Y,Z,fR⟩
 refine uz (Dr.ls (cZ C 3) λx i k C _=>uA C ⟨D,z2,E,I,L,O,T,U,z9,fq,gD,Y,Z,fR⟩) ?_
 refine uz (Dr.ls (iL C _ (by decide)) λx i k C _=>?_) ?_
 ·have h0:0<c.aL.aH.length:=by omega
  rw[aA ⟨Int.le_refl _,h0⟩,aA (by exact h0)];exact uA C ⟨D,z2,E,I,L,by show (c.aL.aH.set _ _).length<=_;rw[iY];exact O,T,U,z9,fq,gD,Y,Z,fR⟩
 refine uz (Dr.ls (iL C _ (by decide)) λx i k C _=>uA C ⟨D,z2,E,I,L,O,T,U,z9,fq,gD,Y,Z,fR⟩) ?_
 refine uz (Dr.ls (aFz C) λx i k C _=>?_) ?_
 ·rw[cM (by show c.queue.length+1<_;omega),aq];exact uA C ⟨D,z2,E,I,L,O,T,U,z9,by show (c.queue++[_]).length<=_;rw[ox,jO];omega,gD,Y,Z,fR⟩
 refine uz (Dr.ls (aFB C) λx i k C _=>uA C ⟨D,z2,E,I,L,O,T,U,z9,fq,gD,Y,Z,fR⟩) ?_
 refine uz ?_ (uA C hz);rw[bN ⟨by decide,by show (1:Int)<=(c.shares.length:Int);omega,Int.le_refl _⟩];exact uA C ⟨D,z2,E,I,L,O,T,U,z9,fq,by show ((c.shares.take _).drop _).length<=_;simp;omega,Y,Z,fR⟩
def aFI(l:aa Int)(h:l.length<=maxLen):XA l=some true:=by
 rw[any_eq];unfold Oc;rw[ak];by_cases C:(l.length:Int) > 1048576
 ·rw[aZ C];rfl
 ·rw[bq C,au];obtain⟨E,I⟩:=aAp l (by omega);rw[I,ak];exact Dr.ls (aFG (aAq l E (by omega))) λy i k L D=>aFH L D.1 D.2
def aFJ(C:Value)(w:World)(D:RdL .u8 (λx:Int=>0<=x/\x<=255) w C):Calls Tryz.prog 5 #[C] w λe w'=>e = .returned (.bool true)/\Below w.heap.size w w':=by
 obtain⟨l,hl,_,E⟩:=D;exact aqV az5 (aqW (ai:=[(false,.sl .u8)]) (x:=(l,())) (by kernel_rfl) (aFI l hl)) (aqX E)
end Go.Proofs.YtglnbhiaknohlaaGreat
