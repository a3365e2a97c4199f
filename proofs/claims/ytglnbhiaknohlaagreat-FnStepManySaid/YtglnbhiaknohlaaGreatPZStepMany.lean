/-
  Plain laws. Nothing here is a claim.
-/
import Derived.Test.YtglnbhiaknohlaaGreatPYStepMany
namespace Go.Proofs.YtglnbhiaknohlaaGreat
set_option linter.defProp false
open Go.RowKit
set_option linter.unusedVariables false
set_option linter.unusedSimpArgs false
set_option maxRecDepth 100000
def m9(b:Int)(pd:aa aK)(n:Int):aa aK:=bif pd.any (gO ⟨b,n,0⟩)then pd else pd++[⟨b,n,0⟩]
def qH(c:av)(t:aa cr)(C:aa Int)(pd:aa aK):av:=⟨c.config,c.box,c.now,c.bq,c.ready,c.array,c.spare,c.aQ,t,C,pd,c.queue,c.shares,c.drain,c.bg,c.cM,c.errors,c.trace,c.cz⟩
def akm{T:Type}(p:T -> Bool)(l:aa T):decide (gu p l<0) = !l.any p/\decide (gu p l >= 0)=l.any p:=by
 unfold gu
 grind
def Sz(b:Int):∀ (ns:aa Int) (pd:aa aK),(ns.foldl (m9 b) pd).length <= pd.length+ns.length
 |[],pd=>eK _
 | n :: ns,pd=>by
  have:=Sz b ns (m9 b pd n);have C:(m9 b pd n).length <= pd.length+1:=by
   unfold m9
   grind
  grind
def akn{T U:Type}(f:U->T->U)(l:aa T)(u:U){k:Nat}(h:k<l.length):(l.take (k+1)).foldl f u=f ((l.take k).foldl f u) l[k]:=by
 rw[List.take_add_one,bX h,List.foldl_append];rfl
def aAE(c:av)(x:aH)(ns:aa Int)(C:ns.length <= 1000)(D:c.pending.length <= 1000):iter Ft aP (((),(),(),(ns.length:Int),(0:Int),()),(c,(x.kind,x.ax,x.row,x.bT,()),ns,()))=some (.inl ((),(qH c c.bO c.guard (ns.foldl (m9 x.ax) c.pending),()))):=by
 have e:=cy (step:=Ft) _ (λi=>(((),(),(),ns.length,i,()),(qH c c.bO c.guard ((ns.take i).foldl _ _),(x.kind,x.ax,x.row,x.bT,()),ns,()))) _ aP (λk h=>by
  have hl:=Sz x.ax (ns.take k) c.pending;rw[fP]at hl;rw[akn _ _ _ h];generalize (ns.take k).foldl (m9 x.ax) c.pending=pd at hl;unfold Ft m9 qH YB ay xG xL;dsimp only;rw[aS,ak,aA ⟨by omega,by omega⟩,aA];simp only[bB];rw[ajt _ _ (by omega),aq,aq,(akm _ _).2,bD,cQ (by simp;omega)];cases pd.any (gO ⟨x.ax,ns[k],0⟩)<;>rfl) (by
  unfold Ft qH ay xG xL;dsimp only;rw[bh,au]) (bI)
 rw[ jl]at e;exact e
def aAF(c:av)(x:aH)(ns:aa Int)(C:ns.length <= 1000)(D:c.pending.length <= 1000):iter tW aP (((),(),true,(),(0:Int),()),(c,(x.kind,x.ax,x.row,x.bT,()),ns,()))=some (.inl ((),(qH c c.bO c.guard (ns.foldl (m9 x.ax) c.pending),()))):=by
 have e:=cy (step:=tW) _ (λi=>(((),(),true,(),i,()),(qH c c.bO c.guard ((ns.take i).foldl _ _),(x.kind,x.ax,x.row,x.bT,()),ns,()))) _ aP (λk h=>by
  have hl:=Sz x.ax (ns.take k) c.pending;rw[fP]at hl;rw[akn _ _ _ h];generalize (ns.take k).foldl (m9 x.ax) c.pending=pd at hl;unfold tW m9 qH ay xG xL;dsimp only;rw[aS,ak,ak,aA ⟨by omega,by omega⟩,aA];simp only[bB];rw[ajs _ _ (by omega),aq,(akm _ _).1,bD,cQ (by simp;omega)];cases pd.any (gO ⟨x.ax,ns[k],0⟩)<;>rfl) (by
  unfold tW qH ay xG xL;dsimp only;rw[bh,au]) (bI)
 rw[ jl]at e;exact e
def aAG(c:av)(x:aH)(ns:aa Int):iter tW aP (((),(),false,(),(0:Int),()),(c,(x.kind,x.ax,x.row,x.bT,()),ns,()))=some (.inl ((),(c,()))):=by
 have e:=cy (step:=tW) 0 (λi=>(((),(),false,(),i,()),(c,(x.kind,x.ax,x.row,x.bT,()),ns,()))) _ aP (λk h=>by omega) (by
  unfold tW ay xG xL;cases decide ((0:Int)<ns.length)<;>rfl) (bI)
 simp_all
def zT:cr:=⟨[],[],0⟩
def sV(c:av)(x:aH):cr×Bool:=ur (c.bO.getD x.ax.toNat zT) x.row (c.guard.getD x.ax.toNat 0)
def oM(c:av)(x:aH):aa aK:=c.pending.filter (λa=>!gO ⟨x.ax,x.row,0⟩ a)
def uv(c:av)(x:aH):av:=
 qH (cV c (uh c.config.az c.config.dU c.array x.ax x.row)) (c.bO.set x.ax.toNat (sV c x).1) c.guard (bif (sV c x).2 then (mA c.config.az.rows x.row).foldl (m9 x.ax) (oM c x)else oM c x)
def mB{T:Type}{l:aa T}{i:Nat}(d:T)(h:i<l.length):l.getD i d=l[i]:=by
 rw[fk,bX h];rfl
def Z0(R r:Int):(mA R r).length <= 2:=by
 unfold mA
 grind
def Z1{T:Type}(p:T->Bool)(l:aa T):(l.filter p).length<=l.length:=List.length_filter_le p l
def aAH{B:Int}(c:av)(x:aH)(I:cC c.config.az=true)(Q:dY c.config.az B c.array)(Z:c.pending.length <= 200)(T:∀ t∈c.bO,jw t)(D:0 <= x.ax)(U:x.ax<aW c.config.az)(J:0 <= x.row)(L:x.row<c.config.az.rows)(C:x.ax.toNat<c.bO.length)(E:x.ax.toNat<c.guard.length):QZ c x=some ((),(uv c x,())):=by
 have⟨_,_,_,_,g5,g6,g7,g8⟩:=fo I;have O:=aj2 I c.config.dU c Q D U J L;have Y:=aAC c.pending ⟨x.ax,x.row,0⟩ (by omega);have hf:(oM c x).length <= c.pending.length:=List.length_filter_le _ _;have q6:=Z0 c.config.az.rows x.row;simp only[cV]at O;unfold QZ bu xL xM
 refine(bH (λo=>Option.bind o _) O).trans ?_
 rw[aq];dsimp only
 refine(bH (λo=>Option.bind o _) Y).trans ?_
 rw[aq];dsimp only;rw[aA ⟨D,C⟩,aA C,aA ⟨D,E⟩,aA E,aA C,aA C];rw[aAu _ (T _ (cU C)),aq,aA ⟨D,C⟩,aA C];unfold uv sV;rw[mB _ C,mB _ E];cases (ur (c.bO[x.ax.toNat]'C) x.row (c.guard[x.ax.toNat]'E)).2 with
 |false=>rfl
 | true=>
  rw[bF,au,ZB (by omega) (by omega) J L,aq]
  refine(bH (λo=>Option.bind o _) (aAE (qH (cV c (uh _ _ c.array x.ax x.row)) _ c.guard (oM c x)) x _ (by omega) (by unfold qH;dsimp only;omega))).trans ?_
  rfl
def vL(l:aa aK):Prop:=∀i (h:i<l.length),(l.take i).any (gO l[i])=false
def Mj{a b:aK}:gO a b=true ↔ a=b:=by
 have⟨C,D,E⟩:=a;have⟨I,J,L⟩:=b;simp[gO,aO,fI,and_true,aK.mk.injEq]
 grind
def vL.cut{l:aa aK}(h:vL l){a:aK}{k:Nat}(C:l.findIdx? (gO a)=some k):l.take k++l.drop (k+1)=l.filter (λx=>!gO a x):=by
 have⟨J,D,L⟩:=nj.1 C;rw[ZY C];congr 1;symm;rw[List.filter_eq_self];intro x E;obtain⟨i,hi,rfl⟩:=jA.1 E;rw[List.length_drop]at hi;rw[List.getElem_drop];cases I:gO a _ with
 |false=>rfl
 | true=>
  have O:=Mj.1 I;have Q:=Mj.1 D;have:=mC.1 (h (k+1+i) (by omega)) l[k] (jA.2 ⟨k,by rw[fP];omega,by rw[List.getElem_take]⟩);simp_all
def aAI{B:Int}(c:av)(x:aH)(I:cC c.config.az=true)(Z:dY c.config.az B c.array)(hp:c.pending.length <= 200)(hu:vL c.pending)(J:∀ t∈c.bO,jw t)(D:0 <= x.ax)(h2:x.ax<aW c.config.az)(L:0 <= x.row)(O:x.row<c.config.az.rows)(C:x.ax.toNat<c.bO.length)(E:x.ax.toNat<c.guard.length):Pu c x=some ((),(uv c x,())):=by
 have⟨_,_,_,_,g5,g6,g7,g8⟩:=fo I;have Q:=aj6 I c.config.dU c Z D h2 L O;have e2:=ajs c.pending ⟨x.ax,x.row,0⟩ (by omega);have hf:(oM c x).length <= c.pending.length:=List.length_filter_le _ _;have q6:=Z0 c.config.az.rows x.row;have T:XQ c.config.az.rows x.row=some (mA c.config.az.rows x.row):=ZB (by omega) (by omega) L O;simp only[cV]at Q;unfold Pu xA bu xL xM xZ
 refine(bH (λo=>Option.bind o _) Q).trans ?_
 rw[aq];dsimp only
 refine(bH (λo=>Option.bind o _) e2).trans ?_
 rw[aq];have U:∀ pd:aa aK,pd=oM c x -> ∀ t:cr×Bool,t=sV c x -> (iter tW aP (((),(),t.2,(),(0:Int),()),((⟨c.config,c.box,c.now,c.bq,c.ready,uh c.config.az c.config.dU c.array x.ax x.row,c.spare,c.aQ,(c.bO.set x.ax.toNat t.1),c.guard,pd,c.queue,c.shares,c.drain,c.bg,c.cM,c.errors,c.trace,c.cz⟩:av),(x.kind,x.ax,x.row,x.bT,()),mA c.config.az.rows x.row,()))).bind (Sum.elim (λJp=>some ((),(Jp.2.1,()))) (λz=>nomatch z))=some ((),(uv c x,())):=by
  rintro pd rfl ⟨t1,t2⟩ C;unfold uv;rw[<- C];cases t2 with
  | false=>
   refine(bH (λo=>Option.bind o _) (aAG _ x _)).trans ?_
   rfl
  | true=>
   refine(bH (λo=>Option.bind o _) (aAF _ x _ (by omega) (by dsimp only;omega))).trans ?_
   rfl
 have Y:sV c x=ur (c.bO[x.ax.toNat]'C) x.row (c.guard[x.ax.toNat]'E):=by
  unfold sV;simp[*]
 unfold gu;cases hi:c.pending.findIdx? (gO ⟨x.ax,x.row,0⟩)with
 | none=>
  have e:oM c x=c.pending:=by
   unfold oM;rw[List.filter_eq_self];simp_all
  dsimp only;rw[bh,au,aA ⟨D,C⟩,aA C,aA ⟨D,E⟩,aA E,aA C,aA C];rw[akk _ (J _ (cU C)),aq,aA ⟨D,C⟩,aA C,T,aq];exact U _ e.symm _ Y.symm
 | some k=>
  have⟨k1,Eo,hq⟩:=nj.1 hi;have e:=hu.cut hi;dsimp only;rw[aS,ak,bD,bA ⟨by omega,by omega,by omega⟩,bA ⟨by omega,by omega,by omega⟩];simp only[bB,Int.toNat_zero,List.drop_zero,kj,jl];rw[cQ (by simp;omega),ak,cQ (by simp;omega),ak,aA ⟨D,C⟩,aA C,aA ⟨D,E⟩,aA E,aA C,aA C];rw[akk _ (J _ (cU C)),aq,aA ⟨D,C⟩,aA C,T,aq];exact U _ e _ Y.symm
def xV{U:Type}(f:U->Nat->U)(u:U)(k:Nat):(List.range (k+1)).foldl f u=f ((List.range k).foldl f u) k:=by
 rw[List.range_succ,List.foldl_append];rfl
def qI(g:aM)(l:kR)(a:dm)(b:Int)(n:Nat):dm:=(List.range n).foldl (λa (r:Nat)=>uh g l a b (r:Int)) a
def F2{g:aM}(C:cC g=true)(l:kR){B:Int}(hB:0<=B){a:dm}(D:dY g B a){b:Int}(E:0<=b)(I:b<aW g):∀ n:Nat,(n:Int)<=g.rows->dY g B (qI g l a b n)
 |0,_=>D
 | n+1,h=>by
  unfold qI;rw[xV];exact ZI C l hB (F2 C l hB D E I n (by omega)) E I (by omega) (by omega)
def ako{B:Int}(hB:0 <= B)(c:av)(C:cC c.config.az=true)(J:dY c.config.az B c.array){b:Int}(D:0 <= b)(E:b<aW c.config.az):Q0 c b=some ((),(cV c (qI c.config.az c.config.dU c.array b c.config.az.rows.toNat),())):=by
 have⟨_,_,_,_,L,O,Q,T⟩:=fo C;have e:=cy (step:=KZ) c.config.az.rows.toNat (λi=>(((),b,i,()),(cV c (qI _ _ _ b i),()))) _ aP (λk h=>by
  have I:=aj2 C c.config.dU (cV c (qI c.config.az c.config.dU c.array b k)) (F2 C c.config.dU hB J D E k (by omega)) D E (show 0 <= (k:Int) by omega) (by omega);simp only[cV]at I;unfold KZ cV ay xG;dsimp only;rw[aS,ak,I,aq,bD];dsimp only;unfold qI;rw[xV]) (by
  unfold KZ cV ay xG;dsimp only;rw[bh,au]) (bI)
 refine(bH (λo=>Option.bind o _) e).trans ?_
 rfl
def aAJ{B:Int}(hB:0 <= B)(c:av)(C:cC c.config.az=true)(J:dY c.config.az B c.array){b:Int}(D:0 <= b)(E:b<aW c.config.az):XW c.config.az c.config.dU c b=some ((),(cV c (qI c.config.az c.config.dU c.array b c.config.az.rows.toNat),())):=by
 have⟨_,_,_,_,L,O,Q,T⟩:=fo C;have e:=cy (step:=Jr) c.config.az.rows.toNat (λi=>(((),b,(),(),i,()),(cV c _,(c.config.az.cu,c.config.az.aC,c.config.az.rows,c.config.az.aN,()),(c.config.dU.bz,c.config.dU.br,()),()))) _ aP (λk h=>by
  have I:=aj6 C c.config.dU (cV c (qI c.config.az c.config.dU c.array b k)) (F2 C c.config.dU hB J D E k (by omega)) D E (show 0 <= (k:Int) by omega) (by omega);simp only[cV]at I;unfold Jr cV ay xG;dsimp only;rw[aS,ak,I,aq,bD];dsimp only;unfold qI;rw[xV]) (by
  unfold Jr cV ay xG;dsimp only;rw[bh,au]) (bI)
 refine(bH (λo=>Option.bind o _) e).trans ?_
 rfl
def Mk(c:av)(b:Int)(pd:aa aK):av:=
 qH (cV c (qI c.config.az c.config.dU c.array b c.config.az.rows.toNat)) (c.bO.set b.toNat (xT c.config.gU)) (c.guard.set b.toNat c.box.bV.eZ) pd
def akp(c:av)(I:aL c.config.gU 1 16=true){b:Int}(C:0<=b)(D:b.toNat<c.bO.length)(E:b.toNat<c.guard.length):K0 c b=some ((),(qH c (c.bO.set b.toNat (xT c.config.gU)) (c.guard.set b.toNat c.box.bV.eZ) c.pending,())):=by
 unfold K0 xL;rw[aAv I,aq,aA ⟨C,D⟩,aA D,aA ⟨C,E⟩,aA E];rfl
def aAK(c:av)(b:Int)(D:c.pending.length <= 1000):iter EH aP (((),b,(),(0:Int),()),(c,([]:aa aK),()))=some (.inl (((),(),()),(c,c.pending.filter (λa=>!(a.ax==b)),()))):=by
 have e:=cy (step:=EH) c.pending.length (λi=>(((),b,(),(i:Int),()),(c,(c.pending.take i).filter (λa=>!(a.ax==b)),()))) (.inl (((),(),()),(c,(c.pending.take c.pending.length).filter (λa=>!(a.ax==b)),()))) aP (λk h=>by
  have hl:=Z1 (λa:aK=>!(a.ax==b)) (c.pending.take k);rw[fP]at hl;have C:c.pending.take (k+1)=c.pending.take k++[c.pending[k]]:=by rw[List.take_add_one,bX h];rfl
  rw[C,List.filter_append];generalize (c.pending.take k).filter (λa=>!(a.ax==b))=ls at hl;unfold EH ay xG xL;dsimp only;rw[aS,ak,aA ⟨by omega,by omega⟩,aA];simp only[bB];rw[bD,bne];cases hb:c.pending[k].ax==b with
  |true=>rw[List.filter_cons_of_neg (by simp[hb])];simp
  | false=>
   rw[iq,aA ⟨by omega,by omega⟩,aA,cQ (by simp;omega),List.filter_cons_of_pos (by simp[hb])];rfl) (by
  unfold EH ay xG xL;dsimp only;rw[bh,au]) (bI)
 rw[cq,jl]at e;exact e
def akq{B:Int}(hB:0 <= B)(c:av)(J:cC c.config.az=true)(L:dY c.config.az B c.array)(O:aL c.config.gU 1 16=true)(T:c.pending.length <= 200){b:Int}(C:0 <= b)(Q:b<aW c.config.az)(D:b.toNat<c.bO.length)(E:b.toNat<c.guard.length):Js c b=some ((),(Mk c b (c.pending.filter (λa=>!(a.ax==b))),())):=by
 have I:=aAJ hB c J L C Q;simp only[cV]at I;unfold Js bu xL
 refine(bH (λo=>Option.bind o _) I).trans ?_
 rw[aq];rw[aAw O,aq,aA ⟨C,D⟩,aA D,aA ⟨C,E⟩,aA E]
 refine(bH (λo=>Option.bind o _) (aAK _ b (by dsimp only;omega))).trans ?_
 rfl
def gv(c:av)(k:Nat)(pd:aa aK):av:=
 ⟨c.config,c.box,c.now,c.bq,c.ready,(List.range k).foldl (λa (b:Nat)=>qI c.config.az c.config.dU a (b:Int) c.config.az.rows.toNat) c.array,c.spare,⟨(List.range k).foldl (λd b=>d.set b 0) c.aQ.aJ,c.aQ.wait,c.aQ.dD⟩,(List.range k).foldl (λd b=>d.set b (xT c.config.gU)) c.bO,(List.range k).foldl (λd b=>d.set b c.box.bV.eZ) c.guard,pd,c.queue,c.shares,c.drain,c.bg,c.cM,c.errors,c.trace,c.cz⟩
def xW{T:Type}(x:T)(l:aa T):∀ k:Nat,((List.range k).foldl (λd b=>d.set b x) l).length=l.length
 |0=>rfl
 |k+1=>by rw[xV,jk,xW x l k]
def SA{g:aM}(C:cC g=true)(l:kR){B:Int}(hB:0 <= B){a:dm}(D:dY g B a):∀ k:Nat,(k:Int) <= aW g -> dY g B ((List.range k).foldl (λa (b:Nat)=>qI g l a (b:Int) g.rows.toNat) a)
 |0,_=>D
 | k+1,h=>by
  have⟨_,_,_,_,E,I,J,L⟩:=fo C;rw[xV];exact F2 C l hB (SA C l hB D k (by omega)) (by omega) (by omega) _ (by omega)
structure uw (B:Int) (c:av):Prop where
 hB:0<=B
 g:cC c.config.az=true
 a:dY c.config.az B c.array
 k:aL c.config.gU 1 16=true
 p:c.pending.length<=200
 t:(c.bO.length:Int)=aW c.config.az
 d:(c.guard.length:Int)=aW c.config.az
 r:(c.aQ.aJ.length:Int)=aW c.config.az
def uw.SB{B:Int}{c:av}(h:uw B c)(k:Nat)(C:(k:Int)<=aW c.config.az)(pd:aa aK)(D:pd.length<=200):uw B (gv c k pd):=
 ⟨h.hB,h.g,SA h.g c.config.dU h.hB h.a k C,h.k,D,(bH (λn:Nat=>(n:Int)) (xW _ _ k)).trans h.t,(bH (λn:Nat=>(n:Int)) (xW _ _ k)).trans h.d,(bH (λn:Nat=>(n:Int)) (xW _ _ k)).trans h.r⟩
def akr(c:av)(k:Nat)(pd C:aa aK):gv c (k+1) C=⟨c.config,c.box,c.now,c.bq,c.ready,(Mk (gv c k pd) (k:Int) C).array,c.spare,⟨(gv c k pd).aQ.aJ.set k 0,c.aQ.wait,c.aQ.dD⟩,(Mk (gv c k pd) (k:Int) C).bO,(Mk (gv c k pd) (k:Int) C).guard,C,c.queue,c.shares,c.drain,c.bg,c.cM,c.errors,c.trace,c.cz⟩:=by
 unfold gv;simp only[xV];rfl
def aAL{B:Int}{c:av}(h:uw B c):iter xx aP (((),(c.bO.length:Int),(0:Int),()),(gv c 0 [],()))=some (.inl ((),(gv c c.bO.length [],()))):=by
 have O:=fh c.config.az;have Q:=h.t;have e:=cy (step:=xx) c.bO.length (λi=>(((),c.bO.length,i,()),(gv c i [],()))) _ aP (λk T=>by
  have C:=h.SB k (by omega) [] (by simp);have w1:=C.t;have E:=C.d;have I:=C.r;have D:aW (gv c k []).config.az=aW c.config.az:=rfl;rw[D]at w1 E I;have J:=ako C.hB _ C.g C.a (b:=(k:Int)) (by omega) (by rw[D];omega);have L:=akp (cV (gv c k []) (qI (gv c k []).config.az (gv c k []).config.dU (gv c k []).array (k:Int) (gv c k []).config.az.rows.toNat)) C.k (b:=(k:Int)) (by omega) (by show (k:Int).toNat<(gv c k []).bO.length;omega) (by show (k:Int).toNat<(gv c k []).guard.length;omega);rw[akr c k [] []];unfold xx ay xG xL;dsimp only;rw[aS,ak,J,aq,L,aq,bD];have U:k<(gv c k []).aQ.aJ.length:=by omega
  rw[aA ⟨by omega,by show (k:Int).toNat<(gv c k []).aQ.aJ.length;omega⟩,aA (by show (k:Int).toNat<(gv c k []).aQ.aJ.length;omega)];rfl) (by
  unfold xx ay xG xL;dsimp only;rw[bh,au]) (bI)
 simp_all
def qJ(pd:aa aK):Nat->aa aK
 |0=>pd
 |k+1=>(qJ pd k).filter (λa=>!(a.ax==(k:Int)))
def aks(pd:aa aK):∀ k,(qJ pd k).length<=pd.length
 |0=>eK _
 |k+1=>Nat.le_trans (Z1 _ _) (aks pd k)
def akt(pd:aa aK){a:aK}:∀ k,a∈qJ pd k -> a∈pd /\ ∀ b:Nat,b<k -> a.ax≠(b:Int)
 |0,h=>⟨h,λb hb=>by omega⟩
 | k+1,h=>by
  have⟨C,D⟩:=List.mem_filter.1 h;have⟨E,I⟩:=akt pd k C
  grind
def aAM{pd:aa aK}{k:Nat}(h:∀ a∈pd,0 <= a.ax/\a.ax<(k:Int)):qJ pd k=[]:=by
 rw[List.eq_nil_iff_forall_not_mem];intro a C;have⟨D,E⟩:=akt pd k C;have:=h a D;exact E a.ax.toNat (by omega) (by omega)
def aAN{B:Int}{c:av}(h:uw B c)(U:c.bq.aC.length=c.bO.length)(E:∀ a∈c.pending,0<=a.ax/\a.ax<aW c.config.az):iter Cg aP (((),(0:Int),()),(c,()))=some (.inl ((),(gv c c.bO.length [],()))):=by
 have Y:=fh c.config.az;have Z:=h.t;have e:=cy (step:=Cg) c.bO.length (λi=>(((),(i:Int),()),(gv c i (qJ c.pending i),()))) (.inl ((),(gv c c.bO.length (qJ c.pending c.bO.length),()))) aP (λk hk=>by
  have C:=h.SB k (by omega) (qJ c.pending k) (Nat.le_trans (aks _ _) h.p);have w1:=C.t;have I:=C.d;have J:=C.r;have D:aW (gv c k (qJ c.pending k)).config.az=aW c.config.az:=rfl;rw[D]at w1 I J;have L:=akq C.hB _ C.g C.a C.k C.p (b:=(k:Int)) (by omega) (by rw[D];omega) (by omega) (by omega);rw[akr c k (qJ c.pending k) (qJ c.pending (k+1))];unfold Cg ay xG xL;dsimp only;rw[aS (by show (k:Int)<((c.bq.aC.length:Nat):Int);omega),ak,L,aq,bD];rw[aA ⟨by omega,by show (k:Int).toNat<(gv c k (qJ c.pending k)).aQ.aJ.length;omega⟩,aA (by show (k:Int).toNat<(gv c k (qJ c.pending k)).aQ.aJ.length;omega)];rfl) (by
  unfold Cg ay xG xL;dsimp only;rw[bh (by show ¬ ((c.bO.length:Nat):Int)<((c.bq.aC.length:Nat):Int);omega),au]) (bI)
 have O:qJ c.pending c.bO.length=[]:=aAM (λa Q=>by have:=E a Q;omega);have T:gv c 0 (qJ c.pending 0)=c:=rfl;rw[cq,O,T]at e;exact e
def wv(l:aa Int):Nat->Int
 |0=>0
 |i+1=>bits .or .i64 (wv l i) (W6 (l.getD i 0*2 ^ (min (4*(i:Int)).toNat IntKind.i64.bits)))
def aku{l:aa Int}(h:l.length=8)(C:∀ s∈l,0 <= s/\s <= 15):sN l 8=true:=by
 simp[sN,aO,cI,vu,bx];simp_all
def aAO{l:aa Int}(h:l.length=8)(D:∀ s∈l,0<=s/\s<=15):Q5 l=some (wv l 8,true):=by
 unfold Q5 bu;rw[ai2 _ _ (by omega),aku h D,aq];have e:=cy (step:=K4) 8 (λi=>((wv l i,l,(l.length:Int),(i:Int),()),())) (.inl ((wv l 8,()),())) aP (λi hi=>by
  have C:i<l.length:=by omega
  have E:W6 (4*(i:Int))=4*(i:Int):=aR;have I:¬ 4*(i:Int)<0:=by omega
  have J:l.getD i 0=l[i]:=by rw[fk,bX C];rfl
  have L:wv l (i+1)=bits .or .i64 (wv l i) (W6 (l.getD i 0*2 ^ (min (4*(i:Int)).toNat IntKind.i64.bits))):=rfl;unfold K4 ay xG xI;rw[L,J];simp (disch:=omega) [C,E,I,bD]) (by unfold K4 ay xG xI;simp[h]) (bI)
 rw[cq]at e;simp only[bF,au];have O:wv l 0=0:=rfl;rw[O]at e;rw[e];rfl
def aAP{l:aa Int}(h:l.length=8)(D:∀ s∈l,0<=s/\s<=15):PF l=some (wv l 8,true):=by
 unfold PF bu;rw[RO _ _ (by omega),aku h D,aq];have e:=cy (step:=JA) 8 (λi=>((l,wv l i,(i:Int),()),())) (.inl ((wv l 8,()),())) aP (λi hi=>by
  have C:i<l.length:=by omega
  have E:W6 (4*(i:Int))=4*(i:Int):=aR;have I:IntKind.u64.wrap (4*(i:Int))=4*(i:Int):=ajN (by omega) (by omega);have J:¬ 4*(i:Int)<0:=by omega
  have L:l.getD i 0=l[i]:=by rw[fk,bX C];rfl
  have O:wv l (i+1)=bits .or .i64 (wv l i) (W6 (l.getD i 0*2 ^ (min (4*(i:Int)).toNat IntKind.i64.bits))):=rfl;unfold JA ay xG xI;rw[O,L];simp (disch:=omega) [C,E,I,J,bD]) (by unfold JA ay xG xI;simp[h]) (bI)
 rw[cq]at e;simp only[bF,au];have Q:wv l 0=0:=rfl;rw[Q]at e;rw[e];rfl
def aAQ{w:aa Nat}(D:dL w)(hl:w.length=11):PG (bk w)=some (bk (w.drop 3)):=by
 have E:=(LO D hl).ok;have hlen:(bk w).length=11:=by rw[gM,hl]
 have C:(bk w).drop 3=bk (w.drop 3):=by simp
 unfold PG xA xZ;rw[RO _ _ (by rw[gM];omega),E];generalize bk w=W at hlen C ⊢;rw[<- C];have I:W.take 11=W:=by rw[<- hlen,jl]
 simp[hlen,bC,I]
def akv{w:aa Nat}(D:dL w)(hl:w.length=11):(bk (w.drop 3)).length=8 /\ ∀ s∈bk (w.drop 3),0 <= s/\s <= 15:=by
 refine⟨by rw[gM];simp[hl],λs C=>?_⟩
 simp only[ List.mem_map]at C;obtain⟨x,E,rfl⟩:=C;have:=D x (List.mem_of_mem_drop E);omega
def AH(w:aa Nat):Int:=bif (fS w).2.1==2 then 0 else wv (bk ((fS w).1.drop 3)) 8
def aAR{w:aa Nat}(C:dL w)(hl:w.length=11):Q7 (bk w)=some (AH w,(fS w).2.1,(fS w).2.2):=by
 have⟨D,E,_⟩:=CX C hl;have⟨d1,d2⟩:=akv E D;unfold Q7 AH;rw[ajQ C hl,aq];cases h:(fS w).2.1==2 with
 |true=>simp
 | false=>
  rw[ azy E D,aq,aAO d1 d2];rfl
def aAS{w:aa Nat}(C:dL w)(hl:w.length=11):PI (bk w)=some (AH w,(fS w).2.1,(fS w).2.2):=by
 have⟨D,E,_⟩:=CX C hl;have⟨d1,d2⟩:=akv E D;unfold PI AH;rw[azr C hl,aq];cases h:(fS w).2.1==2 with
 |true=>simp
 | false=>
  rw[ aAQ E D,aq,aAP d1 d2];rfl
def nw(c:bY):aa Nat:=c.symbols.map Int.toNat
def SC{c:bY}(h:Sy c.symbols):bk (nw c)=c.symbols/\dL (nw c)/\(nw c).length=11:=by
 have⟨C,D⟩:=Y8 _ h.2;exact⟨C,D,by simp[nw,h.1]⟩
def jY(c:bY):Int:=bif c.ir then 2 else (fS (nw c)).2.1
def nZ(c:bY):bY:=bif c.ir then c else bif (fS (nw c)).2.1==1 then ⟨bk (fS (nw c)).1,c.ir⟩else bif (fS (nw c)).2.1==2 then ⟨c.symbols,true⟩else c
def aAT{l:aa bY}{j:Nat}(h:j<l.length):l.set j l[j]=l:=List.set_getElem_self h
def SD{c:bY}(h:Sy c.symbols):Sy (nZ c).symbols:=by
 have⟨J,C,D⟩:=SC h;have⟨E,I,_⟩:=CX C D;unfold nZ;cases c.ir with
 |true=>exact h
 | false=>
  cases (fS _).2.1==1 with
  |true=>exact LO I E
  |false=>grind
def aAU(a:dm)(I:a.cells.length<1073741823)(C:a.bz.length<1073741823)(D:a.br.length<1073741823)(E:∀ c∈a.cells,c.symbols.length<1073741823):Rx a a=some true:=by
 have e:=cy (step:=Lw) a.cells.length (λi=>(((),(),(i:Int),()),((a.cells,a.bz,a.br,()),(a.cells,a.bz,a.br,()),()))) (.inr (.inl ((),()))) aP (λi hi=>by
  unfold Lw ay aV xG xI;simp (disch:=omega) [hi,azf _ (E _ (cU hi)),bD]) (by unfold Lw ay aV xG xI;simp) (bI)
 rw[cq]at e;unfold Rx bQ;simp[tZ a.bz C,tZ a.br D,e]
def F3(x:Int)(k:Nat):Int:=bits .and .i64 (x.fdiv (2 ^ (min (4*(k:Int)).toNat IntKind.i64.bits))) 15
def jZ(x:Int):Nat->aa Int
 |0=>[]
 |k+1=>jZ x k++[F3 x k]
def Ml(x:Int):∀ k,(jZ x k).length=k
 |0=>rfl
 |k+1=>by simp[jZ,Ml x k]
def Z2(x:Int):∀ k,∀ s∈jZ x k,0<=s/\s<=15
 |0,s,h=>by cases h
 | k+1,s,h=>by
  rcases List.mem_append.1 h with h|h
  ·exact Z2 x k s h
  ·rw[oT.1 h];exact azj _
def aAV{x:Int}(Q:0<=x)(T:x<=4294967295):PC x=some (jZ x 8):=by
 have C:aL x 0 4294967295=true:=by rw[bx];omega
 unfold PC bu;have e:=cy (step:=Jy) 8 (λk=>((x,(),(k:Int),()),(jZ x k,()))) (.inl (((),()),(jZ x 8,()))) aP (λk U=>by
  have D:(k:Int)<8:=by omega
  have E:bC ((jZ x k).length+1)=true:=cQ (by rw[Ml];omega);have I:W6 (4*(k:Int))=4*(k:Int):=aR;have J:IntKind.u64.wrap (4*(k:Int))=4*(k:Int):=ajN (by omega) (by omega);have L:¬ 4*(k:Int)<0:=by omega
  unfold Jy I0 ay xG;simp (disch:=omega) [D,eE,C,I,J,L,E,bD,jZ,F3]) (by
  unfold Jy ay xG;simp) (bI)
 rw[cq]at e;have O:jZ x 0=[]:=rfl;rw[O]at e;rw[e];rfl
def aAW{x:Int}(O:0<=x)(Q:x<=4294967295):Rb x=some (jZ x 8):=by
 have C:aL x 0 4294967295=true:=by rw[bx];omega
 unfold Rb Cw bu;rw[dF,aq,aq,C,bF,au];have e:=cy (step:=K9) 8 (λk=>((x,(),(k:Int),()),(jZ x k,()))) (.inl (((),()),(jZ x 8,()))) aP (λk T=>by
  have D:(k:Int)<8:=by omega
  have E:bC ((jZ x k).length+1)=true:=cQ (by rw[Ml];omega);have I:W6 (4*(k:Int))=4*(k:Int):=aR;have J:¬ 4*(k:Int)<0:=by omega
  unfold K9 ay xG;simp (disch:=omega) [D,I,J,E,bD,jZ,F3]) (by
  unfold K9 ay xG;simp) (bI)
 rw[cq]at e;have L:jZ x 0=[]:=rfl;rw[L]at e;rw[e];rfl
def akw:(jf λx=>jf λy=>jf λz=>(λC D E=>Nat.beq (gm (gm 2 (C ^^^ D) ^^^ gm 5 (C ^^^ E)) 13) y&&(Nat.beq (gm (gm 3 (C ^^^ E) ^^^ gm 5 (C ^^^ D)) 13) z&&Nat.beq (C ^^^ (y ^^^ z)) x)) (gm x (pw 0) ^^^ (gm y (pw 0) ^^^ gm z (pw 0))) (gm x (pw 0) ^^^ (gm y (pw 1) ^^^ gm z (pw 2))) (gm x (pw 0) ^^^ (gm y (pw 2) ^^^ gm z (pw 4))))=true:=by kernel_rfl
def aAX{x y z:Nat}{d:aa Nat}(j:Nat):bU (x :: y :: z :: d) j 11=(gm x (pw (0*j)) ^^^ (gm y (pw (1*j)) ^^^ gm z (pw (2*j)))) ^^^ bU (0 :: 0 :: 0 :: d) j 11:=by
 simp[bU,List.getD_cons_zero,List.getD_cons_succ,Nat.xor_assoc,Nat.zero_xor,RM (ua _)]
def F4{a b:Nat}(h:a ^^^ b=0):a=b:=by
 have C:(a ^^^ b) ^^^ b=0 ^^^ b:=by rw[h]
 grind
def akx{w v:aa Nat}(I:dL w)(J:dL v)(lw:w.length=11)(lv:v.length=11)(L:w.drop 3=v.drop 3)(Y:nX w=true)(Z:nX v=true):w=v:=by
 obtain⟨x,y,z,d,rfl⟩:∃ x y z d,w=x :: y :: z :: d:=by
  match w,lw with
  |x::y::z::d,_=>simp_all
 obtain⟨C,D,E,d',rfl⟩:∃ x y z d,v=x :: y :: z :: d:=by
  match v,lv with
  |x::y::z::d,_=>simp_all
 have L:d=d':=L;subst L;simp only[nX,aO]at Y Z;have⟨w0,w1,O⟩:=Y;have⟨Q,T,U⟩:=Z;rw[aAX]at w0 w1 O Q T U;have w0:gm x (pw 0) ^^^ (gm y (pw 0) ^^^ gm z (pw 0))=bU (0::0::0::d) 0 11:=F4 (cD w0);have w1:gm x (pw 0) ^^^ (gm y (pw 1) ^^^ gm z (pw 2))=bU (0::0::0::d) 1 11:=F4 (cD w1);have O:gm x (pw 0) ^^^ (gm y (pw 2) ^^^ gm z (pw 4))=bU (0::0::0::d) 2 11:=F4 (cD O);have Q:gm C (pw 0) ^^^ (gm D (pw 0) ^^^ gm E (pw 0))=bU (0::0::0::d) 0 11:=F4 (cD Q);have T:gm C (pw 0) ^^^ (gm D (pw 1) ^^^ gm E (pw 2))=bU (0::0::0::d) 1 11:=F4 (cD T);have U:gm C (pw 0) ^^^ (gm D (pw 2) ^^^ gm E (pw 4))=bU (0::0::0::d) 2 11:=F4 (cD U);have m:∀{l:aa Nat} {n:Nat},dL l -> n∈l -> n<16:=λh hn=>h _ hn
 have k1:=gq (gq (gq akw (m I (n:=x) (by simp))) (m I (n:=y) (by simp))) (m I (n:=z) (by simp));have k2:=gq (gq (gq akw (m J (n:=C) (by simp))) (m J (n:=D) (by simp))) (m J (n:=E) (by simp));simp_all
def aky(w r:aa Nat):∀ k,k<=3->(qE w r k).drop 3=w.drop 3
 |0,_=>rfl
 | k+1,h=>by
  show (List.set _ _ _).drop 3=_;rw[List.drop_set_of_lt (by omega),aky w r k (by omega)]
def Z3{a b:aa Nat}(h:bk a=bk b):a=b:=(List.map_inj_right (λx y h=>by
 omega)).1 h
def aAY{d:aa Nat}(D:dL d)(hl:d.length=8):∃ w,zZ (bk d)=some (bk w)/\w.length=11/\dL w/\w.drop 3=d/\nX w=true:=by
 have E:dL (0 :: 0 :: 0 :: d):=by
  intro x hx;simp only[gf]at hx;rcases hx with rfl|rfl|rfl|hx
  ·decide
  ·decide
  ·decide
  ·exact D x hx
 have C:(0::0::0::d).length=11:=by simp[hl]
 obtain⟨w,e,I,J,L,O,Q⟩:=aye D hl;refine⟨w,e,I,J,?_,by simp[nX,L,O,Q]⟩;have T:zZ (bk d)=some (bk (qE (0 :: 0 :: 0 :: d) (out (0 :: 0 :: 0 :: d) 8) 3)):=by
  unfold zZ xA bu xZ;have c0:((d.length:Int)==(8:Int))=true:=by rw[hl];rfl
  have U:bC ((List.replicate (3:Int).toNat (0:Int)).length+(bk d).length)=true:=by
   rw[gM,hl];rfl
  have Y:bC (([]:aa Int).length+(bk (0 :: 0 :: 0 :: d)).length)=true:=by
   rw[gM,C];rfl
  have Z:W6 (((bk (0 :: 0 :: 0 :: d)).length:Int)-(1:Int))=10:=by
   rw[gM,C];rfl
  have eW:List.replicate (3:Int).toNat (0:Int)++bk d=bk (0::0::0::d):=rfl;rw[aiU D (by omega),aq,c0,show (!true)=false from rfl,au,bA (by decide),U,ak,eW,aiT,aq,ef];dsimp only;rw[kj,Y,ak,Z,aiV E C,aq,ef];dsimp only;rw[ai1 C (by rw[CM,C]),aq,ef]
 rw[T]at e;injection e with e;rw[<-Z3 e,aky _ _ 3 (eK _)];rfl
def C3(x:Int):aa Int:=(Fx x).getD []
def Mm{x:Int}(E:0 <= x)(I:x <= 4294967295):Fx x=some (C3 x)/\Sy (C3 x) /\ ∃ w,C3 x=bk w/\w.length=11/\dL w/\bk (w.drop 3)=jZ x 8/\nX w=true:=by
 have J:aL x 0 4294967295=true:=by rw[bx];omega
 have⟨t1,t2⟩:=Y8 _ (Z2 x 8);have tl:((jZ x 8).map Int.toNat).length=8:=by rw[dB,Ml]
 have⟨w,C,l1,d1,L,O,Q,T⟩:=ax4 t2 tl;have U:nX w=true:=by simp[nX,O,Q,T]
 rw[t1]at C;have D:Fx x=some (bk w):=by
  unfold Fx Cw;rw[dF,aq,aq,J,bF,au,aAW E I,aq,C,aq]
 have Y:C3 x=bk w:=by unfold C3;rw[D];rfl
 rw[Y];exact⟨D,LO d1 l1,w,rfl,l1,d1,by rw[L,t1],U⟩
def akz{x:Int}(C:0 <= x)(D:x <= 4294967295):EM x=some (C3 x):=by
 have⟨t1,t2⟩:=Y8 _ (Z2 x 8);have tl:((jZ x 8).map Int.toNat).length=8:=by rw[dB,Ml]
 have⟨_,_,w,I,l1,d1,J,L⟩:=Mm C D;have⟨v,E,l2,d2,O,Q⟩:=aAY t2 tl;have T:=akx d1 d2 l1 l2 (by rw[O];exact Z3 (by rw[J,t1])) L Q;subst T;rw[t1]at E;unfold EM;rw[aAV C D,aq,E,aq,I]
def aAZ{a b:Nat}(E:a<9223372036854775808)(hb:b<9223372036854775808):bits .or .i64 (a:Int) (b:Int)=((a ||| b:Nat):Int):=by
 have e:bits .or .i64 (a:Int) (b:Int)=W6 ((BitVec.ofInt 64 (a:Int) |||BitVec.ofInt 64 (b:Int)).toNat:Int):=rfl;have h:a |||b<2 ^ 63:=Nat.or_lt_two_pow (by omega) (by omega);have C:BitVec.ofInt 64 (a:Int)=BitVec.ofNat 64 a:=BitVec.ofInt_natCast 64 a;have D:BitVec.ofInt 64 (b:Int)=BitVec.ofNat 64 b:=BitVec.ofInt_natCast 64 b;rw[e,C,D,BitVec.toNat_or,BitVec.toNat_ofNat,BitVec.toNat_ofNat,Nat.mod_eq_of_lt (by omega),Nat.mod_eq_of_lt (by omega),aR]
def aA0(a:Nat)(I:a<9223372036854775808):bits .and .i64 (a:Int) 15=((a % 16:Nat):Int):=by
 have e:bits .and .i64 (a:Int) 15=W6 ((BitVec.ofInt 64 (a:Int) &&& BitVec.ofInt 64 15).toNat:Int):=rfl;have C:BitVec.ofInt 64 (a:Int)=BitVec.ofNat 64 a:=BitVec.ofInt_natCast 64 a;have D:(BitVec.ofInt 64 15).toNat=15:=rfl;have E:a &&& 15=a % 16:=Nat.and_two_pow_sub_one_eq_mod a 4;rw[e,C,BitVec.toNat_and,BitVec.toNat_ofNat,Nat.mod_eq_of_lt (by omega),D,E,aR]
def nv(d:aa Nat):Nat->Nat
 |0=>0
 |k+1=>nv d k+d.getD k 0*16 ^ k
def Mn{d:aa Nat}(C:dL d):∀ k,nv d k<16 ^ k
 |0=>Nat.one_pos
 | k+1=>by
  have D:=Mn C k;have E:=C.get k;have I:d.getD k 0*16 ^ k <= 15*16 ^ k:=iN _ (by omega);show nv d k+d.getD k 0*16 ^ k<16 ^ (k+1)
  grind
def akA(k:Nat)(C:k<8):(min (4*(k:Int)).toNat IntKind.i64.bits)=4*k:=by
 have:IntKind.i64.bits=64:=rfl;rw[this];omega
def Z4{d:aa Nat}(C:dL d)(hl:d.length=8):∀ k,k<=8->wv (bk d) k=(nv d k:Int)
 |0,_=>rfl
 | k+1,h=>by
  have E:=Mn C k;have L:=C.get k;have O:(16:Nat) ^ k<=16 ^ 7:=Nat.pow_le_pow_right (by decide) (by omega);have D:(2:Nat) ^ (4*k)=16 ^ k:=by rw[Nat.pow_mul]
  have Q:d.getD k 0*16 ^ k<=15*16 ^ k:=iN _ (by omega);have I:(bk d).getD k 0=((d.getD k 0:Nat):Int):=by
   rw[fk,bX (by rw[gM];omega)];exact uc (by rw[gM];omega)
  have J:((d.getD k 0:Nat):Int)*2 ^ (4*k)=((d.getD k 0*16 ^ k:Nat):Int):=by
   rw[<-D]
   push_cast
   rfl
  show bits .or .i64 (wv (bk d) k) (W6 ((bk d).getD k 0*2 ^ (min (4*(k:Int)).toNat IntKind.i64.bits)))=((nv d k+d.getD k 0*16 ^ k:Nat):Int)
  rw[Z4 C hl k (by omega),akA k (by omega),I,J,aR,aAZ (by omega) (by omega)];congr 1;have:=Nat.two_pow_add_eq_or_of_lt (i:=4*k) (b:=nv d k) (by rw[D];exact E) (d.getD k 0);rw[D,Nat.mul_comm]at this;rw[Nat.or_comm,<-this];omega
def akB{d:aa Nat}(C:dL d):∀ n k,k<n -> nv d n / 16 ^ k % 16=d.getD k 0
 |0,k,h=>by omega
 | n+1,k,h=>by
  have D:=Mn C n;have I:=C.get n;show (nv d n+d.getD n 0*16 ^ n) / 16 ^ k % 16=_;by_cases e:k=n
  ·subst e;rw[Nat.add_mul_div_right _ _ (Nat.pow_pos (by decide)),Nat.div_eq_of_lt D,fj];omega
  ·have J:n=(n-k-1)+1+k:=by omega
   have E:d.getD n 0*16 ^ n=(d.getD n 0*16 ^ (n-k-1)*16)*16 ^ k:=by
    grind
   rw[E,Nat.add_mul_div_right _ _ (Nat.pow_pos (by decide)),Nat.add_mul_mod_self_right,akB C n k (by omega)]
def aA1{d:aa Nat}(C:dL d)(hl:d.length=8):jZ (wv (bk d) 8) 8=bk d:=by
 have J:nv d 8<16 ^ 8:=Mn C 8;rw[Z4 C hl 8 (eK _)];have key:∀ k,k <= 8 -> jZ (nv d 8:Int) k=bk (d.take k):=by
  intro k
  induction k with
  |zero=>intro _;rfl
  | succ k D=>
   intro L;have O:(2:Nat) ^ (4*k)=16 ^ k:=by rw[Nat.pow_mul]
   have E:(nv d 8:Int).fdiv (2 ^ (4*k))=((nv d 8 / 16 ^ k:Nat):Int):=by
    grind
   have I:F3 (nv d 8:Int) k=((d.getD k 0:Nat):Int):=by
    unfold F3;rw[akA k (by omega),E,aA0 _ (Nat.lt_of_le_of_lt (Nat.div_le_self _ _) (by omega)),akB C 8 k (by omega)]
   show jZ (nv d 8:Int) k++[F3 (nv d 8:Int) k]=_;rw[D (by omega),I,List.take_add_one,bX (by omega),fk,bX (by omega)];exact(List.map_append (f:=λn:Nat=>(n:Int)) (l₁:=d.take k) (l₂:=[d[k]])).symm
 rw[key 8 (eK _),<- hl,jl]
def aA2{d:aa Nat}(C:dL d)(hl:d.length=8):0 <= wv (bk d) 8/\wv (bk d) 8 <= 4294967295:=by
 have D:=Mn C 8;rw[Z4 C hl 8 (eK _)];omega
def aA3{w:aa Nat}(C:dL w)(hl:w.length=11)(h:(fS w).2.1=1):EM (AH w)=some (bk (fS w).1):=by
 have⟨D,E,_⟩:=CX C hl;have T:=azx C hl (by omega);have I:dL ((fS w).1.drop 3):=λx U=>E x (List.mem_of_mem_drop U)
 have J:((fS w).1.drop 3).length=8:=by rw[List.length_drop,D]
 have he:AH w=wv (bk ((fS w).1.drop 3)) 8:=by
  unfold AH;simp_all
 have⟨L,O⟩:=aA2 I J;have e2:=akz L O;have⟨_,_,v,ev,Y,Z,Q,vz⟩:=Mm L O;rw[aA1 I J]at Q;have:=akx Z E Y D (Z3 Q) vz T;simp_all
def Mo(d:bY):Int:=bif d.ir then 0 else AH (nw d)
def qK(c:av)(j:Nat)(d:bY):av:=cV c ⟨c.array.cells.set j d,c.array.bz,c.array.br⟩
def akC{c:av}{j:Nat}(h:j<c.array.cells.length):qK c j c.array.cells[j]=c:=by
 unfold qK cV;rw[aAT h]
def akD{c:av}{j:Nat}(C:j<c.array.cells.length)(L:Sy c.array.cells[j].symbols):xw c (j:Int)=some ((Mo c.array.cells[j],jY c.array.cells[j]),(qK c j (nZ c.array.cells[j]),())):=by
 have⟨O,D,E⟩:=SC L;have I:=ajQ D E;have J:=aAR D E;rw[O]at I J;have T:=akC C;unfold xw jY nZ Mo xL xM;rw[aA ⟨by omega,by omega⟩,aA];simp only[bB];cases Q:c.array.cells[j].ir with
 |true =>simp_all
 | false=>
  rw[au,au,au,au,aA C,aA C,I,aq,aA C,aA C,J,aq];dsimp only;rcases(CX D E).2.2 with q|q|q
  ·grind
  ·rw[q,ni,aA C,Q];rfl
  ·rw[q,jV (by omega),au,ni,aA C];rfl
def akE{c:av}{j:Nat}(C:j<c.array.cells.length)(J:Sy c.array.cells[j].symbols):Ce c (j:Int)=some ((Mo c.array.cells[j],jY c.array.cells[j]),(qK c j (nZ c.array.cells[j]),())):=by
 have⟨L,D,E⟩:=SC J;have I:=aAS D E;rw[L]at I;have Q:=akC C;unfold Ce jY nZ Mo xL xM;rw[aA ⟨by omega,by omega⟩,aA];simp only[bB];cases O:c.array.cells[j].ir with
 |true =>simp_all
 | false=>
  rw[au,au,au,au,aA C,I,aq];dsimp only;rcases(CX D E).2.2 with q|q|q
  ·grind
  ·rw[q,ni,aA3 D E q,aq,aA ⟨by omega,C⟩,aA C,jV (by omega),au,O];rfl
  ·rw[q,jV (by omega),ni,au,aA ⟨by omega,C⟩,aA C];rfl
def uy(q:aa aX)(i:Nat):Bool:=match q[i]? with
 |some r=>(q.take i).any λx=>x.line==r.line
 |none=>false
def akF{q:aa aX}{i:Nat}(h:i<q.length):uy q i=(q.take i).any λx=>x.line==q[i].line:=by
 unfold uy;rw[bX h]
def aA4{α:Type}(p:α -> Bool)(q:aa α)(i:Nat)(hi:i <= q.length):c9 p (q.take i)=min (c9 p q) i:=by
 have J:=ug p q;have D:=ug p (q.take i);rw[fP,Nat.min_eq_left hi]at D;rcases Nat.lt_or_ge (c9 p (q.take i)) i with h|h
 ·have E:c9 p (q.take i)<(q.take i).length:=by rw[fP,Nat.min_eq_left hi];exact h
  have I:=qG E;rw[List.getElem_take]at I;rcases Nat.lt_or_ge (c9 p q) (c9 p (q.take i))with h5|h5
  ·have h6:=qG (p:=p) (q:=q) (by omega);have C:=m7 h5 (by rw[fP];omega);simp_all
  ·rcases Nat.lt_or_ge (c9 p (q.take i)) (c9 p q)with h6 | h6
   ·have C:=m7 h6 (by omega);simp_all
   ·omega
 ·have e:c9 p (q.take i)=i:=by omega
  rw[e];rcases Nat.lt_or_ge (c9 p q) i with h5|h5
  ·have h6:=qG (p:=p) (q:=q) (by omega);have C:=m7 (p:=p) (q:=q.take i) (i:=c9 p q) (by omega) (by rw[fP];omega);simp_all
  ·omega
def aA5{q:aa aX}{i:Nat}(h:i<q.length)(I:q.length <= 1000):Rj q (i:Int)=some (uy q i):=by
 have J:=ug (λx:aX=>x.line==q[i].line) (q.take i);have hlen:(q.take i).length=i:=by rw[fP];omega
 unfold Rj bQ;rw[dF,aq,Mg (by omega) (by omega) (by omega),bF,au,bA ⟨by omega,by omega,by omega⟩,akF h,Ma];simp only[bB,Int.toNat_zero,List.drop_zero];generalize L:q.take i=t at *
 have e:=cy (step:=FD) (c9 (λx:aX=>x.line==q[i].line) t) (λj=>((q,(i:Int),t,(t.length:Int),(j:Int),()),())) (if c9 (λx:aX=>x.line==q[i].line) t<t.length then .inl ((true,()),())else .inr (.inl ((),()))) aP (λk E=>by
  have D:=m7 E (by omega);unfold FD ay aV xG xI;dsimp only;rw[aS,ak,aA ⟨by omega,by omega⟩,aA ⟨by omega,by omega⟩];simp only[bB];rw[D,au,bD]) (by
  by_cases C:c9 (λx:aX=>x.line==q[i].line) t<t.length
  ·have D:=qG C;unfold FD ay aV xG xI;dsimp only;rw[aS,ak,aA ⟨by omega,by omega⟩,aA ⟨by omega,by omega⟩]
   grind
  ·unfold FD ay aV xG xI;dsimp only;rw[bh,au,bM C]) (bI)
 rw[cq]at e
 refine(bH (λo=>Option.bind o _) e).trans ?_
 by_cases C:c9 (λx:aX=>x.line==q[i].line) t<t.length
 ·rw[bA C,aS C];rfl
 ·rw[bM C,bh C];rfl
def akG{q:aa aX}{i:Nat}(h:i<q.length)(E:q.length <= 1000):JL q (i:Int)=some (uy q i):=by
 have I:=aA4 (λx:aX=>x.line==q[i].line) q i (by omega);have J:=ug (λx:aX=>x.line==q[i].line) (q.take i);have hlen:(q.take i).length=i:=by rw[fP];omega
 unfold JL bQ;rw[akF h,Ma,hlen];generalize L:c9 (λx:aX=>x.line==q[i].line) (q.take i)=n at *
 have e:=cy (step:=EU) n (λj=>((q,(i:Int),(j:Int),()),())) (if n<i then .inl ((true,()),())else .inr (.inl ((),()))) aP (λk O=>by
  have D:=m7 (p:=λx:aX=>x.line==q[i].line) (q:=q) (i:=k) (by omega) (by omega);unfold EU ay aV xG xI;dsimp only;rw[aS,ak,aS,ak,aA ⟨by omega,by omega⟩,aA ⟨by omega,by omega⟩];simp only[bB];rw[D,au,bD]) (by
  by_cases C:n<i
  ·have D:((q[n]'(by omega)).line==q[i].line)=true:=by
    have Q:c9 (λx:aX=>x.line==q[i].line) q=n:=by omega
    have:=qG (p:=λx:aX=>x.line==q[i].line) (q:=q) (by omega)
    grind
   unfold EU ay aV xG xI;dsimp only;rw[aS,ak,aS,ak,aA ⟨by omega,by omega⟩,aA ⟨by omega,by omega⟩]
   grind
  ·unfold EU ay aV xG xI;dsimp only;rw[bh,au,bM C]) (bI)
 rw[cq]at e
 refine(bH (λo=>Option.bind o _) e).trans ?_
 by_cases C:n<i
 ·rw[bA C,aS C];rfl
 ·rw[bM C,bh C];rfl
def AI(d:gx)(n:Int)(w:Bool):Bool:=bif w then d.on ||decide (n<1)else !d.on
def aA6{d:gx}(n:Int)(w:Bool)(h:kH d=true):Rk d n w=some (AI d n w):=by
 unfold Rk AI;rw[R0,h]
 grind
def aA7{d:gx}(n:Int)(w:Bool)(h:kH d=true):PW d n w=some (AI d n w):=by
 unfold PW AI;rw[Zg,h]
 grind
def AJ(p:Nat->Bool)(k:Nat):Int:=((List.range k).countP p:Nat)
def SE(p:Nat -> Bool)(k:Nat):AJ p (k+1)=AJ p k+(bif p k then 1 else 0):=by
 unfold AJ;rw[List.range_succ,List.countP_append,List.countP_singleton]
 grind
def SF(p:Nat -> Bool)(k:Nat):0 <= AJ p k/\AJ p k <= k:=by
 unfold AJ;have:=List.countP_le_length (p:=p) (l:=List.range k);simp_all
def rT(f:Nat->Bool)(n k:Nat):aa Bool:=(List.range k).map f++List.replicate (n-k) false
def SG{f:Nat->Bool}{n k:Nat}(h:k<=n):(rT f n k).length=n:=by unfold rT;simp;omega
def SH{f:Nat -> Bool}{n k:Nat}(h:k<n):(rT f n k).set k (f k)=rT f n (k+1):=by
 unfold rT;rw[List.set_append_right _ _ (by simp),dB,dh,Nat.sub_self,show n-k=(n-(k+1))+1 by omega,List.replicate_succ,List.range_succ,List.map_append,List.append_assoc];rfl
def Z5(f:Nat->Bool)(n:Nat):rT f n 0=List.replicate n false:=rfl
def SI(f:Nat->Bool)(n:Nat):rT f n n=(List.range n).map f:=by unfold rT;simp
def xX{f:Nat->Bool}{n k:Nat}(h:k<n)(C:k<((List.range n).map f).length):((List.range n).map f)[k]=f k:=by simp
def qL(q:aa aX)(i:Nat):Bool:=match q[i]? with
 |some r=>r.write
 |none=>false
def C4{q:aa aX}{i:Nat}(h:i<q.length):qL q i=q[i].write:=by
 unfold qL;rw[bX h]
def ke(q:aa aX)(i:Nat):Bool:=!uy q i
def qM(q:aa aX)(k:Nat):Int:=AJ (λi=>ke q i && !qL q i) k
def rU(q:aa aX)(k:Nat):Int:=AJ (λi=>ke q i&&qL q i) k
def gR(c:av)(i:Nat):Bool:=ke c.queue i&&(AI c.drain (qM c.queue c.queue.length) (qL c.queue i) ||(!qL c.queue i&&rU c.queue c.queue.length==0))
def aA8{c:av}(h:Pq c):PX c=some ((List.range c.queue.length).map (gR c)):=by
 have I:=h.ql;have e:=cy (step:=JM) c.queue.length (λi=>((c,qM c.queue i,rU c.queue i,(i:Int),()),())) (.inl ((c,qM c.queue c.queue.length,rU c.queue c.queue.length,()),())) aP (λk C=>by
  have J:=SF (λi=>ke c.queue i && !qL c.queue i) k;have L:=SF (λi=>ke c.queue i&&qL c.queue i) k;unfold JM ay xG xI;dsimp only;rw[aS,ak,akG C (by omega),aq,bD];unfold qM rU at *
  have E:ke c.queue k = !uy c.queue k:=rfl;rw[SE,SE];simp only[E,C4 C];cases uy c.queue k with
  |true=>simp
  | false=>
   rw[au,aA ⟨by omega,by omega⟩];simp only[bB];cases c.queue[k].write with
   |true=>rw[ak,aR];simp[ke]
   |false=>rw[au,aR];simp[ke]) (by
  unfold JM ay xG xI;dsimp only;rw[bh,au]) (bI)
 have D:=cy (step:=JN) c.queue.length (λi=>((c,qM c.queue c.queue.length,rU c.queue c.queue.length,(),(i:Int),()),((List.range i).map (gR c),()))) (.inl (((),()),((List.range c.queue.length).map (gR c),()))) aP (λk C=>by
  have hl:((List.range k).map (gR c)).length=k:=by simp
  unfold JN ay xG xI;dsimp only;rw[aS,ak,aA ⟨by omega,by omega⟩,akG C (by omega),aq,bD,List.range_succ,List.map_append,hl,List.map_singleton];simp only[bB,jz,cQ (show k+1<1073741824 by omega),ak,aA7 _ _ h.dr,aq];unfold gR ke;rw[C4 C];cases uy c.queue k<;>cases c.queue[k].write<;>cases AI c.drain (qM c.queue c.queue.length) _<;>first|rfl|simp) (by
  unfold JN ay xG xI;dsimp only;rw[bh,au]) (bI)
 rw[cq]at e D;unfold PX bu
 refine(bH (λo=>Option.bind o _) e).trans ?_
 rw[aq]
 refine(bH (λo=>Option.bind o _) D).trans ?_
 rfl
def fB(c:av):aa aK:=c.queue.map λr=>gB c r.line
def uz(c:av):(fB c).length=c.queue.length:=by unfold fB;rw[dB]
def aA9{c:av}{i:Nat}(h:i<c.queue.length)(C:i<(fB c).length):(fB c)[i]=gB c c.queue[i].line:=by simp only[fB,List.getElem_map]
def SJ{c:av}(h:Pq c){r:aX}(C:r∈c.queue):vo c r.line=some (gB c r.line,true)/\dK c.config.az (gB c r.line)=true:=
 aAm h.p h.sp h.se h.mo (h.q r C).1.1 (h.q r C).1.2
def Z6{c:av}(h:Pq c){r:aX}(C:r∈c.queue):xg c r.line=some (gB c r.line):=
 aAo h.p h.sp h.se h.mo (h.q r C).1.1 (h.q r C).1.2
def aBa{c:av}(h:Pq c):Ri c=some (fB c):=by
 have D:=h.ql;have e:=cy (step:=Ll) c.queue.length (λi=>(((),(),c.queue,c.queue.length,i,()),(c,(c.queue.take i).map _,()))) (.inl (((),()),(fB c,()))) aP (λk C=>by
  have hl:((c.queue.take k).map (λr=>gB c r.line)).length=k:=by simp;omega
  unfold Ll ay xG xI;dsimp only;rw[aS,ak,aA ⟨by omega,by omega⟩];simp only[bB];rw[(SJ h (cU C)).1,aq,bD,hl,jz,cQ,ak,pK C,List.map_append];rfl) (by
  unfold Ll ay xG xI;dsimp only;rw[bh,au,jl];rfl) (bI)
 unfold Ri bu;simp_all
def akH{c:av}(h:Pq c):JK c=some (fB c):=by
 have D:=h.ql;have e:=cy (step:=JJ) c.queue.length (λi=>((c,(),i,()),((c.queue.take i).map _,()))) (.inl (((),()),(fB c,()))) aP (λk C=>by
  have hl:((c.queue.take k).map (λr=>gB c r.line)).length=k:=by simp;omega
  unfold JJ ay xG xI;dsimp only;rw[aS,ak,aA ⟨by omega,by omega⟩];simp only[bB];rw[Z6 h (cU C),aq,bD,hl,jz,cQ,ak,pK C,List.map_append];rfl) (by
  unfold JJ ay xG xI;dsimp only;rw[bh,au,jl];rfl) (bI)
 unfold JK bu;simp_all
def zA:aK:=⟨0,0,0⟩
def zQ:aX:=⟨0,0,0,false,0,0⟩
def fD(c:av)(i:Nat):aK:=(fB c).getD i zA
def lK(c:av)(i:Nat):aX:=c.queue.getD i zQ
def C5{c:av}{i:Nat}(h:i<(fB c).length):(fB c)[i]=fD c i:=by
 unfold fD;rw[fk,bX h];rfl
def pQ{c:av}{i:Nat}(h:i<c.queue.length):c.queue[i]=lK c i:=by
 unfold lK;rw[fk,bX h];rfl
def C6{c:av}(h:Pq c){i:Nat}(hi:i<c.queue.length):dK c.config.az (fD c i)=true/\0 <= (fD c i).ax/\(fD c i).ax.toNat<c.bq.aC.length/\(fD c i).ax.toNat<c.aQ.aJ.length/\(fD c i).ax<aW c.config.az/\0 <= (fD c i).row:=by
 have e:=aA9 hi (by rw[uz];exact hi);rw[C5]at e;have C:=(SJ h (cU hi)).2;rw[<- e]at C;have⟨_,D,E,I,J,L,O⟩:=rO C;have:=h.p.bl;have:=h.dl;simp_all
def vM{c:av}(h:Pq c):c.bq.aC.length<=1048576:=by
 have:=h.p.bl;have:=fh c.config.az;omega
def ee(c:av)(i:Nat):Bool:=vI c.bq (fD c i)
def aBb{c:av}(h:Pq c)(C:aa Int)(D:aa aK)(Z:Int×Int×Int×Int×af)(P:Int×Int×Int×Int×Int×(aa Int)×Int×Int×af):iter FF aP ((C,D,(),(),(),(),(0:Int),(0:Int),c.queue,(c.queue.length:Int),(0:Int),()),(c,Z,P,List.replicate c.queue.length false,()))=some (.inl ((C,D,(),(),(),(),qM c.queue c.queue.length,rU c.queue c.queue.length,()),(c,Z,P,(List.range c.queue.length).map (ke c.queue),()))):=by
 have J:=h.ql;have e:=cy (step:=FF) c.queue.length (λi=>((C,D,(),(),(),(),qM c.queue i,rU c.queue i,c.queue,(c.queue.length:Int),(i:Int),()),(c,Z,P,rT (ke c.queue) c.queue.length i,()))) (.inl ((C,D,(),(),(),(),qM c.queue c.queue.length,rU c.queue c.queue.length,()),(c,Z,P,(List.range c.queue.length).map (ke c.queue),()))) aP (λk E=>by
  have L:=SF (λi=>ke c.queue i && !qL c.queue i) k;have O:=SF (λi=>ke c.queue i&&qL c.queue i) k;have I:ke c.queue k = !uy c.queue k:=rfl;have hl:=SG (f:=ke c.queue) (n:=c.queue.length) (k:=k) (by omega);have Q:((rT (ke c.queue) c.queue.length k).set k (!uy c.queue k)).length=c.queue.length:=by rw[jk,hl]
  rw[<- SH E];unfold FF ay xG xI xL;dsimp only;rw[aS,ak,aA ⟨by omega,by omega⟩,aA5 E (by omega),aq,aA ⟨by omega,by omega⟩,aA,aA ⟨by omega,by simp only[bB];omega⟩,aA (by simp only[bB];omega),bD];simp only[bB,List.getElem_set_self];unfold qM rU at *
  rw[SE,SE];simp only[I,C4 E];cases uy c.queue k with
  | true=>
   simp[*]
  | false=>
   rw[iq,ak];cases c.queue[k].write with
   |true=>rw[ aR];simp
   | false=>
    rw[au,aA ⟨by omega,by rw[jk];omega⟩,aA (by rw[jk];omega),aR];simp) (by
  unfold FF ay xG xI xL;dsimp only;rw[bh,au,SI]) (bI)
 rw[cq,Z5]at e;exact e
def sW(c:av):Nat->aa (Int×Bool)
 |0=>[]
 |k+1=>bif gR c k&&ee c k then nP (sW c k) (fD c k).ax true else sW c k
def xY(c:av)(k:Nat)(b:Int):Bool:=(List.range k).any λi=>gR c i&&ee c i&&b==(fD c i).ax
def akI(c:av)(b:Int):∀ k,mP (sW c k) b=xY c k b
 |0=>rfl
 | k+1=>by
  have C:=akI c b k;have e:xY c (k+1) b=(xY c k b || (gR c k&&ee c k&&b==(fD c k).ax)):=by
   unfold xY
   grind
  rw[e,<- C];show mP (bif gR c k&&ee c k then nP _ (fD c k).ax true else sW c k) b=_;cases gR c k&&ee c k with
  |false=>simp
  |true=>rw[ak,aze,cJ,Bool.or_comm]
def aBc{c:av}(h:Pq c)(D:aa Int)(Z:Int×Int×Int×Int×af)(P:Int×Int×Int×Int×Int×(aa Int)×Int×Int×af):iter FG aP ((D,fB c,(),(),(),(),qM c.queue c.queue.length,rU c.queue c.queue.length,(),(),(),c.queue,(c.queue.length:Int),(0:Int),()),(c,Z,P,(List.range c.queue.length).map (ke c.queue),List.replicate c.queue.length false,List.replicate c.queue.length false,([]:aa (Int×Bool)),()))=some (.inl ((D,fB c,(),(),(),(),(),(),()),(c,Z,P,(List.range c.queue.length).map (gR c),(List.range c.queue.length).map (ee c),sW c c.queue.length,()))):=by
 have hq:=h.ql;have E:=vM h;have e:=cy (step:=FG) c.queue.length (λi=>((D,fB c,(),(),(),(),qM c.queue c.queue.length,rU c.queue c.queue.length,(),(),(),c.queue,(c.queue.length:Int),(i:Int),()),(c,Z,P,(List.range c.queue.length).map (ke c.queue),rT (gR c) c.queue.length i,rT (ee c) c.queue.length i,sW c i,()))) (.inl ((D,fB c,(),(),(),(),(),(),()),(c,Z,P,(List.range c.queue.length).map (gR c),(List.range c.queue.length).map (ee c),sW c c.queue.length,()))) aP (λk C=>by
  have hl:=SG (f:=gR c) (n:=c.queue.length) (k:=k) (by omega);have I:=SG (f:=ee c) (n:=c.queue.length) (k:=k) (by omega);have J:=uz c;have hl4:((List.range c.queue.length).map (ke c.queue)).length=c.queue.length:=by simp
  obtain⟨ho,L,O,o3,o4,Q⟩:=C6 h C;have T:=aAq (r:=c.bq) (a:=fD c k) Q L O E;have U:gR c k=(ke c.queue k&&(AI c.drain (qM c.queue c.queue.length) c.queue[k].write ||(!c.queue[k].write&&rU c.queue c.queue.length==0))):=by unfold gR;rw[C4 C]
  have Y:sW c (k+1)=bif gR c k&&ee c k then nP (sW c k) (fD c k).ax true else sW c k:=rfl;have iK:ee c k=vI c.bq (fD c k):=rfl;rw[<-SH C,<-SH C,Y];unfold FG ay xG xI xL;dsimp only;rw[aS,ak,aA ⟨by omega,by omega⟩,aA ⟨by omega,by omega⟩,aA];simp only[bB,xX C,aA6 _ _ h.dr,aq,C5,T,bD (show k<4611686018427387904 by omega),List.getElem_set_self,jk,hl,I,J];rw[U,iK];cases ke c.queue k<;>cases AI c.drain (qM c.queue c.queue.length) c.queue[k].write<;>cases c.queue[k].write<;>cases vI c.bq (fD c k)<;>cases rU c.queue c.queue.length==0<;>simp[C]) (by
  unfold FG ay xG xI xL;dsimp only;rw[bh,au,SI,SI]) (bI)
 rw[cq,Z5,Z5]at e;exact e
def SK(e:cv):cv:=⟨e.line,e.code,(if (999:Int)<(W6 (e.times+(1:Int)))then (999:Int)else (W6 (e.times+(1:Int))))⟩
def zEE:cv:=⟨0,0,0⟩
def sX(l:aa cv)(line code:Int):aa cv:=match l.findIdx? (lI ⟨line,code,1⟩)with
 |some i=>l.set i (SK (l.getD i zEE))
 |none=>bif ((l.length:Int)==(6:Int))then l.drop 1++[⟨line,code,1⟩]else l++[⟨line,code,1⟩]
def aBd{l:aa cv}(h:kI l=true){line code:Int}(D:0<=line/\line<=1023)(E:code=1\/code=2):Q8 l line code=some (sX l line code,true):=by
 have hl:l.length<=6:=by
  simp only[kI,aO,gK]at h;omega
 have I:aL line 0 1023=true:=bx.2 D;unfold Q8 K5 sX bQ xA xZ;rw[cQ (by simp;omega),ak,aq,ajl _ (by omega),aq,h,bF,au,dF,aq,I,bF,au,kj];have e:=vA (step:=K6) l (lI ⟨line,code,1⟩) (λk=>((line,code,(),(),(l.length:Int),(k:Int),()),(l,()))) (λi=>.inl (((),true,()),(l.set i (SK (l.getD i zEE)),()))) (.inr (.inl ((line,code,(),()),(l,())))) aP (λk J=>by
  unfold K6 lI ay aV xG xL;dsimp only;rw[aS,ak,aA ⟨by omega,by omega⟩,aA];simp only[bB];rw[aA ⟨by omega,by omega⟩,aA,bD,mB _ J];cases l[k].line==line<;>cases l[k].code==code<;>rfl) (by
  unfold K6 ay aV xG xL;dsimp only;rw[bh,au]) (bI)
 rw[cq]at e;have L:iter YF aP ((line,code,(),(),(l.length:Int),(0:Int),()),(l,()))=_:=e;rcases E with rfl|rfl
 ·rw[bne_self_eq_false,au,L];cases l.findIdx? (lI ⟨line,1,1⟩)with
  |some i=>rfl
  | none=>
   rw[aq,Sum.elim_inr,ef];dsimp only;cases C:(l.length:Int)==(6:Int)with
   |false=>rw[au,au,cQ (by simp;omega)];rfl
   | true=>
    have C:=eq_of_beq C;rw[ak,ak,bA ⟨by omega,by omega,by omega⟩,cQ (by simp;omega),ak,aq,cQ (by simp;omega),ak];simp
 ·rw[gH (by omega),ak,bne_self_eq_false,au,e];cases l.findIdx? (lI ⟨line,2,1⟩)with
  |some i=>rfl
  | none=>
   rw[aq,Sum.elim_inr,ef];dsimp only;cases C:(l.length:Int)==(6:Int)with
   |false=>rw[au,au,cQ (by simp;omega)];rfl
   | true=>
    have C:=eq_of_beq C;rw[ak,ak,bA ⟨by omega,by omega,by omega⟩,cQ (by simp;omega),ak,aq,cQ (by simp;omega),ak];simp
def aBe{l:aa cv}(h:kI l=true){line code:Int}(D:0 <= line/\line <= 1023)(Q:code=1 \/ code=2):PL l line code=some (sX l line code,true):=by
 have hl:l.length <= 6:=by
  simp only[kI,aO,gK]at h;omega
 have E:aL line 0 1023=true:=bx.2 D;have I:aL 1 1 999=true:=rfl;have J:EP ⟨line,code,1⟩=some true:=by
  unfold EP;rw[eE,aq,E,eE,I]
  grind
 unfold PL sX xA xC xZ;rw[cQ (by simp;omega),ak,ayE,aq,h,bF,au,J,aq,bF,au];have C:=ajk l ⟨line,code,1⟩ (by omega);dsimp only at C;rw[C,aq,kj];unfold gu;cases hi:l.findIdx? (lI ⟨line,code,1⟩)with
 | some i=>
  have⟨L,T,U⟩:=nj.1 hi;dsimp only;rw[aS,ak,aA ⟨by omega,by omega⟩,aA,aA ⟨by omega,by omega⟩,aA];rw[mB _ L];rfl
 | none=>
  dsimp only;rw[bh,au];by_cases O:l.length=6
  ·rw[aS,show ((l.length:Int)==6)=true by rw[O];rfl,bA ⟨by omega,by omega,by omega⟩,cQ (by simp;omega),cQ (by simp;omega)];simp
  ·rw[bh,au,jV (by omega),au,cQ (by simp;omega),ak]
def Z7(c:av)(l:aa cv):av:=⟨c.config,c.box,c.now,c.bq,c.ready,c.array,c.spare,c.aQ,c.bO,c.guard,c.pending,c.queue,c.shares,c.drain,c.bg,c.cM,l,c.trace,c.cz⟩
def AK(c:av)(n code:Int):av:=bif code != 0 then Z7 c (sX c.errors n code)else c
def akJ{c:av}(h:kI c.errors=true){n code:Int}(C:0<=n/\n<=1023)(h2:code=0\/code=1\/code=2):xu c n code=some ((),(AK c n code,())):=by
 unfold xu AK;rcases h2 with rfl|h2
 ·rfl
 ·rw[aBd h C h2,gH (by omega)];rfl
def akK{c:av}(h:kI c.errors=true){n code:Int}(C:0<=n/\n<=1023)(h2:code=0\/code=1\/code=2):Cd c n code=some ((),(AK c n code,())):=by
 unfold Cd AK;rcases h2 with rfl|h2
 ·rfl
 ·rw[aBe h C h2,gH (by omega)];rfl
def akL(q:aa aX):Prop:=∀i (h:i<q.length),(q.take i).any (λx=>x.id==q[i].id)=false
def aBf{q:aa aX}{i:Nat}(h:i<q.length)(hl:q.length<=12):Ra q (i:Int) (W6 ((i:Int)+1))=some (q.take i++q.drop (i+1),([],())):=by
 have C:(splice q i ((q.take ((q.length:Int).toNat)).drop (i+1))).length=q.length:=by
  rw[tf _ _ _ (by simp;omega)]
 have E:((q.take ((q.length:Int).toNat)).drop (i+1))=q.drop (i+1):=by rw[bB,jl]
 unfold Ra;rw[bD,bA ⟨by omega,by omega,by omega,by omega⟩,jV (by omega),au,bA ⟨by omega,by omega,by omega⟩,bA ⟨by omega,by omega,by omega⟩];simp only[bB]at C ⊢;rw[bA ⟨by omega,by omega,by omega,by omega⟩,bA ⟨by omega,by omega,by omega⟩,bA ⟨by omega,by omega⟩];have D:i+(q.length-(i+1))-0=i+(q.length-(i+1)):=by omega
 rw[D,ZZ _ _ _ (by omega)];unfold splice;rw[jl,List.take_append_of_le_length (by simp;omega),List.take_of_length_le (by simp;omega)]
def aBg{q:aa aX}(C:akL q){i:Nat}(h:i<q.length)(hl:q.length <= 12):Py q q[i].id=some (q.take i++q.drop (i+1),true):=by
 have D:q.findIdx? (λr=>r.id==q[i].id)=some i:=by
  rw[nj]
  refine⟨h,by simp,λj E=>?_⟩
  have:=mC.1 (C i h) q[j] (jA.2 ⟨j,by rw[fP];omega,by rw[List.getElem_take]⟩);simp_all
 unfold Py xA xZ;rw[Zk _ _ (by omega),aq];unfold gu;rw[D];dsimp only;rw[bh,au,bA ⟨by omega,by omega,by omega⟩,cQ (by simp;omega),ak,bD,bA ⟨by omega,by omega,by omega⟩,cQ (by simp;omega),ak];simp_all
def vN:aX:=⟨0,0,0,false,0,0⟩
def AL(s:aa cw)(t:Int):aa cw:=match qz s ((List.replicate 4 false).set t.toNat true)with
 |some (l,_)=>l
 |none=>[]
def oN(c:av)(i:Nat)(a:dm)(e:aa cv)(x:eM):av:=
 ⟨c.config,c.box,c.now,c.bq,c.ready,a,c.spare,c.aQ,c.bO,c.guard,c.pending,c.queue.take i++c.queue.drop (i+1),AL c.shares (c.queue.getD i vN).dI,c.drain,c.bg,c.cM,e,c.trace,c.cz++[x]⟩
def uA(c:av)(i:Nat):av:=
 let r:=c.queue.getD i vN
 let n:=ic c.config.az (gB c r.line)
 bif r.write then oN c i ⟨c.array.cells.set n ⟨C3 r.data,false⟩,c.array.bz,c.array.br⟩ c.errors ⟨r.id,c.now,0,0⟩
 else oN c i ⟨c.array.cells.set n (nZ (c.array.cells.getD n vG)),c.array.bz,c.array.br⟩ (bif jY (c.array.cells.getD n vG) != 0 then sX c.errors (n:Int) (jY (c.array.cells.getD n vG))else c.errors) ⟨r.id,c.now,Mo (c.array.cells.getD n vG),jY (c.array.cells.getD n vG)⟩
def Mp{d:bY}(h:Sy d.symbols):jY d=0 \/ jY d=1 \/ jY d=2:=by
 have⟨E,C,D⟩:=SC h;unfold jY;cases d.ir with
 |true=>simp_all
 |false=>exact(CX C D).2.2
structure oO (c:av) (i:Nat) (B:Int):Prop where
 ad:∀r∈c.queue,vo c r.line=some (gB c r.line,true)/\dK c.config.az (gB c r.line)=true
 tn:∀r∈c.queue,0<=r.dI/\r.dI<=3
 ql:c.queue.length<=12
 sh:gN c.shares=true
 shl:c.shares.length=4
 u:akL c.queue
 i:i<c.queue.length
 d:∀r∈c.queue,0<=r.data/\r.data<=4294967295
 a:dY c.config.az B c.array
 e:kI c.errors=true
 r:c.cz.length<=1000
def oO.facts{c:av}{i:Nat}{B:Int}(h:oO c i B){r:aX}(C:r∈c.queue):vo c r.line=some (gB c r.line,true)/\qC c.config.az (gB c r.line)=(ic c.config.az (gB c r.line):Int)/\ic c.config.az (gB c r.line)<c.array.cells.length/\(ic c.config.az (gB c r.line):Int) <= 1023/\qz c.shares ((List.replicate 4 false).set r.dI.toNat true)=some (AL c.shares r.dI,(qz c.shares ((List.replicate 4 false).set r.dI.toNat true)).get!.2)/\0 <= r.dI/\r.dI.toNat<4:=by
 obtain⟨D,E⟩:=h.ad _ C;have I:=h.tn _ C;obtain⟨J,L⟩:=L5 E;have O:=h.a.cells;have hl:=lH c.config.az;obtain⟨y,t,e,_⟩:=ZT ((List.replicate 4 false).set _ true) (by have:=h.shl;omega) h.sh (by simp[h.shl]);refine⟨D,J,by omega,by omega,?_,I.1,by omega⟩;unfold AL;rw[e];rfl
def akM{c:av}{i:Nat}{B:Int}(h:oO c i B):Rc c (i:Int)=some ((),(uA c i,())):=by
 have hi:=h.i;have⟨f1,f3,f4,f5,f6,f7,f8⟩:=h.facts (cU hi);have C:=h.d _ (cU hi);have D:=h.a.syms _ (cU f4);have E:c.queue.getD i vN=c.queue[i]:=mB _ hi;have J:=h.r;unfold Rc xL;rw[aA ⟨by omega,by omega⟩,aA];simp only[bB];rw[f1,aq,aBf hi h.ql,aq,bA (by decide)];have I:(4:Int).toNat=4:=rfl;rw[I,aA ⟨f7,by simpa using f8⟩,aA (by simpa using f8)];dsimp only;rw[f6,aq];dsimp only;unfold uA;rw[E];dsimp only;cases hw:c.queue[i].write with
 | true=>
  rw[ Y1,aq,(Mm C.1 C.2).1,aq,aA ⟨by omega,by omega⟩,aA,cQ (by simp;omega)];unfold oN;simp_all
 | false=>
  rw[au,au,Y1,aq,f3,mB _ f4]
  refine(bH (λo=>Option.bind o _) (akD (c:=⟨c.config,c.box,c.now,c.bq,c.ready,c.array,c.spare,c.aQ,c.bO,c.guard,c.pending,c.queue.take i++c.queue.drop (i+1),AL c.shares c.queue[i].dI,c.drain,c.bg,c.cM,c.errors,c.trace,c.cz⟩) f4 D)).trans ?_
  rw[aq];unfold qK cV;dsimp only;rw[cQ (by simp;omega),ak,aq]
  refine(bH (λo=>Option.bind o _) (akJ (by exact h.e) ⟨by omega,f5⟩ (Mp D))).trans ?_
  rw[aq];unfold AK oN Z7;rw[E];dsimp only;cases jY c.array.cells[ic c.config.az (gB c c.queue[i].line)] != 0<;>rfl
def akN{c:av}{i:Nat}{B:Int}(h:oO c i B)(I:∀ r∈c.queue,xg c r.line=some (gB c r.line)):PN c (i:Int)=some ((),(uA c i,())):=by
 have hi:=h.i;have⟨f1,f3,f4,f5,f6,f7,f8⟩:=h.facts (cU hi);have f2:=I _ (cU hi);have C:=h.d _ (cU hi);have D:=h.a.syms _ (cU f4);have E:c.queue.getD i vN=c.queue[i]:=mB _ hi;have L:=h.r;unfold PN xL;rw[aA ⟨by omega,by omega⟩,aA];simp only[bB];rw[f2,aq,RJ,aq,f3,aBg h.u hi h.ql,aq,bA (by decide)];have J:(4:Int).toNat=4:=rfl;rw[J,aA ⟨f7,by simpa using f8⟩,aA (by simpa using f8)];dsimp only;rw[akc _ _ (by have:=h.shl;omega),f6,aq];dsimp only;unfold uA;rw[E];dsimp only;cases hw:c.queue[i].write with
 | true=>
  rw[ akz C.1 C.2,aq,aA ⟨by omega,by omega⟩,aA,cQ (by simp;omega)];unfold oN;simp_all
 | false=>
  rw[au,au,mB _ f4]
  refine(bH (λo=>Option.bind o _) (akE (c:=⟨c.config,c.box,c.now,c.bq,c.ready,c.array,c.spare,c.aQ,c.bO,c.guard,c.pending,c.queue.take i++c.queue.drop (i+1),AL c.shares c.queue[i].dI,c.drain,c.bg,c.cM,c.errors,c.trace,c.cz⟩) f4 D)).trans ?_
  rw[aq];dsimp only
  refine(bH (λo=>Option.bind o _) (akK (by exact h.e) ⟨by omega,f5⟩ (Mp D))).trans ?_
  rw[aq];unfold AK oN Z7 qK cV;rw[E];dsimp only;cases jY c.array.cells[ic c.config.az (gB c c.queue[i].line)] != 0 with
  | true=>
   rw[ak];rw[cQ (by simp;omega)];rfl
  | false=>
   rw[au];rw[cQ (by simp;omega)];rfl
def eO(c:av)(x:aH):av:=⟨c.config,c.box,c.now,fO c.bq x,ue c.config.az c.ready ⟨c.now,x⟩,c.array,c.spare,c.aQ,c.bO,c.guard,c.pending,c.queue,c.shares,c.drain,c.bg,c.cM,c.errors,c.trace++[⟨c.now,x⟩],c.cz⟩
def akO(c:av)(p:eR):av:=⟨c.config,c.box,c.now,c.bq,c.ready,c.array,c.spare,c.aQ,c.bO,c.guard,c.pending,c.queue,c.shares,c.drain,p,c.cM,c.errors,c.trace,c.cz⟩
def qN(c:av)(r:cY):av:=⟨c.config,c.box,c.now,c.bq,c.ready,c.array,c.spare,r,c.bO,c.guard,c.pending,c.queue,c.shares,c.drain,c.bg,c.cM,c.errors,c.trace,c.cz⟩
def akP(c:av)(r:cK):av:=⟨c.config,c.box,c.now,r,c.ready,c.array,c.spare,c.aQ,c.bO,c.guard,c.pending,c.queue,c.shares,c.drain,c.bg,c.cM,c.errors,c.trace,c.cz⟩
def C7(c:av)(k:Int):av:=akO c (xU c.bg k c.now)
def SL(c:av)(b:Int):av:=qN (Mk c b (c.pending.filter (λa=>!(a.ax==b)))) (vJ c.aQ b)
def sY(c:av)(x:aH)(i:Int):av:=
 bif x.kind==1 then uv (eO c x) x else
 bif x.kind==5 then SL (eO c x) x.ax else
 bif x.kind==2 ||x.kind==3 then uA (eO c x) i.toNat else
 bif x.kind==4 then eO c x else
 bif x.kind==9 then gv (C7 (eO c x) 9) c.bO.length []else C7 (eO c x) x.kind
structure Bs (c:av):Prop where
 w:uw 100000 c
 u:vL c.pending
 pk:∀a∈c.pending,0<=a.ax/\a.ax<aW c.config.az
 zt:∀t∈c.bO,jw t
 rf:eA c.aQ=true
 bl:(c.bq.aC.length:Int)=aW c.config.az
 l1:c.ready.last.length<1073741824
 l2:c.ready.bf.length<1073741824
 tl:c.trace.length<10000
def Bs.eO{c:av}(h:Bs c)(x:aH):uw 100000 (eO c x):=⟨h.w.hB,h.w.g,h.w.a,h.w.k,h.w.p,h.w.t,h.w.d,h.w.r⟩
def oO.eO{c:av}{n:Nat}{B:Int}(h:oO c n B)(x:aH):oO (eO c x) n B:=⟨h.ad,h.tn,h.ql,h.sh,h.shl,h.u,h.i,h.d,h.a,h.e,h.r⟩
def aBh{c:av}(h:uw 100000 c):iter xx aP (((),(c.bO.length:Int),(0:Int),()),((⟨c.config,c.box,c.now,c.bq,c.ready,c.array,c.spare,c.aQ,c.bO,c.guard,([]:aa aK),c.queue,c.shares,c.drain,c.bg,c.cM,c.errors,c.trace,c.cz⟩:av),()))=some (.inl ((),(gv c c.bO.length [],()))):=aAL h
def aBi{c:av}{x:aH}(C:1 <= x.kind/\x.kind <= 9)(hb:x.kind <= 5 -> 0 <= x.ax/\x.ax.toNat<c.bq.aC.length):PR c x=some ((),(akP c (fO c.bq x),())):=by
 unfold PR fO akP xL;rcases kinds C with h|h|h|h|h|h|h|h|h<;>(try (have hb:=hb _))<;>simp[h,hb]
def SM{g:aM}{x:aH}(h:dO g x=true)(C:x.kind=1):0 <= x.row/\x.row<g.rows:=by
 simp[dO,aO]at h;have D:=h.2.2.2.1;rw[sQ,C,show ((1:Int)==1)=true from rfl,ak,bx]at D;omega
def aBj{c:av}(h:Bs c){x:aH}(E:m0 c.config.az c.bq x=true){i:Int}(I:x.kind=2 \/ x.kind=3 -> oO c i.toNat 100000/\0 <= i):Lc c x i=some ((),(sY c x i,())):=by
 have⟨Y,hlen,J,hb⟩:=CS E;have L:dO c.config.az x=true:=by
  simp only[m0,aO]at E
  grind
 have Z:=fh c.config.az;have w:=h.eO x;have ht:=h.w.t;have hd:=h.w.d;have hr:=h.w.r;have SN:=h.tl;have er:KS c.config.az c.bq x=some (fO c.bq x,true):=by
  rw[ayY _ _ _ (by omega)];unfold Zu;simp_all
 unfold Lc sY bu;rw[cQ (by simp;omega),ak,ay6 _ _ _ h.l1 h.l2,aq,er,aq];rcases kinds J with q|q|q|q|q|q|q|q|q<;>rw[q]<;>simp only[Int.reduceBEq,Int.reduceBNe,ak,au,Bool.or_true,Bool.or_false,Bool.true_or,Bool.false_or,Bool.or_self]
 ·have⟨C,O⟩:=hb (by omega);have⟨Q,T⟩:=SM L q
  refine(bH (λo=>Option.bind o _) (aAH (c:=eO c x) x w.g w.a w.p h.zt C (by show x.ax<aW c.config.az;omega) Q T (by show x.ax.toNat<c.bO.length;omega) (by show x.ax.toNat<c.guard.length;omega))).trans ?_
  rfl
 ·have⟨s,D⟩:=I (.inl q);have e:=akM (s.eO x);rw[Int.toNat_of_nonneg D]at e
  refine(bH (λo=>Option.bind o _) e).trans ?_
  rfl
 ·have⟨s,D⟩:=I (.inr q);have e:=akM (s.eO x);rw[Int.toNat_of_nonneg D]at e
  refine(bH (λo=>Option.bind o _) e).trans ?_
  rfl
 ·rfl
 ·have⟨C,O⟩:=hb (by omega);have⟨y,U⟩:=aAz h.rf (b:=x.ax) C (by omega)
  refine(bH (λo=>Option.bind o _) (ako w.hB (eO c x) w.g w.a C (by show x.ax<aW c.config.az;omega))).trans ?_
  rw[aq];unfold cV;dsimp only;rw[aAD _ _ (by show c.pending.length<1000000;have:=h.w.p;omega),aq];dsimp only
  refine(bH (λo=>Option.bind o _) (akp _ (by exact w.k) C (by show x.ax.toNat<c.bO.length;omega) (by show x.ax.toNat<c.guard.length;omega))).trans ?_
  rw[aq];unfold qH;dsimp only
  refine(bH (λo=>Option.bind o _) U).trans ?_
  rfl
 ·have⟨y,e⟩:=Sw c.bg (k:=6) (by omega) c.now;rw[e,aq];rfl
 ·have⟨y,e⟩:=Sw c.bg (k:=7) (by omega) c.now;rw[e,aq];rfl
 ·have⟨y,e⟩:=Sw c.bg (k:=8) (by omega) c.now;rw[e,aq];rfl
 ·have⟨y,e⟩:=Sw c.bg (k:=9) (by omega) c.now;rw[e,aq]
  refine(bH (λo=>Option.bind o _) (aBh (c:=C7 (eO c x) 9) ⟨w.hB,w.g,w.a,w.k,w.p,w.t,w.d,w.r⟩)).trans ?_
  rfl
def aBk{c:av}(h:Bs c){x:aH}(E:m0 c.config.az c.bq x=true){i:Int}(I:x.kind=2 \/ x.kind=3 -> oO c i.toNat 100000/\0 <= i)(J:∀ r∈c.queue,xg c r.line=some (gB c r.line)):z0 c x i=some ((),(sY c x i,())):=by
 have⟨hg,hlen,L,hb⟩:=CS E;have O:dO c.config.az x=true:=by
  simp[m0,aO]at E;simp_all
 have b1:=fh c.config.az;have w:=h.eO x;have ht:=h.w.t;have hd:=h.w.d;have hr:=h.w.r;have SN:=h.tl;unfold z0 sY bu;rw[cQ (by simp;omega),ak,ay7 _ _ _ h.l1 h.l2,aq]
 refine(bH (λo=>Option.bind o _) (aBi L (λQ=>by have:=hb Q;exact⟨this.1,this.2⟩))).trans ?_
 rw[aq];rcases kinds L with q|q|q|q|q|q|q|q|q<;>rw[q]<;>simp only[Int.reduceBEq,Int.reduceBNe,ak,au,Bool.or_true,Bool.or_false,Bool.true_or,Bool.false_or,Bool.or_self]
 ·have⟨C,T⟩:=hb (by omega);have⟨U,Y⟩:=SM O q
  refine(bH (λo=>Option.bind o _) (aAI (c:=eO c x) x w.g w.a w.p h.u h.zt C (by show x.ax<aW c.config.az;omega) U Y (by show x.ax.toNat<c.bO.length;omega) (by show x.ax.toNat<c.guard.length;omega))).trans ?_
  rfl
 ·have⟨s,D⟩:=I (.inl q);have e:=akN (s.eO x) J;rw[Int.toNat_of_nonneg D]at e
  refine(bH (λo=>Option.bind o _) e).trans ?_
  rfl
 ·have⟨s,D⟩:=I (.inr q);have e:=akN (s.eO x) J;rw[Int.toNat_of_nonneg D]at e
  refine(bH (λo=>Option.bind o _) e).trans ?_
  rfl
 ·rfl
 ·have⟨C,T⟩:=hb (by omega);have⟨y,Z⟩:=aAy h.rf (b:=x.ax) C (by omega)
  refine(bH (λo=>Option.bind o _) (akq w.hB (eO c x) w.g w.a w.k w.p C (by show x.ax<aW c.config.az;omega) (by show x.ax.toNat<c.bO.length;omega) (by show x.ax.toNat<c.guard.length;omega))).trans ?_
  rw[aq]
  refine(bH (λo=>Option.bind o _) Z).trans ?_
  rfl
 ·have⟨y,e⟩:=Sx c.bg (k:=6) (by omega) c.now
  refine(bH (λo=>Option.bind o _) e).trans ?_
  rfl
 ·have⟨y,e⟩:=Sx c.bg (k:=7) (by omega) c.now
  refine(bH (λo=>Option.bind o _) e).trans ?_
  rfl
 ·have⟨y,e⟩:=Sx c.bg (k:=8) (by omega) c.now
  refine(bH (λo=>Option.bind o _) e).trans ?_
  rfl
 ·have⟨y,e⟩:=Sx c.bg (k:=9) (by omega) c.now
  refine(bH (λo=>Option.bind o _) e).trans ?_
  rw[aq]
  refine(bH (λo=>Option.bind o _) (aAN (c:=C7 (eO c x) 9) ⟨w.hB,w.g,w.a,w.k,w.p,w.t,w.d,w.r⟩ (by show (fO c.bq x).aC.length=c.bO.length;rw[ajA];omega) h.pk)).trans ?_
  rfl
def aBl{l m:aa Int}(h:l.length=m.length)(D:(l.zip m).all xB=true):(∀ x∈l,0 <= x/\x <= 100000) /\ ∀ x∈m,0 <= x/\x <= 100000:=by
 rw[cI]at D;have key:∀ i _ (E:i<m.length),(0 <= l[i]/\l[i] <= 100000)/\(0 <= m[i]/\m[i] <= 100000):=λi J E=>by
  have I:i<(l.zip m).length:=by rw[List.length_zip];omega
  have:=D _ (cU I);rw[List.getElem_zip]at this;simp[xB,aO,bx]at this;exact this
 constructor
 ·intro x C;obtain⟨i,hi,rfl⟩:=jA.1 C
  grind
 ·intro x C;obtain⟨i,hi,rfl⟩:=jA.1 C;simp_all
def dY.rV{g:aM}{a:dm}(h:mW g a=true):dY g 100000 a:=by
 simp only[mW,aO,gK]at h;have⟨T,C,D,E,I,J⟩:=h;have⟨L,O⟩:=aBl (by omega) J
 refine⟨C,λc Q=>?_,D,E,L,O⟩
 exact Sy.of (cI.1 I c Q)
def Bs.of{c:av}(D:cW c)(h:c8 c=true)(I:c.trace.length<10000):Bs c:=by
 have E:=Pq.of D h;have z1:c.box.bV.weights.length <= 1048576:=D.1.1;have h0:=h;simp only[c8,aO]at h;have⟨J,h2,h3,h4,L,O,h7,h8,C,h10,Sr,kz,kX,mE,nD,jL,qU,r6,r7,vT,vU,vV⟩:=h;have⟨f1,f2⟩:=F1 (by omega) J;simp only[nU,aO]at f1;simp only[sP,aO,fI,gT,qQ,cI,fq]at C;have⟨C,Q,T,U,g4,g5,Y⟩:=C;have uI:=E.pl;have⟨Z,rl,ra⟩:=Sc L;have b1:=fh c.config.az
 refine⟨⟨by decide,Z,dY.rV O,f1.2.2.2.2.2.1,by omega,T,U,Q⟩,λi hi=>?_,λa ha=>?_,D.2.2.2.2.2.2.1.2,C,E.p.bl,by omega,by omega,I⟩
 ·have hb:=Y i hi;unfold Ay at hb
  grind
 ·have⟨_,k1,k2,_⟩:=rO (E.pe a ha);simp_all
def oO.of{c:av}(J:cW c)(h:c8 c=true){n:Nat}(L:n<c.queue.length)(C:c.cz.length <= 1000):oO c n 100000:=by
 have D:=Pq.of J h;simp[c8,aO]at h;have⟨T,U,Y,Z,h5,O,h7,h8,h9,E,Sr,kz,kX,mE,nD,jL,qU,r6,r7,Q,vU,vV⟩:=h;simp[iU,aO,cI,fq]at E;have⟨I,q2⟩:=E
 refine⟨λr C=>SJ D C,λr C=>(D.q r C).2.1,D.ql,D.sh,D.shl,λi hi=>?_,L,λr C=>?_,dY.rV O,Q,C⟩
 ·cases i with
  |zero=>simp
  | succ i=>
   have hb:=I _ hi;rw[LW hi]at hb;simp_all
 ·obtain⟨i,hi,rfl⟩:=jA.1 C;have hb:=I i hi;unfold rR at hb;rw[bX hi]at hb;simp[pN,R3,aO,bx]at hb;simp_all
def rW{g:aM}{B:Int}{a:dm}(h:dY g B a):Sh a:=by
 have D:=h.cells;have E:=h.bz;have I:=h.br;have J:=lH g;have L:=pJ g;exact⟨⟨by omega,λc C=>by unfold Sg;rw[(h.syms c C).1];omega⟩,by omega,by omega⟩
def Z8{l:aa cr}(h:l.length <= 1048576 /\ ∀y∈l,jw y){t:cr}(C:jw t)(i:Nat):(l.set i t).length <= 1048576 /\ ∀y∈l.set i t,jw y:=by grind
def akQ{k:Int}(h:aL k 1 16=true):jw (xT k):=by
 have:=bx.1 h;unfold xT jw
 grind
def aBm{t:cr}(h:jw t)(row dx:Int):jw (ur t row dx).1:=by
 have hl:=ZX (t:=t) row;unfold jw at h ⊢;unfold ur
 grind
def aBn{c:av}(E:cW c)(I:c.ready.bf.length <= 4)(ht:c.trace.length <= 10000)(x:aH):cW (eO c x):=by
 have⟨J,C,⟨L,z4⟩,O,Q,T,U,Y,Z,jx,iV,iW,gP,jj⟩:=E;have D:=azd c.config.az c.ready ⟨c.now,x⟩;refine⟨J,by unfold ZD at C ⊢;show (fO _ x).aC.length <= _;rw[ajA];exact C,⟨by show (ue _ _ _).last.length <= _;rw[D.1];exact L,Nat.le_trans (D.2 I) (by decide)⟩,O,Q,T,U,Y,Z,jx,iV,iW,by simp[eO];omega,jj⟩
def SO{c:av}(D:cW c){a:dm}(E:Sh a){r:cY}(I:xK r){t:aa cr}(J:t.length <= 1048576 /\ ∀ y∈t,jw y){C:aa Int}(L:C.length <= 1048576){pd:aa aK}(O:pd.length <= 1048576)(pw:eR):cW ⟨c.config,c.box,c.now,c.bq,c.ready,a,c.spare,r,t,C,pd,c.queue,c.shares,c.drain,pw,c.cM,c.errors,c.trace,c.cz⟩:=by
 have⟨Q,T,U,z5,Y,z7,z8,z9,iJ,Z,iV,iW,gP,jj⟩:=D;exact⟨Q,T,U,E,Y,I,J,L,O,Z,iV,iW,gP,jj⟩
def aBo{c:av}(C:cW c)(h:uw 100000 c)(x:aH)(D:0 <= x.ax)(E:x.ax<aW c.config.az)(I:0 <= x.row)(J:x.row<c.config.az.rows):cW (uv c x):=by
 have zt:=C.2.2.2.2.2.2.1;have hb:x.ax.toNat<c.bO.length:=by have:=h.t;omega
 have L:=h.p;refine SO C (rW (ZI h.g _ h.hB h.a D E I J)) C.2.2.2.2.2.1 (Z8 zt ?_ _) C.2.2.2.2.2.2.2.1 ?_ _
 ·unfold sV;rw[mB];exact aBm (zt.2 _ (cU hb)) _ _
 ·have O:(oM c x).length <= c.pending.length:=List.length_filter_le _ _;have Q:=Z0 c.config.az.rows x.row;have T:=Sz x.ax (mA c.config.az.rows x.row) (oM c x)
  grind
def akR(r:cY)(b:Int):(vJ r b).aJ.length=r.aJ.length:=by
 unfold vJ;cases decide (r.aJ.getD b.toNat 0 = -2)<;>simp
def aBp{c:av}(C:cW c)(h:uw 100000 c){b:Int}(D:0 <= b)(E:b<aW c.config.az):cW (SL c b):=by
 have⟨_,_,_,_,I,J,L,O⟩:=fo h.g;have zt:=C.2.2.2.2.2.2.1;have Q:=h.p;have T:=Z1 (λa:aK=>!(a.ax==b)) c.pending;exact SO C (rW (F2 h.g _ h.hB h.a D E _ (by omega))) (by unfold xK;rw[akR];exact C.2.2.2.2.2.1) (Z8 zt (akQ h.k) _) (by show (c.guard.set _ _).length <= _;rw[jk];exact C.2.2.2.2.2.2.2.1) (by show (c.pending.filter _).length <= _;omega) _
def akS{l:aa cr}(h:l.length<=1048576/\∀ y∈l,jw y){t:cr}(C:jw t):∀ k:Nat,((List.range k).foldl (λd b=>d.set b t) l).length<=1048576/\∀ y∈(List.range k).foldl (λd b=>d.set b t) l,jw y
 |0=>h
 |k+1=>by rw[xV];exact Z8 (akS h C k) C k
def aBq{c:av}(C:cW c)(h:uw 100000 c)(k:Nat)(D:(k:Int)<=aW c.config.az):cW (gv c k []):=
 SO C (rW (SA h.g c.config.dU h.hB h.a k D)) (by unfold xK;rw[xW];exact C.2.2.2.2.2.1) (akS C.2.2.2.2.2.2.1 (akQ h.k) k) (by rw[xW];exact C.2.2.2.2.2.2.2.1) (by simp) c.bg
def Z9{l:aa cv}(n code:Int):(sX l n code).length <= l.length+1:=by
 unfold sX
 grind
def akT{c:av}(I:cW c){i:Nat}(h:oO c i 100000):cW (uA c i):=by
 have⟨J,L,O,z5,Q,T,U,Y,Z,jx,iV,iW,gP,jj⟩:=I;have hi:=h.i;have hql:=h.ql;have hr:=h.r;have⟨f1,f3,f4,f5,f6,f7,f8⟩:=h.facts (cU hi);have C:c.queue.getD i vN=c.queue[i]:=mB _ hi;have D:=h.d _ (cU hi);have WW:(AL c.shares c.queue[i].dI).length <= 1048576:=by
  have⟨y,t,e,hl⟩:=ZT ((List.replicate 4 false).set c.queue[i].dI.toNat true) (by have:=h.shl;omega) h.sh (by simp[h.shl])
  grind
 have jb:c.errors.length <= 6:=by
  have E:=h.e;simp only[kI,aO,gK]at E;omega
 have key:∀ (a:dm) (e:aa cv) (x:eM),Sh a -> e.length <= 100 -> cW (oN c i a e x):=λa e x ha E=>
  ⟨J,L,O,ha,Q,T,U,Y,Z,by simp[oN];omega,by unfold oN;rw[C];exact WW,by show e.length <= _;omega,gP,by simp[oN];omega⟩
 unfold uA;rw[C];dsimp only;cases c.queue[i].write with
 |true=>exact key _ _ _ (rW (h.a.Az _ (c:=⟨_,false⟩) (Mm D.1 D.2).2.1)) (by omega)
 | false=>
  rw[au,mB _ f4];refine key _ _ _ (rW (h.a.Az _ (SD (h.a.syms _ (cU f4))))) ?_;have:=Z9 (l:=c.errors) (ic c.config.az (gB c c.queue[i].line):Int) (jY c.array.cells[ic c.config.az (gB c c.queue[i].line)]);cases jY c.array.cells[ic c.config.az (gB c c.queue[i].line)] != 0 with
  |true=>grind
  |false=>grind
def akU{c:av}(J:cW c)(h:Bs c)(L:c.ready.bf.length <= 4){x:aH}(E:m0 c.config.az c.bq x=true){i:Int}(I:x.kind=2 \/ x.kind=3 -> oO c i.toNat 100000/\0 <= i):cW (sY c x i):=by
 have⟨Z,hlen,O,hb⟩:=CS E;have Q:dO c.config.az x=true:=by
  simp[m0,aO]at E;simp_all
 have w:=h.eO x;have ht:=h.w.t;have SN:=h.tl;have z:=aBn J L (by omega) x;have C:∀k,cW (C7 (eO c x) k):=λk=>SO z z.2.2.2.1 z.2.2.2.2.2.1 z.2.2.2.2.2.2.1 z.2.2.2.2.2.2.2.1 z.2.2.2.2.2.2.2.2.1 _
 unfold sY;rcases kinds O with q|q|q|q|q|q|q|q|q<;>rw[q]<;>simp
 ·have⟨D,T⟩:=hb (by omega);have⟨U,Y⟩:=SM Q q;exact aBo z w x D (by show _<aW c.config.az;omega) U Y
 ·exact akT z ((I (.inl q)).1.eO x)
 ·exact akT z ((I (.inr q)).1.eO x)
 ·exact z
 ·have⟨D,T⟩:=hb (by omega);exact aBp z w D (by show x.ax<aW c.config.az;omega)
 ·exact C 6
 ·exact C 7
 ·exact C 8
 ·exact aBq (C 9) ⟨w.hB,w.g,w.a,w.k,w.p,w.t,w.d,w.r⟩ _ (by show (c.bO.length:Int) <= aW c.config.az;omega)
def n5(c:av)(b:Int):Bool:=decide (c.aQ.aJ.getD b.toNat 0 >= 4)
def Mq(c:av)(b:Int):Bool:=c.pending.any λa=>a.ax==b
def nc(c:av)(i:Nat):aH:=C2 c.bq (fD c i) (qL c.queue i)
def SP(c:av)(i:Nat):Bool:=decide (c.now-(lK c i).at_<c.box.bV.cap)
def kN(c:av)(i:Nat):Bool:=
 gR c i&&(!n5 c (fD c i).ax&&(dy c (nc c i)&&(!(((nc c i).kind==1 ||(nc c i).kind==4)&&Mq c (fD c i).ax) && !((nc c i).kind==4&&(xY c c.queue.length (fD c i).ax&&SP c i)))))
def aBr{l:aa Int}{b:Int}(C:0 <= b)(h:b.toNat<l.length):∀ i:Nat,(((i:Int)+b)∈cG i l) ↔ l.getD b.toNat 0 >= 4:=by
 obtain⟨n,rfl⟩:=eX C;rw[bB]at *
 clear C
 induction l generalizing n with
 |nil=>simp at h
 | cons d l E=>
  intro i;have I:∀ x∈cG (i+1) l,(i:Int)+1 <= x:=λx D=>by
   have⟨j,J,_,_⟩:=aj8 D;omega
  have e:cG i (d::l)=bif decide (d >= 4)then (i:Int)::cG (i+1) l else cG (i+1) l:=rfl
  grind
def aaa{c:av}{b:Int}(hl:c.aQ.aJ.length <= 8)(C:0 <= b)(h:b.toNat<c.aQ.aJ.length):vp (cG 0 c.aQ.aJ) b=some (n5 c b):=by
 have E:=C1 0 c.aQ.aJ;have D:=aBr C h 0;rw[cq,Int.zero_add]at D;unfold vp;rw[R6 _ _ (by omega),aq];congr 1;unfold n5 gu
 grind
def SQ{c:av}{b:Int}(hl:c.aQ.aJ.length <= 8)(C:0 <= b)(h:b.toNat<c.aQ.aJ.length):Cl c b=some (n5 c b):=by
 unfold Cl n5 xI;simp_all
def akV{c:av}(h:Pq c){i:Nat}(hi:i<c.queue.length):dO c.config.az (nc c i)=true:=aAr _ (C6 h hi).1
def rX(c:av):Nat->aa Bool
 |0=>List.replicate 4 false
 |k+1=>bif kN c k then (rX c k).set (lK c k).dI.toNat true else rX c k
def SR(c:av):∀ k,(rX c k).length=4
 |0=>rfl
 | k+1=>by
  have C:=SR c k;show (bif kN c k then _ else _:aa Bool).length=4
  grind
def aBs{c:av}{O:aa Int}{L:aa aK}{Z:Int×Int×Int×Int×af}{P:Int×Int×Int×Int×Int×(aa Int)×Int×Int×af}{I iK Q wait:aa Bool}{hb:aa (Int×Bool)}{T:aa aH}{k:Nat}{r:aX}{a:aK}{nd:aH}{ct rd ib:Bool}(hq:c.queue.length<=12)(hk:k<c.queue.length)(Y:c.queue[k]=r)(h2:k<L.length)(ha:L[k]=a)(h3:k<I.length)(C:k<Q.length)(h5:T.length=k)(D:0<=r.dI)(E:r.dI.toNat<wait.length)(e1:xq c.bq a r.write=some nd)(e2:vp O a.ax=some ct)(e3:iT c nd=some rd)(e4:CD c.pending a.ax=some ib)(b1:0<=r.at_/\r.at_<=1000000)(b2:0<=c.now/\c.now<=1000000):
  CF ((O,L,(),(),(),(),(),(),(),(),(),c.queue,(c.queue.length:Int),(k:Int),()),(c,Z,P,I,iK,hb,T,Q,wait,()))=some (.inl ((O,L,(),(),(),(),(),(),(),(),(),c.queue,(c.queue.length:Int),((k+1:Nat):Int),()),(c,Z,P,I,iK,hb,T++[nd],Q.set k (I[k]&&(!ct&&(rd&&(!((nd.kind==1 ||nd.kind==4)&&ib) && !(nd.kind==4&&(mP hb a.ax&&decide (c.now-r.at_<P.2.1))))))),(bif (I[k]&&(!ct&&(rd&&(!((nd.kind==1 ||nd.kind==4)&&ib) && !(nd.kind==4&&(mP hb a.ax&&decide (c.now-r.at_<P.2.1)))))))then wait.set r.dI.toNat true else wait),()))):=by
 have hw:W6 (c.now-r.at_)=c.now-r.at_:=aR;unfold CF ay xG xI xL;dsimp only;rw[aS,ak,aA ⟨by omega,by omega⟩,aA ⟨by omega,by omega⟩,aA ⟨by omega,by omega⟩];simp only[bB,Y,ha,e1,aq,h5,jz,cQ (show k+1<1073741824 by omega),ak,e2,e3,e4,hw,bD (show k<4611686018427387904 by omega)];by_cases J:nd.kind=1
 ·have k4:(nd.kind==(4:Int))=false:=by rw[J];rfl
  have J:(nd.kind==(1:Int))=true:=by rw[J];rfl
  simp only[J,k4,ak,au,Bool.true_or,cJ,Bool.false_and,iq,Bool.and_true];rw[aA ⟨by omega,by omega⟩,aA];cases I[k]<;>cases ct<;>cases rd<;>cases ib<;>simp[C,D,E]
 ·have J:(nd.kind==(1:Int))=false:=by simpa using J
  simp only[J,au,Bool.false_or];rw[aA ⟨by omega,by omega⟩,aA];cases nd.kind==(4:Int)with
  |false=>cases I[k]<;>cases ct<;>cases rd<;>cases ib<;>simp[C,D,E]
  | true=>
   cases I[k]with
   |false=>simp[C,D,E]
   | true=>
    cases ct with
    |true=>simp[C,D,E]
    | false=>
     cases rd with
     |false=>simp[C,D,E]
     | true=>
      cases ib with
      |true=>simp[C,D,E]
      | false=>
       cases mP hb a.ax with
       |false=>simp[C,D,E]
       | true=>
        by_cases U:c.now-r.at_<P.2.1
        ·simp[C,D,E,U]
        ·simp[C,D,E,U]
def aab(y x:aH):Bool:=(y.kind==x.kind)&&((y.ax==x.ax)&&((y.row==x.row)&&((y.bT==x.bT)&&true)))
def Mr(c:av)(x:aH)(i:Int):Bool:=aL i 0 ((c.queue.length:Int)-1)&&(decide ((c.cz.length:Int)<400)&&aab (C2 c.bq (gB c (c.queue.getD i.toNat vN).line) (c.queue.getD i.toNat vN).write) x)
def uB(c:av)(x:aH)(i:Int):Bool:=dO c.config.az x&&(dy c x&&(!decide ((c.trace.length:Int) >= 2000)&&bif x.kind==2 ||x.kind==3 then Mr c x i else i == -1 ||aL i 0 ((c.queue.length:Int)-1)))
def aac{c:av}(h:Pq c){i:Int}(hi:aL i 0 ((c.queue.length:Int)-1)=true):∃ C:i.toNat<c.queue.length,0 <= i/\c.queue.getD i.toNat vN=c.queue[i.toNat]/\vo c c.queue[i.toNat].line=some (gB c c.queue[i.toNat].line,true)/\xq c.bq (gB c c.queue[i.toNat].line) c.queue[i.toNat].write=some (C2 c.bq (gB c c.queue[i.toNat].line) c.queue[i.toNat].write):=by
 have hb:=bx.1 hi;have C:i.toNat<c.queue.length:=by omega
 have⟨D,E⟩:=SJ h (cU C);have⟨_,I,J,_⟩:=rO E;have L:=h.p.bl;have O:=fh c.config.az;exact⟨C,hb.1,mB _ C,D,Su _ I (by omega) (by omega)⟩
def aBt{c:av}(h:Pq c)(x:aH)(i:Int):zV c x i=some (uB c x i):=by
 have O:=h.ql;unfold zV uB;rw[ajw,aq];cases J:dO c.config.az x with
 |false=>rfl
 |true=>
 rw[bF,au,Ss h.p J,aq];cases dy c x with
 |false=>rfl
 |true=>
 rw[bF,au];cases decide ((c.trace.length:Int) >= 2000)with
 |true=>rfl
 |false=>
 rw[au,cJ,cJ,iq,cJ,eE,aR (n:=(c.queue.length:Int)-1),aq];unfold Mr;have nd:zU=xq:=rfl;cases hi:aL i 0 ((c.queue.length:Int)-1)with
 | true=>
  have⟨D,E,L,f1,f3⟩:=aac h hi;have f2:=Z6 h (cU D);rw[gH (show ¬ i = -1 by omega),ak,bF,au,aS (show i >= 0 from E),cJ,Bool.or_true,L];by_cases C:x.kind=2
  ·rw[show (x.kind != 2)=false by rw[C];rfl,show (x.kind==2)=true by rw[C];rfl,au,ak,Bool.true_or,ak];cases decide ((c.cz.length:Int)<400)with
   |false=>rfl
   | true=>
    rw[ aA ⟨E,D⟩,aA ⟨E,D⟩];rw[f2,aq,nd,f3];rfl
  ·rw[gH C,jV C,ak,Bool.false_or];by_cases I:x.kind=3
   ·rw[show (x.kind != 3)=false by rw[I];rfl,show (x.kind==3)=true by rw[I];rfl,au,ak,ak];cases decide ((c.cz.length:Int)<400)with
    |false=>rfl
    | true=>
     rw[ aA ⟨E,D⟩,aA ⟨E,D⟩];rw[f2,aq,nd,f3];rfl
   ·grind
 | false=>
  rw[Bool.false_and,iq,ak,Bool.or_false];by_cases e:i = -1
  ·subst e;rw[bne_self_eq_false,au,ni,show decide ((-1:Int) >= 0)=false from rfl,au];by_cases C:x.kind=2
   ·simp_all
   ·rw[gH C,jV C,ak,Bool.false_or];by_cases I:x.kind=3
    ·simp_all
    ·grind
  ·grind
def aBu{c:av}(L:cW c)(h:Pq c)(x:aH)(i:Int):qA c x i=bif uB c x i then (Lc c x i).bind (λy=>some (y.2.1,true))else some (c,false):=by
 have T:=h.ql;unfold qA uB xI;rw[Sk c L,aq,Si c L,aq,h.p.ok,bF,au];cases O:dO c.config.az x with
 | false=>
  have e:iT c x=some false:=by
   unfold iT;rw[Zt,O,Bool.false_and,Bool.and_false];rfl
  rw[e];rfl
 |true=>
 rw[xR h.p O,aq];cases dy c x with
 |false=>rfl
 |true=>
 rw[bF,au];cases decide ((c.trace.length:Int) >= 2000)with
 |true=>rfl
 |false=>
 rw[au,cJ,cJ,iq,cJ,dF,aR (n:=(c.queue.length:Int)-1),aq];unfold Mr;cases hi:aL i 0 ((c.queue.length:Int)-1)with
 | true=>
  have⟨C,D,Q,f1,f3⟩:=aac h hi;rw[gH (show ¬ i = -1 by omega),bF,au,ak,au,cJ,Bool.or_true,Q];by_cases E:x.kind=2
  ·rw[show (x.kind==2)=true by rw[E];rfl,ak,Bool.true_or,ak];by_cases I:(c.cz.length:Int)<400
   ·rw[aS I,bh (show ¬ (c.cz.length:Int) >= 400 by omega),au,aA ⟨D,C⟩];dsimp only;rw[f1,aq,aA ⟨D,C⟩,f3,aq];unfold aab
    grind
   ·grind
  ·rw[jV E,au,Bool.false_or];by_cases J:x.kind=3
   ·rw[show (x.kind==3)=true by rw[J];rfl,ak,ak];by_cases I:(c.cz.length:Int)<400
    ·rw[aS I,bh (show ¬ (c.cz.length:Int) >= 400 by omega),au,aA ⟨D,C⟩];dsimp only;rw[f1,aq,aA ⟨D,C⟩,f3,aq];unfold aab
     grind
    ·grind
   ·grind
 | false=>
  rw[Bool.false_and,iq,ak,Bool.or_false];by_cases E:x.kind=2
  ·simp_all
  ·rw[jV E,au,Bool.false_or];by_cases J:x.kind=3
   ·simp_all
   ·rw[jV J,au,au];by_cases e:i = -1
    ·simp_all
    ·grind
def aad{c:av}(D:cW c)(h:Pq c){x:aH}{i:Int}(E:uB c x i=true):Bs c/\m0 c.config.az c.bq x=true/\(x.kind=2 \/ x.kind=3 -> oO c i.toNat 100000/\0 <= i)/\c.ready.bf.length <= 4:=by
 simp only[uB,aO,gT,qQ]at E;have⟨J,I,T,C⟩:=E;simp[dy,aO]at I
 refine⟨Bs.of D h.p.ok (by omega),?_,λL=>?_,(Sc h.p.rdy).2.2⟩
 ·unfold m0;rw[h.p.rk,J,I.1];rfl
 ·have e:(x.kind==2 || x.kind==3)=true:=by rcases L with q | q <;>rw[q] <;>rfl
  rw[e,ak]at C;simp[Mr,aO,gK]at C;have⟨O,Q,_⟩:=aac h C.1;exact⟨oO.of D h.p.ok O (by omega),Q⟩
structure Ck (c:av):Prop where
 f1:lJ c.config c.box.bV=true
 f2:lJ c.config c.box.next=true
 nw:aL c.now 0 1000000=true
 rk:mZ c.config.az c.bq=true
 rd:kK c.config.az c.ready=true
 ar:mW c.config.az c.array=true
 sp:kL c.config.az c.spare=true
 se:c.spare.bP=c.config.bP
 rf:eA c.aQ=true
 pa:sP c=true
 qu:iU (ez (eJ c.config.az c.spare)) c.queue=true
 sh:gN c.shares=true
 sl:(c.shares.length:Int)=4
 dr:kH c.drain=true
 pw:iL c.bg=true
 ps:c.bg.state=c.bq.bg
 si:c.bg.since<=c.now
 s1:aL c.cM.every 1 100000=true
 s2:aL c.cM.wait 1 c.cM.every=true
 s3:aL c.cM.next 0 (W6 (ez c.config.az-1))=true
 er:kI c.errors=true
 tr:c.trace.length<=2000
 rp:c.cz.length<=400
def Ck.of{c:av}(h:c8 c=true):Ck c:=by
 simp[c8,aO,fI,gK,gT,qQ]at h;have⟨C,D,E,I,J,L,O,Q,⟨T,U⟩,Y,Z,kz,kX,mE,nD,jL,qU,r6,r7,vT,vU,vV⟩:=h;exact⟨C,D,E,I,J,L,O,Q,T,U,Y,Z,kz,kX,mE,nD,by omega,qU,r6,r7,vT,by omega,by omega⟩
def Ck.ok{c:av}(h:Ck c):c8 c=true:=by
 have⟨C,D,E,I,J,L,O,Q,T,U,Y,Z,kz,kX,mE,nD,jL,qU,r6,r7,vT,vU,vV⟩:=h;simp[c8,aO,fI,gK,gT,qQ]
 grind
def akW:∀ (l:aa Nat) (a:Nat),l.Pairwise (λx y=>x≠y) -> l.length <= (l.filter (λx=>decide (x≠a))).length+1
 |[],a,_=>by simp
 | x :: l,a,h=>by
  have⟨C,D⟩:=List.pairwise_cons.1 h;by_cases e:x=a
  ·subst e;have:(x :: l).filter (λy=>decide (y≠x))=l:=by
    rw[List.filter_cons_of_neg (by simp)];exact List.filter_eq_self.2 λy E=>by simpa using (C y E).symm
   grind
  ·rw[List.filter_cons_of_pos (by simpa using e)];have:=akW l a D;simp only[List.length_cons];omega
def pig:∀ (n:Nat) (l:aa Nat),(∀ x∈l,x<n)->l.Pairwise (λx y=>x≠y)->l.length<=n
 | 0,l,h,_=>by
  cases l with
  |nil=>simp
  |cons x l=>exact absurd (h x (.head _)) (by omega)
 | n+1,l,h,C=>by
  have E:=akW l n C;have I:=pig n (l.filter (λx=>decide (x≠n))) (λx D=>by
   have:=List.mem_filter.1 D;have J:=h x this.1;have L:x≠n:=by simpa using this.2
   omega) (C.filter _)
  omega
def vL.pw{l:aa aK}(h:vL l):l.Pairwise (λx y=>x≠y):=by
 rw[List.pairwise_iff_getElem];intro i j hi D I e;have C:=h j D;rw[mC]at C;have E:l[i]∈l.take j:=by
  rw[List.mem_take_iff_getElem]
  grind
 exact C _ E (Mj.2 e.symm)
def vL.mk{l:aa aK}(h:l.Pairwise (λx y=>x≠y)):vL l:=by
 rw[List.pairwise_iff_getElem]at h;intro j C;rw[mC];intro x D e;obtain⟨i,hi,rfl⟩:=List.mem_take_iff_getElem.1 D;exact h i j _ C (by omega) (Mj.1 e).symm
structure fE (c:av):Prop where
 dl:(c.aQ.aJ.length:Int)=aW c.config.az
 tl:(c.bO.length:Int)=aW c.config.az
 gl:(c.guard.length:Int)=aW c.config.az
 t:∀x∈c.bO,kJ x=true
 g:∀x∈c.guard,3<=x/\x<=1000
 pd:∀a∈c.pending,dK c.config.az a=true/\a.bT=0
 u:c.pending.Pairwise (λx y=>x≠y)
def fE.of{c:av}(h:sP c=true):fE c:=by
 simp[sP,aO,fI,cI,fq]at h;have⟨E,I,J,Y,L,O⟩:=h;have key:=λi C Q=>by
  have:=L i C;unfold partAt at this;rw[bX C,bX Q,aO,bx]at this;exact this
 have T:∀ i _,dK _ c.pending[i]=true/\c.pending[i].bT=0/\(c.pending.take i).any _=false:=λi C=>by
  have:=O i C;unfold Ay at this;rw[bX C]at this
  simpa [aO]using this
 refine⟨E,I,J,λx D=>?_,λx D=>?_,λa U=>?_,vL.pw λi hi=>(T i hi).2.2⟩
 ·obtain⟨i,hi,rfl⟩:=jA.1 D
  grind
 ·obtain⟨i,hi,rfl⟩:=jA.1 D
  grind
 ·obtain⟨i,hi,rfl⟩:=jA.1 U;simp[*]
def aBv{g:aM}{l:aa aK}(D:∀ a∈l,dK g a=true/\a.bT=0)(J:l.Pairwise (λx y=>x≠y)):l.length <= 128:=by
 have E:∀ a∈l,0 <= a.ax/\a.ax<8/\0 <= a.row/\a.row<16:=λa C=>by
  have⟨I,Q,T,U,Y,_⟩:=rO (D a C).1;have Z:=fh g;have b2:=fo I;omega
 have I:=pig 128 (l.map λa=>(a.ax*16+a.row).toNat) (λx L=>by
  obtain⟨a,C,rfl⟩:=List.mem_map.1 L;have:=E a C;omega) (by
  rw[List.pairwise_map]
  refine J.imp_of_mem λ{a b} C hb O e=>O ?_
  have r1:=E a C;have r2:=E b hb;have c1:=(D a C).2;have c2:=(D b hb).2;cases a;cases b;simp only at *
  congr 1<;>omega)
 simp_all
def fE.ok{c:av}(h:fE c):sP c=true:=by
 have⟨E,I,J,Q,T,C,D⟩:=h;have hl:=aBv C D;have L:=vL.mk D;simp[sP,aO,fI,gT,qQ,cI,fq]
 refine⟨E,I,J,by omega,λi hi=>?_,λi hi=>?_⟩
 ·have O:i<c.guard.length:=by omega
  unfold partAt;rw[bX hi,bX O,aO,bx];simp_all
 ·unfold Ay;rw[bX hi];simp only[aO,fI,gT];exact⟨(C _ (cU hi)).1,(C _ (cU hi)).2,L i hi⟩
def aBw{g:aM}{b n:Int}{l:aa aK}(I:dK g ⟨b,n,0⟩=true)(J:∀ a∈l,dK g a=true/\a.bT=0)(C:l.Pairwise (λx y=>x≠y)):(∀ a∈m9 b l n,dK g a=true/\a.bT=0)/\(m9 b l n).Pairwise (λx y=>x≠y):=by
 unfold m9;cases h:l.any _ with
 |true=>simp_all
 | false=>
  rw[au];rw[mC]at h
  refine⟨λa L=>?_,?_⟩
  ·grind
  ·rw[List.pairwise_append]
   refine⟨C,List.pairwise_singleton _ _,λx D y E e=>?_⟩
   rw[oT.1 E]at e;exact h x D (Mj.2 e.symm)
def akX{g:aM}{b:Int}:∀ (ns:aa Int) {l:aa aK},(∀ n∈ns,dK g ⟨b,n,0⟩=true) -> (∀ a∈l,dK g a=true/\a.bT=0) -> l.Pairwise (λx y=>x≠y) -> (∀ a∈ns.foldl (m9 b) l,dK g a=true/\a.bT=0)/\(ns.foldl (m9 b) l).Pairwise (λx y=>x≠y)
 |[],l,_,C,D=>⟨C,D⟩
 | n :: ns,l,E,C,D=>by
  have⟨I,J⟩:=aBw (E n (.head _)) C D;exact akX ns (λm L=>E m (.tail _ L)) I J
def F5{T:Type}{p:T -> Prop}{l:aa T}{i:Nat}{x:T}(h:∀y∈l,p y)(C:p x):∀y∈l.set i x,p y:=by grind
def aBx{t:cr}(h:kJ t=true)(row dx:Int):kJ (ur t row dx).1=true:=by
 unfold ur
 grind
def akY{k:Int}(h:aL k 1 16=true):kJ (xT k)=true:=by
 have hb:=bx.1 h;simp only[kJ,xT,aO,fI,cI,nh,bx]
 refine⟨by omega,trivial,by omega,λi hi=>?_⟩
 rw[R7 (by simpa using hi) (by simpa using hi)];simp[aL]
def akZ{c:eT}{p:dJ}(hl:p.weights.length<1073741823)(h:lJ c p=true):3 <= p.eZ/\p.eZ <= 1000:=by
 have⟨_,f2⟩:=F1 hl h;simp[pM,aO,bx]at f2;simp_all
def sZ{g:aM}{a:dm}(C:cC g=true)(h:dY g 100000 a):mW g a=true:=by
 simp only[mW,aO,gK,cI]
 refine⟨C,h.cells,h.bz,h.br,λc D=>Sy.ok (h.syms c D),λp E=>?_⟩
 have⟨x,y⟩:=p;have⟨I,J⟩:=List.of_mem_zip E;simp[xB,aO,bx];exact⟨h.As x I,h.iK y J⟩
def aBy{g:aM}{c:aH}(h:dO g c=true):oK g (ji g c).toNat=true:=by
 have⟨E,D,hb,_⟩:=CR h;have⟨I,J⟩:=Zy h;unfold oK;unfold ji at *
 cases C:aL _ 1 5 with
 | true=>
  have C:=bx.1 C
  grind
 | false=>
  have L:¬ c.kind <= 5:=λh=>by rw[bx.2 ⟨D.1,h⟩]at C;cases C
  grind
def ak0{l:aa Int}(h:∀ i,i<l.length -> oL l i=true){i:Nat}(hi:i<l.length):aL l[i] 0 1000000=true:=by
 have:=h i hi;cases i with
 |zero=>rw[LZ]at this;exact this
 |succ i=>rw[FR,aO]at this;exact this.1
def ak1{l:aa Int}(h:∀ i,i<l.length -> oL l i=true){i:Nat}(hi:i+1<l.length):l[i]<l[i+1]:=by
 have:=h _ hi;rw[FR hi,aO,gT,qQ]at this;omega
def ak2{l:aa Int}(C:∀ i (hi:i<l.length),aL l[i] 0 1000000=true)(D:∀ i (hi:i+1<l.length),l[i]<l[i+1]):∀ i,i<l.length -> oL l i=true:=λi hi=>by
 cases i with
 |zero=>rw[LZ];exact C 0 hi
 | succ i=>
  have:=D i hi;rw[FR hi,aO,gT,qQ];simp_all
def aBz{l:aa Int}(h:∀ i,i<l.length -> oL l i=true){x:Int}(I:aL x 0 1000000=true)(hl:CV ⟨[],l⟩ x=false):∀ i,i<(l++[x]).length -> oL (l++[x]) i=true:=by
 refine ak2 (λi hi=>?_) λi hi=>?_
 ·by_cases C:i<l.length
  ·rw[List.getElem_append_left];exact ak0 h C
  ·grind
 ·have D:i<l.length:=by simp at hi;omega
  by_cases C:i+1<l.length
  ·rw[List.getElem_append_left C,List.getElem_append_left];exact ak1 h C
  ·have e:i+1=l.length:=by omega
   have E:(l++[x])[i+1]=x:=by simp[e]
   rw[E,List.getElem_append_left D];unfold CV at hl
   grind
def aBA{l:aa Int}(h:∀ i,i<l.length -> oL l i=true)(k:Nat):∀ i,i<(l.drop k).length -> oL (l.drop k) i=true:=by
 refine ak2 (λi hi=>?_) λi hi=>?_
 ·rw[List.getElem_drop];exact ak0 h _
 ·rw[List.getElem_drop,List.getElem_drop];rw[List.length_drop]at hi;exact ak1 h _
def ak3{g:aM}{r:dG}(e:eY)(h:kK g r=true):kK g (ue g r e)=true:=by
 unfold ue;cases C:kK g r&&(dO g e.cmd&&(aL e.at_ 0 1000000 && !(e.cmd.kind==1&&CV r e.at_)))with
 |false=>exact h
 | true=>
  rw[ak];simp only[aO,gT]at C;have⟨_,J,D,E⟩:=C;simp only[kK,aO,fI,gT,qQ,cI,fq]at h ⊢;have⟨L,O,Q,T,I⟩:=h
  refine⟨L,by rw[jk];exact O,?_,λi hi=>?_,?_⟩
  ·cases e.cmd.kind==1 with
   |false=>exact Q
   | true=>
    rw[ak];unfold CW
    grind
  ·rw[jk]at hi;have hb:=T i hi;rw[LY hi]at hb;rw[LY (by rw[jk];exact hi)];by_cases U:(ji g e.cmd).toNat=i
   ·subst U;rw[List.getElem_set_self,aBy J];have:=bx.1 D;rw[bx.2 ⟨by omega,by omega⟩];rfl
   ·simp_all
  ·cases Y:e.cmd.kind==1 with
   |false=>exact I
   | true=>
    rw[Y]at E;exact aBA (aBz I D E) _
structure Qk (n:Int) (q:List aX):Prop where
 r:∀x∈q,pN n x=true
 b:q.Pairwise λx y=>fR x y=true
 i:q.Pairwise λx y=>x.id≠y.id
 l:q.length<=12
def aBB{x y z:aX}(C:fR x y=true)(D:fR y z=true):fR x z=true:=by
 simp only[fR,eB,aO,gK,fI]at *
 omega
def Qk.of{n:Int}{q:aa aX}(h:iU n q=true):Qk n q:=by
 have I:=h;simp only[iU,aO,cI,fq,gK]at h;have⟨E,Q⟩:=h;have J:∀ x∈q,pN n x=true:=λx L=>by
  obtain⟨i,hi,rfl⟩:=jA.1 L;have:=E i hi;unfold rR at this;simp_all
 have hb:∀ j i (D:i<j) (C:j<q.length),fR q[i] q[j]=true:=by
  intro j
  induction j with
  |zero=>simp_all
  | succ j O=>
   intro i D C;have:=E (j+1) C;rw[LW C,aO,aO]at this;by_cases e:i=j
   ·simp_all
   ·exact aBB (O i (by omega) _) this.2.1
 refine⟨J,?_,?_,by omega⟩
 ·rw[List.pairwise_iff_getElem]
  grind
 ·rw[List.pairwise_iff_getElem];intro i j hi C D e;have:=azH I D C;simp_all
def Qk.ok{n:Int}{q:aa aX}(h:Qk n q):iU n q=true:=by
 have⟨C,D,E,J⟩:=h;rw[List.pairwise_iff_getElem]at D E;simp[iU,aO,cI,fq,gK]
 refine⟨λi hi=>?_,by omega⟩
 cases i with
 |zero=>rw[Zl hi];exact C _ (cU hi)
 | succ i=>
  rw[LW hi,aO,aO,gT];refine⟨C _ (cU hi),D i (i+1) (by omega) hi (by omega),?_⟩;rw[mC];intro x I e;obtain⟨k,L,rfl⟩:=List.mem_take_iff_getElem.1 I
  grind
def Qk.sub{n:Int}{q s:aa aX}(h:Qk n q)(C:s.Sublist q):Qk n s:=
 ⟨λx D=>h.r x (C.subset D),h.b.sublist C,h.i.sublist C,Nat.le_trans C.length_le h.l⟩
def ak4{T:Type}(l:aa T)(i:Nat):(l.take i++l.drop (i+1)).Sublist l:=by
 rw[<-List.eraseIdx_eq_take_drop_succ];exact List.eraseIdx_sublist l i
def aBC(e x:cv):Prop:=¬ (e.line=x.line/\e.code=x.code)
structure Ek (l:List cv):Prop where
 e:∀x∈l,xJ x=true
 k:l.Pairwise aBC
 l:l.length<=6
def aae{e x:cv}:lI e x=true ↔ x.line=e.line/\x.code=e.code:=by
 simp only[lI,aO,fI]
def Ek.of{l:aa cv}(h:kI l=true):Ek l:=by
 simp[kI,aO,cI,fq,gK]at h;have⟨D,J⟩:=h;have key:=λi hi=>by
  have:=D i hi
  rwa [R5 hi,aO,gT]at this
 refine⟨λx E=>?_,?_,by omega⟩
 ·obtain⟨i,hi,rfl⟩:=jA.1 E
  grind
 ·rw[List.pairwise_iff_getElem];intro i j hi I L e;have C:=(key j I).2;rw[mC]at C;exact C l[i] (List.mem_take_iff_getElem.2 ⟨i,by omega,rfl⟩) (aae.2 e)
def Ek.ok{l:aa cv}(h:Ek l):kI l=true:=by
 have⟨D,C,I⟩:=h;rw[List.pairwise_iff_getElem]at C;simp only[kI,aO,cI,fq,gK]
 refine⟨λi hi=>?_,by omega⟩
 rw[R5 hi,aO,gT];refine⟨D _ (cU hi),?_⟩;rw[mC];intro x E e;obtain⟨k,J,rfl⟩:=List.mem_take_iff_getElem.1 E;exact C k i (by omega) hi (by omega) (aae.1 e)
def aaf{l:aa cv}(h:kI l=true){n code:Int}(Z:0 <= n/\n <= 1023)(h2:code=1 \/ code=2):kI (sX l n code)=true:=by
 have C:=Ek.of h;have hl:=C.l;have aDt:xJ ⟨n,code,1⟩=true:=by
  simp[xJ,aO,eB,fI,bx];omega
 refine Ek.ok ?_;unfold sX;cases D:l.findIdx? (lI ⟨n,code,1⟩)with
 | some i=>
  have⟨hi,hp⟩:=Mh D;dsimp only;rw[mB _ hi];have O:=C.e _ (cU hi);have Q:xJ (SK l[i])=true:=by
   simp only[xJ,aO,bx]at O ⊢;unfold SK;dsimp only;rw[aR]
   grind
  refine⟨F5 C.e Q,?_,by rw[jk];exact hl⟩;have E:=C.k;rw[List.pairwise_iff_getElem]at E ⊢;intro a b I hb T;rw[jk]at I hb;have:=E a b I hb T;rw[List.getElem_set,List.getElem_set];by_cases J:i=a
  ·subst J
   rwa [bA rfl,bM]
  ·rw[bM J];by_cases U:i=b
   ·subst U
    rwa [bA rfl]
   ·simp[*]
 | none=>
  have hn:∀ x∈l,¬ (x.line=n/\x.code=code):=λx hx e=>by
   have:=List.findIdx?_eq_none_iff.1 D x hx;rw[aae.2 e]at this;cases this
  have app:∀ m:aa cv,m.Sublist l -> m.length <= 5 -> Ek (m++[⟨n,code,1⟩]):=λm L hml=>by
   refine⟨λx hx=>?_,?_,by rw[List.length_append,jz];omega⟩
   ·rcases List.mem_append.1 hx with hx | hx
    ·exact C.e x (L.subset hx)
    ·rwa [oT.1 hx]
   ·rw[List.pairwise_append]
    refine⟨C.k.sublist L,List.pairwise_singleton _ _,λx hx y Y e=>?_⟩
    rw[oT.1 Y]at e
    grind
  dsimp only;by_cases e6:l.length=6
  ·grind
  ·rw[jV (show ¬ (l.length:Int)=6 by omega),au]
   grind
def ak5{l:aa cw}(h:∀ s∈l,nW s=true){k:Nat}(C:k<l.length)(E:1<=l[k].fy):∀ s∈l.set k ⟨l[k].weight,W6 (l[k].fy-1)⟩,nW s=true:=by
 have D:=h _ (cU C);simp only[nW,aO,bx]at D;rw[aR (n:=l[k].fy-1)];refine F5 h ?_;simp only[nW,aO,bx];omega
def aBD{l:aa cw}(w:aa Bool)(hl:l.length<1073741823)(D:gN l=true)(hw:l.length=w.length):∃ y t,qz l w=some (y,t)/\y.length=l.length/\gN y=true:=by
 have mk:∀ y:aa cw,y.length=l.length -> (∀ s∈y,nW s=true) -> y.length=l.length/\gN y=true:=λy C U=>by
  refine⟨C,?_⟩;simp[gN,aO,cI]at D ⊢;exact⟨U,by rw[C];exact D.2⟩
 have E:∀ s∈l,nW s=true:=by
  simp only[gN,aO,cI]at D;exact D.1
 unfold qz xA xC bu xL xZ;have hb:=vH (λi=>w.getD i false) (λi=>(l.getD i ⟨0,0⟩).fy) (min l.length w.length);have L:(iX l).length=l.length:=by simp[iX]
 have Y:=vH (λi=>w.getD i false) (λi=>((iX l).getD i ⟨0,0⟩).fy) (min (iX l).length w.length);have Z:=ZQ (λi=>w.getD i false) (λi=>(l.getD i ⟨0,0⟩).fy) (min l.length w.length);rw[kj,Me l w (by omega),aq,LS _ (by omega),aq,D,bF,au,List.length_nil,fj,cQ,ak];unfold uq;generalize hr:kM (λi=>w.getD i false) (λi=>(l.getD i ⟨0,0⟩).fy) (min l.length w.length)=b at *
 by_cases O:b<0
 ·rw[aS O];exact⟨_,_,rfl,mk _ rfl E⟩
 ·have C:b.toNat<l.length:=by omega
  rw[bh O,au,aA ⟨by omega,C⟩,aA C];dsimp only;have hsb:=E _ (cU C);simp only[nW,aO,bx]at hsb;cases Q:l[b.toNat].fy==0 with
  | false=>
   have Q:¬ l[b.toNat].fy=0:=by simpa using Q
   rw[ aA ⟨by omega,C⟩,aA C,aA ⟨by omega,C⟩,aA C];exact⟨_,_,rfl,mk _ (by simp) (ak5 E C (by omega))⟩
  | true=>
   have aBE:∀ s∈iX l,nW s=true:=λs D=>by
    obtain⟨x,J,rfl⟩:=List.mem_map.1 D;have:=E x J;simp[nW,aO,bx,sU]at this ⊢;omega
   rw[ak,ZS l w (by omega),aq];simp only[ef];rw[Me _ w (by omega),aq];have T:0 <= uq (iX l) w:=ZR _ (i:=b.toNat) (by rcases Z with h|h;exact absurd h (by omega);exact h) _ (by rw[L];omega);have hq:uq (iX l) w<((min (iX l).length w.length:Nat):Int):=Y.2;have I:(uq (iX l) w).toNat<(iX l).length:=by omega
   have h4:1 <= (iX l)[(uq (iX l) w).toNat].fy:=by
    have ei:(uq (iX l) w).toNat<l.length:=by omega
    have J:=E _ (cU ei);simp only[nW,aO,bx]at J;simp only[iX,List.getElem_map,sU];simp only[iX]at J;omega
   rw[aA ⟨T,I⟩,aA I,aA ⟨T,I⟩,aA I];exact⟨_,_,rfl,mk _ (by simp[L]) (ak5 aBE I h4)⟩
def ak6{r:cY}(h:eA r=true)(k:Nat){d:Int}(C:-2 <= d/\d <= 5):eA ⟨r.aJ.set k d,r.wait,r.dD⟩=true:=by
 simp only[eA,aO]at h ⊢;refine⟨ZA h.1 ?_,by rw[jk];exact h.2.1,h.2.2⟩;exact bx.2 C
def aBF{r:cY}(h:eA r=true){b:Int}(hb:b.toNat<r.aJ.length):eA (vJ r b)=true:=by
 have C:=Mi h _ (cU hb);unfold vJ;rw[mB _ hb];by_cases e:r.aJ[b.toNat] = -2
 ·simp_all
 ·rw[bh e];exact ak6 h _ (by omega)
def aBG{r:cK}{p:eR}{x:aH}{now:Int}(E:iL p=true)(C:p.state=r.bg)(I:p.since <= now)(J:now <= 1000000)(O:6 <= x.kind/\x.kind <= 9)(D:pO r x=true):iL (xU p x.kind now)=true/\(xU p x.kind now).state=(fO r x).bg/\(xU p x.kind now).since <= now:=by
 have hb:0 <= p.since:=by
  simp[iL,aO,bx]at E;omega
 have hi:0 <= p.idle/\p.idle <= 1000000:=by
  simp[iL,aO,bx]at E;omega
 have L:=bx.2 ⟨I,J⟩;unfold xU;rw[E,L,Bool.and_self];have mk:∀ s:Int,0 <= s/\s <= 2 -> iL ⟨s,now,p.idle⟩=true:=λs C=>by
  simp[iL,aO,bx];omega
 have:x.kind=6 \/ x.kind=7 \/ x.kind=8 \/ x.kind=9:=by omega
 rcases this with h|h|h|h
 ·have e:r.bg=0:=by simpa [pO,h]using D
  simp[fO,h,C,e,mk]
 ·have e:r.bg=1:=by simpa [pO,h]using D
  simp[fO,h,C,e,mk]
 ·have e:r.bg=0:=by have:=D;simp[pO,h]at this;exact this.1
  simp[fO,h,C,e,mk]
 ·have e:r.bg=2:=by simpa [pO,h]using D
  simp[fO,h,C,e,mk]
def aBH{c:av}(h:Pq c)(Z:Int×Int×Int×Int×af)(P:Int×Int×Int×Int×Int×(aa Int)×Int×Int×af)(I:P.2.1=c.box.bV.cap):iter CF aP ((cG 0 c.aQ.aJ,fB c,(),(),(),(),(),(),(),(),(),c.queue,(c.queue.length:Int),(0:Int),()),(c,Z,P,(List.range c.queue.length).map (gR c),(List.range c.queue.length).map (ee c),sW c c.queue.length,([]:aa aH),List.replicate c.queue.length false,List.replicate 4 false,()))=some (.inl (((),(),(),(),(),(),(),()),(c,Z,P,(List.range c.queue.length).map (ee c),(List.range c.queue.length).map (nc c),(List.range c.queue.length).map (kN c),rX c c.queue.length,()))):=by
 have J:=h.ql;have uI:=h.pl;have L:=nY h.rf;have O:=vM h;have e:=cy (step:=CF) c.queue.length (λi=>((cG 0 _,fB c,(),(),(),(),(),(),(),(),(),c.queue,c.queue.length,i,()),(c,Z,P,(List.range _).map (gR c),(List.range c.queue.length).map (ee c),sW c _,(List.range i).map (nc c),rT (kN c) c.queue.length i,rX c i,()))) _ aP (λk C=>by
  have hl:=SG (f:=kN c) (n:=c.queue.length) (k:=k) (by omega);have F6:=uz c;have hwl:=SR c k;have⟨ho,D,Q,T,o4,o5⟩:=C6 h C;have⟨U,Y,E⟩:=h.q _ (cU C);rw[pQ C]at U Y E;have Ix:(lK c k).write=qL c.queue k:=by rw[C4 C,pQ C]
  refine(aBs (r:=lK c k) (a:=fD c k) (nd:=nc c k) (ct:=n5 c (fD c k).ax) (rd:=dy c (nc c k)) (ib:=Mq c (fD c k).ax) J C (pQ C) (by omega) (C5 _) (by simp;exact C) (by omega) (by simp) (by omega) (by omega) (by rw[Ix];exact Su _ D Q O) (aaa L.1 D T) (xR h.p (akV h C)) (ZW _ _ (by omega)) E h.nw).trans ?_;rw[xX C,akI,I,<- SH C,List.range_succ,List.map_append];rfl) (by
  unfold CF ay xG xI xL;dsimp only;rw[bh,au,SI]) (bI)
 exact e
def s7(f g:Nat->Bool)(n k:Nat):aa Bool:=(List.range n).map λi=>bif Nat.blt i k then f i else g i
def ak7(f g:Nat->Bool)(n:Nat):s7 f g n 0=(List.range n).map g:=rfl
def ak8(f g:Nat -> Bool)(n:Nat):s7 f g n n=(List.range n).map f:=by
 refine lN λi hi=>?_
 have hi:=fq.1 hi;rw[show Nat.blt i n=true from iD hi];rfl
def SS(f g:Nat->Bool)(n k:Nat):(s7 f g n k).length=n:=by unfold s7;simp
def aBI(k:Nat):Nat.blt k k=false:=by
 cases h:Nat.blt k k with
 |false=>rfl
 |true=>simp_all
def ak9{f g:Nat->Bool}{n k:Nat}(C:k<(s7 f g n k).length):(s7 f g n k)[k]=g k:=by
 simp only[s7,List.getElem_map,ko,aBI,au]
def ala{f g:Nat -> Bool}{n k:Nat}(h:k<n):(s7 f g n k).set k (f k)=s7 f g n (k+1):=by
 apply List.ext_getElem
 ·rw[jk,SS,SS]
 ·intro i E I;rw[List.getElem_set];simp only[s7,List.getElem_map,ko];by_cases e:k=i
  ·subst e;rw[bA rfl,show Nat.blt k _=true from iD (eK _)];rfl
  ·rw[bM e];rcases Nat.lt_or_gt_of_ne e with h3 | h3
   ·have C:Nat.blt i k=false:=by
     cases hb:Nat.blt i k with
     |false=>rfl
     |true=>have:=cL hb;omega
    have D:Nat.blt i (k+1)=false:=by
     cases hb:Nat.blt i (k+1)with
     |false=>rfl
     |true=>have:=cL hb;omega
    rw[C,D]
   ·rw[show Nat.blt i k=true from iD h3,show Nat.blt i _=true from iD (by omega)]
def rY(c:av)(t:Int)(i:Nat):Bool:=kN c i&&(lK c i).dI==t
def aBJ{c:av}(I:c.queue.length <= 12)(t:Int)(Z:Int×Int×Int×Int×af)(P:Int×Int×Int×Int×Int×(aa Int)×Int×Int×af)(iK:aa Bool)(C:aa aH):iter FI aP (((),(),(),(),(),(),t,c.queue,(c.queue.length:Int),(0:Int),()),(c,Z,P,iK,C,(List.range c.queue.length).map (kN c),()))=some (.inl (((),(),(),(),(),(),()),(c,Z,P,iK,C,(List.range c.queue.length).map (rY c t),()))):=by
 have e:=cy (step:=FI) c.queue.length (λi=>(((),(),(),(),(),(),t,c.queue,(c.queue.length:Int),(i:Int),()),(c,Z,P,iK,C,s7 (rY c t) (kN c) c.queue.length i,()))) _ aP (λk D=>by
  have hl:=SS (rY c t) (kN c) c.queue.length k;rw[<- ala D];unfold FI ay xG xI xL;dsimp only;rw[aS,ak,aA ⟨by omega,by omega⟩,aA ⟨by omega,by omega⟩,aA,bD];simp only[bB,ak9,pQ];have E:rY c t k=(kN c k&&(lK c k).dI==t):=rfl;rw[E];cases kN c k with
  |false=>rw[au,aA ⟨by omega,by omega⟩,aA];rfl
  |true=>rw[ aA ⟨by omega,by omega⟩,aA];rfl) (by
  unfold FI ay xG xI xL;dsimp only;rw[bh,au,ak8]) (bI)
 rw[cq,ak7]at e;exact e
def fH(p:Nat->Bool):Nat->Int
 |0=>-1
 |k+1=>bif decide (fH p k<0)&&p k then (k:Int)else fH p k
def C8(p:Nat->Bool)(k:Nat):fH p (k+1)=bif decide (fH p k<0)&&p k then (k:Int)else fH p k:=rfl
def uC(p:Nat -> Bool):∀ n,(fH p n = -1 /\ ∀ k,k<n -> p k=false) \/ ∃ j:Nat,j<n/\fH p n=(j:Int)/\p j=true /\ ∀ k,k<j -> p k=false
 |0=>.inl ⟨rfl,λk C=>absurd C (Nat.not_lt_zero k)⟩
 | n+1=>by
  rw[C8];rcases uC p n with ⟨D,E⟩|⟨j,D,E,I,J⟩
  ·grind
  ·grind
def uD(D iK C:Nat->Bool)(n:Nat):Int:=
 bif decide (fH (λi=>C i&&D i) n<0)then (bif decide (fH (λi=>C i&&iK i) n<0)then fH C n else fH (λi=>C i&&iK i) n)else fH (λi=>C i&&D i) n
def n6(c:av)(i:Nat):Bool:=decide ((lK c i).at_<=c.now-c.box.bV.cap)
def aBK{c:av}(h:Pq c)(C:Nat->Bool):Ro c.queue ((List.range c.queue.length).map C) ((List.range c.queue.length).map (ee c)) c.box.bV.cap c.now=some (uD (n6 c) (ee c) C c.queue.length):=by
 have hq:=h.ql;have Y:=h.nw;have Z:=h.cap;have Q:W6 (c.now-c.box.bV.cap)=c.now-c.box.bV.cap:=aR;have gI:∀ (k:Nat),k<c.queue.length->(C k&&n6 c k)=false->Ao (((List.range c.queue.length).map C,(List.range c.queue.length).map (ee c),c.box.bV.cap,c.now,fH C k,fH (λi=>C i&&ee c i) k,c.queue,(c.queue.length:Int),(k:Int),()),())=some (.inl (((List.range c.queue.length).map C,(List.range c.queue.length).map (ee c),c.box.bV.cap,c.now,fH C (k+1),fH (λi=>C i&&ee c i) (k+1),c.queue,(c.queue.length:Int),((k+1:Nat):Int),()),())):=by
  intro k D E;rw[C8,C8];unfold Ao ay aV xG xI;dsimp only;rw[aS,ak,aA ⟨by omega,by omega⟩];simp only[dB,dh];rw[bh,au,aA ⟨by omega,by omega⟩];simp only[bB,xX D,Q,pQ];rw[bD];cases I:C k with
  |false=>simp[I]
  | true=>
   rw[I,cJ]at E;unfold n6 at E;rw[E,aS (by omega:(k:Int)<(c.queue.length:Int)),aA ⟨by omega,by omega⟩];simp only[bF,au,ak,I,cJ];cases ee c k<;>cases decide (fH C k<0)<;>cases decide (fH (λi=>C i&&ee c i) k<0)<;>simp
 unfold Ro uD bQ;rw[dF,aq,bx.2 ⟨Z.1,by omega⟩,bF,au,dF,aq,bx.2 Y,bF,au];rcases uC (λi=>C i&&n6 c i) c.queue.length with ⟨J,L⟩|⟨j,J,L,O,h4⟩
 ·have e:=cy (step:=Ao) c.queue.length (λk=>(((List.range c.queue.length).map C,(List.range c.queue.length).map (ee c),c.box.bV.cap,c.now,fH C k,fH (λi=>C i&&ee c i) k,c.queue,(c.queue.length:Int),(k:Int),()),())) (.inr (.inl ((fH C c.queue.length,fH (λi=>C i&&ee c i) c.queue.length,()),()))) aP (λk D=>gI k D (L k D)) (by
   unfold Ao ay aV xG xI;dsimp only;rw[bh,au]) (bI)
  rw[cq]at e
  refine(bH (λo=>Option.bind o _) e).trans ?_
  rw[aq,J];simp only[Sum.elim_inr,ef];by_cases T:fH (λi=>C i&&ee c i) c.queue.length<0
  ·rw[bh (by omega:¬ fH (λi=>C i&&ee c i) c.queue.length >= 0),aS T];rfl
  ·rw[aS (by omega:fH (λi=>C i&&ee c i) c.queue.length >= 0),bh T];rfl
 ·have e:=cy (step:=Ao) j (λk=>(((List.range c.queue.length).map C,(List.range c.queue.length).map (ee c),c.box.bV.cap,c.now,fH C k,fH (λi=>C i&&ee c i) k,c.queue,(c.queue.length:Int),(k:Int),()),())) (.inl (((j:Int),()),())) aP (λk D=>gI k (by omega) (h4 k D)) (by
   rw[aO]at O;have U:=O.2;unfold n6 at U;unfold Ao ay aV xG xI;dsimp only;rw[aS,ak,aA ⟨by omega,by omega⟩];simp only[dB,dh];rw[bh,au,aA ⟨by omega,by omega⟩];simp only[bB,xX J,Q,pQ,O.1,U,bF,au,ak]) (bI)
  rw[cq]at e
  refine(bH (λo=>Option.bind o _) e).trans ?_
  rw[aq,L,bh];rfl
def rkN(D iK C:Nat->Bool)(n:Nat):Int:=
 bif decide (fH (λi=>C i&&D i) n<0)then (bif decide (fH (λi=>C i&&iK i) n<0)then (bif decide (fH C n<0)then 0 else 1)else 2)else 3
def aBL{c:av}(h:Pq c)(C:Nat->Bool):P0 c.queue ((List.range c.queue.length).map C) ((List.range c.queue.length).map (ee c)) c.box.bV.cap c.now=some (uD (n6 c) (ee c) C c.queue.length):=by
 have O:=h.ql;have E:=h.nw;have I:=h.cap;have J:W6 (c.now-c.box.bV.cap)=c.now-c.box.bV.cap:=aR;unfold P0 bu;rw[eE,aq,bx.2 ⟨I.1,by omega⟩,bF,au,eE,aq,bx.2 E,bF,au];have e:=cy (step:=JP) c.queue.length (λk=>((c.queue,(List.range c.queue.length).map C,(List.range c.queue.length).map (ee c),c.box.bV.cap,c.now,uD (n6 c) (ee c) C k,rkN (n6 c) (ee c) C k,(k:Int),()),())) (.inl ((uD (n6 c) (ee c) C c.queue.length,()),())) aP (λk D=>by
  have Q:=uC C k;have T:=uC (λi=>C i&&ee c i) k;have U:=uC (λi=>C i&&n6 c i) k;unfold JP ay xG xI;dsimp only;simp only[dB,dh];rw[aS,ak,ak,aA ⟨by omega,by omega⟩];simp only[bB,xX D,J,pQ];rw[bD];unfold uD rkN;rw[C8,C8,C8];have hold:decide ((lK c k).at_<=c.now-c.box.bV.cap)=n6 c k:=rfl;rw[hold];cases L:C k with
  |false=>simp[L]
  | true=>
   simp only[bF,au,cJ];rw[aA ⟨by omega,by omega⟩,aA ⟨by omega,by omega⟩];generalize fH (λi=>C i&&n6 c i) k=o at *
   generalize fH (λi=>C i&&ee c i) k=u at *
   generalize fH C k=a at *
   have ao:a<0\/0<=a:=by omega
   have uo:u<0\/0<=u:=by omega
   have oo:o<0\/0<=o:=by omega
   have kn:¬ (k:Int)<0:=by omega
   rcases ao with ao|ao<;>rcases uo with uo|uo<;>rcases oo with oo|oo<;>cases ee c k<;>cases n6 c k<;>simp[D,ao,uo,oo,kn,Int.not_lt.2 ao,Int.not_lt.2 uo,Int.not_lt.2 oo]) (by
  unfold JP ay xG xI;dsimp only;rw[bh,au]) (bI)
 rw[cq]at e
 refine(bH (λo=>Option.bind o _) e).trans ?_
 rfl
def vO:aH:=⟨0,0,0,0⟩
def rZ(c:av):Int:=match qz c.shares (rX c c.queue.length)with
 |some y=>y.2
 |none=>0
def oP(c:av):Int:=uD (n6 c) (ee c) (rY c (rZ c)) c.queue.length
def AM(c:av):aH×Int:=bif decide (oP c<0)then (vO,-1)else (nc c (oP c).toNat,oP c)
def alb{c:av}(h:Pq c):∃ l,qz c.shares (rX c c.queue.length)=some (l,rZ c):=by
 have⟨y,t,e,_⟩:=ZT (rX c c.queue.length) (by have:=h.shl;omega) h.sh (by rw[SR,h.shl]);refine⟨y,?_⟩;unfold rZ;rw[e]
def alc(c:av):-1 <= oP c/\oP c<c.queue.length:=by
 unfold oP uD;rcases uC _ _ with ⟨C,_⟩|⟨j,C,I,_⟩
 ·rw[C,aS,ak];rcases uC _ _ with ⟨D,_⟩ | ⟨j,D,J,_⟩
  ·rw[D,aS,ak];rcases uC (rY c (rZ c)) c.queue.length with ⟨E,_⟩|⟨j,E,L,_⟩<;>omega
  ·grind
 ·grind
def aBM{c:av}(h:Pq c):Rq c (cG 0 c.aQ.aJ) (fB c)=some (AM c):=by
 have E:=h.ql;have⟨l,hl⟩:=alb h;have hb:=alc c;unfold Rq bu xL;rw[bA ⟨by omega,by omega,by omega⟩,bB,aBb h,aq];simp only[ef];rw[bA ⟨by omega,by omega,by omega⟩,bA ⟨by omega,by omega,by omega⟩,bB,aBc h,aq];simp only[ef];rw[bA ⟨by omega,by omega,by omega⟩,bA (by decide),bB,show (4:Int).toNat=4 from rfl,aBH h _ _ rfl,aq];simp only[ef];rw[hl,aq];dsimp only;rw[aBJ E,aq];simp only[ef];rw[aBK h,aq];show (bif decide (oP c<0)then _ else _)=_;unfold AM;by_cases C:oP c<0
 ·rw[aS C];rfl
 ·have I:(oP c).toNat<c.queue.length:=by omega
  rw[bh C,au,au];have J:¬ uD (n6 c) (ee c) (rY c (rZ c)) c.queue.length<0:=C;have D:=I;rw[aA ⟨by omega,by simp only[dB,dh];exact D⟩,aA (by simp only[dB,dh];exact D)];simp only[List.getElem_map,ko];rfl
def aag(l:aa aK)(b:Int)(hl:l.length <= 1048576):ET l b=some (l.any λa=>a.ax==b):=by
 have E:=ug (λa:aK=>a.ax==b) l;unfold ET bQ;rw[Ma];have e:=cy (step:=ES) (c9 (λa:aK=>a.ax==b) l) (λi=>((l,b,(i:Int),()),())) (if c9 (λa:aK=>a.ax==b) l<l.length then .inl ((true,()),())else .inr (.inl ((),()))) aP (λk h=>by
  have D:=m7 h (by omega);unfold ES ay aV xG xI;dsimp only;rw[aS,ak,aA ⟨by omega,by omega⟩];simp only[bB];rw[D,au,bD]) (by
  by_cases C:c9 (λa:aK=>a.ax==b) l<l.length
  ·have D:=qG C;unfold ES ay aV xG xI;dsimp only;simp[*]
  ·unfold ES ay aV xG xI;dsimp only;rw[bh,au,bM C]) (bI)
 rw[cq]at e
 refine(bH (λo=>Option.bind o _) e).trans ?_
 by_cases C:c9 (λa:aK=>a.ax==b) l<l.length
 ·rw[bA C,aS C];rfl
 ·rw[bM C,bh C];rfl
def ald{c:av}(h:Pq c)(a:aK):(iter EV aP ((c,fB c,(List.range c.queue.length).map (gR c),(),(0:Int),()),((a.ax,a.row,a.bT,()),()))).bind (Sum.elim (λD=>some D.1.1) (Sum.elim (λU=>some true) (λz=>nomatch z)))=some (!xY c c.queue.length a.ax):=by
 have Y:=h.ql;have E:=vM h;have e:=gG (step:=EV) (List.range c.queue.length) (λi=>!(gR c i&&ee c i&&a.ax==(fD c i).ax)) (λi=>((c,fB c,(List.range c.queue.length).map (gR c),(),(i:Int),()),((a.ax,a.row,a.bT,()),()))) (.inl ((false,()),())) (.inr (.inl ((),()))) aP (λk C=>by
  rw[dh]at C;have I:=uz c;have Z:((List.range c.queue.length).map (gR c)).length=c.queue.length:=by simp
  have⟨ho,J,L,o3,o4,O⟩:=C6 h C;have Q:=aki (r:=c.bq) (a:=fD c k) O J L E;rw[ko];unfold EV ay aV xG xI;dsimp only;rw[aS,ak,aA ⟨by omega,by omega⟩];simp only[bB,xX C];rw[bD];cases gR c k with
  |false=>rfl
  | true=>
   rw[ak,aA ⟨by omega,by omega⟩];simp only[C5];rw[aA ⟨by omega,by omega⟩,Q,aq,Bool.beq_comm];have iK:ee c k=vI c.bq (fD c k):=rfl;rw[iK];cases a.ax==(fD c k).ax<;>cases vI c.bq (fD c k)<;>rfl) (by
  rw[dh];have I:=uz c;unfold EV ay aV xG xI;dsimp only;rw[bh,au]) (by rw[dh];exact bI)
 rw[cq]at e;rw[e,aq];have T:(List.range c.queue.length).all (λi=>!(gR c i&&ee c i&&a.ax==(fD c i).ax)) = !xY c c.queue.length a.ax:=by
  unfold xY;rw[List.any_eq_not_all_not,Bool.not_not]
 rw[T];cases xY c c.queue.length a.ax<;>rfl
def aBN{c:av}(h:Pq c){k:Nat}(C:k<c.queue.length):PZ c (fB c) ((List.range c.queue.length).map (gR c)) (k:Int)=some (kN c k):=by
 have hq:=h.ql;have uI:=h.pl;have J:=nY h.rf;have L:=vM h;have F6:=uz c;have hl4:((List.range c.queue.length).map (gR c)).length=c.queue.length:=by simp
 obtain⟨ho,E,O,Q,o4,o5⟩:=C6 h C;obtain⟨q1,q2,T⟩:=h.q _ (cU C);rw[pQ C]at T;have hnw:=h.nw;have U:(lK c k).write=qL c.queue k:=by rw[C4 C,pQ C]
 have Y:zU c.bq (fD c k) (lK c k).write=some (nc c k):=by rw[U,akg];exact Su _ E O L
 have Z:W6 (c.now-(lK c k).at_)=c.now-(lK c k).at_:=aR;unfold PZ xI bQ;rw[aA ⟨by omega,by omega⟩];simp only[bB,C5];rw[aA ⟨by omega,by omega⟩];simp only[xX C,(SQ J.1 E Q),aq,pQ];unfold kN;cases gR c k with
 |false=>rfl
 | true=>
  simp only[bF,au,cJ];cases n5 c (fD c k).ax with
  |true=>rfl
  | false=>
   rw[au,aA ⟨by omega,by omega⟩,Y,aq,Ss h.p (akV h C),aq];cases dy c (nc c k)with
   |false=>rfl
   | true=>
    simp only[bF,iq,au,cJ,aag _ _ (show c.pending.length<=1048576 by omega),aq,ald h,Z];have BJ:(c.pending.any λa=>a.ax==(fD c k).ax)=Mq c (fD c k).ax:=rfl;have hyg:decide (c.now-(lK c k).at_ >= c.box.bV.cap) = !SP c k:=by
     unfold SP;by_cases I:c.now-(lK c k).at_<c.box.bV.cap
     ·rw[aS I,bh];rfl
     ·rw[bh I,aS];rfl
    rw[BJ,hyg];by_cases D:(nc c k).kind=1
    ·have k4:((nc c k).kind==(4:Int))=false:=by rw[D];rfl
     have k4':((nc c k).kind != (4:Int))=true:=by rw[D];rfl
     have D:((nc c k).kind==(1:Int))=true:=by rw[D];rfl
     rw[D,k4,k4'];cases Mq c (fD c k).ax<;>rfl
    ·have D:((nc c k).kind==(1:Int))=false:=by simpa using D
     rw[D,bne];cases (nc c k).kind==(4:Int)with
     |false=>rfl
     | true=>
      cases Mq c (fD c k).ax with
      |true=>rfl
      | false=>
       simp only[Bool.false_or,bF,ak,au,cJ,iq];refine(aA (⟨by omega,C⟩:0<=(k:Int)/\k<c.queue.length)).trans ?_;cases SP c k with
       |false=>rw[Bool.and_false];rfl
       |true=>rw[Bool.and_true];exact ald h _
def aBO{c:av}(h:Pq c):P1 c=some (AM c):=by
 have hq:=h.ql;have O:=vM h;have F6:=uz c;have⟨l,hl⟩:=alb h;have hb:=alc c;have e:=cy (step:=JQ) c.queue.length (λi=>((c,(),(),(),(),(),(),(i:Int),()),(((0:Int),(0:Int),(0:Int),(0:Int),()),fB c,(List.range c.queue.length).map (gR c),(List.range i).map (kN c),(List.range i).map (ee c),rX c i,()))) (.inl ((c,(),(),(),(),(),()),(((0:Int),(0:Int),(0:Int),(0:Int),()),fB c,(List.range c.queue.length).map (kN c),(List.range c.queue.length).map (ee c),rX c c.queue.length,()))) aP (λk C=>by
  have⟨T,E,I,U,Y,Q⟩:=C6 h C;have⟨q1,Z,q3⟩:=h.q _ (cU C);rw[pQ C]at Z;have hwl:=SR c k;have hh:=aki (r:=c.bq) (a:=fD c k) Q E I O;have iK:ee c k=vI c.bq (fD c k):=rfl;have hwt:rX c (k+1)=bif kN c k then (rX c k).set (lK c k).dI.toNat true else rX c k:=rfl;unfold JQ ay xG xI xL;dsimp only;simp only[dB,dh,jz];rw[aS,ak,aBN h C,aq,cQ,ak,aA ⟨by omega,by omega⟩,aA];simp only[bB,C5];rw[hh,aq,ak,bD,List.range_succ,List.map_append,List.map_append,List.map_singleton,List.map_singleton,iK,hwt];cases kN c k with
  |false=>rfl
  | true=>
   rw[ aA ⟨by omega,by omega⟩];simp only[pQ];rw[aA ⟨by omega,by omega⟩,aA];rfl) (by
  unfold JQ ay xG xI xL;dsimp only;rw[bh,au]) (bI)
 have J:=cy (step:=JR) c.queue.length (λi=>((c,(),(),(),(),rZ c,(i:Int),()),(((0:Int),(0:Int),(0:Int),(0:Int),()),fB c,s7 (rY c (rZ c)) (kN c) c.queue.length i,(List.range c.queue.length).map (ee c),()))) (.inl ((c,(),(),(),(),()),(((0:Int),(0:Int),(0:Int),(0:Int),()),fB c,(List.range c.queue.length).map (rY c (rZ c)),(List.range c.queue.length).map (ee c),()))) aP (λk C=>by
  have D:=SS (rY c (rZ c)) (kN c) c.queue.length k;have ht:rY c (rZ c) k=(kN c k&&(lK c k).dI==rZ c):=rfl;rw[<- ala C,ht];unfold JR ay xG xI xL;dsimp only;rw[aS,ak,aA ⟨by omega,by omega⟩,aA,bD];simp only[bB,ak9];cases kN c k with
  |false=>rw[au,aA ⟨by omega,by omega⟩,aA];rfl
  | true=>
   rw[ aA ⟨by omega,by omega⟩];simp only[pQ];rw[aA ⟨by omega,by omega⟩,aA];rfl) (by
  unfold JR ay xG xI xL;dsimp only;rw[bh,au,ak8]) (bI)
 rw[cq]at e J;rw[ak7]at J;unfold P1 xI bu xL;rw[akH h,aq,aA8 h,aq,bA (by decide)]
 refine(bH (λo=>Option.bind o _) e).trans ?_
 rw[aq];simp only[ef];rw[akc _ _ (by have:=h.shl;omega),hl,aq]
 refine(bH (λo=>Option.bind o _) J).trans ?_
 rw[aq];simp only[ef];rw[aBL h,aq];show (bif decide (oP c<0)then _ else _)=_;unfold AM;by_cases L:oP c<0
 ·rw[aS L];rfl
 ·have D:(oP c).toNat<c.queue.length:=by omega
  have⟨T,E,I,U,Y,Q⟩:=C6 h D;rw[bh L,au,au];have nE:¬ uD (n6 c) (ee c) (rY c (rZ c)) c.queue.length<0:=L;have aAn:(uD (n6 c) (ee c) (rY c (rZ c)) c.queue.length).toNat<c.queue.length:=D;rw[aA ⟨by omega,by omega⟩,aA];simp only[C5];rw[aA ⟨by omega,by omega⟩];simp only[pQ];have Ix:(lK c (oP c).toNat).write=qL c.queue (oP c).toNat:=by rw[C4 D,pQ D]
  show (zU c.bq (fD c (oP c).toNat) (lK c (oP c).toNat).write).bind _=_;rw[Ix,akg,Su _ E I O,aq];rfl
def SU{α:Type}(p:α -> Bool)(l:aa α):(c9 p l=l.length/\l.find? p=none) \/ ∃ h:c9 p l<l.length,l.find? p=some l[c9 p l]:=by
 have E:=ug p l;rcases Nat.lt_or_ge _ _ with h|h
 ·refine .inr ⟨h,?_⟩;rw[List.find?_eq_some_iff_getElem]
  refine⟨qG h,_,h,rfl,λj C=>?_⟩
  rw[m7 C];rfl
 ·refine .inl ⟨by omega,?_⟩;rw[List.find?_eq_none];intro x D;obtain⟨j,C,rfl⟩:=jA.1 D;rw[m7 (p:=p) (by omega) C];simp
def Ms(c:av)(l:aa aH):aH×Bool:=match l.find? (dy c)with
 |some x=>(x,true)
 |none=>(vO,false)
def ale{c:av}(h:Pq c){l:aa aH}(hl:l.length <= 1000)(I:∀ x∈l,dO c.config.az x=true):JG c l=some (Ms c l):=by
 have hi:=ug (dy c) l;have gI:∀ (k:Nat) (C:k<l.length),Cj ((c,l,(),(k:Int),()),(((0:Int),(0:Int),(0:Int),(0:Int),()),()))=some (bif dy c l[k]then .inr (.inl (((),true,()),((l[k].kind,l[k].ax,l[k].row,l[k].bT,()),())))else .inl ((c,l,(),((k+1:Nat):Int),()),(((0:Int),(0:Int),(0:Int),(0:Int),()),()))):=by
  intro k C;unfold Cj ay aV xG xI;dsimp only;rw[aS,ak,aA ⟨by omega,by omega⟩];simp only[bB];rw[Ss h.p (I _ (cU C)),aq];cases dy c l[k]with
  |false=>rw[au,bD];rfl
  |true=>simp_all
 unfold JG Ms bQ;rcases SU (dy c) l with ⟨D,E⟩|⟨D,E⟩
 ·have e:=cy (step:=Cj) l.length _ _ aP (λk C=>by
   rw[gI k C,m7 (p:=dy c) (i:=k) (by omega) C];rfl) (by
   unfold Cj ay aV xG xI;dsimp only;rw[bh,au]) (bI)
  rw[cq]at e
  refine(bH (λo=>Option.bind o _) e).trans ?_
  rw[E];rfl
 ·have e:=cy (step:=Cj) (c9 (dy c) l) (λk=>((c,l,(),(k:Int),()),(((0:Int),(0:Int),(0:Int),(0:Int),()),()))) (.inl (((),true,()),((l[c9 (dy c) l].kind,l[c9 (dy c) l].ax,l[c9 (dy c) l].row,l[c9 (dy c) l].bT,()),()))) aP (λk C=>by
   rw[gI k (by omega),m7 (p:=dy c) (i:=k) C (by omega)];rfl) (by
   rw[gI _ D,qG D];rfl) (bI)
  rw[cq]at e
  refine(bH (λo=>Option.bind o _) e).trans ?_
  rw[E];rfl
def AN(c:av)(b:Int)(x:aH):aH:=bif (jh c.bq b).open_ then ⟨4,b,0,0⟩else x
def aah{c:av}{b:Int}(x:aH)(C:0 <= b)(h:b.toNat<c.bq.aC.length):An c b x=some (AN c b x):=by
 unfold An AN xI;rw[aA ⟨C,h⟩,AF h]
 grind
def aai{c:av}(x:aH)(C:0 <= x.ax)(h:x.ax.toNat<c.bq.aC.length):ER c x=some (AN c x.ax x):=by
 unfold ER AN xI;rw[aA ⟨C,h⟩,AF h]
 grind
def SV{c:av}{b:Int}{x:aH}(h:Pq c)(C:0 <= b/\b<aW c.config.az)(D:dO c.config.az x=true):dO c.config.az (AN c b x)=true:=by
 unfold AN;cases (jh _ b).open_ with
 |false=>exact D
 |true=>exact AG h.p.R.sS (.inl rfl) C
def gS(c:av)(b:Int):aH:=AN c b ⟨5,b,0,0⟩
def ng(c:av)(i:Nat):aK:=c.pending.getD i zA
def aaj{c:av}{i:Nat}(h:i<c.pending.length):c.pending[i]=ng c i:=by
 unfold ng;rw[fk,bX h];rfl
def qO(c:av)(i:Nat):Bool:=!n5 c (ng c i).ax && !((c.pending.take i).any λa=>a.ax==(ng c i).ax)
def jH(c:av)(i:Nat):aH:=AN c (ng c i).ax ⟨1,(ng c i).ax,(ng c i).row,0⟩
def qP(c:av):aa aH:=(cG 0 c.aQ.aJ).map (gS c)
def r3(c:av)(k:Nat):aa aH:=((List.range k).filter (qO c)).map (jH c)
def aak{c:av}(h:Pq c){i:Nat}(hi:i<c.pending.length):dK c.config.az (ng c i)=true/\0 <= (ng c i).ax/\(ng c i).ax.toNat<c.bq.aC.length/\(ng c i).ax.toNat<c.aQ.aJ.length/\(ng c i).ax<aW c.config.az:=by
 have C:=h.pe _ (cU hi);rw[aaj]at C;have⟨_,D,E,I,J,L,O⟩:=rO C;have:=h.p.bl;have:=h.dl;simp_all
def alf{c:av}(h:Pq c){b:Int}(hb:b∈cG 0 c.aQ.aJ):(0 <= b/\b<aW c.config.az)/\dO c.config.az (gS c b)=true:=by
 obtain⟨j,rfl,C,_⟩:=aj8 hb;have:=h.dl;have hb:0 <= ((0+j):Int)/\((0+j):Int)<aW c.config.az:=by omega
 exact⟨hb,SV h hb (AG h.p.R.sS (.inr rfl) hb)⟩
def alg{c:av}(h:Pq c){i:Nat}(hi:i<c.pending.length):dO c.config.az (jH c i)=true:=by
 have⟨C,D,I,J,E⟩:=aak h hi;exact SV h ⟨D,E⟩ (aAs C)
def alh(c:av)(k:Nat):(r3 c k).length <= k:=by
 unfold r3
 grind
def aBP{c:av}(h:Pq c):PU c=some (qP c++r3 c c.pending.length):=by
 have E:=nY h.rf;have uI:=h.pl;have hdn:=h.dl;have SW:=h.p.bl;have ul:=C1 0 c.aQ.aJ;have e:=cy (step:=JH) c.aQ.aJ.length (λi=>((c,(),(i:Int),()),((cG 0 (c.aQ.aJ.take i)).map (gS c),()))) (.inl ((c,(),()),(qP c,()))) aP (λk C=>by
  have J:=C1 0 (c.aQ.aJ.take k);rw[fP]at J;have L:=(SQ (c:=c) (b:=(k:Int)) E.1 (by omega) (by omega))
  have O:n5 c (k:Int)=decide (c.aQ.aJ[k] >= 4):=by
   unfold n5;rw[bB,fk,bX C];rfl
  unfold JH ay xG;dsimp only;rw[aS,ak,L,aq,bD,ZO C,O];cases decide (c.aQ.aJ[k] >= 4)with
  |false=>rfl
  | true=>
   rw[ak,ak,aai _ (by show 0 <= (k:Int);omega) (by show (k:Int).toNat<_;omega),aq,dB,jz,cQ,List.map_append];rfl) (by
  unfold JH ay xG;dsimp only;rw[bh,au,jl];rfl) (bI)
 have D:=cy (step:=JI) c.pending.length (λi=>((c,(),(i:Int),()),(qP c++r3 c i,()))) (.inl (((),()),(qP c++r3 c c.pending.length,()))) aP (λk C=>by
  have⟨ho,I,Q,T,o4⟩:=aak h C;have hpk:=alh c k;have hul:(qP c).length <= 8:=by unfold qP;rw[dB];omega
  have U:r3 c (k+1)=r3 c k++(bif qO c k then [jH c k]else []):=by
   unfold r3;rw[List.range_succ,List.filter_append];cases Y:qO c k<;>simp[Y]
  rw[U];unfold JI ay xG xI;dsimp only;rw[aS,ak,aA ⟨by omega,by omega⟩,bD];simp only[bB,aaj,(SQ E.1 I T),aq,Int.toNat_zero,List.drop_zero];unfold qO;cases n5 c (ng c k).ax with
  |true=>rw[bF,au,Bool.false_and,au,List.append_nil]
  | false=>
   rw[iq,ak,bA ⟨by omega,by omega,by omega⟩,aag _ _ (by rw[fP];omega),aq,cJ];cases (c.pending.take k).any λa=>a.ax==(ng c k).ax with
   |true=>rw[bF,au,au,List.append_nil]
   | false=>
    rw[iq,aai _ I Q,aq,List.length_append,jz,cQ,List.append_assoc];rfl) (by
  unfold JI ay xG xI;dsimp only;rw[bh,au]) (bI)
 rw[cq]at e D;unfold PU bu
 refine(bH (λo=>Option.bind o _) e).trans ?_
 rw[aq];have Z:qP c++r3 c 0=qP c:=List.append_nil _;rw[Z]at D
 refine(bH (λo=>Option.bind o _) D).trans ?_
 rfl
def uE(u:Bool)(l:aa Int)(idle:Nat->Bool)(i:Nat):Bool:=bif u then decide (l.getD i 0 >= 4)else decide (l.getD i 0 > 0)&&idle i
def AO(r:cY)(idle:Nat->Bool):Int:=kM (uE (decide (((cG 0 r.aJ).length:Int) > 0)) r.aJ idle) (λi=>r.aJ.getD i 0) r.aJ.length
def aal(r:cY)(idle:Nat->Bool):-1<=AO r idle/\AO r idle<r.aJ.length:=vH _ _ _
def aBQ{r:cY}(D:eA r=true)(idle:Nat -> Bool):Lq r ((List.range r.aJ.length).map idle)=some (AO r idle):=by
 have hl:=nY D;unfold Lq bu;rw[LU _ (by omega),aq,D,bF,au,ZP D,aq];generalize L:decide (((cG 0 r.aJ).length:Int) > 0)=u;have e:=cy (step:=Lp) r.aJ.length (λi=>(((List.range r.aJ.length).map idle,(),u,kM (uE u r.aJ idle) (λi=>r.aJ.getD i 0) i,r.aJ,(r.aJ.length:Int),(i:Int),()),((r.aJ,r.wait,r.dD,()),()))) (.inl ((kM (uE u r.aJ idle) (λi=>r.aJ.getD i 0) r.aJ.length,()),())) aP (λk E=>by
  have hb:=vH (uE u r.aJ idle) (λi=>r.aJ.getD i 0) k;rw[FZ];generalize kM (uE u r.aJ idle) (λi=>r.aJ.getD i 0) k=C at hb;have O:r.aJ.getD k 0=r.aJ[k]:=by rw[fk,bX E];rfl
  unfold Lp AB uE ay xG xI;dsimp only;rw[aS,ak,aA ⟨by omega,by omega⟩];simp only[bB,O,dB,dh];rw[bD,aS (by omega:(k:Int)<(r.aJ.length:Int)),ak,aA ⟨by omega,by omega⟩];simp only[xX E];by_cases I:C<0
  ·rw[aS I,Bool.true_or];cases u<;>cases decide (r.aJ[k] > 0)<;>cases decide (r.aJ[k] >= 4)<;>cases idle k<;>rfl
  ·have J:C.toNat<r.aJ.length:=by omega
   have Q:r.aJ.getD C.toNat 0=r.aJ[C.toNat]:=by rw[fk,bX J];rfl
   have T:0 <= C/\C.toNat<r.aJ.length:=⟨by omega,J⟩
   rw[bh I,Q];simp only[aA T,au];cases u<;>cases decide (r.aJ[k] > 0)<;>cases decide (r.aJ[k] >= 4)<;>cases idle k<;>cases decide (r.aJ[k] > r.aJ[C.toNat])<;>rfl) (by
  unfold Lp ay xG xI;dsimp only;rw[bh,au]) (bI)
 rw[cq]at e
 refine(bH (λo=>Option.bind o _) e).trans ?_
 unfold AO;rw[L];rfl
def aBR{r:cY}(D:eA r=true)(idle:Nat -> Bool):P2 r ((List.range r.aJ.length).map idle)=some (AO r idle):=by
 have hl:=nY D;unfold P2 bu;rw[R2 _ (by omega),aq,D,bF,au,aj9 D,aq];generalize L:decide (((cG 0 r.aJ).length:Int) > 0)=u;have e:=cy (step:=JS) r.aJ.length (λi=>(((List.range r.aJ.length).map idle,(),u,kM (uE u r.aJ idle) (λi=>r.aJ.getD i 0) i,(i:Int),()),((r.aJ,r.wait,r.dD,()),()))) (.inl ((kM (uE u r.aJ idle) (λi=>r.aJ.getD i 0) r.aJ.length,()),())) aP (λk E=>by
  have hb:=vH (uE u r.aJ idle) (λi=>r.aJ.getD i 0) k;rw[FZ];generalize kM (uE u r.aJ idle) (λi=>r.aJ.getD i 0) k=C at hb;have O:r.aJ.getD k 0=r.aJ[k]:=by rw[fk,bX E];rfl
  have Q:0 <= (k:Int)/\k<r.aJ.length:=⟨by omega,E⟩
  unfold JS AB uE ay xG xI;dsimp only;rw[aS,ak,aA ⟨by omega,by omega⟩];simp only[bB,O,dB,dh,aA Q];rw[bD,aS (by omega:(k:Int)<(r.aJ.length:Int)),ak];simp only[xX E];by_cases I:C<0
  ·rw[aS I,Bool.true_or];cases u<;>cases decide (r.aJ[k] > 0)<;>cases decide (r.aJ[k] >= 4)<;>cases idle k<;>rfl
  ·have J:C.toNat<r.aJ.length:=by omega
   have T:r.aJ.getD C.toNat 0=r.aJ[C.toNat]:=by rw[fk,bX J];rfl
   have U:0 <= C/\C.toNat<r.aJ.length:=⟨by omega,J⟩
   rw[bh I,T];simp only[aA U,au];cases u<;>cases decide (r.aJ[k] > 0)<;>cases decide (r.aJ[k] >= 4)<;>cases idle k<;>cases decide (r.aJ[k] > r.aJ[C.toNat])<;>rfl) (by
  unfold JS ay xG xI;dsimp only;rw[bh,au]) (bI)
 rw[cq]at e
 refine(bH (λo=>Option.bind o _) e).trans ?_
 unfold AO;rw[L];rfl
def n7(w:aa aK)(r:cK)(b:Nat):Bool:=w.any λa=>a.ax==(b:Int)&&a.row==(jh r (b:Int)).row
def s8(w:aa aK)(r:cK)(b:Nat):Bool:=(jh r (b:Int)).open_ && !n7 w r b
def ya(r:cK)(eS:Int)(w:aa aK):Int:=bif eS != 1 then -1 else fH (s8 w r) r.aC.length
def aam(r:cK)(eS:Int)(w:aa aK):-1 <= ya r eS w/\ya r eS w<r.aC.length:=by
 unfold ya;cases eS != 1 with
 |true=>grind
 | false=>
  rw[au];rcases uC (s8 w r) r.aC.length with ⟨C,_⟩|⟨j,C,D,_⟩<;>omega
def aBS{w:aa aK}{r:cK}{L:aa Int}{b:Nat}{i n:Int}(hb:b<r.aC.length)(hl:r.aC.length<=1048576)(D:w.length<=1000):iter FJ aP ((w,(),(b:Int),false,(),n,i,w,(w.length:Int),(0:Int),()),((r.aC,r.bg,()),L,()))=some (.inl ((w,(),(b:Int),n7 w r b,(),n,i,()),((r.aC,r.bg,()),L,()))):=by
 have e:=cy (step:=FJ) w.length (λk=>((w,(),(b:Int),((w.take k).any λa=>a.ax==(b:Int)&&a.row==(jh r (b:Int)).row),(),n,i,w,(w.length:Int),(k:Int),()),((r.aC,r.bg,()),L,()))) (.inl ((w,(),(b:Int),n7 w r b,(),n,i,()),((r.aC,r.bg,()),L,()))) aP (λk C=>by
  rw[pK C,List.any_append,List.any_cons,List.any_nil,Bool.or_false,AF (by rw[bB];exact hb)];unfold FJ ay xG xI;dsimp only;rw[aS,ak,aA ⟨by omega,by omega⟩,bD];simp only[bB];cases (w.take k).any λa=>a.ax==(b:Int)&&a.row==r.aC[b].row with
  |true=>rfl
  | false=>
   rw[au,Bool.false_or];cases w[k].ax==(b:Int)with
   |false=>rfl
   |true=>rw[ak,aA ⟨by omega,hb⟩,cJ]) (by
  unfold FJ ay xG xI;dsimp only;rw[bh,au,jl];rfl) (bI)
 rw[cq]at e;exact e
def aBT{w:aa aK}{r:cK}{b:Nat}(hb:b<r.aC.length)(hl:r.aC.length <= 1048576)(D:w.length <= 1000)(o:Bool):iter EW aP ((w,(),(b:Int),o,(0:Int),()),((r.aC,r.bg,()),()))=some (.inl ((w,(),(b:Int),o || n7 w r b,()),((r.aC,r.bg,()),()))):=by
 have e:=cy (step:=EW) w.length (λk=>((w,(),(b:Int),o || ((w.take k).any λa=>a.ax==(b:Int)&&a.row==(jh r (b:Int)).row),(k:Int),()),((r.aC,r.bg,()),()))) (.inl ((w,(),(b:Int),o || n7 w r b,()),((r.aC,r.bg,()),()))) aP (λk C=>by
  rw[pK C,List.any_append,List.any_cons,List.any_nil,Bool.or_false,AF (by rw[bB];exact hb)];unfold EW ay xG xI;dsimp only;rw[aS,ak,aA ⟨by omega,by omega⟩,bD];simp only[bB];cases w[k].ax==(b:Int)with
  |false=>rw[au,Bool.false_and,Bool.or_false]
  | true=>
   rw[ak,aA ⟨by omega,C⟩,aA ⟨by omega,hb⟩,cJ];cases w[k].row==r.aC[b].row with
   |false=>simp[*]
   |true=>rw[ak,Bool.or_true,Bool.or_true]) (by
  unfold EW ay xG xI;dsimp only;rw[bh,au,jl];rfl) (bI)
 rw[cq,List.take_zero,List.any_nil,Bool.or_false]at e;exact e
def ali(w:aa aK)(r:cK):∀ k,k <= r.aC.length -> (opens 0 (r.aC.take k)).find? (λb=>!n7 w r b.toNat)=bif decide (fH (s8 w r) k<0)then none else some (fH (s8 w r) k)
 |0,_=>rfl
 | k+1,E=>by
  have C:=ali w r k (by omega);have hb:(jh r (k:Int)).open_=r.aC[k].open_:=by rw[AF (by rw[bB];omega)];simp only[bB]
  have D:s8 w r k=(r.aC[k].open_ && !n7 w r k):=by unfold s8;rw[hb]
  rw[pK (show k<r.aC.length by omega),Y2,fP,Nat.min_eq_left (by omega),fj,List.find?_append,C,C8,D];have I:opens k [r.aC[k]]=bif r.aC[k].open_ then [(k:Int)]else []:=rfl
  grind
def alj(i:Nat)(l:aa eP)(x:Int)(h:x∈opens i l):∃ j:Nat,j<l.length/\x=((i+j:Nat):Int):=by
 induction l generalizing i with
 |nil=>cases h
 | cons d l C=>
  have e:opens i (d :: l)=bif d.open_ then (i:Int) :: opens (i+1) l else opens (i+1) l:=rfl;rw[e]at h;have tl:x∈opens (i+1) l -> ∃ j:Nat,j<(d :: l).length/\x=((i+j:Nat):Int):=λh=>by
   have⟨j,D,E⟩:=C _ h;exact⟨j+1,by simpa using D,by rw[E];omega⟩
  cases I:d.open_ with
  |false=>grind
  | true=>
   rw[I,ak]at h;rcases gf.1 h with rfl|h
   ·exact⟨0,by simp,rfl⟩
   ·exact tl h
def aBU{r:cK}(eS:Int){w:aa aK}(hl:r.aC.length <= 1048576)(J:w.length <= 1000):Lr r eS w=some (ya r eS w):=by
 unfold Lr ya bQ;cases eS != 1 with
 |true=>rfl
 | false=>
  rw[au,au,RL r (by omega),aq];have I:=ali w r r.aC.length (eK _);rw[jl]at I;have U:=RK 0 r.aC;have O:=alj 0 r.aC;generalize Y:opens 0 r.aC=L at *
  have hi:=ug (λb:Int=>!n7 w r b.toNat) L;have gI:∀ (k:Nat) (C:k<L.length),CG ((w,(),(),(L.length:Int),(k:Int),()),((r.aC,r.bg,()),L,()))=some (bif !n7 w r L[k].toNat then .inr (.inl ((L[k],()),()))else .inl ((w,(),(),(L.length:Int),((k+1:Nat):Int),()),((r.aC,r.bg,()),L,()))):=by
   intro k C;have⟨j,E,D⟩:=O _ (cU C);rw[fj]at D;unfold CG ay aV xG bu xL;dsimp only;rw[aS,ak,aA ⟨by omega,by omega⟩,aA];simp only[bB,D];rw[aBS E hl J,aq];simp only[ef];rw[bD];cases n7 w r j<;>rfl
  rcases SU (λb:Int=>!n7 w r b.toNat) L with ⟨E,D⟩|⟨E,D⟩
  ·have e:=cy (step:=CG) L.length (λk=>((w,(),(),(L.length:Int),(k:Int),()),((r.aC,r.bg,()),L,()))) (.inr (.inl ((),()))) aP (λk C=>by
    have:=m7 (p:=λb:Int=>!n7 w r b.toNat) (q:=L) (i:=k) (by omega) C;rw[gI k C,this];rfl) (by
    unfold CG ay aV xG bu xL;dsimp only;rw[bh,au]) (bI)
   rw[cq]at e
   refine(bH (λo=>Option.bind o _) e).trans ?_
   rw[D]at I;by_cases Q:fH (s8 w r) r.aC.length<0
   ·rcases uC (s8 w r) r.aC.length with ⟨T,_⟩ | ⟨j,_,Z,_⟩
    ·rw[T];rfl
    ·omega
   ·grind
  ·have e:=cy (step:=CG) (c9 (λb:Int=>!n7 w r b.toNat) L) (λk=>((w,(),(),(L.length:Int),(k:Int),()),((r.aC,r.bg,()),L,()))) (.inl ((L[c9 (λb:Int=>!n7 w r b.toNat) L],()),())) aP (λk C=>by
    have:=m7 (p:=λb:Int=>!n7 w r b.toNat) (q:=L) (i:=k) C (by omega);rw[gI k (by omega),this];rfl) (by
    have:=qG (p:=λb:Int=>!n7 w r b.toNat) (q:=L) E;rw[gI _ E,this];rfl) (bI)
   rw[cq]at e
   refine(bH (λo=>Option.bind o _) e).trans ?_
   rw[D]at I;by_cases Q:fH (s8 w r) r.aC.length<0
   ·grind
   ·simp[*]
def aBV{r:cK}(eS:Int){w:aa aK}(hl:r.aC.length <= 1048576)(I:w.length <= 1000):P3 r eS w=some (ya r eS w):=by
 unfold P3 ya bQ;cases eS != 1 with
 |true=>rfl
 | false=>
  have gI:∀ k (C:k<r.aC.length),Cn ((w,(),k,()),((r.aC,r.bg,()),()))=some (bif s8 w r k then .inr (.inl ((k,()),()))else .inl ((w,(),((k+1):Int),()),((r.aC,r.bg,()),()))):=by
   intro k C;have hb:(jh r (k:Int)).open_=r.aC[k].open_:=by rw[AF (by rw[bB];omega)];simp only[bB]
   unfold Cn s8 ay aV xG xI bu;dsimp only;rw[aS,ak,aA ⟨by omega,by omega⟩,hb];simp only[bB];rw[aBT C hl I,aq];simp only[ef];rw[bD];cases r.aC[k].open_<;>cases n7 w r k<;>rfl
  rcases uC (s8 w r) _ with ⟨D,E⟩|⟨j,D,E,J,L⟩
  ·have e:=cy (step:=Cn) r.aC.length (λk=>((w,(),(k:Int),()),((r.aC,r.bg,()),()))) (.inr (.inl ((),()))) aP (λk C=>by
    rw[gI k C,E k C];rfl) (by
    unfold Cn ay aV xG xI bu;dsimp only;rw[bh,au]) (bI)
   rw[cq]at e
   refine(bH (λo=>Option.bind o _) e).trans ?_
   rw[D];rfl
  ·have e:=cy (step:=Cn) j (λk=>((w,(),(k:Int),()),((r.aC,r.bg,()),()))) (.inl (((j:Int),()),())) aP (λk C=>by
    rw[gI k (by omega),L k C];rfl) (by
    rw[gI j D,J];rfl) (bI)
   rw[cq]at e
   refine(bH (λo=>Option.bind o _) e).trans ?_
   rw[E];rfl
def cH(c:av):Int:=um c.box.bV.dS c.bg (uk c)
def F7(c:av)(i:Nat):Bool:=!((fB c).any λa=>a.ax==(i:Int))
def gC(c:av):Int:=AO c.aQ (F7 c)
def ig(c:av):Int:=ya c.bq c.box.bV.eS (fB c)
def yb(c:av):aa aH:=bif decide (gC c >= 0) && !n5 c (gC c)then [gS c (gC c)]else []
def s9(c:av):aa aH:=bif decide (ig c >= 0)then [⟨4,ig c,0,0⟩]else []
def oQ(c:av):aa aH:=bif cH c==8&&decide (((opens 0 c.bq.aC).length:Int) > 0)then [⟨4,(opens 0 c.bq.aC).headD 0,0,0⟩]else bif cH c != 0 then [⟨cH c,0,0,0⟩]else []
def ta(c:av)(l:aa aH):aH:=(l.find? (dy c)).getD vO
def fnd_nil(c:av):ta c []=vO:=rfl
def fnd_cons(c:av)(x:aH)(l:aa aH):ta c (x :: l)=bif dy c x then x else ta c l:=by
 unfold ta;rw[List.find?_cons];cases dy c x<;>rfl
def SX(c:av)(w:Int):ah aH:=
 let D:Int->Int->Int->Int->ah (aH):=λE I J L=>(let O:Bool->ah (aH):=λQ=>bif Q then some (⟨E,I,J,L⟩:aH)else some (⟨(0:Int),(0:Int),(0:Int),(0:Int)⟩:aH);bif (E != (0:Int))then (iT c (⟨E,I,J,L⟩:aH)).bind λT=>(O T)else (O false));bif (w==(8:Int))then (Ag c.bq).bind λC=>bif (decide ((C.length:Int) > (0:Int)))then if Z:0<=(0:Int)/\(0:Int).toNat<C.length then if U:(0:Int).toNat<C.length then (let Y:=C[(0:Int).toNat]'U;(D (4:Int) Y (0:Int) (0:Int)))else none else none else (D w 0 0 0)else (D w 0 0 0)
def C9(c:av)(D:aa aK)(w:Int):ah aH:=
 (Lr c.bq c.box.bV.eS D).bind λC=>bif (C != (-1:Int))then (iT c (⟨(4:Int),C,(0:Int),(0:Int)⟩:aH)).bind λE=>bif E then some (⟨(4:Int),C,(0:Int),(0:Int)⟩:aH)else SX c w else SX c w
def alk(c:av)(J:aa Int)(D:aa aK)(w:Int)(idle:aa Bool):ah aH:=
 (Lq c.aQ idle).bind λC=>(let E:Bool->ah (aH):=λL=>bif L then (An c C (⟨(5:Int),C,(0:Int),(0:Int)⟩:aH)).bind λI=>(iT c I).bind λO=>bif O then some I else C9 c D w else C9 c D w;bif (C != (-1:Int))then (vp J C).bind λQ=>(E (!Q))else (E false))
def SY(c:av):cH c=0\/6<=cH c/\cH c<=9:=aAi _ _ _
def aBW(l:aa Int)(h:0<l.length):l.headD 0=l[0]:=by
 cases l with
 |nil=>cases h
 |cons x l=>rfl
def aan(c:av)(h:Pq c)(C:0<(opens 0 c.bq.aC).length):(0 <= (opens 0 c.bq.aC)[0]/\(opens 0 c.bq.aC)[0]<aW c.config.az)/\(opens 0 c.bq.aC).headD 0=(opens 0 c.bq.aC)[0]:=by
 have⟨j,D,E⟩:=alj 0 _ _ (cU C);have:=h.p.bl;exact⟨by omega,aBW _ C⟩
def aBX{c:av}(h:Pq c):SX c (cH c)=some (ta c (oQ c)):=by
 have Y:=vM h;have Z:=SY c;have D:=h.p.R.sS;have J:cH c≠0 -> iT c ⟨cH c,0,0,0⟩=some (dy c ⟨cH c,0,0,0⟩):=λhn=>xR h.p (Sv D (by omega))
 have L:(bif (cH c != (0:Int))then (iT c (⟨cH c,0,0,0⟩:aH)).bind λO=>(bif O then some (⟨cH c,0,0,0⟩:aH)else some vO)else some vO)=some (ta c (bif cH c != 0 then [⟨cH c,0,0,0⟩]else [])):=by
  by_cases C:cH c=0
  ·rw[C];rfl
  ·rw[gH C,ak,ak,J C,fnd_cons,fnd_nil]
   grind
 unfold SX oQ;dsimp only;by_cases E:cH c=8
 ·have Q:(cH c==8)=true:=by rw[E];rfl
  rw[Q,ak,RL _ (by omega),aq,cJ];by_cases I:0<(opens 0 c.bq.aC).length
  ·have⟨T,U⟩:=aan c h I;rw[aS,ak,ak,aA ⟨by omega,I⟩,aA,U];show (bif ((4:Int) != 0)then (iT c ⟨4,(opens 0 c.bq.aC)[0],0,0⟩).bind _ else _)=_;rw[xR h.p (AG D (.inl rfl) T),fnd_cons,fnd_nil];cases dy c ⟨4,(opens 0 c.bq.aC)[0],0,0⟩<;>rfl
  ·rw[bh,au];exact L
 ·rwa [jV E,au,Bool.false_and,au]
def aBY{c:av}(h:Pq c):C9 c (fB c) (cH c)=some (ta c (s9 c++oQ c)):=by
 have C:=vM h;have E:=h.ql;have I:=h.p.bl;have hb:-1 <= ig c/\ig c<c.bq.aC.length:=aam _ _ _;unfold C9 s9;rw[aBU _ C (by rw[uz];omega),aq];show (bif ig c != -1 then (iT c ⟨4,ig c,0,0⟩).bind _ else _)=_;rw[aBX h];by_cases D:ig c >= 0
 ·rw[gH (by omega:¬ ig c = -1),ak,aS D,ak,xR h.p (AG h.p.R.sS (.inl rfl) (by omega)),aq,List.singleton_append,fnd_cons];cases dy c ⟨4,ig c,0,0⟩<;>rfl
 ·grind
def aBZ{c:av}(h:Pq c):alk c (cG 0 c.aQ.aJ) (fB c) (cH c) ((List.range c.aQ.aJ.length).map (F7 c))=some (ta c (yb c++(s9 c++oQ c))):=by
 have Q:=vM h;have I:=nY h.rf;have T:=h.p.bl;have U:=h.dl;have hb:-1 <= gC c/\gC c<c.aQ.aJ.length:=aal _ _;unfold alk yb;rw[aBQ h.rf,aq];show (bif gC c != -1 then (vp (cG 0 c.aQ.aJ) (gC c)).bind λJ=>(bif !J then (An c (gC c) ⟨5,gC c,0,0⟩).bind λD=>(iT c D).bind λC=>bif C then some D else C9 c (fB c) (cH c)else C9 c (fB c) (cH c))else C9 c (fB c) (cH c))=_;rw[aBY h];by_cases L:gC c >= 0
 ·have E:0 <= gC c/\gC c<aW c.config.az:=by omega
  rw[gH (by omega:¬ gC c = -1),ak,aS L,cJ,(aaa I.1 (by omega) (by omega)),aq];cases n5 c (gC c)with
  |true=>rfl
  | false=>
   have O:dO c.config.az (gS c (gC c))=true:=SV h E (AG h.p.R.sS (.inr rfl) E);rw[iq,ak,ak,aah _ (by omega) (by omega),aq];show ((iT c (gS c (gC c))).bind λC=>bif C then some (gS c (gC c))else _)=_;rw[xR h.p O,aq,List.singleton_append,fnd_cons]
   grind
 ·grind
def aB0{c:av}(h:Pq c):Lt c (cG 0 c.aQ.aJ) (fB c) ⟨cH c,0,0,0⟩=some (ta c (yb c++(s9 c++oQ c))):=by
 have D:=vM h;have E:=h.ql;have I:=h.p.bl;have J:=h.dl;have L:=nY h.rf;have C:c.bq.aC.length=c.aQ.aJ.length:=by omega
 have e:=cy (step:=Ls) c.bq.aC.length (λi=>((cG 0 c.aQ.aJ,fB c,(),(),(),(),(c.bq.aC.length:Int),(i:Int),()),(c,(cH c,(0:Int),(0:Int),(0:Int),()),((0:Int),(0:Int),(0:Int),(0:Int),()),(List.range i).map (F7 c),()))) _ aP (λk O=>by
  unfold Ls ay xG;dsimp only;rw[aS,ak,ZW _ _ (by rw[uz];omega),aq,dB,dh,jz,cQ,ak,bD,List.range_succ,List.map_append];rfl) (by
  unfold Ls ay xG;dsimp only;rw[bh,au]) (bI)
 rw[cq]at e;unfold Lt bu xL
 refine(bH (λo=>Option.bind o _) e).trans ?_
 rw[aq,C];exact aBZ h
def aB1{c:av}(h:Pq c):(oQ c).length <= 1 /\ ∀ x∈oQ c,dO c.config.az x=true:=by
 have Q:=SY c;have D:=h.p.R.sS;have E:(bif cH c != 0 then [(⟨cH c,0,0,0⟩:aH)]else []).length <= 1 /\ ∀ x∈(bif cH c != 0 then [⟨cH c,0,0,0⟩]else []),dO c.config.az x=true:=by
  by_cases I:cH c=0
  ·simp_all
  ·rw[gH I];exact⟨eK _,λx C=>by rw[oT.1 C];exact Sv D (by omega)⟩
 unfold oQ;cases cH c==8 with
 |false=>exact E
 | true=>
  by_cases J:0<(opens 0 c.bq.aC).length
  ·have⟨L,O⟩:=aan c h J;rw[aS,O];exact⟨eK _,λx C=>by rw[oT.1 C];exact AG D (.inl rfl) L⟩
  ·simp_all
def aB2{c:av}(h:Pq c):(s9 c).length <= 1 /\ ∀ x∈s9 c,dO c.config.az x=true:=by
 have E:=h.p.bl;have hb:-1 <= ig c/\ig c<c.bq.aC.length:=aam _ _ _;unfold s9;by_cases C:ig c >= 0
 ·rw[aS C];exact⟨eK _,λx D=>by rw[oT.1 D];exact AG h.p.R.sS (.inl rfl) (by omega)⟩
 ·grind
def aB3{c:av}(h:Pq c):(yb c).length <= 1 /\ ∀ x∈yb c,dO c.config.az x=true:=by
 have I:=h.dl;have hb:-1 <= gC c/\gC c<c.aQ.aJ.length:=aal _ _;unfold yb;by_cases D:gC c >= 0
 ·have C:0 <= gC c/\gC c<aW c.config.az:=by omega
  rw[aS D];cases n5 c _ with
  |true=>simp_all
  |false=>exact⟨eK _,λx E=>by rw[oT.1 E];exact SV h C (AG h.p.R.sS (.inr rfl) C)⟩
 ·grind
def aB4{c:av}(h:Pq c):P4 c (cH c)=some (yb c++(s9 c++oQ c)):=by
 have Q:=vM h;have hq:=h.ql;have SW:=h.p.bl;have hdn:=h.dl;have T:=nY h.rf;have U:c.bq.aC.length=c.aQ.aJ.length:=by omega
 have vh:-1 <= gC c/\gC c<c.aQ.aJ.length:=aal _ _;have gX:-1 <= ig c/\ig c<c.bq.aC.length:=aam _ _ _;have hol:=RK 0 c.bq.aC;have e:=cy (step:=JT) c.bq.aC.length (λi=>((c,cH c,(),(),(),(i:Int),()),(([]:aa aH),fB c,(List.range i).map (F7 c),()))) (.inl ((c,cH c,(),(),(),()),(([]:aa aH),fB c,(List.range c.bq.aC.length).map (F7 c),()))) aP (λk hk=>by
  unfold JT ay xG;dsimp only;rw[aS,ak,aag _ _ (by rw[uz];omega),aq,dB,dh,jz,cQ,ak,bD,List.range_succ,List.map_append];rfl) (by
  unfold JT ay xG;dsimp only;rw[bh,au]) (bI)
 rw[cq]at e;have D:∀l:aa aH,l.length <= 5 -> bC (l.length+1)=true:=λl hl=>cQ
 -- the end
 have tl:∀ l:aa aH,l.length <= 5 -> (bif (cH c==(8:Int))then (bif (decide (((opens 0 c.bq.aC).length:Int) > (0:Int)))then (if I:0 <= (0:Int)/\(0:Int).toNat<(opens 0 c.bq.aC).length then if C:(0:Int).toNat<(opens 0 c.bq.aC).length then (bif bC (l.length+([(⟨(4:Int),(opens 0 c.bq.aC)[(0:Int).toNat]'C,(0:Int),(0:Int)⟩:aH)]:aa aH).length)then some (l++([(⟨(4:Int),(opens 0 c.bq.aC)[(0:Int).toNat]'C,(0:Int),(0:Int)⟩:aH)]:aa aH))else none)else none else none)else (bif (cH c != (0:Int))then bif bC (l.length+([(⟨cH c,(0:Int),(0:Int),(0:Int)⟩:aH)]:aa aH).length)then some (l++([(⟨cH c,(0:Int),(0:Int),(0:Int)⟩:aH)]:aa aH))else none else some l))else (bif (cH c != (0:Int))then bif bC (l.length+([(⟨cH c,(0:Int),(0:Int),(0:Int)⟩:aH)]:aa aH).length)then some (l++([(⟨cH c,(0:Int),(0:Int),(0:Int)⟩:aH)]:aa aH))else none else some l))=some (l++oQ c):=by
  intro l hl;have z:(bif (cH c != (0:Int))then bif bC (l.length+([(⟨cH c,(0:Int),(0:Int),(0:Int)⟩:aH)]:aa aH).length)then some (l++([(⟨cH c,(0:Int),(0:Int),(0:Int)⟩:aH)]:aa aH))else none else some l)=some (l++(bif cH c != 0 then [(⟨cH c,0,0,0⟩:aH)]else [])):=by
   rw[jz,D l hl];cases cH c != 0 with
   |true=>rfl
   |false=>rw[au,au,List.append_nil]
  unfold oQ;cases cH c==8 with
  |false=>exact z
  | true=>
   rw[ak,cJ];by_cases E:0<(opens 0 c.bq.aC).length
   ·have⟨k1,Y⟩:=aan c h E;rw[aS (by omega:((opens 0 c.bq.aC).length:Int) > 0),ak,ak,aA ⟨by omega,E⟩,aA (show Int.toNat 0<(opens 0 c.bq.aC).length from E),jz,D l hl,ak,Y];rfl
   ·rw[bh (by omega:¬ ((opens 0 c.bq.aC).length:Int) > 0),au,au];exact z
 unfold P4 bu xL;rw[akH h,aq]
 refine(bH (λo=>Option.bind o _) e).trans ?_
 rw[aq,U];simp only[ef,aBR h.rf,aq,aBV _ Q (show (fB c).length <= 1000 by rw[uz];omega),ajz _ (show c.bq.aC.length<1073741823 by omega)];have er:AO c.aQ (F7 c)=gC c:=rfl;have Z:ya c.bq c.box.bV.eS (fB c)=ig c:=rfl;rw[er,Z];have h1:∀ l:aa aH,l.length <= 4 -> (bif decide (ig c >= 0)then bif bC (l.length+([(⟨4,ig c,0,0⟩:aH)]:aa aH).length)then some ((l++([(⟨4,ig c,0,0⟩:aH)]:aa aH))++oQ c)else none else some (l++oQ c))=some (l++(s9 c++oQ c)):=by
  intro l hl;unfold s9;rw[jz,D l (by omega)];cases decide (ig c >= 0)with
  |true=>rw[ak,ak,List.append_assoc];rfl
  |false=>rfl
 have J:∀ l:aa aH,l.length <= 1 -> (bif decide (ig c >= 0)then bif bC (l.length+([(⟨4,ig c,0,0⟩:aH)]:aa aH).length)then (bif (cH c==(8:Int))then (bif (decide (((opens 0 c.bq.aC).length:Int) > (0:Int)))then (if I:0 <= (0:Int)/\(0:Int).toNat<(opens 0 c.bq.aC).length then if C:(0:Int).toNat<(opens 0 c.bq.aC).length then (bif bC ((l++([(⟨4,ig c,0,0⟩:aH)]:aa aH)).length+([(⟨(4:Int),(opens 0 c.bq.aC)[(0:Int).toNat]'C,(0:Int),(0:Int)⟩:aH)]:aa aH).length)then some ((l++([(⟨4,ig c,0,0⟩:aH)]:aa aH))++([(⟨(4:Int),(opens 0 c.bq.aC)[(0:Int).toNat]'C,(0:Int),(0:Int)⟩:aH)]:aa aH))else none)else none else none)else (bif (cH c != (0:Int))then bif bC ((l++([(⟨4,ig c,0,0⟩:aH)]:aa aH)).length+([(⟨cH c,(0:Int),(0:Int),(0:Int)⟩:aH)]:aa aH).length)then some ((l++([(⟨4,ig c,0,0⟩:aH)]:aa aH))++([(⟨cH c,(0:Int),(0:Int),(0:Int)⟩:aH)]:aa aH))else none else some (l++([(⟨4,ig c,0,0⟩:aH)]:aa aH))))else (bif (cH c != (0:Int))then bif bC ((l++([(⟨4,ig c,0,0⟩:aH)]:aa aH)).length+([(⟨cH c,(0:Int),(0:Int),(0:Int)⟩:aH)]:aa aH).length)then some ((l++([(⟨4,ig c,0,0⟩:aH)]:aa aH))++([(⟨cH c,(0:Int),(0:Int),(0:Int)⟩:aH)]:aa aH))else none else some (l++([(⟨4,ig c,0,0⟩:aH)]:aa aH))))else none else (bif (cH c==(8:Int))then (bif (decide (((opens 0 c.bq.aC).length:Int) > (0:Int)))then (if I:0 <= (0:Int)/\(0:Int).toNat<(opens 0 c.bq.aC).length then if C:(0:Int).toNat<(opens 0 c.bq.aC).length then (bif bC (l.length+([(⟨(4:Int),(opens 0 c.bq.aC)[(0:Int).toNat]'C,(0:Int),(0:Int)⟩:aH)]:aa aH).length)then some (l++([(⟨(4:Int),(opens 0 c.bq.aC)[(0:Int).toNat]'C,(0:Int),(0:Int)⟩:aH)]:aa aH))else none)else none else none)else (bif (cH c != (0:Int))then bif bC (l.length+([(⟨cH c,(0:Int),(0:Int),(0:Int)⟩:aH)]:aa aH).length)then some (l++([(⟨cH c,(0:Int),(0:Int),(0:Int)⟩:aH)]:aa aH))else none else some l))else (bif (cH c != (0:Int))then bif bC (l.length+([(⟨cH c,(0:Int),(0:Int),(0:Int)⟩:aH)]:aa aH).length)then some (l++([(⟨cH c,(0:Int),(0:Int),(0:Int)⟩:aH)]:aa aH))else none else some l)))=some (l++(s9 c++oQ c)):=by
  intro l hl;rw[tl _ (by rw[List.length_append,jz];omega),tl _ (by omega)];exact h1 l (by omega)
 have L:=J [] (by simp);unfold yb;by_cases O:gC c >= 0
 ·have hv:0 <= gC c/\gC c<aW c.config.az:=by omega
  rw[aS O,ak,cJ,(SQ T.1 (by omega) (by omega)),aq];cases n5 c (gC c)with
  |true=>exact L
  | false=>
   rw[iq,ak,ak,aai _ (by show 0 <= gC c;omega) (by show (gC c).toNat<_;omega),aq,List.length_nil,jz,cQ,ak];exact J [gS c (gC c)] (eK _)
 ·rw[bh O,au,Bool.false_and,au];exact L
def aao(c:av):ah aH:=(qP c++r3 c c.pending.length).find? (dy c)
def Mt(c:av):aH×Int:=
 bif c.bg.state != 0 then (bif cH c != 0 then (bif dy c ⟨cH c,0,0,0⟩then (⟨cH c,0,0,0⟩,-1)else (vO,-1))else (vO,-1))else
 match aao c with
 |some x=>(x,-1)
 |none=>bif decide ((AM c).2 >= 0)then AM c else (ta c (yb c++(s9 c++oQ c)),-1)
def aB5(c:av)(l:aa aH):Ms c l=(ta c l,(l.find? (dy c)).isSome):=by
 unfold Ms ta;cases l.find? (dy c)<;>rfl
def aB6{c:av}(h:Pq c):Ab c=some (bif decide ((c.trace.length:Int) >= 2000)then (vO,-1)else Mt c):=by
 have D:=h.p.R.sS;have O:=SY c;have Q:=h.pl;have T:=nY h.rf;have U:=C1 0 c.aQ.aJ;have E:=aB3 h;have I:=aB2 h;have J:=aB1 h;unfold Ab;cases decide ((c.trace.length:Int) >= 2000)with
 |true=>rfl
 | false=>
  rw[au,au,akb h.rf,aq,aAh _ _ _ h.dS h.pw,aq];have L:um c.box.bV.dS c.bg (uk c)=cH c:=rfl;rw[L];unfold Mt;cases c.bg.state != 0 with
  | true=>
   rw[ak,ak];by_cases C:cH c=0
   ·rw[C];rfl
   ·rw[jV C,gH C,Ss h.p (Sv D (by omega))];cases dy c ⟨cH c,0,0,0⟩<;>rfl
  | false=>
   rw[au,au,aBP h,aq,ale h (by
    rw[List.length_append];have:=alh c c.pending.length;have:(qP c).length=(cG 0 c.aQ.aJ).length:=by unfold qP;rw[dB]
    omega) (λx hx=>by
    rcases List.mem_append.1 hx with hx|hx
    ·obtain⟨b,hb,rfl⟩:=List.mem_map.1 hx;exact(alf h hb).2
    ·obtain⟨i,hi,rfl⟩:=List.mem_map.1 hx;exact alg h (fq.1 (List.mem_filter.1 hi).1)),aq]
   unfold Ms aao;cases (qP c++r3 c c.pending.length).find? (dy c)with
   |some x=>rfl
   | none=>
    dsimp only;rw[au,aBO h,aq];cases decide ((AM c).2 >= 0)with
    |true=>rfl
    | false=>
     rw[au,au,aB4 h,aq,ale h (by rw[List.length_append,List.length_append];omega) (λx hx=>by
      rcases List.mem_append.1 hx with hx|hx
      ·exact E.2 x hx
      ·rcases List.mem_append.1 hx with hx | hx
       ·exact I.2 x hx
       ·exact J.2 x hx),aq,aB5]
def aB7(p:Nat -> Bool)(n:Nat):c9 p (List.range n) <= n/\(∀ k,k<c9 p (List.range n) -> p k=false)/\(c9 p (List.range n)<n -> p (c9 p (List.range n))=true):=by
 have C:=ug p (List.range n);rw[dh]at C
 refine⟨C,λk D=>?_,λE=>?_⟩
 ·have:=m7 D (by rw[dh];omega);simp_all
 ·have:=qG (p:=p) (q:=List.range n) (by rw[dh];exact E)
  rwa [ko]at this
def aB8(c:av)(n:Nat):(r3 c n).find? (dy c)=if c9 (λi=>qO c i&&dy c (jH c i)) (List.range n)<n then some (jH c (c9 (λi=>qO c i&&dy c (jH c i)) (List.range n)))else none:=by
 unfold r3;rw[List.find?_map,List.find?_filter];have e:(List.range n).find? (λa=>decide (qO c a=true/\(dy c ∘ jH c) a=true))=(List.range n).find? (λi=>qO c i&&dy c (jH c i)):=by
  simp_all
 rw[e];rcases SU (λi=>qO c i&&dy c (jH c i)) (List.range n)with ⟨C,D⟩|⟨C,D⟩
 ·simp_all
 ·grind
def aB9{c:av}(h:Pq c):Rr c=some (Mt c):=by
 have T:=h.p.R.sS;have hw:=SY c;have uI:=h.pl;have U:=nY h.rf;have ul:=C1 0 c.aQ.aJ;have SW:=h.p.bl;have hdn:=h.dl;unfold Rr bQ;rw[ZP h.rf,aq,aka h.rf,aq,aAg _ _ _ h.dS h.pw,aq];have Y:um c.box.bV.dS c.bg (uk c)=cH c:=rfl;rw[Y];unfold Mt;cases c.bg.state != 0 with
 | true=>
  rw[ak,ak];by_cases L:cH c=0
  ·rw[L];rfl
  ·rw[gH L,ak,ak,xR h.p (Sv T (by omega)),aq];cases dy c ⟨cH c,0,0,0⟩<;>rfl
 | false=>
  rw[au,au];have gI:∀ (k:Nat) (C:k<(cG 0 c.aQ.aJ).length),CH (((),(),(),(),(),((cG 0 c.aQ.aJ).length:Int),(k:Int),()),(c,((0:Int),(0:Int),(0:Int),(0:Int),()),cG 0 c.aQ.aJ,(cH c,(0:Int),(0:Int),(0:Int),()),()))=some (bif dy c (gS c (cG 0 c.aQ.aJ)[k])then .inr (.inl (((),(-1:Int),()),(((gS c (cG 0 c.aQ.aJ)[k]).kind,(gS c (cG 0 c.aQ.aJ)[k]).ax,(gS c (cG 0 c.aQ.aJ)[k]).row,(gS c (cG 0 c.aQ.aJ)[k]).bT,()),())))else .inl (((),(),(),(),(),((cG 0 c.aQ.aJ).length:Int),((k+1:Nat):Int),()),(c,((0:Int),(0:Int),(0:Int),(0:Int),()),cG 0 c.aQ.aJ,(cH c,(0:Int),(0:Int),(0:Int),()),()))):=by
   intro k C;have⟨k1,Z⟩:=alf h (cU C);unfold CH ay aV xG xL;dsimp only;rw[aS,ak,aA ⟨by omega,by omega⟩,aA];simp only[bB];rw[aah _ (by omega) (by omega),aq];show ((iT c (gS c (cG 0 c.aQ.aJ)[k])).bind _)=_;rw[xR h.p Z,aq,bD];cases dy c (gS c (cG 0 c.aQ.aJ)[k])<;>rfl
  have hfu:(qP c).find? (dy c)=((cG 0 c.aQ.aJ).find? (λb=>dy c (gS c b))).map (gS c):=by
   unfold qP;rw[List.find?_map];rfl
  unfold aao;rw[List.find?_append,hfu,aB8];rcases SU (λb=>dy c (gS c b)) (cG 0 c.aQ.aJ)with ⟨I,O⟩|⟨I,O⟩
  ·have e:=cy (step:=CH) (cG 0 c.aQ.aJ).length (λk=>(((),(),(),(),(),((cG 0 c.aQ.aJ).length:Int),(k:Int),()),(c,((0:Int),(0:Int),(0:Int),(0:Int),()),cG 0 c.aQ.aJ,(cH c,(0:Int),(0:Int),(0:Int),()),()))) (.inr (.inl (((),(),(),(),()),(c,((0:Int),(0:Int),(0:Int),(0:Int),()),cG 0 c.aQ.aJ,(cH c,(0:Int),(0:Int),(0:Int),()),())))) aP (λk C=>by
    have:=m7 (p:=λb=>dy c (gS c b)) (q:=cG 0 c.aQ.aJ) (i:=k) (by omega) C;rw[gI k C,this];rfl) (by
    unfold CH ay aV xG xL;dsimp only;rw[bh,au]) (bI)
   rw[cq]at e
   refine(bH (λo=>Option.bind o _) e).trans ?_
   rw[aq,O];simp only[Sum.elim_inr,ef,Option.map_none,Option.none_or];have⟨i1,i2,i3⟩:=aB7 (λi=>qO c i&&dy c (jH c i)) c.pending.length;have J:∀ (k:Nat) (C:k<c.pending.length),CI (((),(),(),(),c.pending,(c.pending.length:Int),(k:Int),()),(c,((0:Int),(0:Int),(0:Int),(0:Int),()),cG 0 c.aQ.aJ,(cH c,(0:Int),(0:Int),(0:Int),()),()))=some (bif qO c k&&dy c (jH c k)then .inr (.inl (((),(-1:Int),()),(((jH c k).kind,(jH c k).ax,(jH c k).row,(jH c k).bT,()),())))else .inl (((),(),(),(),c.pending,(c.pending.length:Int),((k+1:Nat):Int),()),(c,((0:Int),(0:Int),(0:Int),(0:Int),()),cG 0 c.aQ.aJ,(cH c,(0:Int),(0:Int),(0:Int),()),()))):=by
    intro k C;have⟨ho,Q,o2,o3,o4⟩:=aak h C;unfold CI ay aV xG xI;dsimp only;rw[aS,ak,aA ⟨by omega,by omega⟩,bD];simp only[bB,aaj,(aaa U.1 Q o3),aq,Int.toNat_zero,List.drop_zero];have ek:qO c k=(!n5 c (ng c k).ax && !((c.pending.take k).any λa=>a.ax==(ng c k).ax)):=rfl;rw[ek];cases n5 c (ng c k).ax with
    |true=>rfl
    | false=>
     rw[au,bA ⟨by omega,by omega,by omega⟩,ZW _ _ (by rw[fP];omega),aq];cases (c.pending.take k).any λa=>a.ax==(ng c k).ax with
     |true=>rfl
     | false=>
      rw[au,aah _ Q o2,aq];show ((iT c (jH c k)).bind _)=_;rw[xR h.p (alg h C)];cases dy c (jH c k)<;>rfl
   by_cases E:c9 (λi=>qO c i&&dy c (jH c i)) (List.range c.pending.length)<c.pending.length
   ·rw[bA E];generalize hN:c9 (λi=>qO c i&&dy c (jH c i)) (List.range c.pending.length)=N at *
    have D:=cy (step:=CI) N (λk=>(((),(),(),(),c.pending,(c.pending.length:Int),(k:Int),()),(c,((0:Int),(0:Int),(0:Int),(0:Int),()),cG 0 c.aQ.aJ,(cH c,(0:Int),(0:Int),(0:Int),()),()))) (.inl (((),(-1:Int),()),(((jH c N).kind,(jH c N).ax,(jH c N).row,(jH c N).bT,()),()))) aP (λk C=>by
     rw[J k (by omega),i2 k C];rfl) (by
     rw[J N E,i3 E];rfl) (bI)
    rw[cq]at D
    refine(bH (λo=>Option.bind o _) D).trans ?_
    rfl
   ·rw[bM E];have D:=cy (step:=CI) c.pending.length (λk=>(((),(),(),(),c.pending,(c.pending.length:Int),(k:Int),()),(c,((0:Int),(0:Int),(0:Int),(0:Int),()),cG 0 c.aQ.aJ,(cH c,(0:Int),(0:Int),(0:Int),()),()))) (.inr (.inl (((),(),(),(),()),(c,((0:Int),(0:Int),(0:Int),(0:Int),()),cG 0 c.aQ.aJ,(cH c,(0:Int),(0:Int),(0:Int),()),())))) aP (λk C=>by
     rw[J k C,i2 k (by omega)];rfl) (by
     unfold CI ay aV xG xI;dsimp only;rw[bh,au]) (bI)
    rw[cq]at D
    refine(bH (λo=>Option.bind o _) D).trans ?_
    rw[aq];simp only[Sum.elim_inr,ef];rw[aBa h,aq,aBM h,aq];cases decide ((AM c).2 >= 0)with
    |true=>rfl
    | false=>
     rw[au,au];show ((Lt c (cG 0 c.aQ.aJ) (fB c) ⟨cH c,0,0,0⟩).bind _)=_;rw[aB0 h,aq]
  ·have e:=cy (step:=CH) (c9 (λb=>dy c (gS c b)) (cG 0 c.aQ.aJ)) (λk=>(((),(),(),(),(),((cG 0 c.aQ.aJ).length:Int),(k:Int),()),(c,((0:Int),(0:Int),(0:Int),(0:Int),()),cG 0 c.aQ.aJ,(cH c,(0:Int),(0:Int),(0:Int),()),()))) (.inl (((),(-1:Int),()),(((gS c (cG 0 c.aQ.aJ)[c9 (λb=>dy c (gS c b)) (cG 0 c.aQ.aJ)]).kind,(gS c (cG 0 c.aQ.aJ)[c9 (λb=>dy c (gS c b)) (cG 0 c.aQ.aJ)]).ax,(gS c (cG 0 c.aQ.aJ)[c9 (λb=>dy c (gS c b)) (cG 0 c.aQ.aJ)]).row,(gS c (cG 0 c.aQ.aJ)[c9 (λb=>dy c (gS c b)) (cG 0 c.aQ.aJ)]).bT,()),()))) aP (λk C=>by
    have:=m7 (p:=λb=>dy c (gS c b)) (q:=cG 0 c.aQ.aJ) (i:=k) C (by omega);rw[gI k (by omega),this];rfl) (by
    have:=qG (p:=λb=>dy c (gS c b)) (q:=cG 0 c.aQ.aJ) I;rw[gI _ I,this];rfl) (bI)
   simp_all
def aCa{r:cK}{x:aH}(C:x.kind <= 5):(fO r x).bg=r.bg:=by
 unfold fO
 grind
def fE.eO{c:av}(p:fE c)(x:aH):fE (eO c x):=⟨p.dl,p.tl,p.gl,p.t,p.g,p.pd,p.u⟩
def Ck.eO{c:av}(h:Ck c){x:aH}(C:m0 c.config.az c.bq x=true)(D:x.kind<=5)(E:c.trace.length<2000):Ck (eO c x):=by
 simp only[m0,aO]at C;exact⟨h.f1,h.f2,h.nw,ajI C.1 C.2.1 C.2.2,ak3 _ h.rd,h.ar,h.sp,h.se,h.rf,((fE.of h.pa).eO x).ok,h.qu,h.sh,h.sl,h.dr,h.pw,h.ps.trans (aCa D).symm,h.si,h.s1,h.s2,h.s3,h.er,by simp[Proofs.YtglnbhiaknohlaaGreat.eO];omega,h.rp⟩
def Ck.opn{c:av}(h:Ck c){x:aH}(E:0 <= x.ax)(I:x.ax<aW c.config.az)(J:0 <= x.row)(L:x.row<c.config.az.rows):Ck (uv c x):=by
 have C:=(vD h.rk).1;have Z:=fo C;have p:=fE.of h.pa;have SN:=p.tl;have hgl:=p.gl;have O:x.ax.toNat<c.bO.length:=by omega
 have D:dY c.config.az 100000 (uh c.config.az c.config.dU c.array x.ax x.row):=ZI C c.config.dU (by decide) (dY.rV h.ar) E I J L;have Q:∀a∈oM c x,dK c.config.az a=true/\a.bT=0:=λa D=>p.pd a (List.mem_filter.1 D).1
 have T:(oM c x).Pairwise (λx y=>x≠y):=p.u.filter _;have q:(∀ a∈(uv c x).pending,dK c.config.az a=true/\a.bT=0)/\(uv c x).pending.Pairwise (λx y=>x≠y):=by
  show (∀a∈(bif (sV c x).2 then (mA c.config.az.rows x.row).foldl (m9 x.ax) (oM c x)else oM c x),dK c.config.az a=true/\a.bT=0)/\(bif (sV c x).2 then (mA c.config.az.rows x.row).foldl (m9 x.ax) (oM c x)else oM c x).Pairwise (λx y=>x≠y);cases (sV c x).2 with
  |false=>simp_all
  | true=>
   refine akX _ (λn U=>?_) Q T
   have:=ajK J L n U;exact vr C E I this.1 this.2 (Int.le_refl 0) (by show 0<_;omega)
 have Y:fE (uv c x):=⟨p.dl,by show ((c.bO.set x.ax.toNat (sV c x).1).length:Int)=_;rw[jk];exact p.tl,p.gl,F5 p.t (by unfold sV;rw[mB _ O];exact aBx (p.t _ (cU O)) _ _),p.g,q.1,q.2⟩
 exact⟨h.f1,h.f2,h.nw,h.rk,h.rd,sZ C D,h.sp,h.se,h.rf,Y.ok,h.qu,h.sh,h.sl,h.dr,h.pw,h.ps,h.si,h.s1,h.s2,h.s3,h.er,h.tr,h.rp⟩
def Ck.ref{c:av}(h:Ck c)(hl:c.box.bV.weights.length<1073741823)(E:aL c.config.gU 1 16=true){b:Int}(I:0 <= b)(J:b<aW c.config.az):Ck (SL c b):=by
 have C:=(vD h.rk).1;have O:=fo C;have p:=fE.of h.pa;have Q:=p.dl;have D:dY _ 100000 (qI _ c.config.dU c.array b c.config.az.rows.toNat):=F2 C _ (by decide) (dY.rV h.ar) I J _ (by omega);have L:fE (SL c b):=⟨by show ((vJ c.aQ b).aJ.length:Int)=_;rw[akR];exact p.dl,by show ((c.bO.set b.toNat _).length:Int)=_;rw[jk];exact p.tl,by show ((c.guard.set b.toNat _).length:Int)=_;rw[jk];exact p.gl,F5 p.t (akY E),F5 p.g (akZ hl h.f1),λa D=>p.pd a (List.mem_filter.1 D).1,p.u.filter _⟩
 exact⟨h.f1,h.f2,h.nw,h.rk,h.rd,sZ C D,h.sp,h.se,aBF h.rf (by omega),L.ok,h.qu,h.sh,h.sl,h.dr,h.pw,h.ps,h.si,h.s1,h.s2,h.s3,h.er,h.tr,h.rp⟩
def aap{T:Type}{p:T->Prop}{l:aa T}{x:T}(h:∀ y∈l,p y)(C:p x):∀ k:Nat,∀ y∈(List.range k).foldl (λd b=>d.set b x) l,p y
 |0=>h
 | k+1=>by
  rw[xV];exact F5 (aap h C k) C
def alm{r:cY}(h:eA r=true):∀ k:Nat,eA ⟨(List.range k).foldl (λd b=>d.set b 0) r.aJ,r.wait,r.dD⟩=true
 |0=>h
 | k+1=>by
  rw[xV];exact ak6 (alm h k) k (by omega)
def Ck.SB{c:av}(h:Ck c)(hl:c.box.bV.weights.length<1073741823)(E:aL c.config.gU 1 16=true)(n:Nat)(I:(n:Int) <= aW c.config.az):Ck (gv c n []):=by
 have D:=(vD h.rk).1;have p:=fE.of h.pa;have C:=SA D c.config.dU (by decide) (dY.rV h.ar) n I;have J:fE (gv c n []):=⟨by show (((List.range n).foldl _ c.aQ.aJ).length:Int)=_;rw[xW];exact p.dl,by show (((List.range n).foldl _ c.bO).length:Int)=_;rw[xW];exact p.tl,by show (((List.range n).foldl _ c.guard).length:Int)=_;rw[xW];exact p.gl,aap p.t (akY E) n,aap p.g (akZ hl h.f1) n,λa C=>(by cases C),List.Pairwise.nil⟩
 exact⟨h.f1,h.f2,h.nw,h.rk,h.rd,sZ D C,h.sp,h.se,alm h.rf n,J.ok,h.qu,h.sh,h.sl,h.dr,h.pw,h.ps,h.si,h.s1,h.s2,h.s3,h.er,h.tr,h.rp⟩
def Ck.acc{c:av}(h:Ck c){i:Nat}(C:oO c i 100000)(Y:c.cz.length<400):Ck (uA c i):=by
 have L:=(vD h.rk).1;have p:=fE.of h.pa;have hi:=C.i;have⟨f1,f3,f4,f5,f6,f7,f8⟩:=C.facts (cU hi);have D:c.queue.getD i vN=c.queue[i]:=mB _ hi;have E:=C.d _ (cU hi);have O:=C.shl;have I:gN (AL c.shares c.queue[i].dI)=true/\((AL c.shares c.queue[i].dI).length:Int)=4:=by
  have⟨y,t,e,hl,Z⟩:=aBD ((List.replicate 4 false).set c.queue[i].dI.toNat true) (by omega) h.sh (by simp[O])
  grind
 have Q:iU (ez (eJ c.config.az c.spare)) (c.queue.take i++c.queue.drop (i+1))=true:=((Qk.of h.qu).sub (ak4 _ _)).ok;have key:∀ (a:dm) (e:aa cv) (x:eM),dY c.config.az 100000 a -> kI e=true -> Ck (oN c i a e x):=λa e x T U=>
  ⟨h.f1,h.f2,h.nw,h.rk,h.rd,sZ L T,h.sp,h.se,h.rf,(show fE (oN c i a e x)from ⟨p.dl,p.tl,p.gl,p.t,p.g,p.pd,p.u⟩).ok,Q,by unfold oN;rw[D];exact I.1,by unfold oN;rw[D];exact I.2,h.dr,h.pw,h.ps,h.si,h.s1,h.s2,h.s3,U,h.tr,by simp[oN];omega⟩
 unfold uA;rw[D];dsimp only;cases c.queue[i].write with
 |true=>exact key _ _ _ (C.a.Az _ (c:=⟨_,false⟩) (Mm E.1 E.2).2.1) h.er
 | false=>
  have J:=C.a.syms _ (cU f4);rw[au,mB _ f4];refine key _ _ _ (C.a.Az _ (SD J)) ?_;have SZ:=Mp J;by_cases e:jY c.array.cells[ic c.config.az (gB c c.queue[i].line)]=0
  ·rw[e];exact h.er
  ·rw[gH e,ak];exact aaf h.er ⟨by omega,f5⟩ (by omega)
def Ck.S0{c:av}(h:Ck c){x:aH}(C:m0 c.config.az c.bq x=true)(D:6 <= x.kind/\x.kind <= 9)(O:c.trace.length<2000):Ck (C7 (Proofs.YtglnbhiaknohlaaGreat.eO c x) x.kind):=by
 simp[m0,aO]at C;have E:=bx.1 h.nw;have⟨I,J,L⟩:=aBG h.pw h.ps h.si E.2 D C.2.2;have p:=fE.of h.pa;exact⟨h.f1,h.f2,h.nw,ajI C.1 C.2.1 C.2.2,ak3 _ h.rd,h.ar,h.sp,h.se,h.rf,(show fE _ from ⟨p.dl,p.tl,p.gl,p.t,p.g,p.pd,p.u⟩).ok,h.qu,h.sh,h.sl,h.dr,I,J,L,h.s1,h.s2,h.s3,h.er,by simp[C7,akO,Proofs.YtglnbhiaknohlaaGreat.eO];omega,h.rp⟩
def Ck.iss{c:av}(I:cW c)(h:Ck c){x:aH}{i:Int}(E:uB c x i=true):Ck (sY c x i):=by
 have Q:=Pq.of I h.ok;have J:c.box.bV.weights.length<1073741823:=by
  have:=I.1.1;unfold L4 at this;omega
 have T:aL c.config.gU 1 16=true:=by
  have:=(F1 J h.f1).1;simp[nU,aO]at this;exact this.2.2.2.2.2.1
 have⟨hb,C,U,hr⟩:=aad I Q E;have D:c.trace.length<2000:=by
  simp only[uB,aO,gT,qQ]at E;omega
 have Y:x.kind=2 \/ x.kind=3 -> c.cz.length<400:=λL=>by
  simp only[uB,aO]at E;have e:(x.kind==2 ||x.kind==3)=true:=by rcases L with q|q<;>rw[q]<;>rfl
  rw[e,ak]at E;simp[Mr,aO,gK]at E;omega
 have⟨hg,hlen,L,Z⟩:=CS C;have hc:dO c.config.az x=true:=by
  simp only[m0,aO]at C
  grind
 have SN:=(fE.of h.pa).tl;have lW:=Q.p.bl;unfold sY;rcases kinds L with q|q|q|q|q|q|q|q|q<;>rw[q]<;>simp only[Int.reduceBEq,Int.reduceBNe,ak,au,Bool.or_true,Bool.or_false,Bool.true_or,Bool.false_or,Bool.or_self]
 ·have⟨O,vh⟩:=Z (by omega);have⟨r0,r1⟩:=SM hc q;exact(h.eO C (by omega) D).opn O (by show x.ax<aW c.config.az;omega) r0 r1
 ·exact(h.eO C (by omega) D).acc ((U (.inl q)).1.eO x) (Y (.inl q))
 ·exact(h.eO C (by omega) D).acc ((U (.inr q)).1.eO x) (Y (.inr q))
 ·exact h.eO C (by omega) D
 ·have⟨O,vh⟩:=Z (by omega);exact(h.eO C (by omega) D).ref J T O (by show x.ax<aW c.config.az;omega)
 ·have:=h.S0 C (by omega) D;rw[q]at this;exact this
 ·have:=h.S0 C (by omega) D;rw[q]at this;exact this
 ·have:=h.S0 C (by omega) D;rw[q]at this;exact this
 ·have:=h.S0 C (by omega) D;rw[q]at this;exact this.SB J T _ (by show (c.bO.length:Int) <= aW c.config.az;omega)
def Nx(c y:av):Prop:=y.now=c.now/\y.config=c.config/\y.queue.Sublist c.queue/\(∀r∈y.cz,r∈c.cz\/∃q∈c.queue,r.id=q.id)/\(y.trace=c.trace\/∃x,y.trace=c.trace++[⟨c.now,x⟩])
def Nx.refl(c:av):Nx c c:=⟨rfl,rfl,List.Sublist.refl _,λr C=>.inl C,.inl rfl⟩
def aln{c:av}(x:aH){i:Nat}(hi:i<c.queue.length):Nx c (uA (eO c x) i):=by
 have key:∀ a e t,t.id=c.queue[i].id -> Nx c (oN (eO c x) i a e t):=λa e t C=>by
  refine⟨rfl,rfl,ak4 _ _,λr hr=>?_,.inr ⟨x,rfl⟩⟩
  rcases List.mem_append.1 hr with hr|hr
  ·exact .inl hr
  ·grind
 have D:(eO c x).queue.getD i vN=c.queue[i]:=mB _ hi;unfold uA
 grind
def alo{c:av}{x:aH}{i:Int}(I:1 <= x.kind/\x.kind <= 9)(D:x.kind=2 \/ x.kind=3 -> i.toNat<c.queue.length):Nx c (sY c x i):=by
 have C:∀y:av,y.now=c.now -> y.config=c.config -> y.queue=c.queue -> y.cz=c.cz -> y.trace=c.trace++[⟨c.now,x⟩] -> Nx c y:=λy J L O Q T=>⟨J,L,by rw[O];exact List.Sublist.refl _,λr E=>by rw[Q]at E;exact .inl E,.inr ⟨x,T⟩⟩
 unfold sY;rcases kinds I with q|q|q|q|q|q|q|q|q<;>rw[q]<;>simp
 ·exact C _ rfl rfl rfl rfl rfl
 ·exact aln x (D (.inl q))
 ·exact aln x (D (.inr q))
 ·exact C _ rfl rfl rfl rfl rfl
 ·exact C _ rfl rfl rfl rfl rfl
 ·exact C _ rfl rfl rfl rfl rfl
 ·exact C _ rfl rfl rfl rfl rfl
 ·exact C _ rfl rfl rfl rfl rfl
 ·exact C _ rfl rfl rfl rfl rfl
def aCb{c:av}(C:cW c)(x:aH)(i:Int):∃ y b,qA c x i=some (y,b)/\cW y/\(c8 c=true -> c8 y=true)/\Nx c y:=by
 cases D:c8 c with
 | false=>
  refine⟨c,false,?_,C,λh=>(by cases h),Nx.refl c⟩
  unfold qA xI;rw[Sk c C,Si c C,D];rfl
 | true=>
  have h:=Pq.of C D;rw[aBu C h];cases hm:uB c x i with
  |false=>exact⟨c,false,rfl,C,λ_=>D,Nx.refl c⟩
  | true=>
   have⟨hb,E,I,J⟩:=aad C h hm
   refine⟨sY c x i,true,?_,akU C hb J E I,λ_=>(Ck.iss C (Ck.of D) hm).ok,alo (CS E).2.2.1 λq=>(I q).1.i⟩
   rw[ak,aBj hb E I];rfl
def aCc{c:av}(C:cW c):∃ y,sK c=some y:=by
 unfold sK;rw[Si c C,aq];cases D:c8 c with
 |false=>simp_all
 | true=>
  have h:=Pq.of C D;rw[bF,aB9 h];cases decide ((c.trace.length:Int) >= 2000)with
  |true=>simp_all
  |false=>simp_all
def oR(d:Int):Int:=if (5:Int)<W6 (d+1)then 5 else W6 (d+1)
def aCd{r:cY}(h:eA r=true)(n:Int):∃ y,Rg r n=some y/\eA y=true/\y.aJ.length=r.aJ.length:=by
 have hl:=nY h;have C:=Mi h;have T:1<=r.wait/\r.wait<=10000:=by
  simp only[eA,aO,bx]at h;exact h.2.2
 have mk:∀ (l:aa Int) (w:Int) (b:Bool),l.length=r.aJ.length->(∀ x∈l,-2<=x/\x<=5)->1<=w/\w<=10000->eA ⟨l,w,b⟩=true:=λl w b U I J=>by
  simp only[eA,aO,cI,xH,bx];exact⟨I,by omega,J⟩
 unfold Rg Cy bu xA xZ;rw[cQ (by simp;omega),ak,kj,aq,LU _ (by omega),aq,h,bF,au,dF,aq];cases L:aL n 2 10000 with
 |false=>exact⟨r,rfl,h,rfl⟩
 |true=>
 have hb:=bx.1 L;rw[bF,au];dsimp only;rw[aR (n:=r.wait-1)];by_cases D:r.wait-1 > 0
 ·rw[aS D,ak];exact⟨_,rfl,mk _ _ _ rfl C (by omega),rfl⟩
 ·rw[bh D,au];have e:=cy (step:=Le) r.aJ.length (λi=>((n,(),(),(),(r.aJ.length:Int),(i:Int),()),((r.aJ,r.wait,r.dD,()),((),(0:Int),false,()),((),r.wait-1,r.dD,()),([]:aa Int),upto oR r.aJ i,()))) (.inl ((n,(),(),(),()),((r.aJ,r.wait,r.dD,()),((),(0:Int),false,()),((),r.wait-1,r.dD,()),([]:aa Int),r.aJ.map oR,()))) aP (λi hi=>by
   have hlen:=Aq oR r.aJ i;unfold Le ay xG xL;dsimp only;rw[aS,ak,aA ⟨by omega,by omega⟩,aA,aA ⟨by omega,by omega⟩,aA,bD];simp only[bB];rw[FN oR r.aJ i hi,<-FO oR r.aJ i hi];rfl) (by
   unfold Le ay xG xL;dsimp only;rw[bh,au,FM]) (bI)
  rw[cq,RH]at e;have E:∀ x∈r.aJ.map oR,-2<=x/\x<=5:=λx O=>by
   obtain⟨d,Q,rfl⟩:=List.mem_map.1 O;have:=C d Q;unfold oR;rw[aR (n:=d+1)];split<;>omega
  have Y:W6 (n.tdiv 2)=n / 2:=by rw[pS (by omega)];exact aR
  refine(bH (λo=>∃y,Option.bind o _=some y/\eA y=true/\y.aJ.length=r.aJ.length) e).mpr ?_
  rw[aq];simp only[ef];cases r.dD with
  |true=>exact⟨_,rfl,mk _ _ _ (by simp) E (by omega),by simp⟩
  |false=>exact⟨_,rfl,mk _ _ _ (by simp) E (by omega),by simp⟩
def aCe{g:aM}{a:dm}(h:mW g a=true):∃ y,Lh g a 1=some y/\mW g y=true:=by
 have D:=(ajU h).1;have C:=dY.rV h
 refine⟨_,azi D C (by decide) (by decide) (by decide),sZ D ⟨C.cells,C.syms,by rw[dB];exact C.bz,C.br,λx E=>?_,C.iK⟩⟩
 obtain⟨y,I,rfl⟩:=List.mem_map.1 E;exact Y9 (C.As y I) (by decide)
def aCf(q:aa aX)(w:Bool)(hl:q.length<1073741824):∃ n,Fz q w=some n:=by
 unfold Fz bu;have e:=cy (step:=Li) q.length (λi=>((w,(((q.take i).countP λr=>r.write==w:Nat):Int),q,(q.length:Int),(i:Int),()),())) (.inl (((((q.take q.length).countP λr=>r.write==w:Nat):Int),()),())) aP (λk C=>by
  have D:=List.countP_le_length (p:=λr:aX=>r.write==w) (l:=q.take k);rw[fP]at D;unfold Li ay xG xI;dsimp only;rw[aS,ak,aA ⟨by omega,by omega⟩,bD];simp only[bB];rw[pK C,List.countP_append,List.countP_singleton];cases q[k].write==w with
  |true=>rw[ bD];rfl
  |false=>rw[ bD];rfl) (by
  unfold Li ay xG xI;dsimp only;rw[bh,au]) (bI)
 rw[cq]at e;exact⟨_,(bH (λo=>Option.bind o _) e).trans rfl⟩
def aCg{d:gx}(h:kH d=true)(n:Int):∃ y,Fy d n=some y/\kH y=true:=by
 unfold Fy;rw[R0,aq,h,bF];cases decide (n >= d.high)with
 |true=>exact⟨_,rfl,h⟩
 | false=>
  cases decide (n <= d.low)with
  |true=>exact⟨_,rfl,h⟩
  |false=>simp_all
def aCh{p:eR}(h:iL p=true)(w:Bool):∃ y,FA p w=some y/\iL y=true/\y.state=p.state/\y.since=p.since:=by
 unfold FA;rw[R4,aq,h,bF];simp[iL,aO,bx]at h;cases w with
 |true=>exact⟨_,rfl,by simp[iL,aO,bx];omega,rfl,rfl⟩
 | false=>
  refine⟨_,rfl,?_,rfl,rfl⟩;rw[aR];simp[iL,aO,bx]
  grind
def aCi(b:fU)(h:AA b)(x:Bool):∃ t,Lk b x=some (bif t then ⟨b.next,b.next,false⟩else b,t):=by
 have C:b.next.weights.length <= 1048576:=h.2
 unfold Lk;rw[ZG b h];cases x with
 |false=>simp_all
 | true=>
  cases b.waits with
  |false=>simp_all
  | true=>
   refine⟨true,?_⟩;unfold Fh xA xZ;rw[gQ _];rfl
def alp{c:eT}{p:dJ}(hl:p.weights.length<1073741823)(h:lJ c p=true):∃ l t,Ae p.weights=some (l,t)/\gN l=true/\(l.length:Int)=4/\kH ⟨false,p.low,p.high⟩=true:=by
 have⟨_,f2⟩:=F1 hl h;simp[pM,aO,fI]at f2;have⟨f3,f4,f5,f6,f7,f8,f9⟩:=f2;refine⟨p.weights.map jG,true,?_,f8,by rw[dB];exact f7,f6⟩;rw[Ze _ hl];unfold xE;simp_all
def aCj{s:kS}{n:Int}(C:aL s.every 1 100000=true)(E:aL s.wait 1 s.every=true)(D:aL s.next 0 (W6 (n-1))=true)(T:1<=n/\n<=1000000):∃ y m,xy s n=some (y,m)/\aL y.every 1 100000=true/\aL y.wait 1 y.every=true/\aL y.next 0 (W6 (n-1))=true/\m<n:=by
 have L:=bx.1 C;have U:=bx.1 E;have I:W6 (n-1)=n-1:=aR;have O:=bx.1 D;rw[I]at O;unfold xy;rw[dF,aq,C,bF,au,dF,aq,E,bF,au,bh,au,dF,aq,D,bF,au,aR (n:=s.wait-1)];by_cases J:s.wait-1 > 0
 ·rw[aS J,ak];exact⟨_,_,rfl,C,bx.2 ⟨by dsimp only;omega,by dsimp only;omega⟩,D,by omega⟩
 ·rw[bh J,au,bM,aR (n:=s.next+1)];refine⟨_,_,rfl,C,bx.2 ⟨L.1,Int.le_refl _⟩,?_,by omega⟩;rw[I,oU (by omega)];have Q:=Int.emod_nonneg (s.next+1) (show n≠0 by omega);have Y:=Int.emod_lt_of_pos (s.next+1) (show 0<n by omega);exact bx.2 ⟨Q,by dsimp only;omega⟩
def Kn(s:av)(o:ah av):Prop:=∃y,o=some y/\cW y/\c8 y=true/\Nx s y
def Da(c y:av):Prop:=y.now=c.now+1/\y.config=c.config/\y.queue.Sublist c.queue/\(∀r∈y.cz,r∈c.cz\/∃q∈c.queue,r.id=q.id)/\(y.trace=c.trace\/∃x,y.trace=c.trace++[⟨c.now+1,x⟩])
def uF(c:av)(b:fU)(a:dm)(r:cY)(s:aa cw)(d:gx)(p:eR)(u:kS):av:=⟨c.config,b,W6 (c.now+1),c.bq,c.ready,a,c.spare,r,c.bO,c.guard,c.pending,c.queue,s,d,p,u,c.errors,c.trace,c.cz⟩
def S1(x:av):ah av:=(sK x).bind λC=>bif (C.1.kind != (0:Int))then (qA x C.1 C.2).bind λD=>some D.1 else some x
def S2(x:av)(n:Int):ah av:=bif (decide (n >= (0:Int)))then (xw x n).bind λC=>(xu C.2.1 n C.1.2).bind λD=>S1 D.2.1 else S1 x
def stepT(c:av)(r:cY)(a:dm):ah av:=(Fz c.queue true).bind λL=>(Fy c.drain L).bind λI=>(Am (uF c c.box a r c.shares I c.bg c.cM)).bind λO=>(FA c.bg O).bind λJ=>(Lk c.box ((c.queue.length:Int)==(0:Int))).bind λC=>bif C.2 then (Ae C.1.bV.weights).bind λQ=>(vm c.config.az).bind λE=>(xy c.cM E).bind λD=>S2 (uF c C.1 a r Q.1 ⟨false,C.1.bV.low,C.1.bV.high⟩ J D.1) D.2 else (vm c.config.az).bind λE=>(xy c.cM E).bind λD=>S2 (uF c C.1 a r c.shares I J D.1) D.2
def aaq{x:av}(C:cW x)(h:c8 x=true):Kn x (S1 x):=by
 have⟨y,e⟩:=aCc C;have⟨z,b,D,E,I,J⟩:=aCb C y.1 y.2;unfold S1;rw[e,aq];cases y.1.kind != 0 with
 |false=>exact⟨x,rfl,C,h,Nx.refl x⟩
 | true=>
  rw[ D];exact⟨z,rfl,E,I h,J⟩
def alq{x:av}(L:cW x)(h:c8 x=true){n:Int}(hn:n<ez x.config.az):Kn x (S2 x n):=by
 unfold S2;by_cases E:n >= 0
 ·have C:=Ck.of h;have I:=dY.rV C.ar;have O:=(vD C.rk).1;have hl:=I.cells;have hb:=lH x.config.az;obtain⟨j,rfl⟩:=eX E;have Q:j<x.array.cells.length:=by omega
  have J:=I.syms _ (cU Q);have SZ:=Mp J;have D:dY x.config.az 100000 ⟨x.array.cells.set j (nZ x.array.cells[j]),x.array.bz,x.array.br⟩:=I.Az _ (SD J);have p:=fE.of C.pa;have jb:=(Ek.of C.er).l;rw[aS E,ak,akD Q J,aq];dsimp only;rw[akJ (c:=qK x j (nZ x.array.cells[j])) C.er ⟨by omega,by omega⟩ SZ,aq];dsimp only;have⟨T,U,Y,z5,Z,z7,z8,z9,iJ,jx,iV,iW,gP,jj⟩:=L;have Ij:cW (qK x j (nZ x.array.cells[j])):=⟨T,U,Y,rW D,Z,z7,z8,z9,iJ,jx,iV,iW,gP,jj⟩
  have HH:Ck (qK x j (nZ x.array.cells[j])):=⟨C.f1,C.f2,C.nw,C.rk,C.rd,sZ O D,C.sp,C.se,C.rf,(show fE (qK x j (nZ x.array.cells[j]))from ⟨p.dl,p.tl,p.gl,p.t,p.g,p.pd,p.u⟩).ok,C.qu,C.sh,C.sl,C.dr,C.pw,C.ps,C.si,C.s1,C.s2,C.s3,C.er,C.tr,C.rp⟩
  unfold AK;by_cases e:jY x.array.cells[j]=0
  ·rw[e];exact aaq Ij HH.ok
  ·rw[gH e,ak];have he:=aaf C.er ⟨by omega,by omega⟩ (code:=jY x.array.cells[j]) (by omega);have hle:=Z9 (l:=x.errors) (j:Int) (jY x.array.cells[j]);exact aaq ⟨T,U,Y,rW D,Z,z7,z8,z9,iJ,jx,iV,by show (sX x.errors (j:Int) _).length <= _;omega,gP,jj⟩ (Ck.ok ⟨C.f1,C.f2,C.nw,C.rk,C.rd,sZ O D,C.sp,C.se,C.rf,(show fE _ from ⟨p.dl,p.tl,p.gl,p.t,p.g,p.pd,p.u⟩).ok,C.qu,C.sh,C.sl,C.dr,C.pw,C.ps,C.si,C.s1,C.s2,C.s3,he,C.tr,C.rp⟩)
 ·rw[bh E];exact aaq L h
def alr{c:av}(Z:cW c)(h:Ck c)(hn:c.now≠1000000){r:cY}{a:dm}(O:eA r=true)(VM:r.aJ.length=c.aQ.aJ.length)(Q:mW c.config.az a=true):∃ y,stepT c r a=some y/\cW y/\c8 y=true/\Da c y:=by
 obtain⟨C,z2,z3,z5,z6,z7,z8,z9,iJ,jx,iV,iW,gP,jj⟩:=Z;have p:=fE.of h.pa;have hg:=(vD h.rk).1;have hnw:=bx.1 h.nw;have hb:=lH c.config.az;have hLp:1<=ez c.config.az:=by
  have:=bx.1 h.s3;rw[aR (n:=ez c.config.az-1)]at this;omega
 have w1:c.box.bV.weights.length<=1048576:=C.1;have w2:c.box.next.weights.length<=1048576:=C.2
 obtain⟨n,e1⟩:=aCf c.queue true (by omega);obtain⟨d,e2,I⟩:=aCg h.dr n;have e3:Am (uF c c.box a r c.shares d c.bg c.cM)=some (uk (uF c c.box a r c.shares d c.bg c.cM)):=aka (c:=uF c c.box a r c.shares d c.bg c.cM) O;obtain⟨pw,e4,Eo,BG,hp3⟩:=aCh h.pw (uk (uF c c.box a r c.shares d c.bg c.cM));obtain⟨t,e5⟩:=aCi c.box C ((c.queue.length:Int)==(0:Int));obtain⟨u,m,T,G5,G6,hu3,U⟩:=aCj h.s1 h.s2 h.s3 ⟨hLp,by omega⟩;have E:W6 (c.now+1)=c.now+1:=aR;have key:∀ (b:fU) (s:aa cw) (d:gx),AA b->lJ c.config b.bV=true->lJ c.config b.next=true->gN s=true->(s.length:Int)=4->kH d=true->cW (uF c b a r s d pw u)/\c8 (uF c b a r s d pw u)=true:=λb s d vh gX hb3 S3 S4 I=>by
  refine⟨⟨vh,z2,z3,rW (dY.rV Q),z6,by have:=z7;unfold xK at this ⊢;show r.aJ.length<=_;omega,z8,z9,iJ,jx,by show s.length<=_;omega,iW,gP,jj⟩,Ck.ok ⟨gX,hb3,?_,h.rk,h.rd,Q,h.sp,h.se,O,(show fE (uF c b a r s d pw u)from ⟨by show (r.aJ.length:Int)=_;rw[VM];exact p.dl,p.tl,p.gl,p.t,p.g,p.pd,p.u⟩).ok,h.qu,S3,S4,I,Eo,BG.trans h.ps,?_,G5,G6,hu3,h.er,h.tr,h.rp⟩⟩
  ·show aL (W6 (c.now+1)) 0 1000000=true;rw[E];exact bx.2 ⟨by omega,by omega⟩
  ·show pw.since<=W6 (c.now+1);have:=h.si;rw[E,hp3];omega
 have Y:∀ (b:fU) (s:aa cw) (d:gx) (o:ah av),Kn (uF c b a r s d pw u) o->∃ y,o=some y/\cW y/\c8 y=true/\Da c y:=λb s d o ho=>by
  obtain⟨y,f1,f2,f3,f4,f5,f6,f7,D⟩:=ho;refine⟨y,f1,f2,f3,f4.trans E,f5,f6,f7,?_⟩;rcases D with D|⟨x,D⟩
  ·exact .inl D
  ·refine .inr ⟨x,D.trans ?_⟩;show c.trace++[⟨W6 (c.now+1),x⟩]=_;rw[E]
 unfold stepT;rw[e1,aq,e2,aq,e3,aq,e4,aq,e5,aq];dsimp only;cases t with
 | false=>
  rw[au,au,LI,aq,T,aq];obtain⟨J,L⟩:=key c.box c.shares d C h.f1 h.f2 h.sh h.sl I;exact Y _ _ _ _ (alq J L U)
 | true=>
  obtain⟨l,t2,e7,sr,lV,F6⟩:=alp (p:=c.box.next) (by omega) h.f2;rw[ak,ak];dsimp only;rw[e7,aq,LI,aq,T,aq];obtain⟨J,L⟩:=key ⟨c.box.next,c.box.next,false⟩ l ⟨false,c.box.next.low,c.box.next.high⟩ ⟨C.2,C.2⟩ h.f2 h.f2 sr lV F6;exact Y _ _ _ _ (alq J L U)
def aCk{c:av}(D:cW c)(O:c8 c=true):∃ y,CJ c=some y/\cW y/\c8 y=true/\(c.now≠1000000 -> Da c y)/\(c.now=1000000 -> y=c):=by
 have h:=Ck.of O;unfold CJ;rw[Sk c D,aq,Si c D,aq,O,bF];by_cases C:c.now=1000000
 ·simp_all
 ·rw[jV C];cases _ != (2:Int)with
  | true=>
   obtain⟨r,Q,T,U⟩:=aCd h.rf _;obtain⟨a,Y,Z⟩:=aCe h.ar;rw[ Q,Y];obtain⟨y,E,I,J,L⟩:=alr D h C T U Z;exact⟨y,E,I,J,λ_=>L,λe=>absurd e C⟩
  | false=>
   obtain⟨y,E,I,J,L⟩:=alr D h C h.rf rfl h.ar;exact⟨y,E,I,J,λ_=>L,λe=>absurd e C⟩
def S5(R:Nat)(M:Int)(m:aa Int)(b j:Nat):Prop:=m.getD (b*R+j) 0=(j:Int)\/((R:Int)<=m.getD (b*R+j) 0/\m.getD (b*R+j) 0<=M/\∀k,k<j->m.getD (b*R+k) 0≠m.getD (b*R+j) 0)
def aar{m:aa Int}{R b k:Nat}(C:k<R)(hl:(b+1)*R <= m.length):(iB m R b)[k]?=some (m.getD (b*R+k) 0):=by
 rw[iC]at hl;rw[FT,List.getElem?_take_of_lt C,List.getElem?_drop,bX (by omega),mB]
def als{R:Nat}{M:Int}{m:aa Int}{b j:Nat}(D:j<R)(hl:(b+1)*R <= m.length):vB (R:Int) M (iB m R b) j=true ↔ S5 R M m b j:=by
 unfold vB S5;rw[aar D hl];simp only[eB,aO,fI,bx,gT,mC];have key:(∀ x∈(iB m R b).take j,¬ x=m.getD (b*R+j) 0) ↔ ∀ k,k<j -> m.getD (b*R+k) 0≠m.getD (b*R+j) 0:=by
  constructor
  ·intro h k C;refine h _ ?_;rw[List.mem_iff_getElem?];exact⟨k,by rw[List.getElem?_take_of_lt C,aar (by omega) hl]⟩
  ·intro h x E;have⟨k,C⟩:=List.mem_iff_getElem?.1 E;have I:k<j:=by
    grind
   rw[List.getElem?_take_of_lt I,aar (by omega) hl]at C
   grind
 rw[key,and_assoc]
structure Sp (g:aM) (s:dH) (bn R:Nat):Prop where
 sb:jv g s.bP=true
 hb:aW g=(bn:Int)
 hR:g.rows-s.bP=(R:Int)
 hl:s.map.length=bn*R
 f:∀b,b<bn->∀j,j<R->S5 R (g.rows-1) s.map b j
def Sp.of{g:aM}{s:dH}(h:kL g s=true):∃ C R,Sp g s C R:=by
 have⟨_,U,_,_,E,Y,Z,h4⟩:=Mf h;have Q:=fh g;simp only[kL,aO,fI,cI,fq]at h;have⟨T,hl,J⟩:=h;have⟨R,hR⟩:=eX (show 0 <= g.rows-s.bP by omega);have⟨C,I⟩:=eX Q.1;rw[hR,I,bB,bB]at hl;have hl:s.map.length=C*R:=by exact_mod_cast hl
 rw[hR,I,bB,bB]at J
 refine⟨C,R,T,I,hR,hl,λb hb j D=>?_⟩
 have L:(b+1)*R <= s.map.length:=by rw[hl];exact iN R hb
 have O:=FU L;have e:=Zp (R:Int) (g.rows-1) (iB s.map R b) (by rw[O]);rw[O]at e;have E:=cI.2 λj D=>J b hb j (fq.1 D)
 rw[e]at E;exact(als D L).1 (cI.1 E j (fq.2 D))
def Sp.ok{g:aM}{s:dH}{I R:Nat}(h:Sp g s I R):kL g s=true:=by
 have⟨J,L,hR,hl,O⟩:=h;simp only[kL,aO,fI,cI,fq];rw[hR,L,bB,bB]
 refine⟨J,by exact_mod_cast hl,λb hb=>?_⟩
 have C:(b+1)*R <= s.map.length:=by rw[hl];exact iN R hb
 have D:=FU C;have e:=Zp (R:Int) (g.rows-1) _ (by rw[D]);rw[D]at e;have Q:=cI.2 λj E=>(als (fq.1 E) C).2 (O b hb j (fq.1 E))
 simp_all
def aCl{R b c r j:Nat}(C:r<R)(E:j<R)(h:b*R+r=c*R+j):b=c/\r=j:=by
 have key:∀ {b c r j:Nat},r<R -> b*R+r=c*R+j -> ¬ b<c:=λ{b c r j} C h D=>by
  have:=iN R (show b+1 <= c from D)
  grind
 grind
def S6{m:aa Int}{p:Nat}(C:p<m.length)(i:Int)(q:Nat):(m.set p i).getD q 0=if q=p then i else m.getD q 0:=by grind
def Sp.set{g:aM}{s:dH}{D R:Nat}(h:Sp g s D R){b r:Nat}(hb:b<D)(J:r<R){i:Int}(Q:(R:Int) <= i)(T:i <= g.rows-1)(hn:∀ k,k<R -> s.map.getD (b*R+k) 0≠i):Sp g ⟨s.bP,s.map.set (b*R+r) i⟩ D R:=by
 have C:b*R+r<s.map.length:=by
  have:=Aw hb (show r+1 <= R from J);rw[h.hl];omega
 refine⟨h.sb,h.hb,h.hR,by rw[jk];exact h.hl,λc U j L=>?_⟩
 have E:=h.f c U j L;unfold S5 at E ⊢;dsimp only;by_cases e:c=b
 ·subst e;by_cases Y:j=r
  ·subst Y;refine .inr ?_;rw[S6 C,bA rfl]
   refine⟨Q,T,λk I=>?_⟩
   rw[S6 C,bM]
   grind
  ·grind
 ·have O:∀ k,k<R -> ¬ c*R+k=b*R+r:=λk I Z=>e (aCl I J Z).1
  rw[S6 C,bM (O j L)];rcases E with E|⟨o1,o2,o3⟩
  ·grind
  ·refine .inr ⟨o1,o2,λk I=>?_⟩
   rw[S6 C,bM (O k (by omega))];simp_all
def Sp.AP{g:aM}{s:dH}{C R:Nat}(h:Sp g s C R):cC g=true/\cC (eJ g s)=true/\eJ g s=⟨g.cu,g.aC,(R:Int),g.aN⟩/\aW (eJ g s)=(C:Int)/\C <= 8/\R <= 16/\2 <= R/\1 <= g.aN/\g.rows <= 16/\0 <= s.bP:=by
 have⟨e,D,E,I,J,L,O,Q⟩:=Mf h.ok;have T:=fh g;have U:=fo D;have:=h.hb;have hR:=h.hR
 grind
def Sp.bound{g:aM}{s:dH}{C R:Nat}(h:Sp g s C R){b r:Nat}(hb:b<C)(D:r<R):0<=s.map.getD (b*R+r) 0/\s.map.getD (b*R+r) 0<g.rows:=by
 have hR:=h.hR;have E:=h.AP.2.2.2.2.2.2.2.2.2;rcases h.f b hb r D with e|⟨I,J,_⟩
 ·omega
 ·omega
def Sp.ex{g:aM}{s:dH}{C R:Nat}(h:Sp g s C R)(b r:Int):dK (eJ g s) ⟨b,r,0⟩=true ↔ (0 <= b/\b<(C:Int))/\0 <= r/\r<(R:Int):=by
 have⟨_,J,e,L,_,_,_,T,_⟩:=h.AP;have er:(eJ g s).rows=R:=by rw[e]
 have O:(eJ g s).aN=g.aN:=by rw[e]
 constructor
 ·intro Q;have⟨_,D,E,I,a4,_⟩:=rO Q;simp_all
 ·rintro⟨⟨D,E⟩,I,a4⟩;exact vr J D (by rw[L];exact E) I (by rw[er];exact a4) (Int.le_refl 0) (by rw[O];show (0:Int)<_;omega)
def Sp.lens{g:aM}{s:dH}{D R:Nat}(h:Sp g s D R){b:Nat}(hb:b<D):(b+1)*R <= s.map.length/\s.map.length <= 128/\(iB s.map R b).length=R/\Nat.ble (b*R) ((b+1)*R)=true/\Nat.ble ((b+1)*R) s.map.length=true:=by
 have hl:=h.hl;have E:=h.AP.2.2.2.2.1;have I:=h.AP.2.2.2.2.2.1;have C:(b+1)*R <= s.map.length:=by rw[hl];exact iN R hb
 have J:=Nat.mul_le_mul E I;exact⟨C,by omega,FU C,iD (by rw[iC];omega),iD C⟩
def S7:cr:=⟨List.replicate 16 (-1),List.replicate 16 0,0⟩
def alu:bY:=⟨List.replicate 11 0,false⟩
def S8(g:aM):dm:=⟨List.replicate (ez g).toNat alu,List.replicate (fY g).toNat 0,List.replicate (fY g).toNat 0⟩
def td(c:eT)(p:dJ):av:=⟨c,⟨p,p,false⟩,0,R9 c.az,Se c.az,S8 c.az,(sO c.az c.bP).1,⟨List.replicate (aW c.az).toNat 0,c.interval,false⟩,List.replicate (aW c.az).toNat S7,List.replicate (aW c.az).toNat p.eZ,[],[],p.weights.map jG,⟨false,p.low,p.high⟩,⟨0,0,0⟩,⟨0,10,10⟩,[],[],[]⟩
def Db{p:dJ}(h:xN p):pM p=true/\gN (p.weights.map jG)=true/\p.weights.length=4:=by
 have⟨⟨⟨D,E⟩,⟨I,J⟩,⟨L,O⟩,⟨Q,T⟩,⟨i,w,hi,U,Y,hw⟩,⟨Z,h10⟩,Sr,kz⟩,kX,mE⟩:=h;have hl:p.weights.length=4:=by rw[hw,jk];rfl
 have C:gN (p.weights.map jG)=true:=by
  rw[hw];rcases(by omega:i=0 \/ i=1 \/ i=2 \/ i=3)with rfl|rfl|rfl|rfl<;>rcases(by omega:w=1 \/ w=2 \/ w=3 \/ w=4)with rfl|rfl|rfl|rfl<;>rfl
 refine⟨?_,C,hl⟩;unfold pM kH xF;rw[C,hl];simp only[aL,aO,gK]
 grind
def aCm{n:Int}(C:8<=n)(D:n<=17):Af n=some (2*n+2):=by
 unfold Af;rw[dF,aq,bx.2 ⟨by omega,by omega⟩,bF,au,aR (n:=2*n),aR]
def S9{g:aM}(h:Sj g):cC g=true:=by
 have⟨⟨C,D⟩,⟨E,I⟩,⟨J,L⟩,O,Q⟩:=h;simp[cC,aL,aO,gK];omega
def aCn:∀ r∈[(1:Int),2,3,4],∀ w∈[(4:Int),5,6,7,8],jg (ZE r w)=true/\decide (CO (ZE r w) <= 200)=true:=by
 intro r C w D;simp at C D;rcases C with rfl|rfl|rfl|rfl<;>rcases D with rfl|rfl|rfl|rfl|rfl<;>exact⟨by kernel_rfl,by kernel_rfl⟩
def aCo{c:eT}(h:vF c):nU c=true:=by
 have⟨C,⟨r,w,J,L,O,Q,D⟩,⟨T,U⟩,⟨Y,Z⟩,⟨hi1,hi2⟩,E,hl⟩:=h;have I:=S9 C;have⟨t1,t2⟩:=aCn r (by simp;omega) w (by simp;omega);have t2:=of_decide_eq_true t2;have⟨⟨h1,h2⟩,⟨h3,h4⟩,⟨h5,h6⟩,h7,h8⟩:=C;unfold nU jv;rw[I,D,t1,hl,E];rw[aR];simp only[aL,aO,gK,true_and];omega
def alv{c:eT}{p:dJ}(C:vF c)(D:xN p):sI c p=some true:=by
 have I:=aCo C;have⟨J,_,Y⟩:=Db D;have⟨Z,⟨r,w,hr1,AV,hw1,hw2,E⟩,⟨hm1,hm2⟩,⟨S3,S4⟩,⟨hi1,hi2⟩,L,hl⟩:=C;have⟨_,O,Q⟩:=D;have T:c.bL.gw=7:=by rw[E];rfl
 have U:c.bL.rp=3:=by rw[E];rfl
 unfold sI;rw[RZ,aq,I,ak,R1 _ (by omega),aq,J,ak,aCm O Q,aq,hl,L,T,U,aR (n:=2*p.eZ+2+2)];dsimp only;rw[aS,ak,aR (n:=7+3),bM,aR (n:=5*c.interval),pS (by omega),aR (n:=16+1),aR (n:=(16+1)*p.eZ),aR (n:=5*c.interval / (7+3)),aR,aS]
def grow(x:av)(l:Int)(i:Nat):av:=⟨x.config,x.box,x.now,x.bq,x.ready,x.array,x.spare,x.aQ,x.bO++List.replicate i S7,x.guard++List.replicate i l,x.pending,x.queue,x.shares,x.drain,x.bg,x.cM,x.errors,x.trace,x.cz⟩
def aas(g:aM)(sp:Int):aM:=⟨g.cu,g.aC,g.rows-sp,g.aN⟩
def Ta(g:aM)(sp:Int):Bool:=mZ g (R9 g)&&(kK g (Se g)&&(mW g (S8 g)&&(kL g (sO g sp).1&&((sO g sp).1.bP==sp&&(cC (aas g sp)&&(decide (0<ez (aas g sp))&&(W6 (W6 ((ez g).tdiv g.rows)*W6 (g.rows-sp))==ez (aas g sp)&&(decide (1<=ez g)&&decide ((sO g sp).1.map.length<=1048576)))))))))
def aCp:(([1,2]:aa Int).all λG=>([1,2]:aa Int).all λB=>([4,5,6]:aa Int).all λR=>([1,2]:aa Int).all λC=>([0,1,2]:aa Int).all λsp=>Ta ⟨G,B,R,C⟩ sp)=true:=by kernel_rfl
def alw{g:aM}{sp:Int}(h:Sj g)(C:0 <= sp)(D:sp <= 2):Ta g sp=true:=by
 have⟨⟨E,I⟩,⟨J,L⟩,⟨O,Q⟩,d1,d2⟩:=h;have e:=aCp;simp only[cI]at e;exact e _ (by simp;omega) _ (by simp;omega) _ (by simp;omega) _ (by simp;omega) sp (by simp;omega)
def aCq:kJ S7=true:=by kernel_rfl
def aCr{c:eT}{p:dJ}(C:vF c)(I:xN p):cW (td c p):=by
 have hb:=fh c.az;have hl:=lH c.az;have J:=pJ c.az;have⟨_,_,L⟩:=Db I;have E:=alw C.1 C.2.2.2.1.1 C.2.2.2.1.2;simp only[Ta,aO,gK]at E
 refine⟨⟨?_,?_⟩,?_,⟨?_,?_⟩,⟨⟨?_,λy D=>?_⟩,?_,?_⟩,E.2.2.2.2.2.2.2.2.2,?_,⟨?_,λy D=>?_⟩,?_,?_,?_,?_,?_,?_,?_⟩
 ·show p.weights.length <= _;omega
 ·show p.weights.length <= _;omega
 ·show (List.replicate _ _).length <= _;rw[nh];omega
 ·show (List.replicate _ _).length <= _;rw[nh];omega
 ·exact Nat.zero_le _
 ·show (List.replicate _ _).length <= _;rw[nh];omega
 ·obtain rfl:=List.eq_of_mem_replicate D;exact cL rfl
 ·show (List.replicate _ _).length <= _;rw[nh];omega
 ·show (List.replicate _ _).length <= _;rw[nh];omega
 ·show (List.replicate _ _).length <= _;rw[nh];omega
 ·show (List.replicate _ _).length <= _;rw[nh];omega
 ·obtain rfl:=List.eq_of_mem_replicate D;exact⟨cL rfl,cL rfl⟩
 ·show (List.replicate _ _).length <= _;rw[nh];omega
 ·exact Nat.zero_le _
 ·exact Nat.zero_le _
 ·show (p.weights.map jG).length <= _;rw[dB];omega
 ·exact Nat.zero_le _
 ·exact Nat.zero_le _
 ·exact Nat.zero_le _
def aCs{c:eT}{p:dJ}(C:vF c)(D:xN p):c8 (td c p)=true:=by
 have hb:=fh c.az;have hbp:=LH (S9 C.1);have hl:=lH c.az;obtain⟨_,J,L⟩:=Db D;have E:=alw C.1 C.2.2.2.1.1 C.2.2.2.1.2;simp only[Ta,aO,gK]at E;obtain⟨O,Q,T,U,Y,g6,g7,g8,g9,g10⟩:=E;have I:lJ c p=true:=by unfold lJ;rw[alv C D];rfl
 have hiv:200<=c.interval/\c.interval<=259:=C.2.2.2.2.1;obtain⟨⟨_,_,⟨l1,l2⟩,⟨Z,l4⟩,_⟩,p1,p2⟩:=D;have e1:eA (td c p).aQ=true:=by
  unfold eA;simp only[td,nh,aL,aO,gK,List.all_replicate];refine⟨?_,by omega,aS,aS⟩;split<;>rfl
 have e2:sP (td c p)=true:=by
  unfold sP;simp only[td,nh,aO,fI,List.length_nil,List.range_zero,List.all_nil];refine⟨by omega,by omega,by omega,rfl,?_,trivial⟩;rw[cI];intro i hi;have hi:i<(aW c.az).toNat:=fq.1 hi;unfold partAt;simp only[List.getElem?_replicate,hi,if_true,aCq,cJ];exact bx.2 ⟨by omega,by omega⟩
 have e3:kH (td c p).drain=true:=by
  unfold kH;simp only[td,aO];exact⟨aS l1,aS Z,aS⟩
 have e4:aL 0 0 (W6 (ez c.az-1))=true:=by
  rw[aR];exact bx.2 ⟨by omega,by omega⟩
 have e5:((p.weights.map jG).length:Int)==4:=by rw[dB,L];rfl
 unfold c8;simp only[aO];exact⟨I,I,rfl,O,Q,T,U,Y,⟨e1,e2⟩,rfl,J,e5,e3,rfl,rfl,rfl,rfl,rfl,e4,rfl,rfl,rfl⟩
def aCt{c:av}(C:c8 c=true)(r:aX):c8 (sR c r).1=true/\((sR c r).2=false -> (sR c r).1=c):=by
 have h:=Ck.of C;have p:=fE.of h.pa;unfold sR;cases hb:((!c8 c) ||((!(m8 c r).2) ||(c.cz.any λx=>x.id==r.id)))with
 |true=>simp_all
 | false=>
  refine⟨?_,λh=>by cases h⟩
  rw[au];simp only[oS,Bool.not_eq_false']at hb;have D:iU (ez (eJ c.config.az c.spare)) (m8 c r).1=true:=by
   have E:=hb.2.1;unfold m8 CY at E ⊢
   grind
  exact Ck.ok ⟨h.f1,h.f2,h.nw,h.rk,h.rd,h.ar,h.sp,h.se,h.rf,(show fE { c with queue:=(m8 c r).1 } from ⟨p.dl,p.tl,p.gl,p.t,p.g,p.pd,p.u⟩).ok,D,h.sh,h.sl,h.dr,h.pw,h.ps,h.si,h.s1,h.s2,h.s3,h.er,h.tr,h.rp⟩
def aCu{b:aa Int}{c:bN}(E:jF b c):Dr b (Qi c) λ_=>True:=by
 unfold Qi;rw[E.eq]
 refine(fl E 4).bind λx L O D=>?_
 rw[D.eta];cases hb:(x==0)with
 | true=>
  refine(RQ D _ (by decide)).bind λy I _ C=>?_
  rw[C.eta];exact Dr.pure C trivial
 | false=>
  cases Q:(x==1)with
  | true=>
   refine(fl D 200).bind λy I _ C=>?_
   rw[C.eta];exact Dr.pure C trivial
  | false=>
   refine(fl D 65536).bind λy I _ C=>?_
   rw[C.eta]
   refine(fl C 65536).bind λy T _ J=>?_
   rw[J.eta];exact Dr.pure J trivial
def aCv(l:aa aK)(h:l.length<=1048576):Rz l l=some true:=by
 have e:=cy (step:=Ly) l.length (λi=>((l,l,(i:Int),()),())) (.inr (.inl ((),()))) aP (λi hi=>by
  unfold Ly ay aV xG xI;simp (disch:=omega) [hi,bD]) (by unfold Ly ay aV xG xI;simp) (bI)
 rw[cq]at e;unfold Rz bQ;simp[e]
def aCw(l:aa aX)(h:l.length<=1048576):RB l l=some true:=by
 have e:=cy (step:=Lz) l.length (λi=>((l,l,(i:Int),()),())) (.inr (.inl ((),()))) aP (λi hi=>by
  unfold Lz ay aV xG xI;simp (disch:=omega) [hi,bD]) (by unfold Lz ay aV xG xI;simp) (bI)
 rw[cq]at e;unfold RB bQ;simp[e]
def aCx(l:aa cw)(h:l.length<=1048576):RC l l=some true:=by
 have e:=cy (step:=LA) l.length (λi=>((l,l,(i:Int),()),())) (.inr (.inl ((),()))) aP (λi hi=>by
  unfold LA ay aV xG xI;simp (disch:=omega) [hi,bD]) (by unfold LA ay aV xG xI;simp) (bI)
 rw[cq]at e;unfold RC bQ;simp[e]
def aCy(l:aa cv)(h:l.length<=1048576):RD l l=some true:=by
 have e:=cy (step:=LB) l.length (λi=>((l,l,(i:Int),()),())) (.inr (.inl ((),()))) aP (λi hi=>by
  unfold LB ay aV xG xI;simp (disch:=omega) [hi,bD]) (by unfold LB ay aV xG xI;simp) (bI)
 rw[cq]at e;unfold RD bQ;simp[e]
def aCz(l:aa eY)(h:l.length<=1048576):RE l l=some true:=by
 have e:=cy (step:=LC) l.length (λi=>((l,l,(i:Int),()),())) (.inr (.inl ((),()))) aP (λi hi=>by
  unfold LC ay aV xG xI;simp (disch:=omega) [hi,bD]) (by unfold LC ay aV xG xI;simp) (bI)
 rw[cq]at e;unfold RE bQ;simp[e]
def aCA(l:aa eM)(h:l.length<=1048576):RG l l=some true:=by
 have e:=cy (step:=LD) l.length (λi=>((l,l,(i:Int),()),())) (.inr (.inl ((),()))) aP (λi hi=>by
  unfold LD ay aV xG xI;simp (disch:=omega) [hi,bD]) (by unfold LD ay aV xG xI;simp) (bI)
 rw[cq]at e;unfold RG bQ;simp[e]
def aCB(l:aa cr)(h:l.length<=1048576/\∀ y∈l,jw y):Ry l l=some true:=by
 have e:=cy (step:=Lx) l.length (λi=>((l,l,(i:Int),()),())) (.inr (.inl ((),()))) aP (λi hi=>by
  have C:=h.2 _ (cU hi);unfold jw at C;unfold Lx ay aV xG xI;simp (disch:=omega) [hi,bD,tZ _ (show l[i].rows.length<1073741823 by omega),tZ _ (show l[i].counts.length<1073741823 by omega)]) (by unfold Lx ay aV xG xI;simp) (bI)
 rw[cq]at e;unfold Ry bQ;simp[e]
def alx(p:dJ)(h:p.weights.length<=1048576):Lv p p=some true:=by
 unfold Lv;simp[tZ _ (show p.weights.length<1073741823 by omega)]
def aly{c:av}(E:cW c):LF c c=some true:=by
 obtain⟨⟨C,D⟩,I,⟨z3,z3'⟩,⟨⟨z5,J⟩,z5a,z5b⟩,L,O,Q,z9,T,U,Y,Z,gP,jj⟩:=E;unfold L4 at C D;unfold ZD at I;unfold ajS at L;unfold xK at O;have Tb:∀ x∈c.array.cells,x.symbols.length<1073741823:=λx hx=>by
  have:=J x hx;unfold Sg at this;omega
 have hrk:Ru c.bq c.bq=some true:=by
  unfold Ru;simp[axS _ (show c.bq.aC.length<1073741823 by omega)]
 unfold LF;simp only[ni,bne_self_eq_false,Bool.and_self,bF,au,ak,aq,alx _ C,alx _ D,hrk,tZ _ (show c.ready.last.length<1073741823 by omega),tZ _ (show c.ready.bf.length<1073741823 by omega),aAU _ (show c.array.cells.length<1073741823 by omega) (show c.array.bz.length<1073741823 by omega) (show c.array.br.length<1073741823 by omega) Tb,tZ _ (show c.spare.map.length<1073741823 by omega),tZ _ (show c.aQ.aJ.length<1073741823 by omega),aCB _ Q,tZ _ (show c.guard.length<1073741823 by omega),aCv _ T,aCw _ U,aCx _ Y,aCy _ Z,aCz _ gP,aCA _ jj]
def aCC{b:aa Int}{c:bN}(D:jF b c)(n:Int):Dr b (Qj c n) λ_=>True:=by
 unfold Qj;rw[D.eq]
 refine(fl D 60).bind λT U Y E=>?_
 dsimp only;rw[E.eta]
 refine(fl E 3).bind λZ k2 h2 I=>?_
 dsimp only;rw[I.eta]
 refine(fl I n).bind λx3 k3 h3 J=>?_
 dsimp only;rw[J.eta]
 refine(fl J 50).bind λx4 k4 h4 L=>?_
 dsimp only;rw[L.eta]
 refine(RR L 2).bind λQ k5 h5 C=>?_
 dsimp only;rw[C.eta];cases Q with
 | true=>
  refine(aCu C).bind λx6 k6 h6 O=>?_
  rw[O.eta];exact Dr.pure O trivial
 |false=>exact Dr.pure C trivial
def Mv(a:iZ):Prop:=a.oa.weights.length<=1048576
def WtI(i:Int)(a:iZ):Prop:=Mv a/\(a.request.id=0\/a.request.id=i)
def aCD{b:aa Int}{c:bN}(J:jF b c){x:eT}(hx:vF x)(i:Int):Dr b (Qm c x i) (WtI i):=by
 have L:=S9 hx.1;have gb:=fo L;unfold Qm;rw[CK,aq,bM,J.eq];dsimp only
 refine(fl J 12).bind λD k2 h2 C=>?_
 dsimp only;rw[C.eta];have hA:∀ l:aa Int,0<l.length -> Dr b ((Ac k2 l).bind λE=>some ((⟨(2:Int),⟨(0:Int),(0:Int),(0:Int),false,(0:Int),(0:Int)⟩,E.1,(0:Int),⟨(0:Int),(0:Int),(0:Int)⟩,⟨(0:Int),(0:Int),(0:Int),(0:Int),(0:Int),[],⟨(0:Int),(0:Int)⟩⟩⟩:iZ),((⟨b,E.2.1.i,E.2.1.h⟩:bN),()))) (WtI i):=λl hl=>by
  refine(RQ C l hl).bind λy k hy O=>?_
  rw[O.eta];exact Dr.pure O ⟨by show 0 <= 1048576;omega,.inl rfl⟩
 cases h0:D==(0:Int)with
 |true =>grind
 |false=>
 rw[au];cases h1:D==(1:Int)with
 |true =>grind
 |false=>
 rw[au];cases D==(2:Int)with
 | true=>
  rw[ak]
  refine(ayh C L).bind λy5 k5 h5 Q=>?_
  dsimp only;rw[Q.eta]
  refine(fl Q 11).bind λy6 k6 h6 T=>?_
  dsimp only;rw[T.eta]
  refine(fl T 16).bind λy7 k7 h7 U=>?_
  dsimp only;rw[U.eta];exact Dr.pure U ⟨by show (0:Nat) <= 1048576;omega,.inl rfl⟩
 |false=>
 rw[au];cases D==(3:Int)with
 | true=>
  rw[ak]
  refine(RQ C _ (by simp)).bind λy8 k8 h8 Y=>?_
  dsimp only;rw[Y.eta]
  refine(fl Y 2).bind λy9 k9 h9 Z=>?_
  rw[oI,aq];dsimp only;rw[Z.eta]
  refine(fl Z _).bind λje Yx Sr alz=>?_
  dsimp only;rw[alz.eta]
  refine(fl alz _).bind λjU Yw kz alA=>?_
  dsimp only;rw[alA.eta]
  refine(ajW alA).bind λoF YH kX alB=>?_
  dsimp only;rw[alB.eta];have hl:=(Db kX).2.2;exact Dr.pure alB ⟨by show oF.weights.length <= 1048576;omega,.inl rfl⟩
 |false=>
 rw[au]
 refine(aCC C _).bind λlE k14 mE alC=>?_
 dsimp only;rw[alC.eta]
 refine(RR alC 2).bind λnT k15 nD I=>?_
 dsimp only;rw[I.eta];cases nT with
 | true=>
  refine(fl I 3).bind λlF k16 jL alD=>?_
  rw[alD.eta];exact Dr.pure alD ⟨by show 0 <= 1048576;omega,.inr rfl⟩
 |false=>exact Dr.pure I ⟨by show 0 <= 1048576;omega,.inr rfl⟩
def aCE{b:aa Int}{c:bN}(O:jF b c){x:eT}(Y:vF x)(m:Nat)(hm:m<=100):Dr b (Qp c x (m:Int)) λl=>l.length<=m+1/\∀ a∈l,Mv a/\a.request.id<=(m:Int)+1:=by
 unfold Qp bu;rw[O.eq];obtain⟨z,e,C,bf,D,hl,E,rfl⟩:=YX (step:=Kg) (m+1) (λk s=>∃ (C:bN) (bf:aa iZ),jF b C/\bf.length=k/\(∀ a∈bf,Mv a/\a.request.id<=(m:Int)+1)/\s=(((),(m:Int),(),(),(k:Int),()),(((),C.i,C.h,()),x,bf,b,())))
  (λz=>∃(C:bN) (bf:aa iZ),jF b C/\bf.length<=m+1/\(∀a∈bf,Mv a/\a.request.id<=(m:Int)+1)/\z = .inl (((),()),(bf,((),C.i,C.h,()),b,()))) aP (x:=(((),(m:Int),(),(),(0:Int),()),(((),c.i,c.h,()),x,([]:aa iZ),b,()))) ⟨c,[],O,rfl,λa ha=>(by cases ha),rfl⟩ (by
  rintro k hk s ⟨C,bf,D,hl,E,rfl⟩;unfold Kg ay xG;dsimp only;rw[D.eta,aR (n:=(m:Int)+1)];obtain⟨Q,J,L,I,T⟩:=fl D ((m:Int)+1);rw[L,aq];dsimp only;by_cases U:(k:Int)<Q
  ·obtain⟨Z,k2,e2,Oj,h2,h3⟩:=aCD I Y (W6 ((k:Int)+1));rw[aS U,ak,I.eta,e2,aq];dsimp only;rw[aR (n:=(k:Int)+1)]at h3;rw[cQ (by rw[jz];omega),ak,bD]
   refine .inl ⟨_,rfl,k2,bf++[Z],Oj,by rw[List.length_append,jz,hl],λa ha=>?_,rfl⟩
   rcases List.mem_append.1 ha with ha|ha
   ·exact E a ha
   ·rw[oT.1 ha];exact⟨h2,by omega⟩
  ·rw[bh U,au];exact .inr ⟨_,rfl,J,bf,I,by omega,E,rfl⟩) (by
  rintro s ⟨C,bf,D,hl,E,rfl⟩;unfold Kg ay xG;dsimp only;rw[D.eta,aR (n:=(m:Int)+1)];obtain⟨Q,J,L,I,T⟩:=fl D ((m:Int)+1);have h31:=T.2.2 (by omega);rw[L,aq];dsimp only;rw[bh,au];exact⟨_,rfl,J,bf,I,by omega,E,rfl⟩) (bI)
 rw[e,aq];simp only[ef];rw[D.eta];exact Dr.pure D ⟨hl,E⟩
abbrev Mw:=ah (af×(av×af))
def Ks(s:av)(o:Mw):Prop:=∃y,o=some ((),(y,()))/\cW y/\c8 y=true/\Nx s y
def aCF{c:av}(h:eA c.aQ=true){n:Int}(U:2<=n/\n<=10000):∃ r,J1 c n=some ((),(qN c r,()))/\eA r=true/\r.aJ.length=c.aQ.aJ.length:=by
 have hl:=nY h;have C:=Mi h;have Y:1<=c.aQ.wait/\c.aQ.wait<=10000:=by
  simp only[eA,aO,bx]at h;exact h.2.2
 have mk:∀ (l:aa Int) (w:Int) (b:Bool),l.length=c.aQ.aJ.length->(∀ x∈l,-2<=x/\x<=5)->1<=w/\w<=10000->eA ⟨l,w,b⟩=true:=λl w b Z J L=>by
  simp only[eA,aO,cI,xH,bx];exact⟨J,by omega,L⟩
 have D:W6 (c.aQ.wait-1)=c.aQ.wait-1:=aR;unfold J1 bu;by_cases E:c.aQ.wait-1 > 0
 ·rw[D,aS E,ak];exact⟨⟨c.aQ.aJ,c.aQ.wait-1,c.aQ.dD⟩,rfl,mk _ _ _ rfl C (by omega),rfl⟩
 ·have e:=cy (step:=J0) c.aQ.aJ.length (λi=>(((),n,(i:Int),()),(qN c ⟨upto oR c.aQ.aJ i,c.aQ.wait-1,c.aQ.dD⟩,()))) (.inl (((),n,()),(qN c ⟨c.aQ.aJ.map oR,c.aQ.wait-1,c.aQ.dD⟩,()))) aP (λi hi=>by
   have hlen:=Aq oR c.aQ.aJ i;unfold J0 qN ay xG xL;dsimp only;rw[aS,ak,aA ⟨by omega,by omega⟩,aA,aA ⟨by omega,by omega⟩,aA,bD];simp only[bB];rw[FN oR c.aQ.aJ i hi,<-FO oR c.aQ.aJ i hi];rfl) (by
   unfold J0 qN ay xG xL;dsimp only;rw[FM,bh (by rw[dB];omega),au]) (bI)
  rw[cq,RH]at e;have I:∀ x∈c.aQ.aJ.map oR,-2<=x/\x<=5:=λx O=>by
   obtain⟨d,Q,rfl⟩:=List.mem_map.1 O;have:=C d Q;unfold oR;rw[aR (n:=d+1)];split<;>omega
  have T:W6 (n.tdiv 2)=n / 2:=by rw[pS (by omega)];exact aR
  rw[D,bh E,au]
  refine(bH (λo=>∃r,Option.bind o _=some ((),(qN c r,()))/\eA r=true/\r.aJ.length=c.aQ.aJ.length) e).mpr ?_
  rw[aq];simp only[ef,qN];rw[T];cases c.aQ.dD with
  |true=>exact⟨⟨c.aQ.aJ.map oR,n / 2,true⟩,rfl,mk _ _ _ (by simp) I (by omega),by simp⟩
  |false=>exact⟨⟨c.aQ.aJ.map oR,n,false⟩,rfl,mk _ _ _ (by simp) I (by omega),by simp⟩
def aCG{c:av}(h:mW c.config.az c.array=true):∃ a,J3 c 1=some ((),(cV c a,()))/\mW c.config.az a=true:=by
 have E:=(ajU h).1;have C:=dY.rV h;have hb:=pJ c.config.az;have hl:=C.bz
 refine⟨⟨c.array.cells,c.array.bz.map (mY 1),c.array.br⟩,?_,sZ E ⟨C.cells,C.syms,by rw[dB];exact C.bz,C.br,λx D=>?_,C.iK⟩⟩
 ·have e:=cy (step:=J2) c.array.bz.length (λi=>(((),(1:Int),(i:Int),()),(cV c ⟨c.array.cells,upto (mY 1) c.array.bz i,c.array.br⟩,()))) (.inl ((),(cV c ⟨c.array.cells,c.array.bz.map (mY 1),c.array.br⟩,()))) aP (λi hi=>by
   have hlen:=Aq (mY 1) c.array.bz i;have D:=C.As _ (cU hi);unfold J2 cV ay xG xL;dsimp only;rw[aS,ak,aA ⟨by omega,by omega⟩,aA,aA ⟨by omega,by omega⟩,aA,bD];simp only[bB];rw[FN (mY 1) c.array.bz i hi,aR (n:=c.array.bz[i]+1),<- FO (mY 1) c.array.bz i hi];rfl) (by
   unfold J2 cV ay xG xL;dsimp only;rw[FM,bh (by rw[dB];omega),au]) (bI)
  rw[cq,RH]at e;unfold J3 bu;exact(bH (λo=>Option.bind o _) e).trans rfl
 ·obtain⟨y,I,rfl⟩:=List.mem_map.1 D;exact Y9 (C.As y I) (by decide)
def aCH(q:aa aX)(w:Bool)(hl:q.length<1073741824):∃ n,JX q w=some n:=by
 unfold JX bu;have e:=cy (step:=JW) q.length (λi=>((q,w,(((q.take i).countP λr=>r.write==w:Nat):Int),(i:Int),()),())) (.inl (((((q.take q.length).countP λr=>r.write==w:Nat):Int),()),())) aP (λk C=>by
  have D:=List.countP_le_length (p:=λr:aX=>r.write==w) (l:=q.take k);rw[fP]at D;unfold JW ay xG xI;dsimp only;rw[aS,ak,aA ⟨by omega,by omega⟩,bD];simp only[bB];rw[pK C,List.countP_append,List.countP_singleton];cases q[k].write==w with
  |true=>rw[ bD];rfl
  |false=>rw[ bD];rfl) (by
  unfold JW ay xG xI;dsimp only;rw[bh,au]) (bI)
 rw[cq]at e;exact⟨_,(bH (λo=>Option.bind o _) e).trans rfl⟩
def aCI{d:gx}(h:kH d=true)(n:Int):∃ y,JV d n=some y/\kH y=true:=by
 unfold JV;rw[Zg,aq,h,bF];cases decide (n >= d.high)with
 | true=>
  cases decide (n <= d.low)with
  |true=>exact⟨_,rfl,h⟩
  |false=>exact⟨_,rfl,h⟩
 | false=>
  cases decide (n <= d.low)with
  |true=>exact⟨_,rfl,h⟩
  |false=>simp_all
def aCJ{p:eR}(h:iL p=true)(w:Bool):∃ y,JY p w=some y/\iL y=true/\y.state=p.state/\y.since=p.since:=by
 unfold JY;rw[Zm,aq,h,bF];simp[iL,aO,bx]at h;cases w with
 |true=>exact⟨_,rfl,by simp[iL,aO,bx];omega,rfl,rfl⟩
 | false=>
  refine⟨_,rfl,?_,rfl,rfl⟩;rw[aR];simp[iL,aO,bx]
  grind
def aCK(b:fU)(h:AA b)(x:Bool):∃ t,JZ b x=some (bif t then ⟨b.next,b.next,false⟩else b,t):=by
 have C:b.next.weights.length <= 1048576:=h.2
 unfold JZ;rw[ZH b h];cases x with
 |false=>simp_all
 | true=>
  cases b.waits with
  |false=>simp_all
  | true=>
   refine⟨true,?_⟩;unfold vj xA xZ;rw[gQ _];rfl
def aCL{c:eT}{p:dJ}(hl:p.weights.length<1073741823)(h:lJ c p=true):∃ l t,zP p.weights=some (l,t)/\gN l=true/\(l.length:Int)=4/\kH ⟨false,p.low,p.high⟩=true:=by
 have⟨l,t,e,C⟩:=alp hl h;rw[Ze _ hl]at e;exact⟨l,t,by rw[Zf _ hl];exact e,C⟩
def aCM{s:kS}{n:Int}(C:aL s.every 1 100000=true)(D:aL s.wait 1 s.every=true)(E:aL s.next 0 (W6 (n-1))=true)(T:1<=n/\n<=1000000):∃ y m,Co s n=some (y,m)/\aL y.every 1 100000=true/\aL y.wait 1 y.every=true/\aL y.next 0 (W6 (n-1))=true/\m<n:=by
 have L:=bx.1 C;have U:=bx.1 D;have I:W6 (n-1)=n-1:=aR;have O:=bx.1 E;rw[I]at O;unfold Co;rw[eE,aq,C,bF,au,eE,aq,D,bF,au,bh (show ¬ n<1 by omega),au,bh (show ¬ s.next<0 by omega),au,bh (show ¬ s.next >= n by omega),au,aR (n:=s.wait-1)];by_cases J:s.wait-1 > 0
 ·rw[aS J,ak];exact⟨_,_,rfl,C,bx.2 ⟨by dsimp only;omega,by dsimp only;omega⟩,E,by omega⟩
 ·rw[bh J,au,bM,aR (n:=s.next+1)];refine⟨_,_,rfl,C,bx.2 ⟨L.1,Int.le_refl _⟩,?_,by omega⟩;rw[I,oU (by omega)];have Q:=Int.emod_nonneg (s.next+1) (show n≠0 by omega);have Y:=Int.emod_lt_of_pos (s.next+1) (show 0<n by omega);exact bx.2 ⟨Q,by dsimp only;omega⟩
def vP(j:av)(b:fU)(s:aa cw)(d:gx)(p:eR)(u:kS):av:=⟨j.config,b,j.now,j.bq,j.ready,j.array,j.spare,j.aQ,j.bO,j.guard,j.pending,j.queue,s,d,p,u,j.errors,j.trace,j.cz⟩
def Tc(x:av):Mw:=(Ab x).bind λC=>(let D:Bool -> Mw:=λE=>bif E then (z0 x C.1 C.2).bind λI=>some ((),(I.2.1,()))else some ((),(x,()));bif (C.1.kind != (0:Int))then (zV x C.1 C.2).bind λJ=>(D J)else (D false))
def Td(x:av)(n:Int):Mw:=bif (decide (n >= (0:Int)))then (Ce x n).bind λC=>(Cd C.2.1 n C.1.2).bind λD=>Tc D.2.1 else Tc x
def F8(j:av):Mw:=(JX j.queue true).bind λL=>(JV j.drain L).bind λD=>(Ci (vP j j.box j.shares D j.bg j.cM)).bind λO=>(JY j.bg O).bind λE=>(JZ j.box ((j.queue.length:Int)==(0:Int))).bind λC=>bif C.2 then (zP C.1.bV.weights).bind λQ=>(tV j.config.az).bind λT=>(Co j.cM T).bind λI=>Td (vP j C.1 Q.1 ⟨false,C.1.bV.low,C.1.bV.high⟩ E I.1) I.2 else (tV j.config.az).bind λU=>(Co j.cM U).bind λJ=>Td (vP j C.1 j.shares D E J.1) J.2
def aat{x:av}(C:cW x)(D:c8 x=true):Ks x (Tc x):=by
 have h:=Pq.of C D;have same:Ks x (some ((),(x,()))):=⟨x,rfl,C,D,Nx.refl x⟩
 unfold Tc;rw[aB6 h,aq];dsimp only;generalize (bif decide ((x.trace.length:Int) >= 2000)then (vO,-1)else Mt x:aH×Int)=p;have⟨cmd,i⟩:=p;dsimp only;cases cmd.kind != (0:Int)with
 |false=>exact same
 | true=>
  rw[ak,aBt h,aq];cases hm:uB x cmd i with
  |false=>exact same
  | true=>
   have⟨hb,E,I,J⟩:=aad C h hm;rw[ aBk hb E I (λr J=>Z6 h J)];exact⟨sY x cmd i,rfl,akU C hb J E I,(Ck.iss C (Ck.of D) hm).ok,alo (CS E).2.2.1 λq=>(I q).1.i⟩
def alE{x:av}(L:cW x)(h:c8 x=true){n:Int}(hn:n<ez x.config.az):Ks x (Td x n):=by
 unfold Td;by_cases E:n >= 0
 ·have C:=Ck.of h;have I:=dY.rV C.ar;have O:=(vD C.rk).1;have hl:=I.cells;have hb:=lH x.config.az;obtain⟨j,rfl⟩:=eX E;have Q:j<x.array.cells.length:=by omega
  have J:=I.syms _ (cU Q);have SZ:=Mp J;have D:dY x.config.az 100000 ⟨x.array.cells.set j (nZ x.array.cells[j]),x.array.bz,x.array.br⟩:=I.Az _ (SD J);have p:=fE.of C.pa;have jb:=(Ek.of C.er).l;rw[aS E,ak,akE Q J,aq];dsimp only;rw[akK (c:=qK x j (nZ x.array.cells[j])) C.er ⟨by omega,by omega⟩ SZ,aq];dsimp only;have⟨T,U,Y,z5,Z,z7,z8,z9,iJ,jx,iV,iW,gP,jj⟩:=L;have Ij:cW (qK x j (nZ x.array.cells[j])):=⟨T,U,Y,rW D,Z,z7,z8,z9,iJ,jx,iV,iW,gP,jj⟩
  have HH:Ck (qK x j (nZ x.array.cells[j])):=⟨C.f1,C.f2,C.nw,C.rk,C.rd,sZ O D,C.sp,C.se,C.rf,(show fE (qK x j (nZ x.array.cells[j]))from ⟨p.dl,p.tl,p.gl,p.t,p.g,p.pd,p.u⟩).ok,C.qu,C.sh,C.sl,C.dr,C.pw,C.ps,C.si,C.s1,C.s2,C.s3,C.er,C.tr,C.rp⟩
  unfold AK;by_cases e:jY x.array.cells[j]=0
  ·rw[e];exact aat Ij HH.ok
  ·rw[gH e,ak];have he:=aaf C.er ⟨by omega,by omega⟩ (code:=jY x.array.cells[j]) (by omega);have hle:=Z9 (l:=x.errors) (j:Int) (jY x.array.cells[j]);exact aat ⟨T,U,Y,rW D,Z,z7,z8,z9,iJ,jx,iV,by show (sX x.errors (j:Int) _).length <= _;omega,gP,jj⟩ (Ck.ok ⟨C.f1,C.f2,C.nw,C.rk,C.rd,sZ O D,C.sp,C.se,C.rf,(show fE _ from ⟨p.dl,p.tl,p.gl,p.t,p.g,p.pd,p.u⟩).ok,C.qu,C.sh,C.sl,C.dr,C.pw,C.ps,C.si,C.s1,C.s2,C.s3,he,C.tr,C.rp⟩)
 ·rw[bh E];exact aat L h
def alF{c:av}(L:cW c)(O:c8 c=true):Ks c (F8 c):=by
 have h:=Ck.of O;have⟨C,Q,T,U,Y,Z,z8,z9,iJ,jx,iV,iW,gP,jj⟩:=L;have p:=fE.of h.pa;have hb:=lH c.config.az;have hLp:1 <= ez c.config.az:=by
  have:=bx.1 h.s3;rw[aR]at this;omega
 have w2:c.box.next.weights.length <= 1048576:=C.2
 have⟨n,e1⟩:=aCH c.queue true (by omega);have⟨d,e2,D⟩:=aCI h.dr n;have e3:Ci (vP c c.box c.shares d c.bg c.cM)=some (uk (vP c c.box c.shares d c.bg c.cM)):=akb (c:=vP c c.box c.shares d c.bg c.cM) h.rf;have⟨pw,e4,Eo,BG,hp3⟩:=aCJ h.pw (uk (vP c c.box c.shares d c.bg c.cM));have⟨t,e5⟩:=aCK c.box C ((c.queue.length:Int)==(0:Int));have⟨u,m,J,G5,G6,hu3,hm⟩:=aCM h.s1 h.s2 h.s3 ⟨hLp,by omega⟩;have key:∀ (b:fU) (s:aa cw) (d:gx),AA b -> lJ c.config b.bV=true -> lJ c.config b.next=true -> gN s=true -> (s.length:Int)=4 -> kH d=true -> cW (vP c b s d pw u)/\c8 (vP c b s d pw u)=true:=λb s d vh gX hb3 S3 S4 D=>
  ⟨⟨vh,Q,T,U,Y,Z,z8,z9,iJ,jx,by show s.length <= _;omega,iW,gP,jj⟩,Ck.ok ⟨gX,hb3,h.nw,h.rk,h.rd,h.ar,h.sp,h.se,h.rf,(show fE (vP c b s d pw u)from ⟨p.dl,p.tl,p.gl,p.t,p.g,p.pd,p.u⟩).ok,h.qu,S3,S4,D,Eo,BG.trans h.ps,by show pw.since <= c.now;rw[hp3];exact h.si,G5,G6,hu3,h.er,h.tr,h.rp⟩⟩
 unfold F8;rw[e1,aq,e2,aq,e3,aq,e4,aq,e5,aq];dsimp only;cases t with
 | false=>
  rw[ CK,aq,J,aq];have⟨E,I⟩:=key c.box _ d C h.f1 h.f2 h.sh h.sl D;exact alE E I hm
 | true=>
  have⟨l,t2,e7,sr,lV,F6⟩:=aCL (by omega) h.f2;rw[ak,ak];rw[e7,aq,CK,aq,J];have⟨E,I⟩:=key ⟨c.box.next,c.box.next,false⟩ l ⟨false,c.box.next.low,c.box.next.high⟩ ⟨C.2,C.2⟩ h.f2 h.f2 sr lV F6;exact alE E I hm
def yc(c:av)(n:Int):av:=⟨c.config,c.box,n,c.bq,c.ready,c.array,c.spare,c.aQ,c.bO,c.guard,c.pending,c.queue,c.shares,c.drain,c.bg,c.cM,c.errors,c.trace,c.cz⟩
def aCN{c:av}(hz:cW c)(hk:c8 c=true)(hi:2<=c.config.interval/\c.config.interval<=10000)(hn:c.now<1000000):∃ y,P5 c=some ((),(y,()))/\cW y/\c8 y=true/\Da c y:=by
 have h:=Ck.of hk;have p:=fE.of h.pa;have hnw:=bx.1 h.nw;have z:=hz;obtain⟨z1,z2,z3,z5,z6,z7,z8,z9,iJ,jx,iV,iW,gP,jj⟩:=z;have e1:W6 (c.now+1)=c.now+1:=aR;have O:∀ (j:av),j.now=c.now+1->j.config=c.config->j.queue=c.queue->j.cz=c.cz->j.trace=c.trace->Ks j (F8 j)->∃ y,F8 j=some ((),(y,()))/\cW y/\c8 y=true/\Da c y:=λj Q j2 j3 j4 j5 hj=>by
  obtain⟨y,f1,f2,f3,T,U,Y,D,Z⟩:=hj;rw[Q]at T;rw[j2]at U;rw[j3]at Y D;rw[j4]at D;rw[Q,j5]at Z;exact⟨y,f1,f2,f3,T,U,Y,D,Z⟩
 have key:∀ (r:cY) (a:dm),eA r=true->r.aJ.length=c.aQ.aJ.length->mW c.config.az a=true->cW (cV (qN (yc c (c.now+1)) r) a)/\c8 (cV (qN (yc c (c.now+1)) r) a)=true:=λr a E I C=>by
  refine⟨⟨z1,z2,z3,rW (dY.rV C),z6,by have:=z7;unfold xK at this ⊢;show r.aJ.length<=_;omega,z8,z9,iJ,jx,iV,iW,gP,jj⟩,Ck.ok ⟨h.f1,h.f2,bx.2 ⟨by show 0<=c.now+1;omega,by show c.now+1<=_;omega⟩,h.rk,h.rd,C,h.sp,h.se,E,(show fE (cV (qN (yc c (c.now+1)) r) a)from ⟨by show (r.aJ.length:Int)=_;rw[I];exact p.dl,p.tl,p.gl,p.t,p.g,p.pd,p.u⟩).ok,h.qu,h.sh,h.sl,h.dr,h.pw,h.ps,by show c.bg.since<=c.now+1;have:=h.si;omega,h.s1,h.s2,h.s3,h.er,h.tr,h.rp⟩⟩
 unfold P5;rw[bh (show ¬ c.now >= 1000000 by omega),au,e1];show ∃y,(bif (c.bq.bg != (2:Int))then (J1 (yc c (c.now+1)) c.config.interval).bind λy1=>(J3 y1.2.1 (1:Int)).bind λy2=>F8 y2.2.1 else F8 (yc c (c.now+1)))=some ((),(y,()))/\cW y/\c8 y=true/\Da c y;cases c.bq.bg != (2:Int)with
 | true=>
  obtain⟨r,f1,E,I⟩:=aCF (c:=yc c (c.now+1)) h.rf hi;obtain⟨a,f2,C⟩:=aCG (c:=qN (yc c (c.now+1)) r) h.ar;obtain⟨J,L⟩:=key r a E I C;rw[ak,f1,aq];dsimp only;rw[f2,aq];exact O _ rfl rfl rfl rfl rfl (alF J L)
 | false=>
  obtain⟨J,L⟩:=key c.aQ c.array h.rf rfl h.ar;rw[au];exact O (yc c (c.now+1)) rfl rfl rfl rfl rfl (alF (c:=yc c (c.now+1)) J L)
def aau{g:aM}{s:dH}{D R:Nat}(h:Sp g s D R)(b r:Int):J9 g s b r=some (bif dK (eJ g s) ⟨b,r,0⟩then b*(R:Int)+r else -1):=by
 obtain⟨T,U,Y,Z,h8,jL,oy,hc,R8,Nq⟩:=h.AP;have hR:W6 (g.rows-s.bP)=(R:Int):=by rw[h.hR];exact aR
 unfold J9;rw[ayQ,aq,h.ok,bF,au,oI,aq,h.hb,hR,aR (n:=(D:Int)-1),aR (n:=(R:Int)-1),eE,aq];by_cases E:0<=b/\b<(D:Int)
 ·rw[bx.2 ⟨E.1,by omega⟩,bF,au,eE,aq];by_cases J:0<=r/\r<(R:Int)
  ·have I:=(h.ex b r).2 ⟨E,J⟩;obtain⟨b,rfl⟩:=eX E.1;have O:=(h.lens (b:=b) (by omega)).1;have aDu:=(h.lens (b:=b) (by omega)).2.1;rw[iC]at O;have Q:W6 ((b:Int)*(R:Int))=((b*R:Nat):Int):=by rw[<-Int.natCast_mul];exact aR
   rw[bx.2 ⟨J.1,by omega⟩,bF,au,I,ak,Q,aR,Int.natCast_mul]
  ·have I:dK (eJ g s) ⟨b,r,0⟩=false:=by
    cases C:dK (eJ g s) ⟨b,r,0⟩with
    |false=>rfl
    |true=>exact absurd ((h.ex b r).1 C).2 J
   have L:aL r 0 ((R:Int)-1)=false:=by
    cases C:aL r 0 ((R:Int)-1)with
    |false=>rfl
    |true=>have:=bx.1 C;exact absurd ⟨this.1,by omega⟩ J
   rw[L,I];rfl
 ·have I:dK (eJ g s) ⟨b,r,0⟩=false:=by
   cases C:dK (eJ g s) ⟨b,r,0⟩with
   |false=>rfl
   |true=>exact absurd ((h.ex b r).1 C).1 E
  have L:aL b 0 ((D:Int)-1)=false:=by
   cases C:aL b 0 ((D:Int)-1)with
   |false=>rfl
   |true=>have:=bx.1 C;exact absurd ⟨this.1,by omega⟩ E
  rw[L,I];rfl
def alG{g:aM}{s:dH}{C R:Nat}(h:Sp g s C R){b r:Nat}(hb:b<C)(I:r<R):xl g s (b:Int) (r:Int)=some (s.map.getD (b*R+r) 0):=by
 have D:=(h.lens hb).1;rw[iC]at D;have E:=(h.ex (b:Int) r).2 ⟨⟨by omega,by omega⟩,by omega,by omega⟩;have e:b*R+r=((b*R+r:Nat):Int):=by rw[Int.natCast_add,Int.natCast_mul]
 unfold xl xI;rw[aau h,aq,E,ak,e,bh,au,aA ⟨by omega,by rw[bB];omega⟩]
 grind
def alH{g:aM}{s:dH}{C R:Nat}(h:Sp g s C R){b r:Int}(D:dK (eJ g s) ⟨b,r,0⟩=false):xl g s b r=some (-1):=by
 unfold xl xI;rw[aau h,aq,D];rfl
def alI{g:aM}{s:dH}{D R:Nat}(h:Sp g s D R)(b r:Int):∃ y,xl g s b r=some y/\(dK (eJ g s) ⟨b,r,0⟩=true -> 0 <= y/\y<g.rows):=by
 cases C:dK _ ⟨b,r,0⟩with
 |false=>exact⟨-1,alH h C,λh=>by cases h⟩
 | true=>
  have⟨⟨E,J⟩,I,a4⟩:=(h.ex b r).1 C;obtain⟨b,rfl⟩:=eX E;obtain⟨r,rfl⟩:=eX I;exact⟨_,alG h (by omega) (by omega),λ_=>h.bound (by omega) (by omega)⟩
def aCO{g:aM}{s:dH}{I R:Nat}(h:Sp g s I R){b:Nat}(hb:b<I){x:Int}(E:0 <= x):∃ y,Qb g s (b:Int) x=some y/\(y<0 -> ∀ k,k<R -> s.map.getD (b*R+k) 0≠x):=by
 have T:=h.AP.2.2.2.2.2.1;unfold Qb bQ;have⟨z,e,L⟩:=YX (step:=Ka) 16 (λk t=>t=(((b:Int),x,(),(),(k:Int),()),((g.cu,g.aC,g.rows,g.aN,()),(s.bP,s.map,()),())) /\ ∀ j,j<k -> j<R -> s.map.getD (b*R+j) 0≠x)
  (λz=>(∃r:Int,0 <= r/\z = .inl ((r,()),())) \/ (z = .inr (.inl ((),())) /\ ∀j,j<R -> s.map.getD (b*R+j) 0≠x)) aP (x:=(((b:Int),x,(),(),(0:Int),()),((g.cu,g.aC,g.rows,g.aN,()),(s.bP,s.map,()),()))) ⟨rfl,λj C=>by omega⟩ (by
  rintro k U t ⟨rfl,D⟩;unfold Ka ay aV xG;dsimp only;rw[mX,show (⟨s.bP,s.map⟩:dH)=s from rfl,aS (show (k:Int)<16 by omega),ak,aS (show x >= 0 from E),ak];by_cases O:k<R
  ·rw[alG h hb O,aq];by_cases e:s.map.getD (b*R+k) 0=x
   ·simp_all
   ·rw[jV e,au,bD]
    refine .inl ⟨_,rfl,rfl,λj C J=>?_⟩
    by_cases Y:j=k
    ·simp_all
    ·grind
  ·have Q:dK (eJ g s) ⟨(b:Int),(k:Int),0⟩=false:=by
    cases E:dK (eJ g s) ⟨(b:Int),(k:Int),0⟩with
    |false=>rfl
    |true=>have:=((h.ex b _).1 E).2;omega
   rw[alH h Q,aq,jV (show ¬ (-1:Int)=x by omega),au,bD];exact .inl ⟨_,rfl,rfl,λj C J=>D j (by omega) J⟩) (by
  rintro t ⟨rfl,D⟩;unfold Ka ay aV xG;dsimp only;rw[bh,au];exact⟨_,rfl,.inr ⟨rfl,λj C=>D j (by omega) C⟩⟩) (bI)
 rw[e,aq];rcases L with ⟨r,Z,rfl⟩|⟨rfl,D⟩
 ·exact⟨r,rfl,λhn=>by omega⟩
 ·simp_all
def aCP{g:aM}{s:dH}{C R:Nat}(h:Sp g s C R)(b r:Int):∃ y t,Qc g s b r=some (y,t)/\Sp g y C R/\y.bP=s.bP/\(t=true->dK (eJ g s) ⟨b,r,0⟩=true):=by
 obtain⟨hg,GS,eg,eb,E,I,oy,hc,R8,Nq⟩:=h.AP;have hm:s.map.length<=128:=by
  rw[h.hl];exact Nat.mul_le_mul E I
 have hR:=h.hR;have J:W6 (g.rows-s.bP)=(R:Int):=by rw[h.hR];exact aR
 unfold Qc IM bQ xA xZ;rw[cQ (by simp;omega),ak,kj,aq,aau h,aq];cases L:dK (eJ g s) ⟨b,r,0⟩with
 |false=>exact⟨s,false,rfl,h,rfl,λh=>by cases h⟩
 | true=>
  obtain⟨⟨O,a2⟩,Q,a4⟩:=(h.ex b r).1 L;obtain⟨b,rfl⟩:=eX O;obtain⟨r,rfl⟩:=eX Q;have hb:b<C:=by omega
  have T:r<R:=by omega
  have U:=(h.lens hb).1;have hp:b*R+r<s.map.length:=by
   rw[iC]at U;omega
  have Y:(b:Int)*(R:Int)+(r:Int)=((b*R+r:Nat):Int):=by rw[Int.natCast_add,Int.natCast_mul]
  rw[ak,Y,bh,au,J];dsimp only;obtain⟨n,hn⟩:=eX (show 0<=g.rows-(R:Int) by omega);obtain⟨z,e,Z⟩:=YX (step:=Kb) n (λk x=>x=(((b:Int),(),(),(),(),((b*R+r:Nat):Int),(R:Int)+(k:Int),()),((g.cu,g.aC,g.rows,g.aN,()),(s.bP,s.map,()),((0:Int),(),()),(s.bP,(),()),([]:aa Int),s.map,())))
   (λz=>(∃i:Int,z = .inl (((),true,()),((s.bP,(),()),s.map.set (b*R+r) i,()))/\(R:Int)<=i/\i<=g.rows-1/\∀k,k<R->s.map.getD (b*R+k) 0≠i)\/z = .inr (.inl (((),(),()),(((0:Int),(),()),(s.bP,(),()),([]:aa Int),s.map,())))) aP (x:=(((b:Int),(),(),(),(),((b*R+r:Nat):Int),(R:Int),()),((g.cu,g.aC,g.rows,g.aN,()),(s.bP,s.map,()),((0:Int),(),()),(s.bP,(),()),([]:aa Int),s.map,()))) (by rw[cq,Int.add_zero]) (by
   rintro k hk x rfl;obtain⟨y,ey,hy⟩:=aCO h hb (x:=(R:Int)+(k:Int)) (by omega);unfold Kb ay aV xG xL;dsimp only;rw[mX,aS (show (R:Int)+(k:Int)<g.rows by omega),ak];rw[show (⟨s.bP,s.map⟩:dH)=s from rfl,ey,aq];by_cases D:y<0
   ·rw[aS D,ak,aA ⟨by omega,by omega⟩,aA];refine .inr ⟨_,rfl,.inl ⟨(R:Int)+(k:Int),?_,by omega,by omega,hy D⟩⟩;simp only[bB]
   ·rw[bh D,au,aR (n:=(R:Int)+(k:Int)+1)];exact .inl ⟨_,rfl,by rw[show ((k+1:Nat):Int)=(k:Int)+1 from Int.natCast_succ k,<-Int.add_assoc]⟩) (by
   rintro x rfl;unfold Kb ay aV xG xL;dsimp only;rw[bh (show ¬ (R:Int)+(n:Int)<g.rows by omega),au];exact⟨_,rfl,.inr rfl⟩) (bI)
  rw[e,aq];rcases Z with ⟨i,rfl,i1,i2,i3⟩|rfl
  ·exact⟨_,true,rfl,h.set hb T i1 i2 i3,rfl,λ_=>rfl⟩
  ·exact⟨_,false,rfl,h,rfl,λh=>by cases h⟩
def aCQ{c:av}(L:cW c)(D:c8 c=true)(t:aK):∃ v y,Qd c t=some (v,(y,()))/\cW y/\c8 y=true/\Nx c y:=by
 have h:=Ck.of D;have⟨bn,R,E⟩:=Sp.of h.sp;have⟨O,GS,eg,eb,h8,jL,oy,hc,R8,Nq⟩:=E.AP;have⟨f,e1,hf⟩:=alI E t.ax t.row;have⟨y,v,e2,I,U,ht⟩:=aCP E t.ax t.row;unfold Qd bu xL;rw[e1,aq,e2,aq];cases v with
 |false=>exact⟨false,c,rfl,L,D,Nx.refl c⟩
 | true=>
  have Q:=ht rfl;have⟨⟨Y,a2⟩,a3,a4⟩:=(E.ex t.ax t.row).1 Q;have lW:=(vD h.rk).2.1;have SW:=E.hb;have hR:=E.hR;have⟨f1,f2⟩:=hf Q;have Z:eJ c.config.az y=eJ c.config.az c.spare:=by
   unfold eJ;rw[I.ok,h.sp,U]
  have⟨q,e3,J⟩:=alI I t.ax t.row;have J:=J (by rw[Z];exact Q);rw[bF,au,aA ⟨Y,by omega⟩,aA];dsimp only;cases c.bq.aC[t.ax.toNat].open_ with
  |true=>exact⟨false,c,rfl,L,D,Nx.refl c⟩
  | false=>
   rw[au,e3,aq];have⟨n,hn⟩:=eX (show 0 <= c.config.az.aN by omega);have gb:=fo O;have ZL:∀(row:Int) (k:Nat),0 <= row -> row<c.config.az.rows -> k<n -> dK c.config.az ⟨t.ax,row,(k:Int)⟩=true:=λrow k r1 r2 D=>vr O Y (by rw[SW];exact a2) r1 r2 (by dsimp only;omega) (by dsimp only;omega)
   have⟨z,e,DT⟩:=YW (step:=EZ) n (λk x=>∃ a:dm,dY c.config.az 100000 a/\x=(((),(),(),f,(),q,(k:Int),()),(cV c a,(t.ax,t.row,t.bT,()),(c.config.az.cu,c.config.az.aC,c.config.az.rows,c.config.az.aN,()),(y.bP,(),()),y.map,())))
    (λz=>∃a:dm,dY c.config.az 100000 a/\z = .inl (((),(),()),(cV c a,(y.bP,(),()),y.map,()))) aP (x:=(((),(),(),f,(),q,(0:Int),()),(c,(t.ax,t.row,t.bT,()),(c.config.az.cu,c.config.az.aC,c.config.az.rows,c.config.az.aN,()),(y.bP,(),()),y.map,()))) ⟨c.array,dY.rV h.ar,rfl⟩ (by
    rintro k D x ⟨a,C,rfl⟩;have at1:=ZL q k J.1 J.2 D;have at2:=ZL f k f1 f2 D;have⟨i1,_⟩:=L5 at1;have⟨i2,_⟩:=L5 at2;have l1:=C.lt at1;have l2:=C.lt at2;have Tb:=C.syms _ (cU l2);have st:EZ (((),(),(),f,(),q,(k:Int),()),(cV c a,(t.ax,t.row,t.bT,()),(c.config.az.cu,c.config.az.aC,c.config.az.rows,c.config.az.aN,()),(y.bP,(),()),y.map,()))=some (.inl (((),(),(),f,(),q,((k+1:Nat):Int),()),(cV c ⟨a.cells.set (ic c.config.az ⟨t.ax,q,(k:Int)⟩) a.cells[ic c.config.az ⟨t.ax,f,(k:Int)⟩],a.bz,a.br⟩,(t.ax,t.row,t.bT,()),(c.config.az.cu,c.config.az.aC,c.config.az.rows,c.config.az.aN,()),(y.bP,(),()),y.map,()))):=by
     unfold EZ ay xG xL xM;dsimp only;rw[mX,aS (show (k:Int)<c.config.az.aN by omega),ak,RJ,aq,RJ,aq,i1,i2];have T:0 <= (ic c.config.az ⟨t.ax,f,(k:Int)⟩:Int)/\(ic c.config.az ⟨t.ax,f,(k:Int)⟩:Int).toNat<(cV c a).array.cells.length:=⟨by omega,by simpa [cV]using l2⟩
     have c2:0 <= (ic c.config.az ⟨t.ax,q,(k:Int)⟩:Int)/\(ic c.config.az ⟨t.ax,q,(k:Int)⟩)<(cV c a).array.cells.length:=⟨by omega,by simpa [cV]using l1⟩
     rw[aA T,aA T.2,aA T.2];simp only[bB];rw[ai3 _ (by simp only[cV];rw[Tb.1];omega),aq,aA c2,aA c2.2,bD];rfl
    exact⟨_,st,_,C.Az _ Tb,rfl⟩) (by
    rintro x ⟨a,C,rfl⟩;unfold EZ ay xG xL xM;dsimp only;rw[bh (show ¬ (n:Int)<c.config.az.aN by omega),au];exact⟨_,rfl,a,C,rfl⟩) (bI)
   rw[e,aq];obtain⟨a,C,rfl⟩:=DT;have p:=fE.of h.pa;have⟨z1,z2,z3,z5,z6,z7,z8,z9,iJ,jx,iV,iW,gP,jj⟩:=L;have hml:y.map.length <= 128:=by
    rw[I.hl];exact Nat.mul_le_mul h8 jL
   refine⟨true,⟨c.config,c.box,c.now,c.bq,c.ready,a,y,c.aQ,c.bO,c.guard,c.pending,c.queue,c.shares,c.drain,c.bg,c.cM,c.errors,c.trace,c.cz⟩,rfl,⟨z1,z2,z3,rW C,by show y.map.length <= 1048576;omega,z7,z8,z9,iJ,jx,iV,iW,gP,jj⟩,Ck.ok ⟨h.f1,h.f2,h.nw,h.rk,h.rd,sZ O C,I.ok,U.trans h.se,h.rf,(show fE ⟨c.config,c.box,c.now,c.bq,c.ready,a,y,c.aQ,c.bO,c.guard,c.pending,c.queue,c.shares,c.drain,c.bg,c.cM,c.errors,c.trace,c.cz⟩from ⟨p.dl,p.tl,p.gl,p.t,p.g,p.pd,p.u⟩).ok,?_,h.sh,h.sl,h.dr,h.pw,h.ps,h.si,h.s1,h.s2,h.s3,h.er,h.tr,h.rp⟩,rfl,rfl,List.Sublist.refl _,λr hr=>.inl hr,.inl rfl⟩
   show iU (ez (eJ c.config.az y)) c.queue=true;rw[Z];exact h.qu
def aCR{g:aM}(D:cC g=true):O3 g=some (S8 g):=by
 have E:=lH g;have I:=pJ g;have er:aW g*g.rows=fY g:=by simp[fY,D]
 have⟨n,C⟩:=eX E.1;unfold O3 bu;have e:=cy (step:=IZ) n (λi=>(((),(),(),(i:Int),()),((g.cu,g.aC,g.rows,g.aN,()),((),(),(),()),((),(),(),()),([]:aa bY),([]:aa Int),([]:aa Int),List.replicate i alu,([]:aa Int),([]:aa Int),()))) _ aP (λk h=>by
  unfold IZ ay xG;dsimp only;rw[mX,CK,aq,C,aS,ak,cQ (by simp;omega),ak,bD,List.replicate_succ' (n:=k)];rfl) (by
  unfold IZ ay xG;dsimp only;rw[mX,CK,aq,C,bh,au]) (bI)
 rw[cq,List.replicate_zero]at e
 refine(bH (λo=>Option.bind o _) e).trans ?_
 rw[aq];simp only[ef];rw[mX,oI,aq,er,aR (n:=fY g),bh,au,FP,aq,D,bF,au,bA ⟨by omega,by omega,by omega⟩,bA ⟨by omega,by omega,by omega⟩];unfold S8;rw[C,bB]
def aCS{p:dJ}(C:xN p):O4 p=some (⟨p,p,false⟩,true):=by
 have⟨D,_,E⟩:=Db C;unfold O4 vj xA xZ;rw[Zh _ (by omega),aq,D,bF,au,cQ (by simp[E]),ak,kj,aq,aq]
def aCT:EC 16=some (S7,true):=by kernel_rfl
def aCU(Z C:av)(c:eT)(p:dJ)(n:Nat)(L:n <= 8)(D:c.gU=16)(E:C.bO=[])(I:C.guard=[]):
  iter ED aP (((),(),(),(),(n:Int),(0:Int),()),(Z,C,c,(p.eS,p.cap,p.eZ,p.low,p.high,p.weights,p.dS.down,p.dS.sleep,()),()))=some (.inl (((),(),(),()),(Z,grow C p.eZ n,(p.eS,p.cap,p.eZ,p.low,p.high,p.weights,p.dS.down,p.dS.sleep,()),()))):=by
 have e:=cy (step:=ED) n (λi=>(((),(),(),(),n,i,()),(Z,grow C _ i,c,(p.eS,p.cap,p.eZ,p.low,p.high,p.weights,p.dS.down,p.dS.sleep,()),()))) _ aP (λk h=>by
  unfold ED grow ay xG;dsimp only;rw[aS,ak,D,aCT,aq,E,I,cQ (by simp;omega),ak,cQ (by simp;omega),ak,bD,List.replicate_succ' (n:=k),List.replicate_succ' (n:=k),List.append_assoc,List.append_assoc]) (by
  unfold ED grow ay xG;dsimp only;rw[bh,au]) (bI)
 have J:grow C p.eZ 0=C:=by
  unfold grow;simp only[List.replicate_zero,List.append_nil]
 rw[cq,J]at e;exact e
def aCV{c:eT}{p:dJ}(D:vF c)(C:xN p):B4 c p=some true:=by
 have⟨_,_,E⟩:=Db C;have e:=alv D C;rw[L7 _ _ (by omega)]at e
 rwa [ajT _ _ (by omega)]
def aCW{c:eT}{p:dJ}(C:vF c)(D:xN p):O6 c p=some (td c p,true):=by
 have E:=S9 C.1;have hb:=fh c.az;have U:=LH E;have⟨Y,J,Z⟩:=Db D;have⟨n,I⟩:=eX hb.1;have L:c.gU=16:=C.2.2.2.2.2.1;have hiv:200 <= c.interval/\c.interval <= 259:=C.2.2.2.2.1;have O:O5 (n:Int) c.interval=some (⟨List.replicate n 0,c.interval,false⟩,true):=by
  unfold O5;rw[eE,aq,bx.2 ⟨by omega,by omega⟩,bF,au,eE,aq,bx.2 ⟨by omega,by omega⟩,bF,au,bA ⟨by omega,by omega,by omega⟩,bB]
 have Q:XI 10=some (⟨0,10,10⟩,true):=rfl;have T:xE p.weights=(p.weights.map jG,true):=by unfold xE;rw[J,ak]
 unfold O6 bu;rw[aCV C D,aq,bF,au,ayZ,aq,azc E,aq,aCR E,aq,oI,aq,aCS D,aq,Zc,aq,I,O,aq];dsimp only;rw[aCU _ _ c p n (by omega) L rfl rfl,aq];simp only[ef];rw[Zf _ (by omega),aq,Q,aq,T];unfold td grow;rw[I,bB];rfl
def Rv(c:av)(N:Int):Prop:=(∀r∈c.queue,r.id<=N/\r.at_<=c.now)/\∀r∈c.cz,r.id<=N
def Rv.nx{c y:av}{N:Int}(h:Rv c N)(D:Nx c y):Rv y N:=by
 have⟨E,O,I,J,Q⟩:=D
 refine⟨λr C=>by rw[E];exact h.1 r (I.subset C),λr C=>?_⟩
 rcases J r C with q|⟨q,L,e⟩
 ·exact h.2 r q
 ·rw[e];exact(h.1 q L).1
def Rv.gI{c y:av}{N:Int}(h:Rv c N)(D:Da c y):Rv y N:=by
 have⟨L,O,E,I,Q⟩:=D
 refine⟨λr C=>?_,λr C=>?_⟩
 ·have:=h.1 r (E.subset C)
  grind
 ·rcases I r C with q | ⟨q,J,e⟩
  ·exact h.2 r q
  ·rw[e];exact(h.1 q J).1
def aCX{r:cY}(h:eA r=true)(x:Bool):∃ y,P7 r x=some y/\eA y=true/\y.aJ.length=r.aJ.length:=by
 have hl:=nY h;have C:=h;simp only[eA,aO,bx]at h;have mk:∀ (w:Int) (b:Bool),1<=w/\w<=10000->eA ⟨r.aJ,w,b⟩=true:=λw b D=>by
  simp only[eA,aO,bx];exact⟨h.1,h.2.1,D⟩
 have E:W6 ((W6 (r.wait+1)).tdiv 2)=(r.wait+1) / 2:=by
  rw[aR (n:=r.wait+1),pS (by omega)];exact aR
 have I:W6 (W6 (2*r.wait)-1)=2*r.wait-1:=by
  rw[aR (n:=2*r.wait)];exact aR
 unfold P7 B2 xA xZ;rw[cQ (by simp;omega),ak,kj,aq,R2 _ (by omega),aq,C,bF,au];dsimp only;rw[E,I];cases x with
 | true=>
  cases r.dD with
  |false=>exact⟨_,rfl,mk _ _ (by omega),rfl⟩
  |true=>exact⟨_,rfl,mk _ _ h.2.2,rfl⟩
 | false=>
  cases r.dD with
  |false=>exact⟨_,rfl,mk _ _ h.2.2,rfl⟩
  |true=>exact⟨_,rfl,mk _ _ (by split<;>omega),rfl⟩
def aCY(b:fU)(C:AA b)(p:dJ)(D:p.weights.length <= 1048576):P8 b p=some (bif pM p then ⟨b.bV,p,true⟩else b,pM p):=by
 unfold P8;rw[ZH b C,aq,Zh _ (by omega),aq];cases pM p with
 |false=>rfl
 | true=>
  unfold vj xA xZ;rw[bF,gQ _,ak];rfl
def aCZ{c:av}(C:c8 c=true)(r:aX):(Mb c r).2=(sR c r).1:=by
 unfold Mb sR
 grind
def aC0{c:av}{N:Int}(h:Rv c N){r:aX}(D:r.id <= N):Rv (sR c r).1 N/\(sR c r).1.now=c.now/\(sR c r).1.config=c.config:=by
 unfold sR;cases hb:((!c8 c) ||((!(m8 c r).2) ||(c.cz.any λx=>x.id==r.id)))with
 |true=>simp_all
 | false=>
  refine⟨⟨λx hx=>?_,h.2⟩,rfl,rfl⟩
  unfold m8 CY at hx;cases C:(iU _ c.queue&&iU _ _)with
  | false=>
   rw[C]at hx;exact h.1 x hx
  | true=>
   rw[C,ak]at hx;unfold xO at hx;rcases List.mem_append.1 hx with hx|hx
   ·rcases List.mem_append.1 hx with hx | hx
    ·exact h.1 x (List.mem_of_mem_take hx)
    ·rw[oT.1 hx];exact⟨D,Int.le_refl _⟩
   ·exact h.1 x (List.mem_of_mem_drop hx)
def Do(c:av)(N:Int)(o:ah (Bool×(av×af))):Prop:=∃t y,o=some (t,(y,()))/\cW y/\c8 y=true/\y.config=c.config/\(0<=y.now/\y.now<=c.now+500)/\Rv y N
def aC1{c:av}{N:Int}(hz:cW c)(I:c8 c=true)(hi:2 <= c.config.interval/\c.config.interval <= 10000)(hn:c.now <= 900000)(J:Rv c N){a:iZ}(hw:a.oa.weights.length <= 1048576)(hid:a.request.id <= N):Do c N (Qe c a):=by
 have h:=Ck.of I;have p:=fE.of h.pa;have L:=bx.1 h.nw;have Q:=hz;have⟨Y,z2,z3,z5,z6,z7,z8,z9,iJ,jx,iV,iW,gP,jj⟩:=hz;have O:∀t:Bool,Do c N (some (t,(c,()))):=λt=>⟨t,c,rfl,Q,I,rfl,⟨L.1,by omega⟩,J⟩
 unfold Qe xC bu xL xM;cases a.kind==(1:Int)with
 | true=>
  have⟨q1,q2⟩:=aCt I a.request;have⟨v1,v2,v3⟩:=aC0 J hid;rw[ak,az1 c a.request Q I,aq];dsimp only;rw[aCZ I];exact⟨_,_,rfl,az0 c a.request Q,q1,v3,⟨by rw[v2];exact L.1,by rw[v2];omega⟩,v1⟩
 |false=>
 rw[au];cases a.kind==(2:Int)with
 | true=>
  rw[ak,eE,aq];cases T:aL a.n 0 500 with
  |false=>exact O _
  | true=>
   have hb:=bx.1 T;have⟨m,hm⟩:=eX hb.1;rw[bF,au];obtain⟨z,e,y,rfl,D,E,C,Z,U⟩:=YW (step:=Kc) m (λk x=>∃ y:av,x=(((),(),(k:Int),()),(y,a,()))/\cW y/\c8 y=true/\y.config=c.config/\(0 <= y.now/\y.now=c.now+(k:Int))/\Rv y N) (λz=>∃ y:av,z = .inl ((),(y,()))/\cW y/\c8 y=true/\y.config=c.config/\(0 <= y.now/\y.now <= c.now+500)/\Rv y N) aP (x:=(((),(),(0:Int),()),(c,a,()))) ⟨c,rfl,Q,I,rfl,⟨L.1,by omega⟩,J⟩ (by
    rintro k hkk x ⟨y,rfl,D,E,C,Z,U⟩;have⟨v,f1,f2,f3,f4⟩:=aCN D E (by rw[C];exact hi) (by omega);unfold Kc ay xG;dsimp only;rw[hm,aS (show (k:Int)<(m:Int) by omega),ak,f1,aq,bD];have aDv:=f4.1;exact⟨_,rfl,v,rfl,f2,f3,f4.2.1.trans C,⟨by omega,by omega⟩,U.gI f4⟩) (by
    rintro x ⟨y,rfl,D,E,C,Z,U⟩;unfold Kc ay xG;dsimp only;rw[hm,bh (show ¬ (m:Int)<(m:Int) by omega),au];exact⟨_,rfl,y,rfl,D,E,C,⟨Z.1,by omega⟩,U⟩) (bI)
   rw[e,aq];exact⟨true,y,rfl,D,E,C,Z,U⟩
 |false=>
 rw[au];cases a.kind==(3:Int)with
 | true=>
  have hg:=(vD h.rk).1;have ha:=dY.rV h.ar;rw[ak,YZ,aq];cases c1:dK c.config.az a.addr with
  |false=>exact O _
  |true=>
  rw[bF,au,eE,aq];cases c2:aL a.ye 0 10 with
  |false=>exact O _
  |true=>
  unfold xj;rw[bF,au,eE];cases c3:aL a.n 0 15 with
  |false=>exact O _
  | true=>
   have b2:=bx.1 c2;have b3:=bx.1 c3;have⟨k,hkc⟩:=eX b2.1;have hl:=ha.lt c1;have⟨i1,i2⟩:=L5 c1;have hs:=ha.syms _ (cU hl);have hkl:k<c.array.cells[ic c.config.az a.addr].symbols.length:=by rw[hs.1];omega
   have T:=Y7 (hs.get hkl) b3;have ha2:dY c.config.az 100000 ⟨c.array.cells.set (ic c.config.az a.addr) ⟨c.array.cells[ic c.config.az a.addr].symbols.set k (bits .xor .i64 c.array.cells[ic c.config.az a.addr].symbols[k] a.n),c.array.cells[ic c.config.az a.addr].ir⟩,c.array.bz,c.array.br⟩:=ha.Az _ (c:=⟨_,_⟩) (hs.set ⟨T.1,T.2.1⟩);refine⟨true,cV c ⟨c.array.cells.set (ic c.config.az a.addr) ⟨c.array.cells[ic c.config.az a.addr].symbols.set k (bits .xor .i64 c.array.cells[ic c.config.az a.addr].symbols[k] a.n),c.array.cells[ic c.config.az a.addr].ir⟩,c.array.bz,c.array.br⟩,?_,⟨Y,z2,z3,rW ha2,z6,z7,z8,z9,iJ,jx,iV,iW,gP,jj⟩,Ck.ok ⟨h.f1,h.f2,h.nw,h.rk,h.rd,sZ hg ha2,h.sp,h.se,h.rf,(show fE (cV c _)from ⟨p.dl,p.tl,p.gl,p.t,p.g,p.pd,p.u⟩).ok,h.qu,h.sh,h.sl,h.dr,h.pw,h.ps,h.si,h.s1,h.s2,h.s3,h.er,h.tr,h.rp⟩,rfl,⟨L.1,by show c.now <= c.now+500;omega⟩,J⟩;simp[RJ,i1,hl,hkc,hkl,cV]
 |false=>
 rw[au];cases a.kind==(4:Int)with
 | true=>
  rw[ak,eE,aq];cases T:aL a.n 0 1 with
  |false=>exact O _
  | true=>
   have⟨y,e,D,E⟩:=aCX h.rf (a.n==(1:Int));rw[bF,au,e,aq];exact⟨true,qN c y,rfl,⟨Y,z2,z3,z5,z6,by unfold xK at z7 ⊢;show y.aJ.length <= _;omega,z8,z9,iJ,jx,iV,iW,gP,jj⟩,Ck.ok ⟨h.f1,h.f2,h.nw,h.rk,h.rd,h.ar,h.sp,h.se,D,(show fE (qN c y)from ⟨by show (y.aJ.length:Int)=_;rw[E];exact p.dl,p.tl,p.gl,p.t,p.g,p.pd,p.u⟩).ok,h.qu,h.sh,h.sl,h.dr,h.pw,h.ps,h.si,h.s1,h.s2,h.s3,h.er,h.tr,h.rp⟩,rfl,⟨L.1,by show c.now <= c.now+500;omega⟩,J⟩
 |false=>
 rw[au];cases a.kind==(5:Int)with
 | true=>
  rw[ak,ajT _ _ (by omega),aq];cases hf:lJ c.config a.oa with
  |false=>exact O _
  | true=>
   have hp:=(F1 (by omega) hf).2;rw[bF,au,aCY c.box Y a.oa hw,aq,hp,ak];exact⟨true,⟨c.config,⟨c.box.bV,a.oa,true⟩,c.now,c.bq,c.ready,c.array,c.spare,c.aQ,c.bO,c.guard,c.pending,c.queue,c.shares,c.drain,c.bg,c.cM,c.errors,c.trace,c.cz⟩,rfl,⟨⟨Y.1,hw⟩,z2,z3,z5,z6,z7,z8,z9,iJ,jx,iV,iW,gP,jj⟩,Ck.ok ⟨h.f1,hf,h.nw,h.rk,h.rd,h.ar,h.sp,h.se,h.rf,(show fE ⟨c.config,⟨c.box.bV,a.oa,true⟩,c.now,c.bq,c.ready,c.array,c.spare,c.aQ,c.bO,c.guard,c.pending,c.queue,c.shares,c.drain,c.bg,c.cM,c.errors,c.trace,c.cz⟩from ⟨p.dl,p.tl,p.gl,p.t,p.g,p.pd,p.u⟩).ok,h.qu,h.sh,h.sl,h.dr,h.pw,h.ps,h.si,h.s1,h.s2,h.s3,h.er,h.tr,h.rp⟩,rfl,⟨L.1,by show c.now <= c.now+500;omega⟩,J⟩
 |false=>
 rw[au];cases a.kind==(6:Int)with
 | true=>
  have⟨t,y,e,D,E,C⟩:=aCQ Q I a.addr;rw[ak,e,aq];exact⟨t,y,rfl,D,E,C.2.1,⟨by rw[C.1];exact L.1,by rw[C.1];omega⟩,J.nx C⟩
 |false=>exact O _
def aC2{c:eT}{p:dJ}(J:vF c)(O:xN p){bf:aa iZ}{N:Int}(hN:0 <= N)(T:∀ a∈bf,Mv a/\a.request.id <= N)(hl:bf.length <= 60):∃ y n,Qg c p bf=some (y,n)/\cW y/\c8 y=true/\y.config=c/\(0 <= y.now/\y.now <= 30000)/\Rv y N:=by
 have hiv:200 <= c.interval/\c.interval <= 259:=J.2.2.2.2.1;have U:=aCr J O;have Y:=aCs J O;unfold Qg bu;rw[aCW J O,aq];dsimp only;rw[bF,au,bh (show ¬ (bf.length:Int) > 60 by omega),au];generalize (⟨⟨⟨(0:Int),(0:Int),(0:Int),(0:Int)⟩,⟨(0:Int),(0:Int),(0:Int),(0:Int),(0:Int),(0:Int),(0:Int),(0:Int),(0:Int),(0:Int),(0:Int),(0:Int),(0:Int),(0:Int),(0:Int),(0:Int),(0:Int)⟩,⟨(0:Int),false⟩,(0:Int),(0:Int),(0:Int),⟨(0:Int),(0:Int)⟩⟩,⟨⟨(0:Int),(0:Int),(0:Int),(0:Int),(0:Int),([]:aa Int),⟨(0:Int),(0:Int)⟩⟩,⟨(0:Int),(0:Int),(0:Int),(0:Int),(0:Int),([]:aa Int),⟨(0:Int),(0:Int)⟩⟩,false⟩,(0:Int),⟨([]:aa eP),(0:Int)⟩,⟨([]:aa Int),([]:aa Int)⟩,⟨([]:aa bY),([]:aa Int),([]:aa Int)⟩,⟨(0:Int),([]:aa Int)⟩,⟨([]:aa Int),(0:Int),false⟩,([]:aa cr),([]:aa Int),([]:aa aK),([]:aa aX),([]:aa cw),⟨false,(0:Int),(0:Int)⟩,⟨(0:Int),(0:Int),(0:Int)⟩,⟨(0:Int),(0:Int),(0:Int)⟩,([]:aa cv),([]:aa eY),([]:aa eM)⟩:av)=Z;obtain⟨z,e,y,n,rfl,D,E,C,L,I⟩:=YW (step:=Kd) bf.length (λk x=>∃ (y:av) (n:Int),x=((bf,(),(),n,(k:Int),()),(Z,y,()))/\cW y/\c8 y=true/\y.config=c/\(0 <= y.now/\y.now <= 500*(k:Int))/\Rv y N) (λz=>∃ (y:av) (n:Int),z = .inl (((),(),n,()),(Z,y,()))/\cW y/\c8 y=true/\y.config=c/\(0 <= y.now/\y.now <= 30000)/\Rv y N) aP (x:=((bf,(),(),(0:Int),(0:Int),()),(Z,td c p,()))) ⟨td c p,0,rfl,U,Y,rfl,⟨Int.le_refl _,Int.le_refl _⟩,λr Q=>(by cases Q),λr Q=>(by cases Q)⟩ (by
  rintro k hkk x ⟨y,n,rfl,D,E,C,L,I⟩;have⟨w1,w2⟩:=T _ (cU hkk);have⟨t,v,f1,f2,f3,f4,f5,f6⟩:=aC1 D E (by rw[C];omega) (by omega) I (a:=bf[k]) w1 w2;unfold Kd ay xG xI;dsimp only;rw[aS (show (k:Int)<(bf.length:Int) by omega),ak,aA ⟨by omega,by omega⟩];simp only[bB];rw[f1,aq,bD (i:=k)];dsimp only;cases t with
  |true=>exact⟨_,rfl,v,_,rfl,f2,f3,f4.trans C,⟨f5.1,by omega⟩,f6⟩
  |false=>exact⟨_,rfl,v,_,rfl,f2,f3,f4.trans C,⟨f5.1,by omega⟩,f6⟩) (by
  rintro x ⟨y,n,rfl,D,E,C,L,I⟩;unfold Kd ay xG xI;dsimp only;rw[bh (show ¬ (bf.length:Int)<(bf.length:Int) by omega),au];exact⟨_,rfl,y,n,rfl,D,E,C,⟨L.1,by omega⟩,I⟩) (bI)
 refine⟨y,n,?_,D,E,C,L,I⟩
 refine(bH (λo=>Option.bind o _) e).trans ?_
 rw[aq];simp only[ef];rw[azW y D,aq]
def aC3(l:aa Int)(h:l.length <= 1073741823):∃ y,Qq l=some y/\cW y/\c8 y=true/\(0 <= y.now/\y.now <= 30000)/\Rv y 13:=by
 unfold Qq Yb;have⟨J,L⟩:=aiM l h;have O:=aiN l J h;have⟨x,k,Q,C,D⟩:=azD O;have⟨p,k2,T,E,U⟩:=ajW C;have⟨bf,k3,Y,zF,I,hw⟩:=aCE E D 12 (by decide);have⟨y,n,Z,y1,y2,y3,y4,y5⟩:=aC2 D U (N:=13) (by decide) (λa I=>hw a I) (by omega);refine⟨y,?_,y1,y2,y4,y5⟩;rw[L,aq,Q,aq];dsimp only;rw[C.eta,T,aq];dsimp only;rw[E.eta]
 refine(bH (λo=>Option.bind (Option.bind o _) _) Y).trans ?_
 rw[aq];dsimp only;rw[Z];rfl
def alJ{x n:Int}(C:0<=x)(D:1<=n):0<=x.tmod n/\x.tmod n<n:=by
 rw[oU C];exact⟨Int.emod_nonneg x (by omega),Int.emod_lt_of_pos x (by omega)⟩
def gI(c:av):av:=(CJ c).getD c
def pR(c:av):Nat->av
 |0=>c
 |n+1=>gI (pR c n)
def aav{c:av}(C:cW c)(D:c8 c=true):CJ c=some (gI c)/\cW (gI c)/\c8 (gI c)=true/\(c.now≠1000000->(gI c).now=c.now+1):=by
 obtain⟨y,e,E,I,J,_⟩:=aCk C D;have L:gI c=y:=by unfold gI;rw[e];rfl
 rw[L];exact⟨e,E,I,λh=>(J h).1⟩
def Te{c:av}(C:cW c)(D:c8 c=true)(T:0<=c.now/\c.now<=40000)(n:Nat)(U:n<=500):cW (pR c n)/\c8 (pR c n)=true/\(pR c n).now=c.now+(n:Int):=by
 induction n with
 |zero=>exact⟨C,D,(Int.add_zero _).symm⟩
 | succ n E=>
  obtain⟨I,J,Y⟩:=E (by omega);obtain⟨_,L,O,Q⟩:=aav I J;exact⟨L,O,by have:=Q (by omega);show (gI (pR c n)).now=_;omega⟩
def aC4(c:av)(a b:Nat):pR (pR c a) b=pR c (a+b):=by
 induction b with
 |zero=>rfl
 |succ b C=>exact bH gI C
def Tf{c:av}(C:cW c)(D:c8 c=true)(E:0<=c.now/\c.now<=40000){n:Nat}(Q:n<=100):Ap c (n:Int)=some (pR c n):=by
 have I:aL (n:Int) 0 5000=true:=bx.2 ⟨by omega,by omega⟩;unfold Ap bu;rw[Sk c C,aq];generalize (⟨⟨⟨(0:Int),(0:Int),(0:Int),(0:Int)⟩,⟨(0:Int),(0:Int),(0:Int),(0:Int),(0:Int),(0:Int),(0:Int),(0:Int),(0:Int),(0:Int),(0:Int),(0:Int),(0:Int),(0:Int),(0:Int),(0:Int),(0:Int)⟩,⟨(0:Int),false⟩,(0:Int),(0:Int),(0:Int),⟨(0:Int),(0:Int)⟩⟩,_,_,_,_,_,_,_,_,_,_,_,_,_,_,_,_,_,_⟩:av)=Z;have e:=cy (step:=LG) n (λi=>(((n:Int),(),(),(i:Int),()),(Z,pR c i,()))) (.inl (((),(),()),(Z,pR c n,()))) aP (λk T=>by
  obtain⟨J,L,_⟩:=Te C D E k (by omega);obtain⟨O,_⟩:=aav J L;unfold LG ay xG;dsimp only;rw[aS (show (k:Int)<(n:Int) by omega),ak,dF,aq,I,ak,O,aq,bD];rfl) (by
  unfold LG ay xG;dsimp only;rw[bh (show ¬ (n:Int)<(n:Int) by omega),au]) (bI)
 rw[cq]at e;exact(bH (λo=>Option.bind o _) e).trans rfl
def aC5(l:aa Int)(h:l.length<=maxLen):YU l=some true:=by
 unfold YU Xz;rw[aq];by_cases E:(l.length:Int) > 1048576
 ·rw[aS E];rfl
 ·rw[bh E,au];obtain⟨c,J,C,D,hn,hv⟩:=aC3 l (by omega);obtain⟨q,L,wq,I⟩:=axP l (by omega);have O:=I _ (cU (show 0<q.length by omega));have Q:=I _ (cU (show 1<q.length by omega));rw[J,aq,L,aq,aA ⟨by decide,by simp;omega⟩,aA (by simp;omega),aA ⟨by decide,by simp;omega⟩,aA (by simp;omega)];rw[show q[(0:Int).toNat]'(by simp;omega)=q[0]from rfl,show q[(1:Int).toNat]'(by simp;omega)=q[1]from rfl];dsimp only;obtain⟨T,t2⟩:=alJ O.1 (show (1:Int)<=20 by decide);obtain⟨U,Y⟩:=alJ Q.1 (show (1:Int)<=20 by decide);obtain⟨a,Z⟩:=eX T;obtain⟨b,hb⟩:=eX U;rw[Z]at t2 ⊢;rw[hb]at Y ⊢;obtain⟨y1,y2,y3⟩:=Te C D (by omega) (a+b) (by omega);obtain⟨z1,z2,z3⟩:=Te C D (by omega) a (by omega);obtain⟨w1,w2,_⟩:=Te C D (by omega) 1 (by omega);obtain⟨f1,_⟩:=aav C D;have m2:Ap (pR c a) (b:Int)=some (pR (pR c a) b):=Tf z1 z2 (by omega) (by omega);rw[show W6 ((a:Int)+(b:Int))=((a+b:Nat):Int) by rw[aR];rfl,Tf C D (by omega) (by omega),aq,Tf C D (by omega) (by omega),aq,m2,aq,f1,aq,aC4,aly y1,aq,ak];rw[show (1:Int)=((1:Nat):Int)from rfl,Tf C D (by omega) (by omega),y3,aR (n:=c.now+(a:Int)),aR (n:=c.now+(a:Int)+(b:Int)),show c.now+((a+b:Nat):Int)=c.now+(a:Int)+(b:Int) by omega,ni,ak,aq];rw[show gI c=pR c 1 from rfl,aly w1];rfl
def aC6(C:Value)(w:World)(D:RdL .u8 (λx:Int=>0<=x/\x<=255) w C):Calls Tryz.prog 6 #[C] w λe w'=>e = .returned (.bool true)/\Below w.heap.size w w':=by
 obtain⟨l,hl,_,E⟩:=D;exact aqt axO (aqu (ai:=[(false,.sl .u8)]) (x:=(l,())) (by kernel_rfl) (aC5 l hl)) (aqv E)
end Go.Proofs.YtglnbhiaknohlaaGreat
