/-
  Plain laws. Nothing here is a claim.
-/
import Derived.Test.YtglnbhiaknohlaaGreatPYSteps
namespace Go.Proofs.YtglnbhiaknohlaaGreat
set_option linter.defProp false
open Go.RowKit
set_option linter.unusedVariables false
set_option linter.unusedSimpArgs false
set_option maxRecDepth 100000
def ZF{T:Type}{p:T->Bool}{l:aa T}{k:Nat}(h:l.findIdx? p=some k):l.filter (λx=>!p x)=l.take k++(l.drop (k+1)).filter (λx=>!p x):=by
 obtain⟨C,D,E⟩:=l5.1 h;have e:l=l.take k++l[k] :: l.drop (k+1):=by
  rw[<-List.drop_eq_getElem_cons C,List.take_append_drop]
 have I:(l.take k).filter (λx=>!p x)=l.take k:=by
  rw[List.filter_eq_self];intro a J;obtain⟨i,hi,rfl⟩:=ju.1 J;rw[fF]at hi;rw[List.getElem_take]
  simpa using E i (by omega)
 conv=>lhs;rw[e]
 rw[List.filter_append,List.filter_cons_of_neg (by simp[D]),I]
def ZG{T:Type}(s r:aa T)(i:Nat)(h:i<=s.length):(splice s i r).take i=s.take i:=by
 unfold splice;rw[List.append_assoc,List.take_append_of_le_length (by simp;omega),List.take_take,Nat.min_self]
def azw(l:aa aL)(a:aL)(hl:l.length<1073741824):QW l a=some (gG (fT a) l):=by
 unfold QW gG;have e:=vR (step:=K6) l (fT a) (λi=>((l,a,(l.length:Int),(i:Int),()),())) (λi=>.inl (((i:Int),()),())) (.inr (.inl ((),()))) aS (λk h=>by
  unfold K6 fT aA bq xG xI;dsimp only;rw[aP,ak,az ⟨by omega,by omega⟩];simp only[bu];rw[bI];cases (l[k].ax==a.ax&&(l[k].row==a.row&&(l[k].bR==a.bR&&true)))<;>rfl) (by
  unfold K6 aA bq xG xI;dsimp only;rw[aW,aq]) (bM hl)
 rw[bT]at e;rw[e];cases l.findIdx? (fT a)<;>rfl
def azx(l:aa aL)(x:aH)(hl:l.length<1073741824):Rc l x=some (gG (λa=>a.ax==x.ax) l):=by
 unfold Rc gG;have e:=vR (step:=Ll) l (λa=>a.ax==x.ax) (λi=>((l,x,(l.length:Int),(i:Int),()),())) (λi=>.inl (((i:Int),()),())) (.inr (.inl ((),()))) aS (λk h=>by
  unfold Ll aA bq xG xI;dsimp only;rw[aP,ak,az ⟨by omega,by omega⟩];simp only[bu];rw[bI];cases (l[k].ax==x.ax)<;>rfl) (by
  unfold Ll aA bq xG xI;dsimp only;rw[aW,aq]) (bM hl)
 rw[bT]at e;rw[e];cases l.findIdx? (λa=>a.ax==x.ax)<;>rfl
def azy(l:aa aL)(a:aL)(hl:l.length<1000000):QX l a=some (l.filter (λx=>!fT a x),([],())):=by
 unfold QX;rw[azw l a (by omega),au];unfold gG;cases C:l.findIdx? (fT a)with
 | none=>
  have e:l.filter (λx=>!fT a x)=l:=by
   rw[List.filter_eq_self];intro x D;have:=List.findIdx?_eq_none_iff.1 C x D;simp[this]
  rw[e];rfl
 | some k=>
  obtain⟨J,L,O⟩:=l5.1 C;rw[ZF C];simp only;rw[fP (show ¬ (k:Int) = -1 by omega),aq,bI];obtain⟨Q,T,E,U,Y,I⟩:=ajP (step:=K7) (fT a) (λi j s=>(((),a,(i:Int),(j:Int),()),(s,()))) (λi s=>.inl (((),(i:Int),()),(s,()))) (λi j s Z hi hb=>by
   unfold K7 fT aA xG xL;dsimp only;rw[aP,ak,az ⟨by omega,by omega⟩,az];simp only[bu];rw[bI,bI,az ⟨by omega,by omega⟩,az];cases (s[j].ax==a.ax&&(s[j].row==a.row&&(s[j].bR==a.bR&&true)))<;>rfl) (λi s hi=>by
   unfold K7 aA xG xL;dsimp only;rw[aW,aq]) (l.length-(k+1)) k (k+1) aS l (by omega) (by omega) (by omega) (by unfold aS;omega)
  rw[E,au,dY];dsimp only;rw[br ⟨by omega,by omega,by omega⟩,br ⟨by omega,by omega⟩,br ⟨by omega,by omega,by
   rw[sB _ _ _ (by simp;omega)];omega⟩]
  rw[ZG _ _ _ (by omega),bu,I]
def azz(l:aa aL)(c:aH)(hl:l.length<1000000):Rd l c=some (l.filter (λx=>!(x.ax==c.ax)),([],())):=by
 unfold Rd;rw[azx l c (by omega),au];unfold gG;cases C:l.findIdx? (λa=>a.ax==c.ax)with
 | none=>
  have e:l.filter (λx=>!(x.ax==c.ax))=l:=by
   rw[List.filter_eq_self];intro x D;have:=List.findIdx?_eq_none_iff.1 C x D;simp[this]
  rw[e];rfl
 | some k=>
  obtain⟨J,L,O⟩:=l5.1 C;rw[ZF C];simp only;rw[fP (show ¬ (k:Int) = -1 by omega),aq,bI];obtain⟨Q,T,E,U,Y,I⟩:=ajP (step:=Ln) (λx=>x.ax==c.ax) (λi j s=>(((),c,(i:Int),(j:Int),()),(s,()))) (λi s=>.inl (((),(i:Int),()),(s,()))) (λi j s Z hi hb=>by
   unfold Ln aA xG xL;dsimp only;rw[aP,ak,az ⟨by omega,by omega⟩,az];simp only[bu];rw[bI,bI,az ⟨by omega,by omega⟩,az];cases (s[j].ax==c.ax)<;>rfl) (λi s hi=>by
   unfold Ln aA xG xL;dsimp only;rw[aW,aq]) (l.length-(k+1)) k (k+1) aS l (by omega) (by omega) (by omega) (by unfold aS;omega)
  rw[E,au,dY];dsimp only;rw[br ⟨by omega,by omega,by omega⟩,br ⟨by omega,by omega⟩,br ⟨by omega,by omega,by
   rw[sB _ _ _ (by simp;omega)];omega⟩]
  rw[ZG _ _ _ (by omega),bu,I]
def kF(b:Int)(pd:aa aL)(n:Int):aa aL:=bif pd.any (fT ⟨b,n,0⟩)then pd else pd++[⟨b,n,0⟩]
def oT(c:av)(t:aa cx)(C:aa Int)(pd:aa aL):av:=⟨c.config,c.box,c.now,c.aY,c.ready,c.array,c.spare,c.aQ,t,C,pd,c.queue,c.shares,c.drain,c.bh,c.cU,c.errors,c.trace,c.cy⟩
def ajQ{T:Type}(p:T->Bool)(l:aa T):decide (gG p l<0) = !l.any p/\decide (gG p l >= 0)=l.any p:=by
 unfold gG;cases C:l.findIdx? p with
 | none=>
  have e:l.any p=false:=by
   rw[kK];intro x D;simp[List.findIdx?_eq_none_iff.1 C x D]
  rw[e];exact⟨rfl,rfl⟩
 | some k=>
  obtain⟨E,I,J⟩:=l5.1 C;have e:l.any p=true:=List.any_eq_true.2 ⟨_,cO E,I⟩;rw[e];exact⟨aW (by simp only;omega),aP (by simp only;omega)⟩
def Sd(b:Int):∀ (ns:aa Int) (pd:aa aL),(ns.foldl (kF b) pd).length<=pd.length+ns.length
 |[],pd=>eB _
 | n :: ns,pd=>by
  have:=Sd b ns (kF b pd n);have C:(kF b pd n).length<=pd.length+1:=by
   unfold kF;cases pd.any (fT ⟨b,n,0⟩)<;>simp
  simp only[List.foldl_cons,lY];omega
def ajR{T U:Type}(f:U->T->U)(l:aa T)(u:U){k:Nat}(h:k<l.length):(l.take (k+1)).foldl f u=f ((l.take k).foldl f u) l[k]:=by
 rw[List.take_add_one,bO h,List.foldl_append];rfl
def azA(c:av)(x:aH)(ns:aa Int)(C:ns.length<=1000)(D:c.pending.length<=1000):iter FF aS (((),(),(),(ns.length:Int),(0:Int),()),(c,(x.kind,x.ax,x.row,x.bR,()),ns,()))=some (.inl ((),(oT c c.bK c.guard (ns.foldl (kF x.ax) c.pending),()))):=by
 have e:=cL (step:=FF) ns.length (λi=>(((),(),(),(ns.length:Int),(i:Int),()),(oT c c.bK c.guard ((ns.take i).foldl (kF x.ax) c.pending),(x.kind,x.ax,x.row,x.bR,()),ns,()))) (.inl ((),(oT c c.bK c.guard ((ns.take ns.length).foldl (kF x.ax) c.pending),()))) aS (λk h=>by
  have hl:=Sd x.ax (ns.take k) c.pending;rw[fF]at hl;rw[ajR _ _ _ h];generalize (ns.take k).foldl (kF x.ax) c.pending=pd at hl;unfold FF kF oT Yh aA xG xL;dsimp only;rw[aP,ak,az ⟨by omega,by omega⟩,az];simp only[bu];rw[aiX _ _ (by omega),au,au,(ajQ _ _).2,bI,cP (by simp;omega)];cases pd.any (fT ⟨x.ax,ns[k],0⟩)<;>rfl) (by
  unfold FF oT aA xG xL;dsimp only;rw[aW,aq]) (bM)
 rw[bT,List.take_zero,iA]at e;exact e
def azB(c:av)(x:aH)(ns:aa Int)(C:ns.length<=1000)(D:c.pending.length<=1000):iter uq aS (((),(),true,(),(0:Int),()),(c,(x.kind,x.ax,x.row,x.bR,()),ns,()))=some (.inl ((),(oT c c.bK c.guard (ns.foldl (kF x.ax) c.pending),()))):=by
 have e:=cL (step:=uq) ns.length (λi=>(((),(),true,(),(i:Int),()),(oT c c.bK c.guard ((ns.take i).foldl (kF x.ax) c.pending),(x.kind,x.ax,x.row,x.bR,()),ns,()))) (.inl ((),(oT c c.bK c.guard ((ns.take ns.length).foldl (kF x.ax) c.pending),()))) aS (λk h=>by
  have hl:=Sd x.ax (ns.take k) c.pending;rw[fF]at hl;rw[ajR _ _ _ h];generalize (ns.take k).foldl (kF x.ax) c.pending=pd at hl;unfold uq kF oT aA xG xL;dsimp only;rw[aP,ak,ak,az ⟨by omega,by omega⟩,az];simp only[bu];rw[aiW _ _ (by omega),au,(ajQ _ _).1,bI,cP (by simp;omega)];cases pd.any (fT ⟨x.ax,ns[k],0⟩)<;>rfl) (by
  unfold uq oT aA xG xL;dsimp only;rw[aW,aq]) (bM)
 rw[bT,List.take_zero,iA]at e;exact e
def azC(c:av)(x:aH)(ns:aa Int):iter uq aS (((),(),false,(),(0:Int),()),(c,(x.kind,x.ax,x.row,x.bR,()),ns,()))=some (.inl ((),(c,()))):=by
 have e:=cL (step:=uq) 0 (λi=>(((),(),false,(),(i:Int),()),(c,(x.kind,x.ax,x.row,x.bR,()),ns,()))) (.inl ((),(c,()))) aS (λk h=>by omega) (by
  unfold uq aA xG xL;dsimp only;cases decide (((0:Nat):Int)<(ns.length:Int))<;>rfl) (bM)
 rw[bT]at e;exact e
def zT:cx:=⟨[],[],0⟩
def sg(c:av)(x:aH):cx×Bool:=tD (c.bK.getD x.ax.toNat zT) x.row (c.guard.getD x.ax.toNat 0)
def oU(c:av)(x:aH):aa aL:=c.pending.filter (λa=>!fT ⟨x.ax,x.row,0⟩ a)
def uK(c:av)(x:aH):av:=
 oT (cR c (uF c.config.ay c.config.dH c.array x.ax x.row)) (c.bK.set x.ax.toNat (sg c x).1) c.guard (bif (sg c x).2 then (lS c.config.ay.rows x.row).foldl (kF x.ax) (oU c x)else oU c x)
def kG{T:Type}{l:aa T}{i:Nat}(d:T)(h:i<l.length):l.getD i d=l[i]:=by
 rw[en,bO h];rfl
def ZH(R r:Int):(lS R r).length<=2:=by
 unfold lS;cases decide (0<r)<;>cases decide (r<R-1)<;>simp
def ZI{T:Type}(p:T->Bool)(l:aa T):(l.filter p).length<=l.length:=List.length_filter_le p l
def azD{B:Int}(c:av)(x:aH)(I:cD c.config.ay=true)(Q:ep c.config.ay B c.array)(Z:c.pending.length<=200)(T:∀ t∈c.bK,kE t)(E:0<=x.ax)(U:x.ax<aT c.config.ay)(J:0<=x.row)(L:x.row<c.config.ay.rows)(C:x.ax.toNat<c.bK.length)(D:x.ax.toNat<c.guard.length):QY c x=some ((),(uK c x,())):=by
 obtain⟨_,_,_,_,g5,g6,g7,g8⟩:=fA I;have O:=ajv I c.config.dH c Q E U J L;have Y:=azy c.pending ⟨x.ax,x.row,0⟩ (by omega);have hf:(oU c x).length<=c.pending.length:=List.length_filter_le _ _;have rF:=ZH c.config.ay.rows x.row;simp only[cR]at O;unfold QY bw xL xM
 refine(bF (λo=>Option.bind o _) O).trans ?_
 rw[au];dsimp only
 refine(bF (λo=>Option.bind o _) Y).trans ?_
 rw[au];dsimp only;rw[az ⟨E,C⟩,az C,az ⟨E,D⟩,az D,az C,az C];rw[azr _ (T _ (cO C)),au,az ⟨E,C⟩,az C];unfold uK sg;rw[kG _ C,kG _ D];cases (tD (c.bK[x.ax.toNat]'C) x.row (c.guard[x.ax.toNat]'D)).2 with
 |false=>rfl
 | true=>
  rw[bB,aq,Zg (by omega) (by omega) J L,au]
  refine(bF (λo=>Option.bind o _) (azA (oT (cR c (uF c.config.ay c.config.dH c.array x.ax x.row)) (c.bK.set x.ax.toNat (tD (c.bK[x.ax.toNat]'C) x.row (c.guard[x.ax.toNat]'D)).1) c.guard (oU c x)) x (lS c.config.ay.rows x.row) (by omega) (by unfold oT;dsimp only;omega))).trans ?_
  rfl
def v5(l:aa aL):Prop:=∀i (h:i<l.length),(l.take i).any (fT l[i])=false
def Mi{a b:aL}:fT a b=true ↔ a=b:=by
 obtain⟨C,D,E⟩:=a;obtain⟨I,J,L⟩:=b;simp only[fT,aM,fz,and_true,aL.mk.injEq];constructor
 ·rintro⟨rfl,rfl,rfl⟩;exact⟨rfl,rfl,rfl⟩
 ·rintro⟨rfl,rfl,rfl⟩;exact⟨rfl,rfl,rfl⟩
def v5.cut{l:aa aL}(h:v5 l){a:aL}{k:Nat}(C:l.findIdx? (fT a)=some k):l.take k++l.drop (k+1)=l.filter (λx=>!fT a x):=by
 obtain⟨O,D,Q⟩:=l5.1 C;rw[ZF C];congr 1;symm;rw[List.filter_eq_self];intro x E;obtain⟨i,hi,rfl⟩:=ju.1 E;rw[List.length_drop]at hi;rw[List.getElem_drop];cases I:fT a (l[k+1+i]'(by omega))with
 |false=>rfl
 | true=>
  exfalso;have J:=Mi.1 I;have L:=Mi.1 D;have:=kK.1 (h (k+1+i) (by omega)) l[k] (ju.2 ⟨k,by rw[fF];omega,by rw[List.getElem_take]⟩);rw[<-J,<-L]at this;simp[fT]at this
def azE{B:Int}(c:av)(x:aH)(J:cD c.config.ay=true)(I:ep c.config.ay B c.array)(hp:c.pending.length<=200)(hu:v5 c.pending)(L:∀ t∈c.bK,kE t)(D:0<=x.ax)(h2:x.ax<aT c.config.ay)(O:0<=x.row)(Q:x.row<c.config.ay.rows)(C:x.ax.toNat<c.bK.length)(E:x.ax.toNat<c.guard.length):Pp c x=some ((),(uK c x,())):=by
 obtain⟨_,_,_,_,g5,g6,g7,g8⟩:=fA J;have T:=ajz J c.config.dH c I D h2 O Q;have e2:=aiW c.pending ⟨x.ax,x.row,0⟩ (by omega);have hf:(oU c x).length<=c.pending.length:=List.length_filter_le _ _;have rF:=ZH c.config.ay.rows x.row;have U:Xz c.config.ay.rows x.row=some (lS c.config.ay.rows x.row):=Zg (by omega) (by omega) O Q;simp only[cR]at T;unfold Pp xA bw xL xM xZ
 refine(bF (λo=>Option.bind o _) T).trans ?_
 rw[au];dsimp only
 refine(bF (λo=>Option.bind o _) e2).trans ?_
 rw[au];have Y:∀ pd:aa aL,pd=oU c x->∀ t:cx×Bool,t=sg c x->(iter uq aS (((),(),t.2,(),(0:Int),()),((⟨c.config,c.box,c.now,c.aY,c.ready,uF c.config.ay c.config.dH c.array x.ax x.row,c.spare,c.aQ,(c.bK.set x.ax.toNat t.1),c.guard,pd,c.queue,c.shares,c.drain,c.bh,c.cU,c.errors,c.trace,c.cy⟩:av),(x.kind,x.ax,x.row,x.bR,()),lS c.config.ay.rows x.row,()))).bind (Sum.elim (λJy=>some ((),(Jy.2.1,()))) (λz=>nomatch z))=some ((),(uK c x,())):=by
  rintro pd rfl ⟨t1,t2⟩ C;unfold uK;rw[<-C];cases t2 with
  | false=>
   refine(bF (λo=>Option.bind o _) (azC _ x _)).trans ?_
   rfl
  | true=>
   refine(bF (λo=>Option.bind o _) (azB _ x _ (by omega) (by dsimp only;omega))).trans ?_
   rfl
 have Z:sg c x=tD (c.bK[x.ax.toNat]'C) x.row (c.guard[x.ax.toNat]'E):=by
  unfold sg;rw[kG _ C,kG _ E]
 unfold gG;cases hi:c.pending.findIdx? (fT ⟨x.ax,x.row,0⟩)with
 | none=>
  have e:oU c x=c.pending:=by
   unfold oU;rw[List.filter_eq_self];intro a I;have:=List.findIdx?_eq_none_iff.1 hi a I;simp[this]
  dsimp only;rw[aW,aq,az ⟨D,C⟩,az C,az ⟨D,E⟩,az E,az C,az C];rw[ajN _ (L _ (cO C)),au,az ⟨D,C⟩,az C,U,au];exact Y _ e.symm _ Z.symm
 | some k=>
  obtain⟨k1,ED,hq⟩:=l5.1 hi;have e:=hu.cut hi;dsimp only;rw[aP,ak,bI,br ⟨by omega,by omega,by omega⟩,br ⟨by omega,by omega,by omega⟩];simp only[bu,Int.toNat_zero,List.drop_zero,jH,iA];rw[cP (by simp;omega),ak,cP (by simp;omega),ak,az ⟨D,C⟩,az C,az ⟨D,E⟩,az E,az C,az C];rw[ajN _ (L _ (cO C)),au,az ⟨D,C⟩,az C,U,au];exact Y _ e _ Z.symm
def yg{U:Type}(f:U->Nat->U)(u:U)(k:Nat):(List.range (k+1)).foldl f u=f ((List.range k).foldl f u) k:=by
 rw[List.range_succ,List.foldl_append];rfl
def n8(g:aO)(l:lz)(a:dx)(b:Int)(n:Nat):dx:=(List.range n).foldl (λa (r:Nat)=>uF g l a b (r:Int)) a
def Gb{g:aO}(C:cD g=true)(l:lz){B:Int}(hB:0<=B){a:dx}(D:ep g B a){b:Int}(E:0<=b)(I:b<aT g):∀ n:Nat,(n:Int)<=g.rows->ep g B (n8 g l a b n)
 |0,_=>D
 | n+1,h=>by
  unfold n8;rw[yg];exact Zp C l hB (Gb C l hB D E I n (by omega)) E I (by omega) (by omega)
def ajS{B:Int}(hB:0<=B)(c:av)(C:cD c.config.ay=true)(J:ep c.config.ay B c.array){b:Int}(D:0<=b)(E:b<aT c.config.ay):K9 c b=some ((),(cR c (n8 c.config.ay c.config.dH c.array b c.config.ay.rows.toNat),())):=by
 obtain⟨_,_,_,_,L,O,Q,T⟩:=fA C;have e:=cL (step:=K8) c.config.ay.rows.toNat (λi=>(((),b,(i:Int),()),(cR c (n8 c.config.ay c.config.dH c.array b i),()))) (.inl ((),(cR c (n8 c.config.ay c.config.dH c.array b c.config.ay.rows.toNat),()))) aS (λk h=>by
  have I:=ajv C c.config.dH (cR c (n8 c.config.ay c.config.dH c.array b k)) (Gb C c.config.dH hB J D E k (by omega)) D E (show 0<=(k:Int) by omega) (by omega);simp only[cR]at I;unfold K8 cR aA xG;dsimp only;rw[aP,ak,I,au,bI];dsimp only;unfold n8;rw[yg]) (by
  unfold K8 cR aA xG;dsimp only;rw[aW,aq]) (bM)
 rw[bT]at e;unfold K9 bw
 refine(bF (λo=>Option.bind o _) e).trans ?_
 rfl
def azF{B:Int}(hB:0<=B)(c:av)(C:cD c.config.ay=true)(J:ep c.config.ay B c.array){b:Int}(D:0<=b)(E:b<aT c.config.ay):Pu c.config.ay c.config.dH c b=some ((),(cR c (n8 c.config.ay c.config.dH c.array b c.config.ay.rows.toNat),())):=by
 obtain⟨_,_,_,_,L,O,Q,T⟩:=fA C;have e:=cL (step:=JA) c.config.ay.rows.toNat (λi=>(((),b,(),(),(i:Int),()),(cR c (n8 c.config.ay c.config.dH c.array b i),(c.config.ay.cq,c.config.ay.aC,c.config.ay.rows,c.config.ay.aN,()),(c.config.dH.bC,c.config.dH.bz,()),()))) (.inl ((),(cR c (n8 c.config.ay c.config.dH c.array b c.config.ay.rows.toNat),()))) aS (λk h=>by
  have I:=ajz C c.config.dH (cR c (n8 c.config.ay c.config.dH c.array b k)) (Gb C c.config.dH hB J D E k (by omega)) D E (show 0<=(k:Int) by omega) (by omega);simp only[cR]at I;unfold JA cR aA xG;dsimp only;rw[aP,ak,I,au,bI];dsimp only;unfold n8;rw[yg]) (by
  unfold JA cR aA xG;dsimp only;rw[aW,aq]) (bM)
 rw[bT]at e;unfold Pu bw
 refine(bF (λo=>Option.bind o _) e).trans ?_
 rfl
def Mj(c:av)(b:Int)(pd:aa aL):av:=
 oT (cR c (n8 c.config.ay c.config.dH c.array b c.config.ay.rows.toNat)) (c.bK.set b.toNat (uJ c.config.hD)) (c.guard.set b.toNat c.box.bU.eK) pd
def ajT(c:av)(I:aK c.config.hD 1 16=true){b:Int}(C:0<=b)(D:b.toNat<c.bK.length)(E:b.toNat<c.guard.length):La c b=some ((),(oT c (c.bK.set b.toNat (uJ c.config.hD)) (c.guard.set b.toNat c.box.bU.eK) c.pending,())):=by
 unfold La xL;rw[azs I,au,az ⟨C,D⟩,az D,az ⟨C,E⟩,az E];rfl
def azG(c:av)(b:Int)(D:c.pending.length<=1000):iter EV aS (((),b,(),(0:Int),()),(c,([]:aa aL),()))=some (.inl (((),(),()),(c,c.pending.filter (λa=>!(a.ax==b)),()))):=by
 have e:=cL (step:=EV) c.pending.length (λi=>(((),b,(),(i:Int),()),(c,(c.pending.take i).filter (λa=>!(a.ax==b)),()))) (.inl (((),(),()),(c,(c.pending.take c.pending.length).filter (λa=>!(a.ax==b)),()))) aS (λk h=>by
  have hl:=ZI (λa:aL=>!(a.ax==b)) (c.pending.take k);rw[fF]at hl;have C:c.pending.take (k+1)=c.pending.take k++[c.pending[k]]:=by rw[List.take_add_one,bO h];rfl
  rw[C,List.filter_append];generalize (c.pending.take k).filter (λa=>!(a.ax==b))=ls at hl;unfold EV aA xG xL;dsimp only;rw[aP,ak,az ⟨by omega,by omega⟩,az];simp only[bu];rw[bI,bne];cases hb:c.pending[k].ax==b with
  |true=>rw[List.filter_cons_of_neg (by simp[hb])];simp
  | false=>
   rw[gU,ak,az ⟨by omega,by omega⟩,az,cP (by simp;omega),ak,List.filter_cons_of_pos (by simp[hb])];rfl) (by
  unfold EV aA xG xL;dsimp only;rw[aW,aq]) (bM)
 rw[bT,iA]at e;exact e
def ajU{B:Int}(hB:0<=B)(c:av)(J:cD c.config.ay=true)(L:ep c.config.ay B c.array)(O:aK c.config.hD 1 16=true)(T:c.pending.length<=200){b:Int}(C:0<=b)(Q:b<aT c.config.ay)(D:b.toNat<c.bK.length)(E:b.toNat<c.guard.length):JB c b=some ((),(Mj c b (c.pending.filter (λa=>!(a.ax==b))),())):=by
 have I:=azF hB c J L C Q;simp only[cR]at I;unfold JB bw xL
 refine(bF (λo=>Option.bind o _) I).trans ?_
 rw[au];dsimp only;rw[azt O,au,az ⟨C,D⟩,az D,az ⟨C,E⟩,az E]
 refine(bF (λo=>Option.bind o _) (azG _ b (by dsimp only;omega))).trans ?_
 rfl
def gw(c:av)(k:Nat)(pd:aa aL):av:=
 ⟨c.config,c.box,c.now,c.aY,c.ready,(List.range k).foldl (λa (b:Nat)=>n8 c.config.ay c.config.dH a (b:Int) c.config.ay.rows.toNat) c.array,c.spare,⟨(List.range k).foldl (λd b=>d.set b 0) c.aQ.aJ,c.aQ.wait,c.aQ.dN⟩,(List.range k).foldl (λd b=>d.set b (uJ c.config.hD)) c.bK,(List.range k).foldl (λd b=>d.set b c.box.bU.eK) c.guard,pd,c.queue,c.shares,c.drain,c.bh,c.cU,c.errors,c.trace,c.cy⟩
def yh{T:Type}(x:T)(l:aa T):∀ k:Nat,((List.range k).foldl (λd b=>d.set b x) l).length=l.length
 |0=>rfl
 |k+1=>by rw[yg,iw,yh x l k]
def Se{g:aO}(C:cD g=true)(l:lz){B:Int}(hB:0<=B){a:dx}(D:ep g B a):∀ k:Nat,(k:Int)<=aT g->ep g B ((List.range k).foldl (λa (b:Nat)=>n8 g l a (b:Int) g.rows.toNat) a)
 |0,_=>D
 | k+1,h=>by
  obtain⟨_,_,_,_,E,I,J,L⟩:=fA C;rw[yg];exact Gb C l hB (Se C l hB D k (by omega)) (by omega) (by omega) _ (by omega)
structure uL (B:Int) (c:av):Prop where
 hB:0<=B
 g:cD c.config.ay=true
 a:ep c.config.ay B c.array
 k:aK c.config.hD 1 16=true
 p:c.pending.length<=200
 t:(c.bK.length:Int)=aT c.config.ay
 d:(c.guard.length:Int)=aT c.config.ay
 r:(c.aQ.aJ.length:Int)=aT c.config.ay
def uL.Sf{B:Int}{c:av}(h:uL B c)(k:Nat)(C:(k:Int)<=aT c.config.ay)(pd:aa aL)(D:pd.length<=200):uL B (gw c k pd):=
 ⟨h.hB,h.g,Se h.g c.config.dH h.hB h.a k C,h.k,D,(bF (λn:Nat=>(n:Int)) (yh _ _ k)).trans h.t,(bF (λn:Nat=>(n:Int)) (yh _ _ k)).trans h.d,(bF (λn:Nat=>(n:Int)) (yh _ _ k)).trans h.r⟩
def ajV(c:av)(k:Nat)(pd C:aa aL):gw c (k+1) C=⟨c.config,c.box,c.now,c.aY,c.ready,(Mj (gw c k pd) (k:Int) C).array,c.spare,⟨(gw c k pd).aQ.aJ.set k 0,c.aQ.wait,c.aQ.dN⟩,(Mj (gw c k pd) (k:Int) C).bK,(Mj (gw c k pd) (k:Int) C).guard,C,c.queue,c.shares,c.drain,c.bh,c.cU,c.errors,c.trace,c.cy⟩:=by
 unfold gw;simp only[yg];rfl
def azH{B:Int}{c:av}(h:uL B c):iter xR aS (((),(c.bK.length:Int),(0:Int),()),(gw c 0 [],()))=some (.inl ((),(gw c c.bK.length [],()))):=by
 have O:=eY c.config.ay;have Q:=h.t;have e:=cL (step:=xR) c.bK.length (λi=>(((),(c.bK.length:Int),(i:Int),()),(gw c i [],()))) (.inl ((),(gw c c.bK.length [],()))) aS (λk T=>by
  have C:=h.Sf k (by omega) [] (by simp);have w1:=C.t;have E:=C.d;have I:=C.r;have D:aT (gw c k []).config.ay=aT c.config.ay:=rfl;rw[D]at w1 E I;have J:=ajS C.hB _ C.g C.a (b:=(k:Int)) (by omega) (by rw[D];omega);have L:=ajT (cR (gw c k []) (n8 (gw c k []).config.ay (gw c k []).config.dH (gw c k []).array (k:Int) (gw c k []).config.ay.rows.toNat)) C.k (b:=(k:Int)) (by omega) (by show (k:Int).toNat<(gw c k []).bK.length;omega) (by show (k:Int).toNat<(gw c k []).guard.length;omega);rw[ajV c k [] []];unfold xR aA xG xL;dsimp only;rw[aP,ak,J,au,L,au,bI];have U:k<(gw c k []).aQ.aJ.length:=by omega
  rw[az ⟨by omega,by show (k:Int).toNat<(gw c k []).aQ.aJ.length;omega⟩,az (by show (k:Int).toNat<(gw c k []).aQ.aJ.length;omega)];rfl) (by
  unfold xR aA xG xL;dsimp only;rw[aW,aq]) (bM)
 rw[bT]at e;exact e
def qd(pd:aa aL):Nat->aa aL
 |0=>pd
 |k+1=>(qd pd k).filter (λa=>!(a.ax==(k:Int)))
def ajW(pd:aa aL):∀ k,(qd pd k).length<=pd.length
 |0=>eB _
 |k+1=>Nat.le_trans (ZI _ _) (ajW pd k)
def ajX(pd:aa aL){a:aL}:∀ k,a∈qd pd k->a∈pd/\∀ b:Nat,b<k->a.ax≠(b:Int)
 |0,h=>⟨h,λb hb=>by omega⟩
 | k+1,h=>by
  unfold qd at h;obtain⟨C,D⟩:=List.mem_filter.1 h;obtain⟨E,I⟩:=ajX pd k C
  refine⟨E,λb hb=>?_⟩
  by_cases e:b=k
  ·subst e
   simpa using D
  ·exact I b (by omega)
def azI{pd:aa aL}{k:Nat}(h:∀ a∈pd,0<=a.ax/\a.ax<(k:Int)):qd pd k=[]:=by
 rw[List.eq_nil_iff_forall_not_mem];intro a C;obtain⟨D,E⟩:=ajX pd k C;have:=h a D;exact E a.ax.toNat (by omega) (by omega)
def azJ{B:Int}{c:av}(h:uL B c)(U:c.aY.aC.length=c.bK.length)(E:∀ a∈c.pending,0<=a.ax/\a.ax<aT c.config.ay):iter Ct aS (((),(0:Int),()),(c,()))=some (.inl ((),(gw c c.bK.length [],()))):=by
 have Y:=eY c.config.ay;have Z:=h.t;have e:=cL (step:=Ct) c.bK.length (λi=>(((),(i:Int),()),(gw c i (qd c.pending i),()))) (.inl ((),(gw c c.bK.length (qd c.pending c.bK.length),()))) aS (λk hk=>by
  have C:=h.Sf k (by omega) (qd c.pending k) (Nat.le_trans (ajW _ _) h.p);have w1:=C.t;have I:=C.d;have J:=C.r;have D:aT (gw c k (qd c.pending k)).config.ay=aT c.config.ay:=rfl;rw[D]at w1 I J;have L:=ajU C.hB _ C.g C.a C.k C.p (b:=(k:Int)) (by omega) (by rw[D];omega) (by omega) (by omega);rw[ajV c k (qd c.pending k) (qd c.pending (k+1))];unfold Ct aA xG xL;dsimp only;rw[aP (by show (k:Int)<((c.aY.aC.length:Nat):Int);omega),ak,L,au,bI];rw[az ⟨by omega,by show (k:Int).toNat<(gw c k (qd c.pending k)).aQ.aJ.length;omega⟩,az (by show (k:Int).toNat<(gw c k (qd c.pending k)).aQ.aJ.length;omega)];rfl) (by
  unfold Ct aA xG xL;dsimp only;rw[aW (by show ¬ ((c.bK.length:Nat):Int)<((c.aY.aC.length:Nat):Int);omega),aq]) (bM)
 have O:qd c.pending c.bK.length=[]:=azI (λa Q=>by have:=E a Q;omega);have T:gw c 0 (qd c.pending 0)=c:=rfl;rw[bT,O,T]at e;exact e
def wv(l:aa Int):Nat->Int
 |0=>0
 |i+1=>bits .or .i64 (wv l i) (W6 (l.getD i 0*2 ^ (min (4*(i:Int)).toNat IntKind.i64.bits)))
def ajY{l:aa Int}(h:l.length=8)(C:∀ s∈l,0<=s/\s<=15):tf l 8=true:=by
 simp only[tf,aM,cE,gf,vP,bx];exact⟨λx D=>C x D,by rw[h];rfl⟩
def azK{l:aa Int}(h:l.length=8)(D:∀ s∈l,0<=s/\s<=15):Q3 l=some (wv l 8,true):=by
 unfold Q3 bw;rw[aiw _ _ (by omega),ajY h D,au];have e:=cL (step:=Le) 8 (λi=>((wv l i,l,(l.length:Int),(i:Int),()),())) (.inl ((wv l 8,()),())) aS (λi hi=>by
  have C:i<l.length:=by omega
  have E:W6 (4*(i:Int))=4*(i:Int):=aR;have I:¬ 4*(i:Int)<0:=by omega
  have J:l.getD i 0=l[i]:=by rw[en,bO C];rfl
  have L:wv l (i+1)=bits .or .i64 (wv l i) (W6 (l.getD i 0*2 ^ (min (4*(i:Int)).toNat IntKind.i64.bits))):=rfl;unfold Le aA xG xI;rw[L,J];simp (disch:=omega) [C,E,I,bI]) (by unfold Le aA xG xI;simp[h]) (bM)
 rw[bT]at e;simp only[bB,aq];have O:wv l 0=0:=rfl;rw[O]at e;rw[e];rfl
def azL{l:aa Int}(h:l.length=8)(D:∀ s∈l,0<=s/\s<=15):PE l=some (wv l 8,true):=by
 unfold PE bw;rw[Ry _ _ (by omega),ajY h D,au];have e:=cL (step:=JI) 8 (λi=>((l,wv l i,(i:Int),()),())) (.inl ((wv l 8,()),())) aS (λi hi=>by
  have C:i<l.length:=by omega
  have E:W6 (4*(i:Int))=4*(i:Int):=aR;have I:IntKind.u64.wrap (4*(i:Int))=4*(i:Int):=ajh (by omega) (by omega);have J:¬ 4*(i:Int)<0:=by omega
  have L:l.getD i 0=l[i]:=by rw[en,bO C];rfl
  have O:wv l (i+1)=bits .or .i64 (wv l i) (W6 (l.getD i 0*2 ^ (min (4*(i:Int)).toNat IntKind.i64.bits))):=rfl;unfold JI aA xG xI;rw[O,L];simp (disch:=omega) [C,E,I,J,bI]) (by unfold JI aA xG xI;simp[h]) (bM)
 rw[bT]at e;simp only[bB,aq];have Q:wv l 0=0:=rfl;rw[Q]at e;rw[e];rfl
def azM{w:aa Nat}(D:dM w)(hl:w.length=11):PF (bf w)=some (bf (w.drop 3)):=by
 have E:=(LN D hl).ok;have hlen:(bf w).length=11:=by rw[fS,hl]
 have C:(bf w).drop 3=bf (w.drop 3):=by simp[bf,List.map_drop]
 unfold PF xA xZ;rw[Ry _ _ (by rw[fS];omega),E,au];generalize bf w=W at hlen C ⊢;rw[<-C];have I:W.take 11=W:=by rw[<-hlen,iA]
 simp[hlen,bD,I]
def ajZ{w:aa Nat}(D:dM w)(hl:w.length=11):(bf (w.drop 3)).length=8/\∀ s∈bf (w.drop 3),0<=s/\s<=15:=by
 refine⟨by rw[fS];simp[hl],λs C=>?_⟩
 simp only[bf,List.mem_map]at C;obtain⟨x,E,rfl⟩:=C;have:=D x (List.mem_of_mem_drop E);omega
def AS(w:aa Nat):Int:=bif (fV w).2.1==2 then 0 else wv (bf ((fV w).1.drop 3)) 8
def azN{w:aa Nat}(C:dM w)(hl:w.length=11):Q5 (bf w)=some (AS w,(fV w).2.1,(fV w).2.2):=by
 obtain⟨D,E,_⟩:=C9 C hl;obtain⟨I,J⟩:=ajZ E D;unfold Q5 AS;rw[ajk C hl,au];dsimp only;cases h:(fV w).2.1==2 with
 |true=>simp
 | false=>
  rw[aq,aq,ayv E D,au,azK I J];rfl
def azO{w:aa Nat}(C:dM w)(hl:w.length=11):PG (bf w)=some (AS w,(fV w).2.1,(fV w).2.2):=by
 obtain⟨D,E,_⟩:=C9 C hl;obtain⟨I,J⟩:=ajZ E D;unfold PG AS;rw[ayo C hl,au];dsimp only;cases h:(fV w).2.1==2 with
 |true=>simp
 | false=>
  rw[aq,aq,azM E D,au,azL I J];rfl
def nw(c:bZ):aa Nat:=c.symbols.map Int.toNat
def Sg{c:bZ}(h:Sy c.symbols):bf (nw c)=c.symbols/\dM (nw c)/\(nw c).length=11:=by
 obtain⟨C,D⟩:=YN c.symbols h.2;exact⟨C,D,by simp[nw,h.1]⟩
def iM(c:bZ):Int:=bif c.iX then 2 else (fV (nw c)).2.1
def kY(c:bZ):bZ:=bif c.iX then c else bif (fV (nw c)).2.1==1 then ⟨bf (fV (nw c)).1,c.iX⟩else bif (fV (nw c)).2.1==2 then ⟨c.symbols,true⟩else c
def azP{l:aa bZ}{j:Nat}(h:j<l.length):l.set j l[j]=l:=List.set_getElem_self h
def Sh{c:bZ}(h:Sy c.symbols):Sy (kY c).symbols:=by
 obtain⟨J,C,D⟩:=Sg h;obtain⟨E,I,_⟩:=C9 C D;unfold kY;cases c.iX with
 |true=>exact h
 | false=>
  cases (fV (nw c)).2.1==1 with
  |true=>exact LN I E
  |false=>cases (fV (nw c)).2.1==2<;>exact h
def Gc(x:Int)(k:Nat):Int:=bits .and .i64 (x.fdiv (2 ^ (min (4*(k:Int)).toNat IntKind.i64.bits))) 15
def jG(x:Int):Nat->aa Int
 |0=>[]
 |k+1=>jG x k++[Gc x k]
def Mk(x:Int):∀ k,(jG x k).length=k
 |0=>rfl
 |k+1=>by simp[jG,Mk x k]
def ZJ(x:Int):∀ k,∀ s∈jG x k,0<=s/\s<=15
 |0,s,h=>by cases h
 | k+1,s,h=>by
  rcases List.mem_append.1 h with h|h
  ·exact ZJ x k s h
  ·rw[oe.1 h];exact ayg _
def azQ{x:Int}(Q:0<=x)(T:x<=4294967295):PB x=some (jG x 8):=by
 have C:aK x 0 4294967295=true:=by rw[bx];omega
 unfold PB bw;have e:=cL (step:=JG) 8 (λk=>((x,(),(k:Int),()),(jG x k,()))) (.inl (((),()),(jG x 8,()))) aS (λk U=>by
  have D:(k:Int)<8:=by omega
  have E:bD ((jG x k).length+1)=true:=cP (by rw[Mk];omega);have I:W6 (4*(k:Int))=4*(k:Int):=aR;have J:IntKind.u64.wrap (4*(k:Int))=4*(k:Int):=ajh (by omega) (by omega);have L:¬ 4*(k:Int)<0:=by omega
  unfold JG I8 aA xG;simp (disch:=omega) [D,eJ,C,I,J,L,E,bI,jG,Gc]) (by
  unfold JG aA xG;simp) (bM)
 rw[bT]at e;have O:jG x 0=[]:=rfl;rw[O]at e;rw[e];rfl
def azR{x:Int}(O:0<=x)(Q:x<=4294967295):Q9 x=some (jG x 8):=by
 have C:aK x 0 4294967295=true:=by rw[bx];omega
 unfold Q9 CH bw;rw[dJ,au,au,C,bB,aq];have e:=cL (step:=Lk) 8 (λk=>((x,(),(k:Int),()),(jG x k,()))) (.inl (((),()),(jG x 8,()))) aS (λk T=>by
  have D:(k:Int)<8:=by omega
  have E:bD ((jG x k).length+1)=true:=cP (by rw[Mk];omega);have I:W6 (4*(k:Int))=4*(k:Int):=aR;have J:¬ 4*(k:Int)<0:=by omega
  unfold Lk aA xG;simp (disch:=omega) [D,I,J,E,bI,jG,Gc]) (by
  unfold Lk aA xG;simp) (bM)
 rw[bT]at e;have L:jG x 0=[]:=rfl;rw[L]at e;rw[e];rfl
def aj0:(jq λx=>jq λy=>jq λz=>(λC D E=>Nat.beq (gm (gm 2 (C ^^^ D) ^^^ gm 5 (C ^^^ E)) 13) y&&(Nat.beq (gm (gm 3 (C ^^^ E) ^^^ gm 5 (C ^^^ D)) 13) z&&Nat.beq (C ^^^ (y ^^^ z)) x)) (gm x (pw 0) ^^^ (gm y (pw 0) ^^^ gm z (pw 0))) (gm x (pw 0) ^^^ (gm y (pw 1) ^^^ gm z (pw 2))) (gm x (pw 0) ^^^ (gm y (pw 2) ^^^ gm z (pw 4))))=true:=by kernel_rfl
def azS{x y z:Nat}{d:aa Nat}(j:Nat):bQ (x :: y :: z :: d) j 11=(gm x (pw (0*j)) ^^^ (gm y (pw (1*j)) ^^^ gm z (pw (2*j)))) ^^^ bQ (0 :: 0 :: 0 :: d) j 11:=by
 simp only[bQ,List.getD_cons_zero,List.getD_cons_succ,Nat.xor_assoc,Nat.zero_xor,Rw (uw _)]
def Gd{a b:Nat}(h:a ^^^ b=0):a=b:=by
 have C:(a ^^^ b) ^^^ b=0 ^^^ b:=by rw[h]
 rw[Nat.xor_assoc,Nat.xor_self,Nat.xor_zero,Nat.zero_xor]at C;exact C
def aj1{w v:aa Nat}(hw:dM w)(hv:dM v)(lw:w.length=11)(lv:v.length=11)(hd:w.drop 3=v.drop 3)(zw:n6 w=true)(zv:n6 v=true):w=v:=by
 obtain⟨x,y,z,d,rfl⟩:∃ x y z d,w=x :: y :: z :: d:=by
  match w,lw with
  |x::y::z::d,_=>exact⟨x,y,z,d,rfl⟩
 obtain⟨C,D,E,d',rfl⟩:∃ x y z d,v=x :: y :: z :: d:=by
  match v,lv with
  |x::y::z::d,_=>exact⟨x,y,z,d,rfl⟩
 have hd:d=d':=hd;subst hd;simp only[n6,aM]at zw zv;obtain⟨w0,w1,J⟩:=zw;obtain⟨I,L,O⟩:=zv;rw[azS]at w0 w1 J I L O;have w0:gm x (pw 0) ^^^ (gm y (pw 0) ^^^ gm z (pw 0))=bQ (0::0::0::d) 0 11:=Gd (ck w0);have w1:gm x (pw 0) ^^^ (gm y (pw 1) ^^^ gm z (pw 2))=bQ (0::0::0::d) 1 11:=Gd (ck w1);have J:gm x (pw 0) ^^^ (gm y (pw 2) ^^^ gm z (pw 4))=bQ (0::0::0::d) 2 11:=Gd (ck J);have I:gm C (pw 0) ^^^ (gm D (pw 0) ^^^ gm E (pw 0))=bQ (0::0::0::d) 0 11:=Gd (ck I);have L:gm C (pw 0) ^^^ (gm D (pw 1) ^^^ gm E (pw 2))=bQ (0::0::0::d) 1 11:=Gd (ck L);have O:gm C (pw 0) ^^^ (gm D (pw 2) ^^^ gm E (pw 4))=bQ (0::0::0::d) 2 11:=Gd (ck O);have m:∀{l:aa Nat} {n:Nat},dM l->n∈l->n<16:=λh hn=>h _ hn
 have k1:=gE (gE (gE aj0 (m hw (n:=x) (by simp))) (m hw (n:=y) (by simp))) (m hw (n:=z) (by simp));have k2:=gE (gE (gE aj0 (m hv (n:=C) (by simp))) (m hv (n:=D) (by simp))) (m hv (n:=E) (by simp));simp only[aM]at k1 k2;obtain⟨Q,T,U⟩:=k1;obtain⟨Y,Z,b3⟩:=k2;have Q:=ck Q;have T:=ck T;have U:=ck U;have Y:=ck Y;have Z:=ck Z;have b3:=ck b3;rw[w0,w1,J]at Q T;rw[w0]at U;rw[I,L,O]at Y Z;rw[I]at b3;have ey:y=D:=by rw[<-Q,<-Y]
 have ez:z=E:=by rw[<-T,<-Z]
 subst ey ez;have ex:x=C:=by rw[<-U,<-b3]
 rw[ex]
def aj2(w r:aa Nat):∀ k,k<=3->(qU w r k).drop 3=w.drop 3
 |0,_=>rfl
 | k+1,h=>by
  show (List.set _ _ _).drop 3=_;rw[List.drop_set_of_lt (by omega),aj2 w r k (by omega)]
def ZK{a b:aa Nat}(h:bf a=bf b):a=b:=(List.map_inj_right (λx y h=>by
 have h:(x:Int)=(y:Int):=h;omega)).1 h
def azT{d:aa Nat}(D:dM d)(hl:d.length=8):∃ w,Ai (bf d)=some (bf w)/\w.length=11/\dM w/\w.drop 3=d/\n6 w=true:=by
 have E:dM (0 :: 0 :: 0 :: d):=by
  intro x hx;simp only[fQ]at hx;rcases hx with rfl|rfl|rfl|hx
  ·decide
  ·decide
  ·decide
  ·exact D x hx
 have C:(0::0::0::d).length=11:=by simp[hl]
 obtain⟨w,e,I,J,L,O,Q⟩:=axb D hl;refine⟨w,e,I,J,?_,by simp[n6,L,O,Q]⟩;have T:Ai (bf d)=some (bf (qU (0 :: 0 :: 0 :: d) (out (0 :: 0 :: 0 :: d) 8) 3)):=by
  unfold Ai xA bw xZ;have c0:((d.length:Int)==(8:Int))=true:=by rw[hl];rfl
  have U:bD ((List.replicate (3:Int).toNat (0:Int)).length+(bf d).length)=true:=by
   rw[fS,hl];rfl
  have Y:bD (([]:aa Int).length+(bf (0 :: 0 :: 0 :: d)).length)=true:=by
   rw[fS,C];rfl
  have Z:W6 (((bf (0 :: 0 :: 0 :: d)).length:Int)-(1:Int))=10:=by
   rw[fS,C];rfl
  have eW:List.replicate (3:Int).toNat (0:Int)++bf d=bf (0::0::0::d):=rfl;rw[aio D (by omega),au,c0,show (!true)=false from rfl,aq,br (by decide),U,ak,eW,ain,au,dY];dsimp only;rw[jH,Y,ak,Z,aip E C,au,dY];dsimp only;rw[aiv C (by rw[CW,C]),au,dY]
 rw[T]at e;injection e with e;rw[<-ZK e,aj2 _ _ 3 (eB _)];rfl
def Df(x:Int):aa Int:=(FJ x).getD []
def Ml{x:Int}(J:0<=x)(L:x<=4294967295):FJ x=some (Df x)/\Sy (Df x)/\∃ w,Df x=bf w/\w.length=11/\dM w/\bf (w.drop 3)=jG x 8/\n6 w=true:=by
 have O:aK x 0 4294967295=true:=by rw[bx];omega
 obtain⟨C,t2⟩:=YN (jG x 8) (ZJ x 8);have tl:((jG x 8).map Int.toNat).length=8:=by rw[dh,Mk]
 obtain⟨w,D,l1,E,Q,T,U,Y⟩:=aw1 t2 tl;have Z:n6 w=true:=by simp[n6,T,U,Y]
 rw[C]at D;have I:FJ x=some (bf w):=by
  unfold FJ CH;rw[dJ,au,au,O,bB,aq,azR J L,au,D,au]
 have ee:Df x=bf w:=by unfold Df;rw[I];rfl
 rw[ee];exact⟨I,LN E l1,w,rfl,l1,E,by rw[Q,C],Z⟩
def aj3{x:Int}(C:0<=x)(D:x<=4294967295):E1 x=some (Df x):=by
 obtain⟨E,t2⟩:=YN (jG x 8) (ZJ x 8);have tl:((jG x 8).map Int.toNat).length=8:=by rw[dh,Mk]
 obtain⟨_,_,w,J,l1,L,O,Q⟩:=Ml C D;obtain⟨v,I,l2,T,U,Y⟩:=azT t2 tl;have Z:=aj1 L T l1 l2 (by rw[U];exact ZK (by rw[O,E])) Q Y;subst Z;rw[E]at I;unfold E1;rw[azQ C D,au,I,au,J]
def azU{a b:Nat}(E:a<9223372036854775808)(hb:b<9223372036854775808):bits .or .i64 (a:Int) (b:Int)=((a ||| b:Nat):Int):=by
 have e:bits .or .i64 (a:Int) (b:Int)=W6 ((BitVec.ofInt 64 (a:Int) |||BitVec.ofInt 64 (b:Int)).toNat:Int):=rfl;have h:a |||b<2 ^ 63:=Nat.or_lt_two_pow (by omega) (by omega);have C:BitVec.ofInt 64 (a:Int)=BitVec.ofNat 64 a:=BitVec.ofInt_natCast 64 a;have D:BitVec.ofInt 64 (b:Int)=BitVec.ofNat 64 b:=BitVec.ofInt_natCast 64 b;rw[e,C,D,BitVec.toNat_or,BitVec.toNat_ofNat,BitVec.toNat_ofNat,Nat.mod_eq_of_lt (by omega),Nat.mod_eq_of_lt (by omega),aR]
def azV(a:Nat)(I:a<9223372036854775808):bits .and .i64 (a:Int) 15=((a % 16:Nat):Int):=by
 have e:bits .and .i64 (a:Int) 15=W6 ((BitVec.ofInt 64 (a:Int) &&& BitVec.ofInt 64 15).toNat:Int):=rfl;have C:BitVec.ofInt 64 (a:Int)=BitVec.ofNat 64 a:=BitVec.ofInt_natCast 64 a;have D:(BitVec.ofInt 64 15).toNat=15:=rfl;have E:a &&& 15=a % 16:=Nat.and_two_pow_sub_one_eq_mod a 4;rw[e,C,BitVec.toNat_and,BitVec.toNat_ofNat,Nat.mod_eq_of_lt (by omega),D,E,aR]
def nv(d:aa Nat):Nat->Nat
 |0=>0
 |k+1=>nv d k+d.getD k 0*16 ^ k
def Mm{d:aa Nat}(C:dM d):∀ k,nv d k<16 ^ k
 |0=>Nat.one_pos
 | k+1=>by
  have D:=Mm C k;have E:=C.get k;have I:d.getD k 0*16 ^ k<=15*16 ^ k:=iN _ (by omega);show nv d k+d.getD k 0*16 ^ k<16 ^ (k+1);rw[Nat.pow_succ];omega
def aj4(k:Nat)(C:k<8):(min (4*(k:Int)).toNat IntKind.i64.bits)=4*k:=by
 have:IntKind.i64.bits=64:=rfl;rw[this];omega
def ZL{d:aa Nat}(C:dM d)(hl:d.length=8):∀ k,k<=8->wv (bf d) k=(nv d k:Int)
 |0,_=>rfl
 | k+1,h=>by
  have E:=Mm C k;have L:=C.get k;have O:(16:Nat) ^ k<=16 ^ 7:=Nat.pow_le_pow_right (by decide) (by omega);have D:(2:Nat) ^ (4*k)=16 ^ k:=by rw[Nat.pow_mul]
  have Q:d.getD k 0*16 ^ k<=15*16 ^ k:=iN _ (by omega);have I:(bf d).getD k 0=((d.getD k 0:Nat):Int):=by
   rw[en,bO (by rw[fS];omega)];exact uy (by rw[fS];omega)
  have J:((d.getD k 0:Nat):Int)*2 ^ (4*k)=((d.getD k 0*16 ^ k:Nat):Int):=by
   rw[<-D]
   push_cast
   rfl
  show bits .or .i64 (wv (bf d) k) (W6 ((bf d).getD k 0*2 ^ (min (4*(k:Int)).toNat IntKind.i64.bits)))=((nv d k+d.getD k 0*16 ^ k:Nat):Int)
  rw[ZL C hl k (by omega),aj4 k (by omega),I,J,aR,azU (by omega) (by omega)];congr 1;have:=Nat.two_pow_add_eq_or_of_lt (i:=4*k) (b:=nv d k) (by rw[D];exact E) (d.getD k 0);rw[D,Nat.mul_comm]at this;rw[Nat.or_comm,<-this];omega
def aj5{d:aa Nat}(C:dM d):∀ n k,k<n->nv d n / 16 ^ k % 16=d.getD k 0
 |0,k,h=>by omega
 | n+1,k,h=>by
  have D:=Mm C n;have J:=C.get n;show (nv d n+d.getD n 0*16 ^ n) / 16 ^ k % 16=_;by_cases e:k=n
  ·subst e;rw[Nat.add_mul_div_right _ _ (Nat.pow_pos (by decide)),Nat.div_eq_of_lt D,fo];omega
  ·have E:n=(n-k-1)+1+k:=by omega
   have I:d.getD n 0*16 ^ n=(d.getD n 0*16 ^ (n-k-1)*16)*16 ^ k:=by
    conv=>lhs;rw[show (16:Nat) ^ n=16 ^ ((n-k-1)+1+k) by rw[<-E],Nat.pow_add,Nat.pow_succ]
    simp only[Nat.mul_assoc]
   rw[I,Nat.add_mul_div_right _ _ (Nat.pow_pos (by decide)),Nat.add_mul_mod_self_right,aj5 C n k (by omega)]
def azW{d:aa Nat}(C:dM d)(hl:d.length=8):jG (wv (bf d) 8) 8=bf d:=by
 have O:nv d 8<16 ^ 8:=Mm C 8;rw[ZL C hl 8 (eB _)];have key:∀ k,k<=8->jG (nv d 8:Int) k=bf (d.take k):=by
  intro k
  induction k with
  |zero=>intro _;rfl
  | succ k D=>
   intro Q;have E:(2:Nat) ^ (4*k)=16 ^ k:=by rw[Nat.pow_mul]
   have I:(nv d 8:Int).fdiv (2 ^ (4*k))=((nv d 8 / 16 ^ k:Nat):Int):=by
    have J:(2:Int) ^ (4*k)=((2 ^ (4*k):Nat):Int):=by push_cast;rfl
    rw[J,Int.fdiv_eq_ediv_of_nonneg _ (Int.natCast_nonneg _),E];rfl
   have L:Gc (nv d 8:Int) k=((d.getD k 0:Nat):Int):=by
    unfold Gc;rw[aj4 k (by omega),I,azV _ (Nat.lt_of_le_of_lt (Nat.div_le_self _ _) (by omega)),aj5 C 8 k (by omega)]
   show jG (nv d 8:Int) k++[Gc (nv d 8:Int) k]=_;rw[D (by omega),L,List.take_add_one,bO (by omega),en,bO (by omega)];exact(lZ (f:=λn:Nat=>(n:Int)) (l₁:=d.take k) (l₂:=[d[k]])).symm
 rw[key 8 (eB _),<-hl,iA]
def azX{d:aa Nat}(C:dM d)(hl:d.length=8):0<=wv (bf d) 8/\wv (bf d) 8<=4294967295:=by
 have D:nv d 8<16 ^ 8:=Mm C 8;rw[ZL C hl 8 (eB _)];omega
def azY{w:aa Nat}(C:dM w)(hl:w.length=11)(h:(fV w).2.1=1):E1 (AS w)=some (bf (fV w).1):=by
 obtain⟨D,E,_⟩:=C9 C hl;have T:=ayu C hl (by omega);have I:dM ((fV w).1.drop 3):=λx U=>E x (List.mem_of_mem_drop U)
 have J:((fV w).1.drop 3).length=8:=by rw[List.length_drop,D]
 have Y:AS w=wv (bf ((fV w).1.drop 3)) 8:=by
  unfold AS;rw[h];rfl
 obtain⟨L,O⟩:=azX I J;have Z:=aj3 L O;obtain⟨_,_,v,ev,vl,v16,Q,vz⟩:=Ml L O;rw[azW I J]at Q;have:=aj1 v16 E vl D (ZK Q) vz T;rw[Y,Z,ev,this]
def Mn(d:bZ):Int:=bif d.iX then 0 else AS (nw d)
def nA(c:av)(j:Nat)(d:bZ):av:=cR c ⟨c.array.cells.set j d,c.array.bC,c.array.bz⟩
def aj6{c:av}{j:Nat}(h:j<c.array.cells.length):nA c j c.array.cells[j]=c:=by
 unfold nA cR;rw[azP h]
def aj7{c:av}{j:Nat}(C:j<c.array.cells.length)(O:Sy c.array.cells[j].symbols):xQ c (j:Int)=some ((Mn c.array.cells[j],iM c.array.cells[j]),(nA c j (kY c.array.cells[j]),())):=by
 obtain⟨Q,D,E⟩:=Sg O;have I:=ajk D E;have J:=azN D E;rw[Q]at I J;have L:=aj6 C;unfold xQ iM kY Mn xL xM;rw[az ⟨by omega,by omega⟩,az];simp only[bu];cases T:c.array.cells[j].iX with
 | true=>
  rw[ak,ak,ak,ak,L]
 | false=>
  rw[aq,aq,aq,aq,az C,az C,I,au,az C,az C,J,au];dsimp only;rcases(C9 D E).2.2 with q|q|q
  ·rw[q,fP (by omega),aq,fP (by omega),aq,aq,aq,L]
  ·rw[q,kM,ak,ak,az C,T];rfl
  ·rw[q,fP (by omega),aq,kM,ak,aq,ak,az C];rfl
def aj8{c:av}{j:Nat}(C:j<c.array.cells.length)(L:Sy c.array.cells[j].symbols):Cr c (j:Int)=some ((Mn c.array.cells[j],iM c.array.cells[j]),(nA c j (kY c.array.cells[j]),())):=by
 obtain⟨O,D,E⟩:=Sg L;have I:=azO D E;rw[O]at I;have J:=aj6 C;unfold Cr iM kY Mn xL xM;rw[az ⟨by omega,by omega⟩,az];simp only[bu];cases Q:c.array.cells[j].iX with
 | true=>
  rw[ak,ak,ak,ak,J]
 | false=>
  rw[aq,aq,aq,aq,az C,I,au];dsimp only;rcases(C9 D E).2.2 with q|q|q
  ·rw[q,fP (by omega),aq,fP (by omega),aq,aq,aq,J]
  ·rw[q,kM,ak,azY D E q,au,az ⟨by omega,C⟩,az C,fP (by omega),aq,ak,Q];rfl
  ·rw[q,fP (by omega),aq,kM,ak,aq,ak,az ⟨by omega,C⟩,az C];rfl
def uM(q:aa aX)(i:Nat):Bool:=match q[i]? with
 |some r=>(q.take i).any λx=>x.line==r.line
 |none=>false
def aj9{q:aa aX}{i:Nat}(h:i<q.length):uM q i=(q.take i).any λx=>x.line==q[i].line:=by
 unfold uM;rw[bO h]
def azZ{α:Type}(p:α->Bool)(q:aa α)(i:Nat)(hi:i<=q.length):c9 p (q.take i)=min (c9 p q) i:=by
 have J:=uE p q;have E:=uE p (q.take i);rw[fF,Nat.min_eq_left hi]at E;rcases Nat.lt_or_ge (c9 p (q.take i)) i with h|h
 ·have I:c9 p (q.take i)<(q.take i).length:=by rw[fF,Nat.min_eq_left hi];exact h
  have D:=qY I;rw[List.getElem_take]at D;rcases Nat.lt_or_ge (c9 p q) (c9 p (q.take i))with h5|h5
  ·have h6:=qY (p:=p) (q:=q) (by omega);have C:=ny h5 (by rw[fF];omega);rw[List.getElem_take,h6]at C;cases C
  ·rcases Nat.lt_or_ge (c9 p (q.take i)) (c9 p q)with h6 | h6
   ·have C:=ny h6 (by omega);rw[D]at C;cases C
   ·omega
 ·have e:c9 p (q.take i)=i:=by omega
  rw[e];rcases Nat.lt_or_ge (c9 p q) i with h5|h5
  ·have h6:=qY (p:=p) (q:=q) (by omega);have C:=ny (p:=p) (q:=q.take i) (i:=c9 p q) (by omega) (by rw[fF];omega);rw[List.getElem_take,h6]at C;cases C
  ·omega
def az0{q:aa aX}{i:Nat}(h:i<q.length)(I:q.length<=1000):Rh q (i:Int)=some (uM q i):=by
 have J:=uE (λx:aX=>x.line==q[i].line) (q.take i);have hlen:(q.take i).length=i:=by rw[fF];omega
 unfold Rh cc;rw[dJ,au,Mf (by omega) (by omega) (by omega),bB,aq,br ⟨by omega,by omega,by omega⟩,aj9 h,L9];simp only[bu,Int.toNat_zero,List.drop_zero];generalize L:q.take i=t at *
 have e:=cL (step:=FP) (c9 (λx:aX=>x.line==q[i].line) t) (λj=>((q,(i:Int),t,(t.length:Int),(j:Int),()),())) (if c9 (λx:aX=>x.line==q[i].line) t<t.length then .inl ((true,()),())else .inr (.inl ((),()))) aS (λk E=>by
  have D:=ny E (by omega);unfold FP aA bq xG xI;dsimp only;rw[aP,ak,az ⟨by omega,by omega⟩,az ⟨by omega,by omega⟩];simp only[bu];rw[D,aq,bI]) (by
  by_cases C:c9 (λx:aX=>x.line==q[i].line) t<t.length
  ·have D:=qY C;unfold FP aA bq xG xI;dsimp only;rw[aP,ak,az ⟨by omega,by omega⟩,az ⟨by omega,by omega⟩];simp only[bu];rw[D,ak,br C]
  ·unfold FP aA bq xG xI;dsimp only;rw[aW,aq,bE C]) (bM)
 rw[bT]at e
 refine(bF (λo=>Option.bind o _) e).trans ?_
 by_cases C:c9 (λx:aX=>x.line==q[i].line) t<t.length
 ·rw[br C,aP C];rfl
 ·rw[bE C,aW C];rfl
def aka{q:aa aX}{i:Nat}(h:i<q.length)(I:q.length<=1000):JT q (i:Int)=some (uM q i):=by
 have J:=azZ (λx:aX=>x.line==q[i].line) q i (by omega);have L:=uE (λx:aX=>x.line==q[i].line) (q.take i);have hlen:(q.take i).length=i:=by rw[fF];omega
 unfold JT cc;rw[aj9 h,L9,hlen];generalize O:c9 (λx:aX=>x.line==q[i].line) (q.take i)=n at *
 have e:=cL (step:=E8) n (λj=>((q,(i:Int),(j:Int),()),())) (if n<i then .inl ((true,()),())else .inr (.inl ((),()))) aS (λk Q=>by
  have D:=ny (p:=λx:aX=>x.line==q[i].line) (q:=q) (i:=k) (by omega) (by omega);unfold E8 aA bq xG xI;dsimp only;rw[aP,ak,aP,ak,az ⟨by omega,by omega⟩,az ⟨by omega,by omega⟩];simp only[bu];rw[D,aq,bI]) (by
  by_cases C:n<i
  ·have D:((q[n]'(by omega)).line==q[i].line)=true:=by
    have E:c9 (λx:aX=>x.line==q[i].line) q=n:=by omega
    have:=qY (p:=λx:aX=>x.line==q[i].line) (q:=q) (by omega);simp only[E]at this;exact this
   unfold E8 aA bq xG xI;dsimp only;rw[aP,ak,aP,ak,az ⟨by omega,by omega⟩,az ⟨by omega,by omega⟩];simp only[bu];rw[D,ak,br C]
  ·unfold E8 aA bq xG xI;dsimp only;rw[aW,aq,bE C]) (bM)
 rw[bT]at e
 refine(bF (λo=>Option.bind o _) e).trans ?_
 by_cases C:n<i
 ·rw[br C,aP C];rfl
 ·rw[bE C,aW C];rfl
def AT(d:gJ)(n:Int)(w:Bool):Bool:=bif w then d.on ||decide (n<1)else !d.on
def az1{d:gJ}(n:Int)(w:Bool)(h:jS d=true):Ri d n w=some (AT d n w):=by
 unfold Ri AT;rw[RJ,au,h];cases w<;>cases d.on<;>rfl
def az2{d:gJ}(n:Int)(w:Bool)(h:jS d=true):PU d n w=some (AT d n w):=by
 unfold PU AT;rw[YV,au,h];cases w<;>cases d.on<;>rfl
def AU(p:Nat->Bool)(k:Nat):Int:=((List.range k).countP p:Nat)
def Si(p:Nat->Bool)(k:Nat):AU p (k+1)=AU p k+(bif p k then 1 else 0):=by
 unfold AU;rw[List.range_succ,List.countP_append,List.countP_singleton];cases p k<;>simp
def Sj(p:Nat->Bool)(k:Nat):0<=AU p k/\AU p k<=k:=by
 unfold AU;have:=List.countP_le_length (p:=p) (l:=List.range k);rw[cY]at this;omega
def sj(f:Nat->Bool)(n k:Nat):aa Bool:=(List.range k).map f++List.replicate (n-k) false
def Sk{f:Nat->Bool}{n k:Nat}(h:k<=n):(sj f n k).length=n:=by unfold sj;simp;omega
def Sl{f:Nat->Bool}{n k:Nat}(h:k<n):(sj f n k).set k (f k)=sj f n (k+1):=by
 unfold sj;rw[List.set_append_right _ _ (by simp),dh,cY,Nat.sub_self,show n-k=(n-(k+1))+1 by omega,List.replicate_succ,List.set_cons_zero,List.range_succ,lZ,List.append_assoc];rfl
def Sm(f:Nat->Bool)(n:Nat):sj f n 0=List.replicate n false:=rfl
def Sn(f:Nat->Bool)(n:Nat):sj f n n=(List.range n).map f:=by unfold sj;simp
def yj{f:Nat->Bool}{n k:Nat}(h:k<n)(C:k<((List.range n).map f).length):((List.range n).map f)[k]=f k:=by simp
def qZ(q:aa aX)(i:Nat):Bool:=match q[i]? with
 |some r=>r.write
 |none=>false
def Dg{q:aa aX}{i:Nat}(h:i<q.length):qZ q i=q[i].write:=by
 unfold qZ;rw[bO h]
def kH(q:aa aX)(i:Nat):Bool:=!uM q i
def q5(q:aa aX)(k:Nat):Int:=AU (λi=>kH q i && !qZ q i) k
def sk(q:aa aX)(k:Nat):Int:=AU (λi=>kH q i&&qZ q i) k
def gY(c:av)(i:Nat):Bool:=kH c.queue i&&(AT c.drain (q5 c.queue c.queue.length) (qZ c.queue i) ||(!qZ c.queue i&&sk c.queue c.queue.length==0))
def az3{c:av}(h:Pq c):PW c=some ((List.range c.queue.length).map (gY c)):=by
 have I:=h.ql;have e:=cL (step:=JU) c.queue.length (λi=>((c,q5 c.queue i,sk c.queue i,(i:Int),()),())) (.inl ((c,q5 c.queue c.queue.length,sk c.queue c.queue.length,()),())) aS (λk C=>by
  have J:=Sj (λi=>kH c.queue i && !qZ c.queue i) k;have L:=Sj (λi=>kH c.queue i&&qZ c.queue i) k;unfold JU aA xG xI;dsimp only;rw[aP,ak,aka C (by omega),au,bI];unfold q5 sk at *
  have E:kH c.queue k = !uM c.queue k:=rfl;rw[Si,Si];simp only[E,Dg C];cases uM c.queue k with
  |true=>simp
  | false=>
   rw[aq,az ⟨by omega,by omega⟩];simp only[bu];cases c.queue[k].write with
   |true=>rw[ak,aR];simp[kH]
   |false=>rw[aq,aR];simp[kH]) (by
  unfold JU aA xG xI;dsimp only;rw[aW,aq]) (bM)
 have D:=cL (step:=JV) c.queue.length (λi=>((c,q5 c.queue c.queue.length,sk c.queue c.queue.length,(),(i:Int),()),((List.range i).map (gY c),()))) (.inl (((),()),((List.range c.queue.length).map (gY c),()))) aS (λk C=>by
  have hl:((List.range k).map (gY c)).length=k:=by simp
  unfold JV aA xG xI;dsimp only;rw[aP,ak,az ⟨by omega,by omega⟩,aka C (by omega),au,bI,List.range_succ,lZ,hl,List.map_singleton];simp only[bu,iz,cP (show k+1<1073741824 by omega),ak,az2 _ _ h.dr,au];unfold gY kH;rw[Dg C];cases uM c.queue k<;>cases c.queue[k].write<;>cases AT c.drain (q5 c.queue c.queue.length) _<;>first|rfl|simp) (by
  unfold JV aA xG xI;dsimp only;rw[aW,aq]) (bM)
 rw[bT]at e D;unfold PW bw
 refine(bF (λo=>Option.bind o _) e).trans ?_
 rw[au]
 refine(bF (λo=>Option.bind o _) D).trans ?_
 rfl
def fm(c:av):aa aL:=c.queue.map λr=>fl c r.line
def uN(c:av):(fm c).length=c.queue.length:=by unfold fm;rw[dh]
def az4{c:av}{i:Nat}(h:i<c.queue.length)(C:i<(fm c).length):(fm c)[i]=fl c c.queue[i].line:=by simp only[fm,List.getElem_map]
def So{c:av}(h:Pq c){r:aX}(C:r∈c.queue):vI c r.line=some (fl c r.line,true)/\dL c.config.ay (fl c r.line)=true:=
 azj h.p h.sp h.se h.mo (h.q r C).1.1 (h.q r C).1.2
def ZM{c:av}(h:Pq c){r:aX}(C:r∈c.queue):xz c r.line=some (fl c r.line):=
 azl h.p h.sp h.se h.mo (h.q r C).1.1 (h.q r C).1.2
def az5{c:av}(h:Pq c):Rg c=some (fm c):=by
 have D:=h.ql;have e:=cL (step:=Lw) c.queue.length (λi=>(((),(),c.queue,(c.queue.length:Int),(i:Int),()),(c,(c.queue.take i).map (λr=>fl c r.line),()))) (.inl (((),()),(fm c,()))) aS (λk C=>by
  have hl:((c.queue.take k).map (λr=>fl c r.line)).length=k:=by simp;omega
  unfold Lw aA xG xI;dsimp only;rw[aP,ak,az ⟨by omega,by omega⟩];simp only[bu];rw[(So h (cO C)).1,au,bI,hl,iz,cP,ak,p7 C,lZ];rfl) (by
  unfold Lw aA xG xI;dsimp only;rw[aW,aq,iA];rfl) (bM)
 rw[bT]at e;unfold Rg bw
 refine(bF (λo=>Option.bind o _) e).trans ?_
 rfl
def akb{c:av}(h:Pq c):JS c=some (fm c):=by
 have D:=h.ql;have e:=cL (step:=JR) c.queue.length (λi=>((c,(),(i:Int),()),((c.queue.take i).map (λr=>fl c r.line),()))) (.inl (((),()),(fm c,()))) aS (λk C=>by
  have hl:((c.queue.take k).map (λr=>fl c r.line)).length=k:=by simp;omega
  unfold JR aA xG xI;dsimp only;rw[aP,ak,az ⟨by omega,by omega⟩];simp only[bu];rw[ZM h (cO C),au,bI,hl,iz,cP,ak,p7 C,lZ];rfl) (by
  unfold JR aA xG xI;dsimp only;rw[aW,aq,iA];rfl) (bM)
 rw[bT]at e;unfold JS bw
 refine(bF (λo=>Option.bind o _) e).trans ?_
 rfl
def zA:aL:=⟨0,0,0⟩
def zQ:aX:=⟨0,0,0,false,0,0⟩
def fI(c:av)(i:Nat):aL:=(fm c).getD i zA
def lV(c:av)(i:Nat):aX:=c.queue.getD i zQ
def Dh{c:av}{i:Nat}(h:i<(fm c).length):(fm c)[i]=fI c i:=by
 unfold fI;rw[en,bO h];rfl
def qe{c:av}{i:Nat}(h:i<c.queue.length):c.queue[i]=lV c i:=by
 unfold lV;rw[en,bO h];rfl
def Di{c:av}(h:Pq c){i:Nat}(hi:i<c.queue.length):dL c.config.ay (fI c i)=true/\0<=(fI c i).ax/\(fI c i).ax.toNat<c.aY.aC.length/\(fI c i).ax.toNat<c.aQ.aJ.length/\(fI c i).ax<aT c.config.ay/\0<=(fI c i).row:=by
 have e:=az4 hi (by rw[uN];exact hi);rw[Dh]at e;have C:=(So h (cO hi)).2;rw[<-e]at C;obtain⟨_,D,E,I,J,L,O⟩:=r6 C;have:=h.p.bl;have:=h.dl;exact⟨C,D,by omega,by omega,E,I⟩
def v7{c:av}(h:Pq c):c.aY.aC.length<=1048576:=by
 have:=h.p.bl;have:=eY c.config.ay;omega
def dX(c:av)(i:Nat):Bool:=vY c.aY (fI c i)
def az6{c:av}(h:Pq c)(C:aa Int)(D:aa aL)(Z:Int×Int×Int×Int×af)(P:Int×Int×Int×Int×Int×(aa Int)×Int×Int×af):iter FR aS ((C,D,(),(),(),(),(0:Int),(0:Int),c.queue,(c.queue.length:Int),(0:Int),()),(c,Z,P,List.replicate c.queue.length false,()))=some (.inl ((C,D,(),(),(),(),q5 c.queue c.queue.length,sk c.queue c.queue.length,()),(c,Z,P,(List.range c.queue.length).map (kH c.queue),()))):=by
 have J:=h.ql;have e:=cL (step:=FR) c.queue.length (λi=>((C,D,(),(),(),(),q5 c.queue i,sk c.queue i,c.queue,(c.queue.length:Int),(i:Int),()),(c,Z,P,sj (kH c.queue) c.queue.length i,()))) (.inl ((C,D,(),(),(),(),q5 c.queue c.queue.length,sk c.queue c.queue.length,()),(c,Z,P,(List.range c.queue.length).map (kH c.queue),()))) aS (λk E=>by
  have L:=Sj (λi=>kH c.queue i && !qZ c.queue i) k;have O:=Sj (λi=>kH c.queue i&&qZ c.queue i) k;have I:kH c.queue k = !uM c.queue k:=rfl;have hl:=Sk (f:=kH c.queue) (n:=c.queue.length) (k:=k) (by omega);have Q:((sj (kH c.queue) c.queue.length k).set k (!uM c.queue k)).length=c.queue.length:=by rw[iw,hl]
  rw[<-Sl E];unfold FR aA xG xI xL;dsimp only;rw[aP,ak,az ⟨by omega,by omega⟩,az0 E (by omega),au,az ⟨by omega,by omega⟩,az,az ⟨by omega,by simp only[bu];omega⟩,az (by simp only[bu];omega),bI];simp only[bu,List.getElem_set_self];unfold q5 sk at *
  rw[Si,Si];simp only[I,Dg E];cases uM c.queue k with
  | true=>
   rw[bB,aq,az ⟨by omega,by rw[iw];omega⟩,az (by rw[iw];omega),aq];simp
  | false=>
   rw[gU,ak];cases c.queue[k].write with
   |true=>rw[ak,aR];simp
   | false=>
    rw[aq,az ⟨by omega,by rw[iw];omega⟩,az (by rw[iw];omega),ak,aR];simp) (by
  unfold FR aA xG xI xL;dsimp only;rw[aW,aq,Sn]) (bM)
 rw[bT,Sm]at e;exact e
def sn(c:av):Nat->aa (Int×Bool)
 |0=>[]
 |k+1=>bif gY c k&&dX c k then mZ (sn c k) (fI c k).ax true else sn c k
def yl(c:av)(k:Nat)(b:Int):Bool:=(List.range k).any λi=>gY c i&&dX c i&&b==(fI c i).ax
def akc(c:av)(b:Int):∀ k,mA (sn c k) b=yl c k b
 |0=>rfl
 | k+1=>by
  have C:=akc c b k;have e:yl c (k+1) b=(yl c k b || (gY c k&&dX c k&&b==(fI c k).ax)):=by
   unfold yl;rw[List.range_succ,List.any_append];simp
  rw[e,<-C];show mA (bif gY c k&&dX c k then mZ (sn c k) (fI c k).ax true else sn c k) b=_;cases gY c k&&dX c k with
  |false=>simp
  |true=>rw[ak,ayc,cr,Bool.or_comm]
def az7{c:av}(h:Pq c)(D:aa Int)(Z:Int×Int×Int×Int×af)(P:Int×Int×Int×Int×Int×(aa Int)×Int×Int×af):iter FT aS ((D,fm c,(),(),(),(),q5 c.queue c.queue.length,sk c.queue c.queue.length,(),(),(),c.queue,(c.queue.length:Int),(0:Int),()),(c,Z,P,(List.range c.queue.length).map (kH c.queue),List.replicate c.queue.length false,List.replicate c.queue.length false,([]:aa (Int×Bool)),()))=some (.inl ((D,fm c,(),(),(),(),(),(),()),(c,Z,P,(List.range c.queue.length).map (gY c),(List.range c.queue.length).map (dX c),sn c c.queue.length,()))):=by
 have hq:=h.ql;have E:=v7 h;have e:=cL (step:=FT) c.queue.length (λi=>((D,fm c,(),(),(),(),q5 c.queue c.queue.length,sk c.queue c.queue.length,(),(),(),c.queue,(c.queue.length:Int),(i:Int),()),(c,Z,P,(List.range c.queue.length).map (kH c.queue),sj (gY c) c.queue.length i,sj (dX c) c.queue.length i,sn c i,()))) (.inl ((D,fm c,(),(),(),(),(),(),()),(c,Z,P,(List.range c.queue.length).map (gY c),(List.range c.queue.length).map (dX c),sn c c.queue.length,()))) aS (λk C=>by
  have hl:=Sk (f:=gY c) (n:=c.queue.length) (k:=k) (by omega);have I:=Sk (f:=dX c) (n:=c.queue.length) (k:=k) (by omega);have J:=uN c;have hl4:((List.range c.queue.length).map (kH c.queue)).length=c.queue.length:=by simp
  obtain⟨ho,L,O,o3,o4,Q⟩:=Di h C;have T:=azn (r:=c.aY) (a:=fI c k) Q L O E;have U:gY c k=(kH c.queue k&&(AT c.drain (q5 c.queue c.queue.length) c.queue[k].write ||(!c.queue[k].write&&sk c.queue c.queue.length==0))):=by unfold gY;rw[Dg C]
  have Y:sn c (k+1)=bif gY c k&&dX c k then mZ (sn c k) (fI c k).ax true else sn c k:=rfl;have iH:dX c k=vY c.aY (fI c k):=rfl;rw[<-Sl C,<-Sl C,Y];unfold FT aA xG xI xL;dsimp only;rw[aP,ak,az ⟨by omega,by omega⟩,az ⟨by omega,by omega⟩,az];simp only[bu,yj C,az1 _ _ h.dr,au,Dh,T,bI (show k<4611686018427387904 by omega),List.getElem_set_self,iw,hl,I,J];rw[U,iH];cases kH c.queue k<;>cases AT c.drain (q5 c.queue c.queue.length) c.queue[k].write<;>cases c.queue[k].write<;>cases vY c.aY (fI c k)<;>cases sk c.queue c.queue.length==0<;>simp[C]) (by
  unfold FT aA xG xI xL;dsimp only;rw[aW,aq,Sn,Sn]) (bM)
 rw[bT,Sm,Sm]at e;exact e
def Sq(e:cv):cv:=⟨e.line,e.code,(if (999:Int)<(W6 (e.times+(1:Int)))then (999:Int)else (W6 (e.times+(1:Int))))⟩
def zEE:cv:=⟨0,0,0⟩
def oV(l:aa cv)(line code:Int):aa cv:=match l.findIdx? (je ⟨line,code,1⟩)with
 |some i=>l.set i (Sq (l.getD i zEE))
 |none=>bif ((l.length:Int)==(6:Int))then l.drop 1++[⟨line,code,1⟩]else l++[⟨line,code,1⟩]
def az8{l:aa cv}(h:kV l=true){line code:Int}(D:0<=line/\line<=1023)(E:code=1\/code=2):Q6 l line code=some (oV l line code,true):=by
 have hl:l.length<=6:=by
  simp only[kV,aM,gf]at h;omega
 have I:aK line 0 1023=true:=bx.2 D;unfold Q6 Lg oV cc xA xZ;rw[cP (by simp;omega),ak,au,aiP _ (by omega),au,h,bB,aq,dJ,au,I,bB,aq,jH];have e:=vR (step:=Lh) l (je ⟨line,code,1⟩) (λk=>((line,code,(),(),(l.length:Int),(k:Int),()),(l,()))) (λi=>.inl (((),true,()),(l.set i (Sq (l.getD i zEE)),()))) (.inr (.inl ((line,code,(),()),(l,())))) aS (λk J=>by
  unfold Lh je aA bq xG xL;dsimp only;rw[aP,ak,az ⟨by omega,by omega⟩,az];simp only[bu];rw[az ⟨by omega,by omega⟩,az,bI,kG _ J];cases l[k].line==line<;>cases l[k].code==code<;>rfl) (by
  unfold Lh aA bq xG xL;dsimp only;rw[aW,aq]) (bM)
 rw[bT]at e;have L:iter Yl aS ((line,code,(),(),(l.length:Int),(0:Int),()),(l,()))=_:=e;rcases E with rfl|rfl
 ·rw[bne_self_eq_false,aq,L];cases l.findIdx? (je ⟨line,1,1⟩)with
  |some i=>rfl
  | none=>
   rw[au,Sum.elim_inr,dY];dsimp only;cases C:(l.length:Int)==(6:Int)with
   |false=>rw[aq,aq,cP (by simp;omega)];rfl
   | true=>
    have C:=eq_of_beq C;rw[ak,ak,br ⟨by omega,by omega,by omega⟩,cP (by simp;omega),ak,au,cP (by simp;omega),ak];simp
 ·rw[fY (by omega),ak,bne_self_eq_false,aq,e];cases l.findIdx? (je ⟨line,2,1⟩)with
  |some i=>rfl
  | none=>
   rw[au,Sum.elim_inr,dY];dsimp only;cases C:(l.length:Int)==(6:Int)with
   |false=>rw[aq,aq,cP (by simp;omega)];rfl
   | true=>
    have C:=eq_of_beq C;rw[ak,ak,br ⟨by omega,by omega,by omega⟩,cP (by simp;omega),ak,au,cP (by simp;omega),ak];simp
def az9{l:aa cv}(h:kV l=true){line code:Int}(D:0<=line/\line<=1023)(E:code=1\/code=2):PJ l line code=some (oV l line code,true):=by
 have hl:l.length<=6:=by
  simp only[kV,aM,gf]at h;omega
 have I:aK line 0 1023=true:=bx.2 D;have J:aK 1 1 999=true:=rfl;have L:E4 ⟨line,code,1⟩=some true:=by
  unfold E4;rw[eJ,au,I,ak,eJ,J];rcases E with rfl|rfl<;>rfl
 unfold PJ oV xA xC xZ;rw[cP (by simp;omega),ak,axC,au,h,bB,aq,L,au,bB,aq];have C:=aiO l ⟨line,code,1⟩ (by omega);dsimp only at C;rw[C,au,jH];unfold gG;cases hi:l.findIdx? (je ⟨line,code,1⟩)with
 | some i=>
  obtain⟨O,T,U⟩:=l5.1 hi;dsimp only;rw[aP,ak,az ⟨by omega,by omega⟩,az,az ⟨by omega,by omega⟩,az];simp only[bu];rw[kG _ O];rfl
 | none=>
  dsimp only;rw[aW,aq];by_cases Q:l.length=6
  ·rw[aP,ak,show ((l.length:Int)==(6:Int))=true by rw[Q];rfl,ak,br ⟨by omega,by omega,by omega⟩,cP (by simp;omega),ak,cP (by simp;omega),ak];simp
  ·rw[aW,aq,fP (by omega),aq,cP (by simp;omega),ak]
def Dj(c:av)(l:aa cv):av:=⟨c.config,c.box,c.now,c.aY,c.ready,c.array,c.spare,c.aQ,c.bK,c.guard,c.pending,c.queue,c.shares,c.drain,c.bh,c.cU,l,c.trace,c.cy⟩
def AV(c:av)(n code:Int):av:=bif code != 0 then Dj c (oV c.errors n code)else c
def akd{c:av}(h:kV c.errors=true){n code:Int}(C:0<=n/\n<=1023)(h2:code=0\/code=1\/code=2):xP c n code=some ((),(AV c n code,())):=by
 unfold xP AV;rcases h2 with rfl|h2
 ·rfl
 ·rw[az8 h C h2,fY (by omega)];rfl
def ake{c:av}(h:kV c.errors=true){n code:Int}(C:0<=n/\n<=1023)(h2:code=0\/code=1\/code=2):Cq c n code=some ((),(AV c n code,())):=by
 unfold Cq AV;rcases h2 with rfl|h2
 ·rfl
 ·rw[az9 h C h2,fY (by omega)];rfl
def akf(q:aa aX):Prop:=∀i (h:i<q.length),(q.take i).any (λx=>x.id==q[i].id)=false
def aAa{q:aa aX}{i:Nat}(h:i<q.length)(hl:q.length<=12):Q8 q (i:Int) (W6 ((i:Int)+1))=some (q.take i++q.drop (i+1),([],())):=by
 have C:(splice q i ((q.take ((q.length:Int).toNat)).drop (i+1))).length=q.length:=by
  rw[sB _ _ _ (by simp;omega)]
 have E:((q.take ((q.length:Int).toNat)).drop (i+1))=q.drop (i+1):=by rw[bu,iA]
 unfold Q8;rw[bI,br ⟨by omega,by omega,by omega,by omega⟩,fP (by omega),aq,br ⟨by omega,by omega,by omega⟩,br ⟨by omega,by omega,by omega⟩];simp only[bu]at C ⊢;rw[br ⟨by omega,by omega,by omega,by omega⟩,br ⟨by omega,by omega,by omega⟩,br ⟨by omega,by omega⟩];have D:i+(q.length-(i+1))-0=i+(q.length-(i+1)):=by omega
 rw[D,ZG _ _ _ (by omega)];unfold splice;rw[iA,List.take_append_of_le_length (by simp;omega),List.take_of_length_le (by simp;omega)]
def aAb{q:aa aX}(C:akf q){i:Nat}(h:i<q.length)(hl:q.length<=12):Px q q[i].id=some (q.take i++q.drop (i+1),true):=by
 have D:q.findIdx? (λr=>r.id==q[i].id)=some i:=by
  rw[l5]
  refine⟨h,by simp,λj E=>?_⟩
  have:=kK.1 (C i h) q[j] (ju.2 ⟨j,by rw[fF];omega,by rw[List.getElem_take]⟩)
  simpa using this
 unfold Px xA xZ;rw[YZ _ _ (by omega),au];unfold gG;rw[D];dsimp only;rw[aW,aq,br ⟨by omega,by omega,by omega⟩,cP (by simp;omega),ak,bI,br ⟨by omega,by omega,by omega⟩,cP (by simp;omega),ak];simp only[bu,Int.toNat_zero,List.drop_zero,jH,iA]
def v8:aX:=⟨0,0,0,false,0,0⟩
def v9(s:aa cz)(t:Int):aa cz:=match qR s ((List.replicate 4 false).set t.toNat true)with
 |some (l,_)=>l
 |none=>[]
def oW(c:av)(i:Nat)(a:dx)(e:aa cv)(x:fe):av:=
 ⟨c.config,c.box,c.now,c.aY,c.ready,a,c.spare,c.aQ,c.bK,c.guard,c.pending,c.queue.take i++c.queue.drop (i+1),v9 c.shares (c.queue.getD i v8).dB,c.drain,c.bh,c.cU,e,c.trace,c.cy++[x]⟩
def uO(c:av)(i:Nat):av:=
 let r:=c.queue.getD i v8
 let n:=ir c.config.ay (fl c r.line)
 bif r.write then oW c i ⟨c.array.cells.set n ⟨Df r.data,false⟩,c.array.bC,c.array.bz⟩ c.errors ⟨r.id,c.now,0,0⟩
 else oW c i ⟨c.array.cells.set n (kY (c.array.cells.getD n vW)),c.array.bC,c.array.bz⟩ (bif iM (c.array.cells.getD n vW) != 0 then oV c.errors (n:Int) (iM (c.array.cells.getD n vW))else c.errors) ⟨r.id,c.now,Mn (c.array.cells.getD n vW),iM (c.array.cells.getD n vW)⟩
def Mo{d:bZ}(h:Sy d.symbols):iM d=0\/iM d=1\/iM d=2:=by
 obtain⟨E,C,D⟩:=Sg h;unfold iM;cases d.iX with
 |true=>exact .inr (.inr rfl)
 |false=>exact(C9 C D).2.2
structure oX (c:av) (i:Nat) (B:Int):Prop where
 ad:∀r∈c.queue,vI c r.line=some (fl c r.line,true)/\dL c.config.ay (fl c r.line)=true
 tn:∀r∈c.queue,0<=r.dB/\r.dB<=3
 ql:c.queue.length<=12
 sh:gF c.shares=true
 shl:c.shares.length=4
 u:akf c.queue
 i:i<c.queue.length
 d:∀r∈c.queue,0<=r.data/\r.data<=4294967295
 a:ep c.config.ay B c.array
 e:kV c.errors=true
 r:c.cy.length<=1000
def oX.facts{c:av}{i:Nat}{B:Int}(h:oX c i B){r:aX}(C:r∈c.queue):vI c r.line=some (fl c r.line,true)/\qT c.config.ay (fl c r.line)=(ir c.config.ay (fl c r.line):Int)/\ir c.config.ay (fl c r.line)<c.array.cells.length/\(ir c.config.ay (fl c r.line):Int)<=1023/\qR c.shares ((List.replicate 4 false).set r.dB.toNat true)=some (v9 c.shares r.dB,(qR c.shares ((List.replicate 4 false).set r.dB.toNat true)).get!.2)/\0<=r.dB/\r.dB.toNat<4:=by
 obtain⟨D,E⟩:=h.ad _ C;have I:=h.tn _ C;obtain⟨J,L⟩:=L4 E;have O:=h.a.cells;have hl:=kU c.config.ay;obtain⟨y,t,e,_⟩:=ZA ((List.replicate 4 false).set r.dB.toNat true) (by have:=h.shl;omega) h.sh (by simp[h.shl]);refine⟨D,J,by omega,by omega,?_,I.1,by omega⟩;unfold v9;rw[e];rfl
def akg{c:av}{i:Nat}{B:Int}(h:oX c i B):Ra c (i:Int)=some ((),(uO c i,())):=by
 have hi:=h.i;obtain⟨f1,E,C,O,Q,T,I⟩:=h.facts (cO hi);have J:=h.d _ (cO hi);have L:=h.a.syms _ (cO C);have D:c.queue.getD i v8=c.queue[i]:=kG _ hi;have Y:=h.r;unfold Ra xL;rw[az ⟨by omega,by omega⟩,az];simp only[bu];rw[f1,au,aAa hi h.ql,au,br (by decide)];have U:(4:Int).toNat=4:=rfl;rw[U,az ⟨T,by simpa using I⟩,az (by simpa using I)];dsimp only;rw[Q,au];dsimp only;unfold uO;rw[D];dsimp only;cases hw:c.queue[i].write with
 | true=>
  rw[ak,ak,YG,au,E,(Ml J.1 J.2).1,au,az ⟨by omega,by omega⟩,az,cP (by simp;omega),ak];unfold oW;rw[D];rfl
 | false=>
  rw[aq,aq,YG,au,E,kG _ C]
  refine(bF (λo=>Option.bind o _) (aj7 (c:=⟨c.config,c.box,c.now,c.aY,c.ready,c.array,c.spare,c.aQ,c.bK,c.guard,c.pending,c.queue.take i++c.queue.drop (i+1),v9 c.shares c.queue[i].dB,c.drain,c.bh,c.cU,c.errors,c.trace,c.cy⟩) C L)).trans ?_
  rw[au];unfold nA cR;dsimp only;rw[cP (by simp;omega),ak,au]
  refine(bF (λo=>Option.bind o _) (akd (by exact h.e) ⟨by omega,O⟩ (Mo L))).trans ?_
  rw[au];unfold AV oW Dj;rw[D];dsimp only;cases iM c.array.cells[ir c.config.ay (fl c c.queue[i].line)] != 0<;>rfl
def akh{c:av}{i:Nat}{B:Int}(h:oX c i B)(L:∀ r∈c.queue,xz c r.line=some (fl c r.line)):PL c (i:Int)=some ((),(uO c i,())):=by
 have hi:=h.i;obtain⟨f1,O,C,Q,T,U,E⟩:=h.facts (cO hi);have f2:=L _ (cO hi);have I:=h.d _ (cO hi);have J:=h.a.syms _ (cO C);have D:c.queue.getD i v8=c.queue[i]:=kG _ hi;have Z:=h.r;unfold PL xL;rw[az ⟨by omega,by omega⟩,az];simp only[bu];rw[f2,au,Rs,au,O,aAb h.u hi h.ql,au,br (by decide)];have Y:(4:Int).toNat=4:=rfl;rw[Y,az ⟨U,by simpa using E⟩,az (by simpa using E)];dsimp only;rw[ajF _ _ (by have:=h.shl;omega),T,au];dsimp only;unfold uO;rw[D];dsimp only;cases hw:c.queue[i].write with
 | true=>
  rw[ak,ak,aj3 I.1 I.2,au,az ⟨by omega,by omega⟩,az,cP (by simp;omega),ak];unfold oW;rw[D];rfl
 | false=>
  rw[aq,aq,kG _ C]
  refine(bF (λo=>Option.bind o _) (aj8 (c:=⟨c.config,c.box,c.now,c.aY,c.ready,c.array,c.spare,c.aQ,c.bK,c.guard,c.pending,c.queue.take i++c.queue.drop (i+1),v9 c.shares c.queue[i].dB,c.drain,c.bh,c.cU,c.errors,c.trace,c.cy⟩) C J)).trans ?_
  rw[au];dsimp only
  refine(bF (λo=>Option.bind o _) (ake (by exact h.e) ⟨by omega,Q⟩ (Mo J))).trans ?_
  rw[au];unfold AV oW Dj nA cR;rw[D];dsimp only;cases iM c.array.cells[ir c.config.ay (fl c c.queue[i].line)] != 0 with
  | true=>
   rw[ak,ak];dsimp only;rw[cP (by simp;omega)];rfl
  | false=>
   rw[aq,aq];dsimp only;rw[cP (by simp;omega)];rfl
def eR(c:av)(x:aH):av:=⟨c.config,c.box,c.now,fU c.aY x,uB c.config.ay c.ready ⟨c.now,x⟩,c.array,c.spare,c.aQ,c.bK,c.guard,c.pending,c.queue,c.shares,c.drain,c.bh,c.cU,c.errors,c.trace++[⟨c.now,x⟩],c.cy⟩
def aki(c:av)(p:eT):av:=⟨c.config,c.box,c.now,c.aY,c.ready,c.array,c.spare,c.aQ,c.bK,c.guard,c.pending,c.queue,c.shares,c.drain,p,c.cU,c.errors,c.trace,c.cy⟩
def q6(c:av)(r:cZ):av:=⟨c.config,c.box,c.now,c.aY,c.ready,c.array,c.spare,r,c.bK,c.guard,c.pending,c.queue,c.shares,c.drain,c.bh,c.cU,c.errors,c.trace,c.cy⟩
def akj(c:av)(r:cM):av:=⟨c.config,c.box,c.now,r,c.ready,c.array,c.spare,c.aQ,c.bK,c.guard,c.pending,c.queue,c.shares,c.drain,c.bh,c.cU,c.errors,c.trace,c.cy⟩
def AX(c:av)(k:Int):av:=aki c (yf c.bh k c.now)
def Sr(c:av)(b:Int):av:=q6 (Mj c b (c.pending.filter (λa=>!(a.ax==b)))) (vZ c.aQ b)
def tE(c:av)(x:aH)(i:Int):av:=
 bif x.kind==1 then uK (eR c x) x else
 bif x.kind==5 then Sr (eR c x) x.ax else
 bif x.kind==2 ||x.kind==3 then uO (eR c x) i.toNat else
 bif x.kind==4 then eR c x else
 bif x.kind==9 then gw (AX (eR c x) 9) c.bK.length []else AX (eR c x) x.kind
structure Bs (c:av):Prop where
 w:uL 100000 c
 u:v5 c.pending
 pk:∀a∈c.pending,0<=a.ax/\a.ax<aT c.config.ay
 zt:∀t∈c.bK,kE t
 rf:eF c.aQ=true
 bl:(c.aY.aC.length:Int)=aT c.config.ay
 l1:c.ready.last.length<1073741824
 l2:c.ready.bg.length<1073741824
 tl:c.trace.length<10000
def Bs.eR{c:av}(h:Bs c)(x:aH):uL 100000 (eR c x):=⟨h.w.hB,h.w.g,h.w.a,h.w.k,h.w.p,h.w.t,h.w.d,h.w.r⟩
def oX.eR{c:av}{n:Nat}{B:Int}(h:oX c n B)(x:aH):oX (eR c x) n B:=⟨h.ad,h.tn,h.ql,h.sh,h.shl,h.u,h.i,h.d,h.a,h.e,h.r⟩
def aAc{c:av}(h:uL 100000 c):iter xR aS (((),(c.bK.length:Int),(0:Int),()),((⟨c.config,c.box,c.now,c.aY,c.ready,c.array,c.spare,c.aQ,c.bK,c.guard,([]:aa aL),c.queue,c.shares,c.drain,c.bh,c.cU,c.errors,c.trace,c.cy⟩:av),()))=some (.inl ((),(gw c c.bK.length [],()))):=azH h
def aAd{c:av}{x:aH}(C:1<=x.kind/\x.kind<=9)(hb:x.kind<=5->0<=x.ax/\x.ax.toNat<c.aY.aC.length):PO c x=some ((),(akj c (fU c.aY x),())):=by
 unfold PO fU akj xL;rcases kinds C with h|h|h|h|h|h|h|h|h<;>(try (have hb:=hb (by omega)))<;>simp[h,hb]
def Ss{g:aO}{x:aH}(h:dP g x=true)(C:x.kind=1):0<=x.row/\x.row<g.rows:=by
 simp only[dP,aM]at h;have D:=h.2.2.2.1;rw[qX,C,show ((1:Int)==1)=true from rfl,ak,bx]at D;omega
def aAe{c:av}(h:Bs c){x:aH}(D:nt c.config.ay c.aY x=true){i:Int}(I:x.kind=2\/x.kind=3->oX c i.toNat 100000/\0<=i):Lo c x i=some ((),(tE c x i,())):=by
 obtain⟨Y,hlen,J,hb⟩:=C4 D;have L:dP c.config.ay x=true:=by
  simp only[nt,aM]at D;exact D.2.1
 have Z:=eY c.config.ay;have w:=h.eR x;have ht:=h.w.t;have hd:=h.w.d;have hr:=h.w.r;have Su:=h.tl;have er:K3 c.config.ay c.aY x=some (fU c.aY x,true):=by
  rw[axW _ _ _ (by omega)];unfold Y9;rw[D];rfl
 unfold Lo tE bw;rw[cP (by simp;omega),ak,ax4 _ _ _ h.l1 h.l2,au,er,au];rcases kinds J with q|q|q|q|q|q|q|q|q<;>rw[q]<;>simp only[Int.reduceBEq,Int.reduceBNe,ak,aq,Bool.or_true,Bool.or_false,Bool.true_or,Bool.false_or,Bool.or_self]
 ·obtain⟨C,O⟩:=hb (by omega);obtain⟨Q,T⟩:=Ss L q
  refine(bF (λo=>Option.bind o _) (azD (c:=eR c x) x w.g w.a w.p h.zt C (by show x.ax<aT c.config.ay;omega) Q T (by show x.ax.toNat<c.bK.length;omega) (by show x.ax.toNat<c.guard.length;omega))).trans ?_
  rfl
 ·obtain⟨s,E⟩:=I (.inl q);have e:=akg (s.eR x);rw[Int.toNat_of_nonneg E]at e
  refine(bF (λo=>Option.bind o _) e).trans ?_
  rfl
 ·obtain⟨s,E⟩:=I (.inr q);have e:=akg (s.eR x);rw[Int.toNat_of_nonneg E]at e
  refine(bF (λo=>Option.bind o _) e).trans ?_
  rfl
 ·rfl
 ·obtain⟨C,O⟩:=hb (by omega);obtain⟨y,U⟩:=azv h.rf (b:=x.ax) C (by omega)
  refine(bF (λo=>Option.bind o _) (ajS w.hB (eR c x) w.g w.a C (by show x.ax<aT c.config.ay;omega))).trans ?_
  rw[au];unfold cR;dsimp only;rw[azz _ _ (by show c.pending.length<1000000;have:=h.w.p;omega),au];dsimp only
  refine(bF (λo=>Option.bind o _) (ajT _ (by exact w.k) C (by show x.ax.toNat<c.bK.length;omega) (by show x.ax.toNat<c.guard.length;omega))).trans ?_
  rw[au];unfold oT;dsimp only
  refine(bF (λo=>Option.bind o _) U).trans ?_
  rfl
 ·obtain⟨y,e⟩:=Sb c.bh (k:=6) (by omega) c.now;rw[e,au];rfl
 ·obtain⟨y,e⟩:=Sb c.bh (k:=7) (by omega) c.now;rw[e,au];rfl
 ·obtain⟨y,e⟩:=Sb c.bh (k:=8) (by omega) c.now;rw[e,au];rfl
 ·obtain⟨y,e⟩:=Sb c.bh (k:=9) (by omega) c.now;rw[e,au]
  refine(bF (λo=>Option.bind o _) (aAc (c:=AX (eR c x) 9) ⟨w.hB,w.g,w.a,w.k,w.p,w.t,w.d,w.r⟩)).trans ?_
  rfl
def aAf{c:av}(h:Bs c){x:aH}(D:nt c.config.ay c.aY x=true){i:Int}(I:x.kind=2\/x.kind=3->oX c i.toNat 100000/\0<=i)(J:∀ r∈c.queue,xz c r.line=some (fl c r.line)):Aj c x i=some ((),(tE c x i,())):=by
 obtain⟨hg,hlen,L,hb⟩:=C4 D;have O:dP c.config.ay x=true:=by
  simp only[nt,aM]at D;exact D.2.1
 have b1:=eY c.config.ay;have w:=h.eR x;have ht:=h.w.t;have hd:=h.w.d;have hr:=h.w.r;have Su:=h.tl;unfold Aj tE bw;rw[cP (by simp;omega),ak,ax5 _ _ _ h.l1 h.l2,au]
 refine(bF (λo=>Option.bind o _) (aAd L (λQ=>by have:=hb Q;exact⟨this.1,this.2⟩))).trans ?_
 rw[au];rcases kinds L with q|q|q|q|q|q|q|q|q<;>rw[q]<;>simp only[Int.reduceBEq,Int.reduceBNe,ak,aq,Bool.or_true,Bool.or_false,Bool.true_or,Bool.false_or,Bool.or_self]
 ·obtain⟨C,T⟩:=hb (by omega);obtain⟨U,Y⟩:=Ss O q
  refine(bF (λo=>Option.bind o _) (azE (c:=eR c x) x w.g w.a w.p h.u h.zt C (by show x.ax<aT c.config.ay;omega) U Y (by show x.ax.toNat<c.bK.length;omega) (by show x.ax.toNat<c.guard.length;omega))).trans ?_
  rfl
 ·obtain⟨s,E⟩:=I (.inl q);have e:=akh (s.eR x) J;rw[Int.toNat_of_nonneg E]at e
  refine(bF (λo=>Option.bind o _) e).trans ?_
  rfl
 ·obtain⟨s,E⟩:=I (.inr q);have e:=akh (s.eR x) J;rw[Int.toNat_of_nonneg E]at e
  refine(bF (λo=>Option.bind o _) e).trans ?_
  rfl
 ·rfl
 ·obtain⟨C,T⟩:=hb (by omega);obtain⟨y,Z⟩:=azu h.rf (b:=x.ax) C (by omega)
  refine(bF (λo=>Option.bind o _) (ajU w.hB (eR c x) w.g w.a w.k w.p C (by show x.ax<aT c.config.ay;omega) (by show x.ax.toNat<c.bK.length;omega) (by show x.ax.toNat<c.guard.length;omega))).trans ?_
  rw[au]
  refine(bF (λo=>Option.bind o _) Z).trans ?_
  rfl
 ·obtain⟨y,e⟩:=Sc c.bh (k:=6) (by omega) c.now
  refine(bF (λo=>Option.bind o _) e).trans ?_
  rfl
 ·obtain⟨y,e⟩:=Sc c.bh (k:=7) (by omega) c.now
  refine(bF (λo=>Option.bind o _) e).trans ?_
  rfl
 ·obtain⟨y,e⟩:=Sc c.bh (k:=8) (by omega) c.now
  refine(bF (λo=>Option.bind o _) e).trans ?_
  rfl
 ·obtain⟨y,e⟩:=Sc c.bh (k:=9) (by omega) c.now
  refine(bF (λo=>Option.bind o _) e).trans ?_
  rw[au]
  refine(bF (λo=>Option.bind o _) (azJ (c:=AX (eR c x) 9) ⟨w.hB,w.g,w.a,w.k,w.p,w.t,w.d,w.r⟩ (by show (fU c.aY x).aC.length=c.bK.length;rw[ai4];omega) h.pk)).trans ?_
  rfl
def aAg{l m:aa Int}(h:l.length=m.length)(D:(l.zip m).all xU=true):(∀ x∈l,0<=x/\x<=100000)/\∀ x∈m,0<=x/\x<=100000:=by
 rw[cE]at D;have key:∀ i (E:i<l.length) (I:i<m.length),(0<=l[i]/\l[i]<=100000)/\(0<=m[i]/\m[i]<=100000):=λi E I=>by
  have J:i<(l.zip m).length:=by rw[List.length_zip];omega
  have:=D _ (cO J);rw[List.getElem_zip]at this;simp only[xU,aM,bx]at this;exact this
 constructor
 ·intro x C;obtain⟨i,hi,rfl⟩:=ju.1 C;exact(key i hi (by omega)).1
 ·intro x C;obtain⟨i,hi,rfl⟩:=ju.1 C;exact(key i (by omega) hi).2
def ep.so{g:aO}{a:dx}(h:nh g a=true):ep g 100000 a:=by
 simp only[nh,aM,gf]at h;obtain⟨T,C,D,E,I,J⟩:=h;obtain⟨L,O⟩:=aAg (by omega) J
 refine⟨C,λc Q=>?_,D,E,L,O⟩
 exact Sy.of (cE.1 I c Q)
def Bs.of{c:av}(D:c8 c)(h:dA c=true)(I:c.trace.length<10000):Bs c:=by
 have E:=Pq.of D h;have z1:c.box.bU.weights.length<=1048576:=D.1.1;have h0:=h;simp only[dA,aM]at h;obtain⟨J,h2,h3,h4,L,O,h7,h8,C,h10,R7,ke,kf,lG,kN,jL,pF,rm,rq,uT,wo,wq⟩:=h;obtain⟨f1,f2⟩:=Ga (by omega) J;simp only[nY,aM]at f1;simp only[tj,aM,fz,gy,od,cE,eV]at C;obtain⟨C,Q,T,U,g4,g5,Y⟩:=C;have uX:=E.pl;obtain⟨Z,rl,ra⟩:=RU L;have b1:=eY c.config.ay
 refine⟨⟨by decide,Z,ep.so O,f1.2.2.2.2.2.1,by omega,T,U,Q⟩,λi hi=>?_,λa ha=>?_,D.2.2.2.2.2.2.1.2,C,E.p.bl,by omega,by omega,I⟩
 ·have hb:=Y i hi;unfold AI at hb;rw[bO hi]at hb;simp only[aM,gy]at hb;exact hb.2.2
 ·obtain⟨_,k1,k2,_⟩:=r6 (E.pe a ha);exact⟨k1,k2⟩
def oX.of{c:av}(J:c8 c)(h:dA c=true){n:Nat}(L:n<c.queue.length)(C:c.cy.length<=1000):oX c n 100000:=by
 have D:=Pq.of J h;have T:=h;simp only[dA,aM]at h;obtain⟨U,Y,Z,h4,h5,O,h7,h8,h9,E,R7,ke,kf,lG,kN,jL,pF,rm,rq,Q,wo,wq⟩:=h;simp only[iJ,aM,cE,eV,gf]at E;obtain⟨I,q2⟩:=E
 refine⟨λr C=>So D C,λr C=>(D.q r C).2.1,D.ql,D.sh,D.shl,λi hi=>?_,L,λr C=>?_,ep.so O,Q,C⟩
 ·cases i with
  |zero=>simp
  | succ i=>
   have hb:=I (i+1) hi;rw[LV hi]at hb;simp only[aM,gy]at hb;exact hb.2.2
 ·obtain⟨i,hi,rfl⟩:=ju.1 C;have hb:=I i hi;unfold r9 at hb;rw[bO hi]at hb;simp only[qa,RM,aM,bx]at hb;exact hb.1.2.2.2.2.1
def sq{g:aO}{B:Int}{a:dx}(h:ep g B a):R0 a:=by
 have D:=h.cells;have E:=h.bC;have I:=h.bz;have J:=kU g;have L:=p6 g;exact⟨⟨by omega,λc C=>by unfold Zi;rw[(h.syms c C).1];omega⟩,by omega,by omega⟩
def ZN{l:aa cx}(h:l.length<=1048576/\∀ y∈l,kE y){t:cx}(D:kE t)(i:Nat):(l.set i t).length<=1048576/\∀ y∈l.set i t,kE y:=by
 refine⟨by rw[iw];exact h.1,λy C=>?_⟩
 rcases List.mem_or_eq_of_mem_set C with C|rfl
 ·exact h.2 y C
 ·exact D
def akk{k:Int}(h:aK k 1 16=true):kE (uJ k):=by
 have:=bx.1 h;unfold uJ kE;simp only[mO];omega
def aAh{t:cx}(h:kE t)(row di:Int):kE (tD t row di).1:=by
 have hl:=ZE (t:=t) row;unfold kE at h ⊢;unfold tD;cases jf t&&(aK row 0 15&&aK di 2 1000)with
 |false=>exact h
 | true=>
  rw[ak];cases jf (ji t row)with
  |false=>exact h
  | true=>
   rw[ak];show (ji t row).rows.length<=_/\(ji t row).counts.length<=_;omega
def aAi{c:av}(E:c8 c)(I:c.ready.bg.length<=4)(ht:c.trace.length<=10000)(x:aH):c8 (eR c x):=by
 obtain⟨J,C,⟨L,z4⟩,O,Q,T,U,Y,Z,jE,jg,jh,iK,jT⟩:=E;have D:=ayb c.config.ay c.ready ⟨c.now,x⟩;refine⟨J,by unfold ajm at C ⊢;show (fU c.aY x).aC.length<=_;rw[ai4];exact C,⟨by show (uB _ _ _).last.length<=_;rw[D.1];exact L,Nat.le_trans (D.2 I) (by decide)⟩,O,Q,T,U,Y,Z,jE,jg,jh,by simp[eR];omega,jT⟩
def Sv{c:av}(D:c8 c){a:dx}(E:R0 a){r:cZ}(I:AM r){t:aa cx}(J:t.length<=1048576/\∀ y∈t,kE y){C:aa Int}(L:C.length<=1048576){pd:aa aL}(O:pd.length<=1048576)(pw:eT):c8 ⟨c.config,c.box,c.now,c.aY,c.ready,a,c.spare,r,t,C,pd,c.queue,c.shares,c.drain,pw,c.cU,c.errors,c.trace,c.cy⟩:=by
 obtain⟨Q,T,U,z5,Y,z7,z8,z9,iq,Z,jg,jh,iK,jT⟩:=D;exact⟨Q,T,U,E,Y,I,J,L,O,Z,jg,jh,iK,jT⟩
def aAj{c:av}(C:c8 c)(h:uL 100000 c)(x:aH)(D:0<=x.ax)(E:x.ax<aT c.config.ay)(I:0<=x.row)(J:x.row<c.config.ay.rows):c8 (uK c x):=by
 have zt:=C.2.2.2.2.2.2.1;have hb:x.ax.toNat<c.bK.length:=by have:=h.t;omega
 have L:=h.p;refine Sv C (sq (Zp h.g c.config.dH h.hB h.a D E I J)) C.2.2.2.2.2.1 (ZN zt ?_ _) C.2.2.2.2.2.2.2.1 ?_ c.bh
 ·unfold sg;rw[kG _ hb];exact aAh (zt.2 _ (cO hb)) _ _
 ·have O:(oU c x).length<=c.pending.length:=List.length_filter_le _ _;have Q:=ZH c.config.ay.rows x.row;have T:=Sd x.ax (lS c.config.ay.rows x.row) (oU c x);cases (sg c x).2 with
  |false=>rw[aq];omega
  |true=>rw[ak];omega
def akl(r:cZ)(b:Int):(vZ r b).aJ.length=r.aJ.length:=by
 unfold vZ;cases decide (r.aJ.getD b.toNat 0 = -2)<;>simp
def aAk{c:av}(C:c8 c)(h:uL 100000 c){b:Int}(D:0<=b)(E:b<aT c.config.ay):c8 (Sr c b):=by
 obtain⟨_,_,_,_,I,J,L,O⟩:=fA h.g;have zt:=C.2.2.2.2.2.2.1;have Q:=h.p;have T:=ZI (λa:aL=>!(a.ax==b)) c.pending;exact Sv C (sq (Gb h.g c.config.dH h.hB h.a D E _ (by omega))) (by unfold AM;rw[akl];exact C.2.2.2.2.2.1) (ZN zt (akk h.k) _) (by show (c.guard.set _ _).length<=_;rw[iw];exact C.2.2.2.2.2.2.2.1) (by show (c.pending.filter (λa=>!(a.ax==b))).length<=_;omega) c.bh
def akm{l:aa cx}(h:l.length<=1048576/\∀ y∈l,kE y){t:cx}(C:kE t):∀ k:Nat,((List.range k).foldl (λd b=>d.set b t) l).length<=1048576/\∀ y∈(List.range k).foldl (λd b=>d.set b t) l,kE y
 |0=>h
 |k+1=>by rw[yg];exact ZN (akm h C k) C k
def aAl{c:av}(C:c8 c)(h:uL 100000 c)(k:Nat)(D:(k:Int)<=aT c.config.ay):c8 (gw c k []):=
 Sv C (sq (Se h.g c.config.dH h.hB h.a k D)) (by unfold AM;rw[yh];exact C.2.2.2.2.2.1) (akm C.2.2.2.2.2.2.1 (akk h.k) k) (by rw[yh];exact C.2.2.2.2.2.2.2.1) (by simp) c.bh
def ZO{l:aa cv}(n code:Int):(oV l n code).length<=l.length+1:=by
 unfold oV;cases l.findIdx? (je ⟨n,code,1⟩)with
 |some i=>simp
 | none=>
  dsimp only;cases (l.length:Int)==(6:Int)<;>simp<;>omega
def akn{c:av}(J:c8 c){i:Nat}(h:oX c i 100000):c8 (uO c i):=by
 obtain⟨L,O,Q,z5,T,U,Y,Z,iq,jE,jg,jh,iK,jT⟩:=J;have hi:=h.i;have hql:=h.ql;have hr:=h.r;obtain⟨f1,f3,C,f5,f6,f7,f8⟩:=h.facts (cO hi);have D:c.queue.getD i v8=c.queue[i]:=kG _ hi;have E:=h.d _ (cO hi);have WB:(v9 c.shares c.queue[i].dB).length<=1048576:=by
  obtain⟨y,t,e,hl⟩:=ZA ((List.replicate 4 false).set c.queue[i].dB.toNat true) (by have:=h.shl;omega) h.sh (by simp[h.shl]);unfold v9;rw[e];have:=h.shl;show y.length<=_;omega
 have jm:c.errors.length<=6:=by
  have I:=h.e;simp only[kV,aM,gf]at I;omega
 have key:∀ (a:dx) (e:aa cv) (x:fe),R0 a->e.length<=100->c8 (oW c i a e x):=λa e x ha I=>
  ⟨L,O,Q,ha,T,U,Y,Z,iq,by simp[oW];omega,by unfold oW;rw[D];exact WB,by show e.length<=_;omega,iK,by simp[oW];omega⟩
 unfold uO;rw[D];dsimp only;cases c.queue[i].write with
 |true=>exact key _ _ _ (sq (h.a.AK _ (c:=⟨_,false⟩) (Ml E.1 E.2).2.1)) (by omega)
 | false=>
  rw[aq,kG _ C];refine key _ _ _ (sq (h.a.AK _ (Sh (h.a.syms _ (cO C))))) ?_;have:=ZO (l:=c.errors) (ir c.config.ay (fl c c.queue[i].line):Int) (iM c.array.cells[ir c.config.ay (fl c c.queue[i].line)]);cases iM c.array.cells[ir c.config.ay (fl c c.queue[i].line)] != 0 with
  |true=>rw[ak];omega
  |false=>rw[aq];omega
def ako{c:av}(J:c8 c)(h:Bs c)(L:c.ready.bg.length<=4){x:aH}(D:nt c.config.ay c.aY x=true){i:Int}(I:x.kind=2\/x.kind=3->oX c i.toNat 100000/\0<=i):c8 (tE c x i):=by
 obtain⟨Z,hlen,O,hb⟩:=C4 D;have Q:dP c.config.ay x=true:=by
  simp only[nt,aM]at D;exact D.2.1
 have w:=h.eR x;have ht:=h.w.t;have Su:=h.tl;have z:=aAi J L (by omega) x;have C:∀k,c8 (AX (eR c x) k):=λk=>Sv z z.2.2.2.1 z.2.2.2.2.2.1 z.2.2.2.2.2.2.1 z.2.2.2.2.2.2.2.1 z.2.2.2.2.2.2.2.2.1 _
 unfold tE;rcases kinds O with q|q|q|q|q|q|q|q|q<;>rw[q]<;>simp only[Int.reduceBEq,Int.reduceBNe,ak,aq,Bool.or_true,Bool.or_false,Bool.true_or,Bool.false_or,Bool.or_self]
 ·obtain⟨E,T⟩:=hb (by omega);obtain⟨U,Y⟩:=Ss Q q;exact aAj z w x E (by show x.ax<aT c.config.ay;omega) U Y
 ·exact akn z ((I (.inl q)).1.eR x)
 ·exact akn z ((I (.inr q)).1.eR x)
 ·exact z
 ·obtain⟨E,T⟩:=hb (by omega);exact aAk z w E (by show x.ax<aT c.config.ay;omega)
 ·exact C 6
 ·exact C 7
 ·exact C 8
 ·exact aAl (C 9) ⟨w.hB,w.g,w.a,w.k,w.p,w.t,w.d,w.r⟩ _ (by show (c.bK.length:Int)<=aT c.config.ay;omega)
def n9(c:av)(b:Int):Bool:=decide (c.aQ.aJ.getD b.toNat 0 >= 4)
def Mp(c:av)(b:Int):Bool:=c.pending.any λa=>a.ax==b
def mM(c:av)(i:Nat):aH:=qb c.aY (fI c i) (qZ c.queue i)
def Sw(c:av)(i:Nat):Bool:=decide (c.now-(lV c i).at_<c.box.bU.cap)
def jV(c:av)(i:Nat):Bool:=
 gY c i&&(!n9 c (fI c i).ax&&(dj c (mM c i)&&(!(((mM c i).kind==1 ||(mM c i).kind==4)&&Mp c (fI c i).ax) && !((mM c i).kind==4&&(yl c c.queue.length (fI c i).ax&&Sw c i)))))
def aAm{l:aa Int}{b:Int}(E:0<=b)(h:b.toNat<l.length):∀ i:Nat,(((i:Int)+b)∈cC i l) ↔ l.getD b.toNat 0 >= 4:=by
 obtain⟨n,rfl⟩:=fy E;rw[bu]at *
 clear E
 induction l generalizing n with
 |nil=>simp at h
 | cons d l L=>
  intro i;have O:∀ x∈cC (i+1) l,(i:Int)+1<=x:=λx C=>by
   obtain⟨j,I,_,_⟩:=ajB C;omega
  have e:cC i (d::l)=bif decide (d >= 4)then (i:Int)::cC (i+1) l else cC (i+1) l:=rfl;rw[e];cases n with
  | zero=>
   have I:¬ (i:Int)∈cC (i+1) l:=λC=>by have:=O _ C;omega
   by_cases D:d >= 4
   ·rw[aP D,ak];simp[D]
   ·rw[aW D,aq];simp[I];omega
  | succ n=>
   have J:=L n (by simpa using h) (i+1);rw[show ((i+1:Nat):Int)+(n:Int)=(i:Int)+((n+1:Nat):Int) by omega]at J;rw[show (d::l).getD (n+1) 0=l.getD n 0 by simp,<-J];cases decide (d >= 4)with
   |false=>rfl
   | true=>
    rw[ak,fQ];constructor
    ·rintro(h | h)
     ·omega
     ·exact h
    ·exact .inr
def ZP{c:av}{b:Int}(hl:c.aQ.aJ.length<=8)(J:0<=b)(h:b.toNat<c.aQ.aJ.length):vJ (cC 0 c.aQ.aJ) b=some (n9 c b):=by
 have O:=De 0 c.aQ.aJ;have E:=aAm J h 0;rw[bT,Int.zero_add]at E;unfold vJ;rw[RQ _ _ (by omega),au];congr 1;unfold n9 gG;by_cases C:c.aQ.aJ.getD b.toNat 0 >= 4
 ·obtain⟨i,hi,e⟩:=ju.1 (E.2 C);rw[aP C];cases D:(cC 0 c.aQ.aJ).findIdx? (λe=>b==e)with
  | none=>
   rw[List.findIdx?_eq_none_iff]at D;have:=D _ (cO hi);rw[e]at this;simp at this
  |some j=>simp
 ·rw[aW C];cases D:(cC 0 c.aQ.aJ).findIdx? (λe=>b==e)with
  |none=>rfl
  | some j=>
   obtain⟨L,I,_⟩:=l5.1 D;have I:b=(cC 0 c.aQ.aJ)[j]:=by simpa using I
   exact absurd (E.1 (by rw[I];exact cO L)) C
def Sx{c:av}{b:Int}(hl:c.aQ.aJ.length<=8)(C:0<=b)(h:b.toNat<c.aQ.aJ.length):Cx c b=some (n9 c b):=by
 unfold Cx n9 xI;rw[az ⟨C,h⟩,en,bO h];rfl
def akp{c:av}(h:Pq c){i:Nat}(hi:i<c.queue.length):dP c.config.ay (mM c i)=true:=azo _ (Di h hi).1
def q7(c:av):Nat->aa Bool
 |0=>List.replicate 4 false
 |k+1=>bif jV c k then (q7 c k).set (lV c k).dB.toNat true else q7 c k
def Sz(c:av):∀ k,(q7 c k).length=4
 |0=>rfl
 | k+1=>by
  have C:=Sz c k;show (bif jV c k then _ else _:aa Bool).length=4;cases jV c k with
  |true=>rw[ak,iw,C]
  |false=>exact C
def aAn{c:av}{O:aa Int}{L:aa aL}{Z:Int×Int×Int×Int×af}{P:Int×Int×Int×Int×Int×(aa Int)×Int×Int×af}{I iH Q wait:aa Bool}{hb:aa (Int×Bool)}{T:aa aH}{k:Nat}{r:aX}{a:aL}{nd:aH}{ct rd ib:Bool}(hq:c.queue.length<=12)(hk:k<c.queue.length)(Y:c.queue[k]=r)(h2:k<L.length)(ha:L[k]=a)(h3:k<I.length)(C:k<Q.length)(h5:T.length=k)(D:0<=r.dB)(E:r.dB.toNat<wait.length)(e1:xO c.aY a r.write=some nd)(e2:vJ O a.ax=some ct)(e3:jd c nd=some rd)(e4:CO c.pending a.ax=some ib)(b1:0<=r.at_/\r.at_<=1000000)(b2:0<=c.now/\c.now<=1000000):
  CQ ((O,L,(),(),(),(),(),(),(),(),(),c.queue,(c.queue.length:Int),(k:Int),()),(c,Z,P,I,iH,hb,T,Q,wait,()))=some (.inl ((O,L,(),(),(),(),(),(),(),(),(),c.queue,(c.queue.length:Int),((k+1:Nat):Int),()),(c,Z,P,I,iH,hb,T++[nd],Q.set k (I[k]&&(!ct&&(rd&&(!((nd.kind==1 ||nd.kind==4)&&ib) && !(nd.kind==4&&(mA hb a.ax&&decide (c.now-r.at_<P.2.1))))))),(bif (I[k]&&(!ct&&(rd&&(!((nd.kind==1 ||nd.kind==4)&&ib) && !(nd.kind==4&&(mA hb a.ax&&decide (c.now-r.at_<P.2.1)))))))then wait.set r.dB.toNat true else wait),()))):=by
 have hw:W6 (c.now-r.at_)=c.now-r.at_:=aR;unfold CQ aA xG xI xL;dsimp only;rw[aP,ak,az ⟨by omega,by omega⟩,az ⟨by omega,by omega⟩,az ⟨by omega,by omega⟩];simp only[bu,Y,ha,e1,au,h5,iz,cP (show k+1<1073741824 by omega),ak,e2,e3,e4,hw,bI (show k<4611686018427387904 by omega)];by_cases J:nd.kind=1
 ·have k4:(nd.kind==(4:Int))=false:=by rw[J];rfl
  have J:(nd.kind==(1:Int))=true:=by rw[J];rfl
  simp only[J,k4,ak,aq,Bool.true_or,cr,jJ,gU,Bool.and_true];rw[az ⟨by omega,by omega⟩,az];cases I[k]<;>cases ct<;>cases rd<;>cases ib<;>simp[C,D,E]
 ·have J:(nd.kind==(1:Int))=false:=by simpa using J
  simp only[J,aq,Bool.false_or];rw[az ⟨by omega,by omega⟩,az];cases nd.kind==(4:Int)with
  |false=>cases I[k]<;>cases ct<;>cases rd<;>cases ib<;>simp[C,D,E]
  | true=>
   cases I[k]with
   |false=>simp[C,D,E]
   | true=>
    cases ct with
    |true=>simp[C,D,E]
    | false=>
     cases rd with
     |false=>simp[C,D,E]
     | true=>
      cases ib with
      |true=>simp[C,D,E]
      | false=>
       cases mA hb a.ax with
       |false=>simp[C,D,E]
       | true=>
        by_cases U:c.now-r.at_<P.2.1
        ·simp[C,D,E,U]
        ·simp[C,D,E,U]
def ZQ(y x:aH):Bool:=(y.kind==x.kind)&&((y.ax==x.ax)&&((y.row==x.row)&&((y.bR==x.bR)&&true)))
def Mq(c:av)(x:aH)(i:Int):Bool:=aK i 0 ((c.queue.length:Int)-1)&&(decide ((c.cy.length:Int)<400)&&ZQ (qb c.aY (fl c (c.queue.getD i.toNat v8).line) (c.queue.getD i.toNat v8).write) x)
def uP(c:av)(x:aH)(i:Int):Bool:=dP c.config.ay x&&(dj c x&&(!decide ((c.trace.length:Int) >= 2000)&&bif x.kind==2 ||x.kind==3 then Mq c x i else i == -1 ||aK i 0 ((c.queue.length:Int)-1)))
def ZR{c:av}(h:Pq c){i:Int}(hi:aK i 0 ((c.queue.length:Int)-1)=true):∃ C:i.toNat<c.queue.length,0<=i/\c.queue.getD i.toNat v8=c.queue[i.toNat]/\vI c c.queue[i.toNat].line=some (fl c c.queue[i.toNat].line,true)/\xO c.aY (fl c c.queue[i.toNat].line) c.queue[i.toNat].write=some (qb c.aY (fl c c.queue[i.toNat].line) c.queue[i.toNat].write):=by
 have hb:=bx.1 hi;have C:i.toNat<c.queue.length:=by omega
 obtain⟨D,E⟩:=So h (cO C);obtain⟨_,I,J,_⟩:=r6 E;have L:=h.p.bl;have O:=eY c.config.ay;exact⟨C,hb.1,kG _ C,D,R9 _ I (by omega) (by omega)⟩
def aAo{c:av}(h:Pq c)(x:aH)(i:Int):Af c x i=some (uP c x i):=by
 have Q:=h.ql;unfold Af uP;rw[ai0,au];cases L:dP c.config.ay x with
 |false=>rfl
 |true=>
 rw[bB,aq,R8 h.p L,au];cases dj c x with
 |false=>rfl
 |true=>
 rw[bB,aq];cases decide ((c.trace.length:Int) >= 2000)with
 |true=>rfl
 |false=>
 rw[aq,cr,cr,gU,cr,eJ,aR (n:=(c.queue.length:Int)-1),au];unfold Mq;have nd:Ae=xO:=rfl;cases hi:aK i 0 ((c.queue.length:Int)-1)with
 | true=>
  obtain⟨E,I,O,f1,J⟩:=ZR h hi;have f2:=ZM h (cO E);rw[fY (show ¬ i = -1 by omega),ak,bB,aq,aP (show i >= 0 from I),cr,Bool.or_true,O];by_cases C:x.kind=2
  ·rw[show (x.kind != 2)=false by rw[C];rfl,show (x.kind==2)=true by rw[C];rfl,aq,ak,Bool.true_or,ak];cases decide ((c.cy.length:Int)<400)with
   |false=>rfl
   | true=>
    rw[ak,az ⟨I,E⟩,az ⟨I,E⟩];dsimp only;rw[f2,au,nd,J,au];rfl
  ·rw[fY C,fP C,ak,Bool.false_or];by_cases D:x.kind=3
   ·rw[show (x.kind != 3)=false by rw[D];rfl,show (x.kind==3)=true by rw[D];rfl,aq,ak,ak];cases decide ((c.cy.length:Int)<400)with
    |false=>rfl
    | true=>
     rw[ak,az ⟨I,E⟩,az ⟨I,E⟩];dsimp only;rw[f2,au,nd,J,au];rfl
   ·rw[fY D,fP D,ak,aq]
 | false=>
  rw[jJ,gU,ak,Bool.or_false];by_cases e:i = -1
  ·subst e;rw[bne_self_eq_false,aq,kM,show decide ((-1:Int) >= 0)=false from rfl,aq];by_cases C:x.kind=2
   ·rw[C];rfl
   ·rw[fY C,fP C,ak,Bool.false_or];by_cases D:x.kind=3
    ·rw[D];rfl
    ·rw[fY D,fP D];rfl
  ·rw[fY e,fP e,ak];cases x.kind==2 ||x.kind==3<;>rfl
def aAp{c:av}(L:c8 c)(h:Pq c)(x:aH)(i:Int):qS c x i=bif uP c x i then (Lo c x i).bind (λy=>some (y.2.1,true))else some (c,false):=by
 have U:=h.ql;unfold qS uP xI;rw[Zo c L,au,F6 c L,au,h.p.ok,bB,aq];cases O:dP c.config.ay x with
 | false=>
  have e:jd c x=some false:=by
   unfold jd;rw[Y8,au,O,jJ,Bool.and_false];rfl
  rw[e];rfl
 |true=>
 rw[yd h.p O,au];cases dj c x with
 |false=>rfl
 |true=>
 rw[bB,aq];cases decide ((c.trace.length:Int) >= 2000)with
 |true=>rfl
 |false=>
 rw[aq,cr,cr,gU,cr,dJ,aR (n:=(c.queue.length:Int)-1),au];unfold Mq;cases hi:aK i 0 ((c.queue.length:Int)-1)with
 | true=>
  obtain⟨I,J,T,f1,Q⟩:=ZR h hi;rw[fY (show ¬ i = -1 by omega),bB,aq,ak,aq,cr,Bool.or_true,T];by_cases C:x.kind=2
  ·rw[show (x.kind==2)=true by rw[C];rfl,ak,Bool.true_or,ak];by_cases D:(c.cy.length:Int)<400
   ·rw[aP D,aW (show ¬ (c.cy.length:Int) >= 400 by omega),aq,az ⟨J,I⟩];dsimp only;rw[f1,au,az ⟨J,I⟩,Q,au,cr];unfold ZQ;cases (((qb c.aY (fl c c.queue[i.toNat].line) c.queue[i.toNat].write).kind==x.kind)&&(((qb c.aY (fl c c.queue[i.toNat].line) c.queue[i.toNat].write).ax==x.ax)&&(((qb c.aY (fl c c.queue[i.toNat].line) c.queue[i.toNat].write).row==x.row)&&(((qb c.aY (fl c c.queue[i.toNat].line) c.queue[i.toNat].write).bR==x.bR)&&true))))<;>rfl
   ·rw[aW D,aP (show (c.cy.length:Int) >= 400 by omega)];rfl
  ·rw[fP C,aq,Bool.false_or];by_cases E:x.kind=3
   ·rw[show (x.kind==3)=true by rw[E];rfl,ak,ak];by_cases D:(c.cy.length:Int)<400
    ·rw[aP D,aW (show ¬ (c.cy.length:Int) >= 400 by omega),aq,az ⟨J,I⟩];dsimp only;rw[f1,au,az ⟨J,I⟩,Q,au,cr];unfold ZQ;cases (((qb c.aY (fl c c.queue[i.toNat].line) c.queue[i.toNat].write).kind==x.kind)&&(((qb c.aY (fl c c.queue[i.toNat].line) c.queue[i.toNat].write).ax==x.ax)&&(((qb c.aY (fl c c.queue[i.toNat].line) c.queue[i.toNat].write).row==x.row)&&(((qb c.aY (fl c c.queue[i.toNat].line) c.queue[i.toNat].write).bR==x.bR)&&true))))<;>rfl
    ·rw[aW D,aP (show (c.cy.length:Int) >= 400 by omega)];rfl
   ·rw[fP E];rfl
 | false=>
  rw[jJ,gU,ak,Bool.or_false];by_cases C:x.kind=2
  ·rw[C];cases decide ((c.cy.length:Int) >= 400)<;>rfl
  ·rw[fP C,aq,Bool.false_or];by_cases E:x.kind=3
   ·rw[E];cases decide ((c.cy.length:Int) >= 400)<;>rfl
   ·rw[fP E,aq,aq];by_cases e:i = -1
    ·subst e;rfl
    ·rw[fY e,fP e];rfl
def ZS{c:av}(D:c8 c)(h:Pq c){x:aH}{i:Int}(E:uP c x i=true):Bs c/\nt c.config.ay c.aY x=true/\(x.kind=2\/x.kind=3->oX c i.toNat 100000/\0<=i)/\c.ready.bg.length<=4:=by
 simp only[uP,aM,gy,od]at E;obtain⟨J,I,T,C⟩:=E;simp only[dj,aM]at I
 refine⟨Bs.of D h.p.ok (by omega),?_,λL=>?_,(RU h.p.rdy).2.2⟩
 ·unfold nt;rw[h.p.rk,J,I.1];rfl
 ·have e:(x.kind==2 || x.kind==3)=true:=by rcases L with q | q <;>rw[q] <;>rfl
  rw[e,ak]at C;simp only[Mq,aM,gf]at C;obtain⟨O,Q,_⟩:=ZR h C.1;exact⟨oX.of D h.p.ok O (by omega),Q⟩
structure Ck (c:av):Prop where
 f1:lT c.config c.box.bU=true
 f2:lT c.config c.box.next=true
 nw:aK c.now 0 1000000=true
 rk:nq c.config.ay c.aY=true
 rd:kW c.config.ay c.ready=true
 ar:nh c.config.ay c.array=true
 sp:kX c.config.ay c.spare=true
 se:c.spare.bP=c.config.bP
 rf:eF c.aQ=true
 pa:tj c=true
 qu:iJ (dK (dW c.config.ay c.spare)) c.queue=true
 sh:gF c.shares=true
 sl:(c.shares.length:Int)=4
 dr:jS c.drain=true
 pw:gR c.bh=true
 ps:c.bh.state=c.aY.bh
 si:c.bh.since<=c.now
 s1:aK c.cU.every 1 100000=true
 s2:aK c.cU.wait 1 c.cU.every=true
 s3:aK c.cU.next 0 (W6 (dK c.config.ay-1))=true
 er:kV c.errors=true
 tr:c.trace.length<=2000
 rp:c.cy.length<=400
def Ck.of{c:av}(h:dA c=true):Ck c:=by
 simp only[dA,aM,fz,gf,gy,od]at h;obtain⟨C,D,E,I,J,L,O,Q,⟨T,U⟩,Y,Z,ke,kf,lG,kN,jL,pF,rm,rq,uT,wo,wq⟩:=h;exact⟨C,D,E,I,J,L,O,Q,T,U,Y,Z,ke,kf,lG,kN,by omega,pF,rm,rq,uT,by omega,by omega⟩
def Ck.ok{c:av}(h:Ck c):dA c=true:=by
 obtain⟨C,D,E,I,J,L,O,Q,T,U,Y,Z,ke,kf,lG,kN,jL,pF,rm,rq,uT,wo,wq⟩:=h;simp only[dA,aM,fz,gf,gy,od];exact⟨C,D,E,I,J,L,O,Q,⟨T,U⟩,Y,Z,ke,kf,lG,kN,by omega,pF,rm,rq,uT,by omega,by omega⟩
def akq:∀ (l:aa Nat) (a:Nat),l.Pairwise (λx y=>x≠y)->l.length<=(l.filter (λx=>decide (x≠a))).length+1
 |[],a,_=>by simp
 | x :: l,a,h=>by
  obtain⟨C,D⟩:=List.pairwise_cons.1 h;by_cases e:x=a
  ·subst e;have:(x :: l).filter (λy=>decide (y≠x))=l:=by
    rw[List.filter_cons_of_neg (by simp)];exact List.filter_eq_self.2 λy E=>by simpa using (C y E).symm
   rw[this,lY];exact eB _
  ·rw[List.filter_cons_of_pos (by simpa using e)];have:=akq l a D;simp only[lY];omega
def pig:∀ (n:Nat) (l:aa Nat),(∀ x∈l,x<n)->l.Pairwise (λx y=>x≠y)->l.length<=n
 | 0,l,h,_=>by
  cases l with
  |nil=>simp
  |cons x l=>exact absurd (h x (.head _)) (by omega)
 | n+1,l,h,C=>by
  have E:=akq l n C;have I:=pig n (l.filter (λx=>decide (x≠n))) (λx D=>by
   have:=List.mem_filter.1 D;have J:=h x this.1;have L:x≠n:=by simpa using this.2
   omega) (C.filter _)
  omega
def v5.pw{l:aa aL}(h:v5 l):l.Pairwise (λx y=>x≠y):=by
 rw[List.pairwise_iff_getElem];intro i j hi D I e;have C:=h j D;rw[kK]at C;have E:l[i]∈l.take j:=by
  rw[List.mem_take_iff_getElem];exact⟨i,by omega,rfl⟩
 exact C _ E (Mi.2 e.symm)
def v5.mk{l:aa aL}(h:l.Pairwise (λx y=>x≠y)):v5 l:=by
 rw[List.pairwise_iff_getElem]at h;intro j C;rw[kK];intro x D e;obtain⟨i,hi,rfl⟩:=List.mem_take_iff_getElem.1 D;exact h i j (by omega) C (by omega) (Mi.1 e).symm
structure fJ (c:av):Prop where
 dl:(c.aQ.aJ.length:Int)=aT c.config.ay
 tl:(c.bK.length:Int)=aT c.config.ay
 gl:(c.guard.length:Int)=aT c.config.ay
 t:∀x∈c.bK,jf x=true
 g:∀x∈c.guard,3<=x/\x<=1000
 pd:∀a∈c.pending,dL c.config.ay a=true/\a.bR=0
 u:c.pending.Pairwise (λx y=>x≠y)
def fJ.of{c:av}(h:tj c=true):fJ c:=by
 simp only[tj,aM,fz,gy,od,cE,eV]at h;obtain⟨J,L,O,Y,Q,T⟩:=h;have key:∀ i (C:i<c.bK.length) (I:i<c.guard.length),jf c.bK[i]=true/\3<=c.guard[i]/\c.guard[i]<=1000:=λi C I=>by
  have:=Q i C;unfold partAt at this;rw[bO C,bO I,aM,bx]at this;exact this
 have D:∀ i (C:i<c.pending.length),dL c.config.ay c.pending[i]=true/\c.pending[i].bR=0/\(c.pending.take i).any (fT c.pending[i])=false:=λi C=>by
  have:=T i C;unfold AI at this;rw[bO C]at this
  simpa [aM]using this
 refine⟨J,L,O,λx E=>?_,λx E=>?_,λa U=>?_,v5.pw λi hi=>(D i hi).2.2⟩
 ·obtain⟨i,hi,rfl⟩:=ju.1 E;exact(key i hi (by omega)).1
 ·obtain⟨i,hi,rfl⟩:=ju.1 E;exact(key i (by omega) hi).2
 ·obtain⟨i,hi,rfl⟩:=ju.1 U;exact⟨(D i hi).1,(D i hi).2.1⟩
def aAq{g:aO}{l:aa aL}(E:∀ a∈l,dL g a=true/\a.bR=0)(J:l.Pairwise (λx y=>x≠y)):l.length<=128:=by
 have I:∀ a∈l,0<=a.ax/\a.ax<8/\0<=a.row/\a.row<16:=λa C=>by
  obtain⟨D,Q,T,U,Y,_⟩:=r6 (E a C).1;have Z:=eY g;have b2:=fA D;omega
 have D:=pig 128 (l.map λa=>(a.ax*16+a.row).toNat) (λx L=>by
  obtain⟨a,C,rfl⟩:=List.mem_map.1 L;have:=I a C;omega) (by
  rw[List.pairwise_map]
  refine J.imp_of_mem λ{a b} C hb O e=>O ?_
  have r1:=I a C;have r2:=I b hb;have c1:=(E a C).2;have c2:=(E b hb).2;cases a;cases b;simp only at *
  congr 1<;>omega)
 rw[dh]at D;exact D
def fJ.ok{c:av}(h:fJ c):tj c=true:=by
 obtain⟨I,J,L,O,Q,C,D⟩:=h;have hl:=aAq C D;have T:=v5.mk D;simp only[tj,aM,fz,gy,od,cE,eV]
 refine⟨I,J,L,by omega,λi hi=>?_,λi hi=>?_⟩
 ·have E:i<c.guard.length:=by omega
  unfold partAt;rw[bO hi,bO E,aM,bx];exact⟨O _ (cO hi),Q _ (cO E)⟩
 ·unfold AI;rw[bO hi];simp only[aM,fz,gy];exact⟨(C _ (cO hi)).1,(C _ (cO hi)).2,T i hi⟩
def aAr{g:aO}{b n:Int}{l:aa aL}(E:dL g ⟨b,n,0⟩=true)(C:∀ a∈l,dL g a=true/\a.bR=0)(D:l.Pairwise (λx y=>x≠y)):(∀ a∈kF b l n,dL g a=true/\a.bR=0)/\(kF b l n).Pairwise (λx y=>x≠y):=by
 unfold kF;cases h:l.any (fT ⟨b,n,0⟩)with
 |true=>exact⟨C,D⟩
 | false=>
  rw[aq];rw[kK]at h
  refine⟨λa ha=>?_,?_⟩
  ·rcases List.mem_append.1 ha with ha | ha
   ·exact C a ha
   ·rw[oe.1 ha];exact⟨E,rfl⟩
  ·rw[List.pairwise_append]
   refine⟨D,List.pairwise_singleton _ _,λx I y J e=>?_⟩
   rw[oe.1 J]at e;exact h x I (Mi.2 e.symm)
def akr{g:aO}{b:Int}:∀ (ns:aa Int) {l:aa aL},(∀ n∈ns,dL g ⟨b,n,0⟩=true)->(∀ a∈l,dL g a=true/\a.bR=0)->l.Pairwise (λx y=>x≠y)->(∀ a∈ns.foldl (kF b) l,dL g a=true/\a.bR=0)/\(ns.foldl (kF b) l).Pairwise (λx y=>x≠y)
 |[],l,_,C,D=>⟨C,D⟩
 | n :: ns,l,E,C,D=>by
  obtain⟨I,J⟩:=aAr (E n (.head _)) C D;exact akr ns (λm L=>E m (.tail _ L)) I J
def Ge{T:Type}{p:T->Prop}{l:aa T}{i:Nat}{x:T}(h:∀ y∈l,p y)(D:p x):∀ y∈l.set i x,p y:=λy C=>by
 rcases List.mem_or_eq_of_mem_set C with C|rfl
 ·exact h y C
 ·exact D
def aAs{t:cx}(h:jf t=true)(row di:Int):jf (tD t row di).1=true:=by
 unfold tD;cases jf t&&(aK row 0 15&&aK di 2 1000)with
 |false=>exact h
 | true=>
  cases C:jf (ji t row)with
  |false=>exact h
  |true=>exact C
def aks{k:Int}(h:aK k 1 16=true):jf (uJ k)=true:=by
 have hb:=bx.1 h;simp only[jf,uJ,aM,fz,cE,eV,mO,bx]
 refine⟨by omega,trivial,by omega,λi hi=>?_⟩
 rw[RR (by simpa using hi) (by simpa using hi)];simp[aK]
def akt{c:eX}{p:dS}(hl:p.weights.length<1073741823)(h:lT c p=true):3<=p.eK/\p.eK<=1000:=by
 obtain⟨_,f2⟩:=Ga hl h;simp only[oQ,aM,bx]at f2;exact f2.2.2.1
def tF{g:aO}{a:dx}(C:cD g=true)(h:ep g 100000 a):nh g a=true:=by
 simp only[nh,aM,gf,cE]
 refine⟨C,h.cells,h.bC,h.bz,λc D=>Sy.ok (h.syms c D),λp E=>?_⟩
 obtain⟨x,y⟩:=p;obtain⟨I,J⟩:=List.of_mem_zip E;simp only[xU,aM,bx];exact⟨h.AB x I,h.iH y J⟩
def aAt{g:aO}{c:aH}(h:dP g c=true):oR g (jt g c).toNat=true:=by
 obtain⟨I,D,hb,_⟩:=C3 h;obtain⟨E,J⟩:=Zd h;have L:=eY g;unfold oR;rw[Int.toNat_of_nonneg E];unfold jt at *
 cases C:aK c.kind 1 5 with
 | true=>
  have C:=bx.1 C;have:=hb C.2;rw[ak,aP,aP];rfl
 | false=>
  have O:¬ c.kind<=5:=λh=>by rw[bx.2 ⟨D.1,h⟩]at C;cases C
  rw[aq,aW,aW];rfl
def aku{l:aa Int}(h:∀ i,i<l.length->oS l i=true){i:Nat}(hi:i<l.length):aK l[i] 0 1000000=true:=by
 have:=h i hi;cases i with
 |zero=>rw[LY hi]at this;exact this
 |succ i=>rw[F2 hi,aM]at this;exact this.1
def akv{l:aa Int}(h:∀ i,i<l.length->oS l i=true){i:Nat}(hi:i+1<l.length):l[i]<l[i+1]:=by
 have:=h (i+1) hi;rw[F2 hi,aM,gy,od]at this;omega
def akw{l:aa Int}(C:∀ i (hi:i<l.length),aK l[i] 0 1000000=true)(D:∀ i (hi:i+1<l.length),l[i]<l[i+1]):∀ i,i<l.length->oS l i=true:=λi hi=>by
 cases i with
 |zero=>rw[LY hi];exact C 0 hi
 | succ i=>
  have:=D i hi;rw[F2 hi,aM,gy,od];exact⟨C _ hi,by omega⟩
def aAu{l:aa Int}(h:∀ i,i<l.length->oS l i=true){x:Int}(E:aK x 0 1000000=true)(hl:C5 ⟨[],l⟩ x=false):∀ i,i<(l++[x]).length->oS (l++[x]) i=true:=by
 refine akw (λi hi=>?_) λi hi=>?_
 ·by_cases C:i<l.length
  ·rw[List.getElem_append_left C];exact aku h C
  ·have e:i=l.length:=by simp at hi;omega
   subst e
   simpa using E
 ·have D:i<l.length:=by simp at hi;omega
  by_cases C:i+1<l.length
  ·rw[List.getElem_append_left C,List.getElem_append_left D];exact akv h C
  ·have e:i+1=l.length:=by omega
   have I:(l++[x])[i+1]=x:=by simp[e]
   rw[I,List.getElem_append_left D];unfold C5 at hl;have J:l.getLast?=some l[i]:=by
    rw[List.getLast?_eq_getElem?,show l.length-1=i by omega,bO D]
   dsimp only at hl;rw[J,od]at hl;omega
def aAv{l:aa Int}(h:∀ i,i<l.length->oS l i=true)(k:Nat):∀ i,i<(l.drop k).length->oS (l.drop k) i=true:=by
 refine akw (λi hi=>?_) λi hi=>?_
 ·rw[List.getElem_drop];exact aku h _
 ·rw[List.getElem_drop,List.getElem_drop];rw[List.length_drop]at hi;exact akv h (i:=k+i) (by omega)
def akx{g:aO}{r:dF}(e:fG)(h:kW g r=true):kW g (uB g r e)=true:=by
 unfold uB;cases C:kW g r&&(dP g e.cmd&&(aK e.at_ 0 1000000 && !(e.cmd.kind==1&&C5 r e.at_)))with
 |false=>exact h
 | true=>
  rw[ak];simp only[aM,gy]at C;obtain⟨_,L,D,E⟩:=C;simp only[kW,aM,fz,gy,od,cE,eV]at h ⊢;obtain⟨O,Q,T,U,I⟩:=h
  refine⟨O,by rw[iw];exact Q,?_,λi hi=>?_,?_⟩
  ·cases e.cmd.kind==1 with
   |false=>exact T
   | true=>
    rw[ak];unfold C6;rw[List.length_drop,o8,iz];omega
  ·rw[iw]at hi;have hb:=U i hi;rw[LX hi]at hb;rw[LX (by rw[iw];exact hi)];by_cases J:(jt g e.cmd).toNat=i
   ·subst J;rw[List.getElem_set_self,aAt L];have:=bx.1 D;rw[bx.2 ⟨by omega,by omega⟩];rfl
   ·rw[List.getElem_set_ne J];exact hb
  ·cases Y:e.cmd.kind==1 with
   |false=>exact I
   | true=>
    rw[Y,cr]at E;rw[ak];exact aAv (aAu I D E) _
structure Qk (n:Int) (q:List aX):Prop where
 r:∀x∈q,qa n x=true
 b:q.Pairwise λx y=>fk x y=true
 i:q.Pairwise λx y=>x.id≠y.id
 l:q.length<=12
def aAw{x y z:aX}(C:fk x y=true)(D:fk y z=true):fk x z=true:=by
 simp only[fk,ei,aM,gf,fz]at *
 omega
def Qk.of{n:Int}{q:aa aX}(h:iJ n q=true):Qk n q:=by
 have I:=h;simp only[iJ,aM,cE,eV,gf]at h;obtain⟨E,Q⟩:=h;have J:∀ x∈q,qa n x=true:=λx L=>by
  obtain⟨i,hi,rfl⟩:=ju.1 L;have:=E i hi;unfold r9 at this;rw[bO hi,aM]at this;exact this.1
 have hb:∀ j i (D:i<j) (C:j<q.length),fk q[i] q[j]=true:=by
  intro j
  induction j with
  |zero=>intro i D;omega
  | succ j O=>
   intro i D C;have:=E (j+1) C;rw[LV C,aM,aM]at this;by_cases e:i=j
   ·subst e;exact this.2.1
   ·exact aAw (O i (by omega) (by omega)) this.2.1
 refine⟨J,?_,?_,by omega⟩
 ·rw[List.pairwise_iff_getElem];exact λi j hi C D=>hb j i D C
 ·rw[List.pairwise_iff_getElem];intro i j hi C D e;have:=ayF I D C;rw[e,kM]at this;cases this
def Qk.ok{n:Int}{q:aa aX}(h:Qk n q):iJ n q=true:=by
 obtain⟨C,D,E,J⟩:=h;rw[List.pairwise_iff_getElem]at D E;simp only[iJ,aM,cE,eV,gf]
 refine⟨λi hi=>?_,by omega⟩
 cases i with
 |zero=>rw[Y0 hi];exact C _ (cO hi)
 | succ i=>
  rw[LV hi,aM,aM,gy];refine⟨C _ (cO hi),D i (i+1) (by omega) hi (by omega),?_⟩;rw[kK];intro x I e;obtain⟨k,L,rfl⟩:=List.mem_take_iff_getElem.1 I;exact E k (i+1) (by omega) hi (by omega) (by simpa using e)
def Qk.sub{n:Int}{q s:aa aX}(h:Qk n q)(C:s.Sublist q):Qk n s:=
 ⟨λx D=>h.r x (C.subset D),h.b.sublist C,h.i.sublist C,Nat.le_trans C.length_le h.l⟩
def aky{T:Type}(l:aa T)(i:Nat):(l.take i++l.drop (i+1)).Sublist l:=by
 rw[<-List.eraseIdx_eq_take_drop_succ];exact List.eraseIdx_sublist l i
def aAx(e x:cv):Prop:=¬ (e.line=x.line/\e.code=x.code)
structure Ek (l:List cv):Prop where
 e:∀x∈l,vS x=true
 k:l.Pairwise aAx
 l:l.length<=6
def ZT{e x:cv}:je e x=true ↔ x.line=e.line/\x.code=e.code:=by
 simp only[je,aM,fz]
def Ek.of{l:aa cv}(h:kV l=true):Ek l:=by
 simp only[kV,aM,cE,eV,gf]at h;obtain⟨D,J⟩:=h;have key:∀ i (hi:i<l.length),vS l[i]=true/\(l.take i).any (je l[i])=false:=λi hi=>by
  have:=D i hi;rw[RO hi,aM,gy]at this;exact this
 refine⟨λx E=>?_,?_,by omega⟩
 ·obtain⟨i,hi,rfl⟩:=ju.1 E;exact(key i hi).1
 ·rw[List.pairwise_iff_getElem];intro i j hi I L e;have C:=(key j I).2;rw[kK]at C;exact C l[i] (List.mem_take_iff_getElem.2 ⟨i,by omega,rfl⟩) (ZT.2 e)
def Ek.ok{l:aa cv}(h:Ek l):kV l=true:=by
 obtain⟨D,C,I⟩:=h;rw[List.pairwise_iff_getElem]at C;simp only[kV,aM,cE,eV,gf]
 refine⟨λi hi=>?_,by omega⟩
 rw[RO hi,aM,gy];refine⟨D _ (cO hi),?_⟩;rw[kK];intro x E e;obtain⟨k,J,rfl⟩:=List.mem_take_iff_getElem.1 E;exact C k i (by omega) hi (by omega) (ZT.1 e)
def ZU{l:aa cv}(h:kV l=true){n code:Int}(h1:0<=n/\n<=1023)(h2:code=1\/code=2):kV (oV l n code)=true:=by
 have C:=Ek.of h;have hl:=C.l;have U:vS ⟨n,code,1⟩=true:=by
  simp only[vS,aM,ei,fz,bx];omega
 refine Ek.ok ?_;unfold oV;cases I:l.findIdx? (je ⟨n,code,1⟩)with
 | some i=>
  obtain⟨hi,hp⟩:=Mg I;dsimp only;rw[kG _ hi];have D:=C.e _ (cO hi);have Y:vS (Sq l[i])=true:=by
   simp only[vS,aM,ei,fz,bx]at D ⊢;unfold Sq;dsimp only;rw[aR (n:=l[i].times+1)];refine⟨D.1,D.2.1,?_⟩;split<;>omega
  refine⟨Ge C.e Y,?_,by rw[iw];exact hl⟩;have J:=C.k;rw[List.pairwise_iff_getElem]at J ⊢;intro a b L hb Z;rw[iw]at L hb;have:=J a b L hb Z;rw[List.getElem_set,List.getElem_set];by_cases O:i=a
  ·subst O;rw[br rfl,bE];exact this
  ·rw[bE O];by_cases Q:i=b
   ·subst Q;rw[br rfl];exact this
   ·rw[bE Q];exact this
 | none=>
  have hn:∀ x∈l,¬ (x.line=n/\x.code=code):=λx hx e=>by
   have:=List.findIdx?_eq_none_iff.1 I x hx;rw[ZT.2 e]at this;cases this
  have T:∀ m:aa cv,m.Sublist l->m.length<=5->Ek (m++[⟨n,code,1⟩]):=λm E hml=>by
   refine⟨λx hx=>?_,?_,by rw[o8,iz];omega⟩
   ·rcases List.mem_append.1 hx with hx | hx
    ·exact C.e x (E.subset hx)
    ·rw[oe.1 hx];exact U
   ·rw[List.pairwise_append]
    refine⟨C.k.sublist E,List.pairwise_singleton _ _,λx hx y hy e=>?_⟩
    rw[oe.1 hy]at e;exact hn x (E.subset hx) e
  dsimp only;by_cases e6:l.length=6
  ·rw[show ((l.length:Int)==(6:Int))=true by rw[e6];rfl,ak];exact T _ (List.drop_sublist 1 l) (by rw[List.length_drop];omega)
  ·rw[fP (show ¬ (l.length:Int)=6 by omega),aq];exact T l (List.Sublist.refl l) (by omega)
def akz{l:aa cz}(h:∀ s∈l,nZ s=true){k:Nat}(C:k<l.length)(E:1<=l[k].fL):∀ s∈l.set k ⟨l[k].weight,W6 (l[k].fL-1)⟩,nZ s=true:=by
 have D:=h _ (cO C);simp only[nZ,aM,bx]at D;rw[aR (n:=l[k].fL-1)];refine Ge h ?_;simp only[nZ,aM,bx];omega
def aAy{l:aa cz}(w:aa Bool)(hl:l.length<1073741823)(D:gF l=true)(hw:l.length=w.length):∃ y t,qR l w=some (y,t)/\y.length=l.length/\gF y=true:=by
 have mk:∀ y:aa cz,y.length=l.length->(∀ s∈y,nZ s=true)->y.length=l.length/\gF y=true:=λy C U=>by
  refine⟨C,?_⟩;simp only[gF,aM,cE]at D ⊢;exact⟨U,by rw[C];exact D.2⟩
 have E:∀ s∈l,nZ s=true:=by
  simp only[gF,aM,cE]at D;exact D.1
 unfold qR xA xC bw xL xZ;have hb:=vX (λi=>w.getD i false) (λi=>(l.getD i ⟨0,0⟩).fL) (min l.length w.length);have L:(iL l).length=l.length:=by simp[iL]
 have Y:=vX (λi=>w.getD i false) (λi=>((iL l).getD i ⟨0,0⟩).fL) (min (iL l).length w.length);have Z:=Zx (λi=>w.getD i false) (λi=>(l.getD i ⟨0,0⟩).fL) (min l.length w.length);rw[jH,Md l w (by omega),au,LR _ (by omega),au,D,bB,aq,List.length_nil,fo,cP,ak];unfold tA;generalize hr:gX (λi=>w.getD i false) (λi=>(l.getD i ⟨0,0⟩).fL) (min l.length w.length)=b at *
 by_cases O:b<0
 ·rw[aP O];exact⟨_,_,rfl,mk _ rfl E⟩
 ·have C:b.toNat<l.length:=by omega
  rw[aW O,aq,az ⟨by omega,C⟩,az C];dsimp only;have hsb:=E _ (cO C);simp only[nZ,aM,bx]at hsb;cases Q:l[b.toNat].fL==0 with
  | false=>
   have Q:¬ l[b.toNat].fL=0:=by simpa using Q
   rw[aq,az ⟨by omega,C⟩,az C,az ⟨by omega,C⟩,az C];exact⟨_,_,rfl,mk _ (by simp) (akz E C (by omega))⟩
  | true=>
   have aAz:∀ s∈iL l,nZ s=true:=λs D=>by
    obtain⟨x,J,rfl⟩:=List.mem_map.1 D;have:=E x J;simp only[nZ,aM,bx,tC]at this ⊢;omega
   rw[ak,Zz l w (by omega),au];simp only[dY];rw[Md _ w (by omega),au];have T:0<=tA (iL l) w:=Zy _ (i:=b.toNat) (by rcases Z with h|h;exact absurd h (by omega);exact h) _ (by rw[L];omega);have hq:tA (iL l) w<((min (iL l).length w.length:Nat):Int):=Y.2;have I:(tA (iL l) w).toNat<(iL l).length:=by omega
   have h4:1<=(iL l)[(tA (iL l) w).toNat].fL:=by
    have dZ:(tA (iL l) w).toNat<l.length:=by omega
    have J:=E _ (cO dZ);simp only[nZ,aM,bx]at J;simp only[iL,List.getElem_map,tC];simp only[iL]at J;omega
   rw[az ⟨T,I⟩,az I,az ⟨T,I⟩,az I];exact⟨_,_,rfl,mk _ (by simp[L]) (akz aAz I h4)⟩
def akA{r:cZ}(h:eF r=true)(k:Nat){d:Int}(C:-2<=d/\d<=5):eF ⟨r.aJ.set k d,r.wait,r.dN⟩=true:=by
 simp only[eF,aM]at h ⊢;refine⟨Zf h.1 ?_,by rw[iw];exact h.2.1,h.2.2⟩;unfold uz;exact bx.2 C
def aAA{r:cZ}(h:eF r=true){b:Int}(hb:b.toNat<r.aJ.length):eF (vZ r b)=true:=by
 have C:=Mh h _ (cO hb);unfold vZ;rw[kG _ hb];by_cases e:r.aJ[b.toNat] = -2
 ·rw[aP e];exact h
 ·rw[aW e,aq];exact akA h _ (by omega)
def aAB{r:cM}{p:eT}{x:aH}{now:Int}(E:gR p=true)(C:p.state=r.bh)(I:p.since<=now)(J:now<=1000000)(O:6<=x.kind/\x.kind<=9)(D:n5 r x=true):gR (yf p x.kind now)=true/\(yf p x.kind now).state=(fU r x).bh/\(yf p x.kind now).since<=now:=by
 have hb:0<=p.since:=by
  simp only[gR,aM,bx]at E;omega
 have hi:0<=p.idle/\p.idle<=1000000:=by
  simp only[gR,aM,bx]at E;omega
 have L:aK now p.since 1000000=true:=bx.2 ⟨I,J⟩;unfold yf;rw[E,L,Bool.and_self,ak];have mk:∀ s:Int,0<=s/\s<=2->gR ⟨s,now,p.idle⟩=true:=λs C=>by
  simp only[gR,aM,bx];omega
 have:x.kind=6\/x.kind=7\/x.kind=8\/x.kind=9:=by omega
 rcases this with h|h|h|h
 ·have e:r.bh=0:=by simpa [n5,h]using D
  simp[fU,h,C,e,mk]
 ·have e:r.bh=1:=by simpa [n5,h]using D
  simp[fU,h,C,e,mk]
 ·have e:r.bh=0:=by have:=D;simp[n5,h]at this;exact this.1
  simp[fU,h,C,e,mk]
 ·have e:r.bh=2:=by simpa [n5,h]using D
  simp[fU,h,C,e,mk]
def aAC{c:av}(h:Pq c)(Z:Int×Int×Int×Int×af)(P:Int×Int×Int×Int×Int×(aa Int)×Int×Int×af)(I:P.2.1=c.box.bU.cap):iter CQ aS ((cC 0 c.aQ.aJ,fm c,(),(),(),(),(),(),(),(),(),c.queue,(c.queue.length:Int),(0:Int),()),(c,Z,P,(List.range c.queue.length).map (gY c),(List.range c.queue.length).map (dX c),sn c c.queue.length,([]:aa aH),List.replicate c.queue.length false,List.replicate 4 false,()))=some (.inl (((),(),(),(),(),(),(),()),(c,Z,P,(List.range c.queue.length).map (dX c),(List.range c.queue.length).map (mM c),(List.range c.queue.length).map (jV c),q7 c c.queue.length,()))):=by
 have J:=h.ql;have uX:=h.pl;have L:=n7 h.rf;have O:=v7 h;have e:=cL (step:=CQ) c.queue.length (λi=>((cC 0 c.aQ.aJ,fm c,(),(),(),(),(),(),(),(),(),c.queue,(c.queue.length:Int),(i:Int),()),(c,Z,P,(List.range c.queue.length).map (gY c),(List.range c.queue.length).map (dX c),sn c c.queue.length,(List.range i).map (mM c),sj (jV c) c.queue.length i,q7 c i,()))) (.inl (((),(),(),(),(),(),(),()),(c,Z,P,(List.range c.queue.length).map (dX c),(List.range c.queue.length).map (mM c),(List.range c.queue.length).map (jV c),q7 c c.queue.length,()))) aS (λk C=>by
  have hl:=Sk (f:=jV c) (n:=c.queue.length) (k:=k) (by omega);have Gf:=uN c;have hwl:=Sz c k;obtain⟨ho,D,Q,T,o4,o5⟩:=Di h C;obtain⟨U,Y,E⟩:=h.q _ (cO C);rw[qe C]at U Y E;have IF:(lV c k).write=qZ c.queue k:=by rw[Dg C,qe C]
  refine(aAn (r:=lV c k) (a:=fI c k) (nd:=mM c k) (ct:=n9 c (fI c k).ax) (rd:=dj c (mM c k)) (ib:=Mp c (fI c k).ax) J C (qe C) (by omega) (Dh _) (by simp;exact C) (by omega) (by simp) (by omega) (by omega) (by rw[IF];exact R9 _ D Q O) (ZP L.1 D T) (yd h.p (akp h C)) (ZD _ _ (by omega)) E h.nw).trans ?_;rw[yj C,akc,I,<-Sl C,List.range_succ,lZ];rfl) (by
  unfold CQ aA xG xI xL;dsimp only;rw[aW,aq,Sn]) (bM)
 rw[bT,Sm]at e;exact e
def sr(f g:Nat->Bool)(n k:Nat):aa Bool:=(List.range n).map λi=>bif Nat.blt i k then f i else g i
def akB(f g:Nat->Bool)(n:Nat):sr f g n 0=(List.range n).map g:=rfl
def akC(f g:Nat->Bool)(n:Nat):sr f g n n=(List.range n).map f:=by
 unfold sr
 refine lX λi hi=>?_
 have hi:=eV.1 hi;rw[show Nat.blt i n=true from iP hi];rfl
def SA(f g:Nat->Bool)(n k:Nat):(sr f g n k).length=n:=by unfold sr;simp
def aAD(k:Nat):Nat.blt k k=false:=by
 cases h:Nat.blt k k with
 |false=>rfl
 |true=>have:=cI h;omega
def akD{f g:Nat->Bool}{n k:Nat}(C:k<(sr f g n k).length):(sr f g n k)[k]=g k:=by
 simp only[sr,List.getElem_map,jI,aAD,aq]
def akE{f g:Nat->Bool}{n k:Nat}(h:k<n):(sr f g n k).set k (f k)=sr f g n (k+1):=by
 apply List.ext_getElem
 ·rw[iw,SA,SA]
 ·intro i E I;rw[List.getElem_set];simp only[sr,List.getElem_map,jI];by_cases e:k=i
  ·subst e;rw[br rfl,show Nat.blt k (k+1)=true from iP (eB _)];rfl
  ·rw[bE e];rcases Nat.lt_or_gt_of_ne e with h3 | h3
   ·have C:Nat.blt i k=false:=by
     cases hb:Nat.blt i k with
     |false=>rfl
     |true=>have:=cI hb;omega
    have D:Nat.blt i (k+1)=false:=by
     cases hb:Nat.blt i (k+1)with
     |false=>rfl
     |true=>have:=cI hb;omega
    rw[C,D]
   ·rw[show Nat.blt i k=true from iP h3,show Nat.blt i (k+1)=true from iP (by omega)]
def oa(c:av)(t:Int)(i:Nat):Bool:=jV c i&&(lV c i).dB==t
def aAE{c:av}(I:c.queue.length<=12)(t:Int)(Z:Int×Int×Int×Int×af)(P:Int×Int×Int×Int×Int×(aa Int)×Int×Int×af)(iH:aa Bool)(C:aa aH):iter FV aS (((),(),(),(),(),(),t,c.queue,(c.queue.length:Int),(0:Int),()),(c,Z,P,iH,C,(List.range c.queue.length).map (jV c),()))=some (.inl (((),(),(),(),(),(),()),(c,Z,P,iH,C,(List.range c.queue.length).map (oa c t),()))):=by
 have e:=cL (step:=FV) c.queue.length (λi=>(((),(),(),(),(),(),t,c.queue,(c.queue.length:Int),(i:Int),()),(c,Z,P,iH,C,sr (oa c t) (jV c) c.queue.length i,()))) (.inl (((),(),(),(),(),(),()),(c,Z,P,iH,C,(List.range c.queue.length).map (oa c t),()))) aS (λk D=>by
  have hl:=SA (oa c t) (jV c) c.queue.length k;rw[<-akE D];unfold FV aA xG xI xL;dsimp only;rw[aP,ak,az ⟨by omega,by omega⟩,az ⟨by omega,by omega⟩,az,bI];simp only[bu,akD,qe];have E:oa c t k=(jV c k&&(lV c k).dB==t):=rfl;rw[E];cases jV c k with
  |false=>rw[aq,az ⟨by omega,by omega⟩,az];rfl
  |true=>rw[ak,az ⟨by omega,by omega⟩,az];rfl) (by
  unfold FV aA xG xI xL;dsimp only;rw[aW,aq,akC]) (bM)
 rw[bT,akB]at e;exact e
def fK(p:Nat->Bool):Nat->Int
 |0=>-1
 |k+1=>bif decide (fK p k<0)&&p k then (k:Int)else fK p k
def Dk(p:Nat->Bool)(k:Nat):fK p (k+1)=bif decide (fK p k<0)&&p k then (k:Int)else fK p k:=rfl
def uQ(p:Nat->Bool):∀ n,(fK p n = -1/\∀ k,k<n->p k=false)\/∃ j:Nat,j<n/\fK p n=(j:Int)/\p j=true/\∀ k,k<j->p k=false
 |0=>.inl ⟨rfl,λk D=>absurd D (Nat.not_lt_zero k)⟩
 | n+1=>by
  rw[Dk];rcases uQ p n with ⟨E,C⟩|⟨j,E,C,J,L⟩
  ·rw[E];cases I:p n with
   |true=>exact .inr ⟨n,by omega,rfl,I,C⟩
   | false=>
    refine .inl ⟨rfl,λk D=>?_⟩
    by_cases e:k=n
    ·rw[e,I]
    ·exact C k (by omega)
  ·rw[C,aW,jJ,aq];exact .inr ⟨j,by omega,rfl,J,L⟩
def tG(D iH C:Nat->Bool)(n:Nat):Int:=
 bif decide (fK (λi=>C i&&D i) n<0)then (bif decide (fK (λi=>C i&&iH i) n<0)then fK C n else fK (λi=>C i&&iH i) n)else fK (λi=>C i&&D i) n
def mN(c:av)(i:Nat):Bool:=decide ((lV c i).at_<=c.now-c.box.bU.cap)
def aAF{c:av}(h:Pq c)(C:Nat->Bool):Rj c.queue ((List.range c.queue.length).map C) ((List.range c.queue.length).map (dX c)) c.box.bU.cap c.now=some (tG (mN c) (dX c) C c.queue.length):=by
 have hq:=h.ql;have Y:=h.nw;have Z:=h.cap;have Q:W6 (c.now-c.box.bU.cap)=c.now-c.box.bU.cap:=aR;have kZ:∀ (k:Nat),k<c.queue.length->(C k&&mN c k)=false->Az (((List.range c.queue.length).map C,(List.range c.queue.length).map (dX c),c.box.bU.cap,c.now,fK C k,fK (λi=>C i&&dX c i) k,c.queue,(c.queue.length:Int),(k:Int),()),())=some (.inl (((List.range c.queue.length).map C,(List.range c.queue.length).map (dX c),c.box.bU.cap,c.now,fK C (k+1),fK (λi=>C i&&dX c i) (k+1),c.queue,(c.queue.length:Int),((k+1:Nat):Int),()),())):=by
  intro k D E;rw[Dk,Dk];unfold Az aA bq xG xI;dsimp only;rw[aP,ak,az ⟨by omega,by omega⟩];simp only[dh,cY];rw[aW,aq,az ⟨by omega,by omega⟩];simp only[bu,yj D,Q,qe];rw[bI];cases I:C k with
  |false=>simp[I]
  | true=>
   rw[I,cr]at E;unfold mN at E;rw[E,aP (by omega:(k:Int)<(c.queue.length:Int)),az ⟨by omega,by omega⟩];simp only[bB,aq,ak,I,cr];cases dX c k<;>cases decide (fK C k<0)<;>cases decide (fK (λi=>C i&&dX c i) k<0)<;>simp
 unfold Rj tG cc;rw[dJ,au,bx.2 ⟨Z.1,by omega⟩,bB,aq,dJ,au,bx.2 Y,bB,aq];rcases uQ (λi=>C i&&mN c i) c.queue.length with ⟨J,L⟩|⟨j,J,L,O,h4⟩
 ·have e:=cL (step:=Az) c.queue.length (λk=>(((List.range c.queue.length).map C,(List.range c.queue.length).map (dX c),c.box.bU.cap,c.now,fK C k,fK (λi=>C i&&dX c i) k,c.queue,(c.queue.length:Int),(k:Int),()),())) (.inr (.inl ((fK C c.queue.length,fK (λi=>C i&&dX c i) c.queue.length,()),()))) aS (λk D=>kZ k D (L k D)) (by
   unfold Az aA bq xG xI;dsimp only;rw[aW,aq]) (bM)
  rw[bT]at e
  refine(bF (λo=>Option.bind o _) e).trans ?_
  rw[au,J];simp only[Sum.elim_inr,dY];by_cases T:fK (λi=>C i&&dX c i) c.queue.length<0
  ·rw[aW (by omega:¬ fK (λi=>C i&&dX c i) c.queue.length >= 0),aP T];rfl
  ·rw[aP (by omega:fK (λi=>C i&&dX c i) c.queue.length >= 0),aW T];rfl
 ·have e:=cL (step:=Az) j (λk=>(((List.range c.queue.length).map C,(List.range c.queue.length).map (dX c),c.box.bU.cap,c.now,fK C k,fK (λi=>C i&&dX c i) k,c.queue,(c.queue.length:Int),(k:Int),()),())) (.inl (((j:Int),()),())) aS (λk D=>kZ k (by omega) (h4 k D)) (by
   rw[aM]at O;have U:=O.2;unfold mN at U;unfold Az aA bq xG xI;dsimp only;rw[aP,ak,az ⟨by omega,by omega⟩];simp only[dh,cY];rw[aW,aq,az ⟨by omega,by omega⟩];simp only[bu,yj J,Q,qe,O.1,U,bB,aq,ak]) (bM)
  rw[bT]at e
  refine(bF (λo=>Option.bind o _) e).trans ?_
  rw[au,L,aW];rfl
def rkN(D iH C:Nat->Bool)(n:Nat):Int:=
 bif decide (fK (λi=>C i&&D i) n<0)then (bif decide (fK (λi=>C i&&iH i) n<0)then (bif decide (fK C n<0)then 0 else 1)else 2)else 3
def aAG{c:av}(h:Pq c)(C:Nat->Bool):PZ c.queue ((List.range c.queue.length).map C) ((List.range c.queue.length).map (dX c)) c.box.bU.cap c.now=some (tG (mN c) (dX c) C c.queue.length):=by
 have O:=h.ql;have E:=h.nw;have I:=h.cap;have J:W6 (c.now-c.box.bU.cap)=c.now-c.box.bU.cap:=aR;unfold PZ bw;rw[eJ,au,bx.2 ⟨I.1,by omega⟩,bB,aq,eJ,au,bx.2 E,bB,aq];have e:=cL (step:=JX) c.queue.length (λk=>((c.queue,(List.range c.queue.length).map C,(List.range c.queue.length).map (dX c),c.box.bU.cap,c.now,tG (mN c) (dX c) C k,rkN (mN c) (dX c) C k,(k:Int),()),())) (.inl ((tG (mN c) (dX c) C c.queue.length,()),())) aS (λk D=>by
  have Q:=uQ C k;have T:=uQ (λi=>C i&&dX c i) k;have U:=uQ (λi=>C i&&mN c i) k;unfold JX aA xG xI;dsimp only;simp only[dh,cY];rw[aP,ak,ak,az ⟨by omega,by omega⟩];simp only[bu,yj D,J,qe];rw[bI];unfold tG rkN;rw[Dk,Dk,Dk];have hold:decide ((lV c k).at_<=c.now-c.box.bU.cap)=mN c k:=rfl;rw[hold];cases L:C k with
  |false=>simp[L]
  | true=>
   simp only[bB,aq,cr];rw[az ⟨by omega,by omega⟩,az ⟨by omega,by omega⟩];generalize fK (λi=>C i&&mN c i) k=o at *
   generalize fK (λi=>C i&&dX c i) k=u at *
   generalize fK C k=a at *
   have ao:a<0\/0<=a:=by omega
   have uo:u<0\/0<=u:=by omega
   have oo:o<0\/0<=o:=by omega
   have kn:¬ (k:Int)<0:=by omega
   rcases ao with ao|ao<;>rcases uo with uo|uo<;>rcases oo with oo|oo<;>cases dX c k<;>cases mN c k<;>simp[D,ao,uo,oo,kn,Int.not_lt.2 ao,Int.not_lt.2 uo,Int.not_lt.2 oo]) (by
  unfold JX aA xG xI;dsimp only;rw[aW,aq]) (bM)
 rw[bT]at e
 refine(bF (λo=>Option.bind o _) e).trans ?_
 rfl
def we:aH:=⟨0,0,0,0⟩
def oY(c:av):Int:=match qR c.shares (q7 c c.queue.length)with
 |some y=>y.2
 |none=>0
def oZ(c:av):Int:=tG (mN c) (dX c) (oa c (oY c)) c.queue.length
def AY(c:av):aH×Int:=bif decide (oZ c<0)then (we,-1)else (mM c (oZ c).toNat,oZ c)
def akF{c:av}(h:Pq c):∃ l,qR c.shares (q7 c c.queue.length)=some (l,oY c):=by
 obtain⟨y,t,e,_⟩:=ZA (q7 c c.queue.length) (by have:=h.shl;omega) h.sh (by rw[Sz,h.shl]);refine⟨y,?_⟩;unfold oY;rw[e]
def akG(c:av):-1<=oZ c/\oZ c<c.queue.length:=by
 unfold oZ tG;rcases uQ (λi=>oa c (oY c) i&&mN c i) c.queue.length with ⟨C,_⟩|⟨j,C,E,_⟩
 ·rw[C,aP,ak];rcases uQ (λi=>oa c (oY c) i&&dX c i) c.queue.length with ⟨D,_⟩ | ⟨j,D,I,_⟩
  ·rw[D,aP,ak];rcases uQ (oa c (oY c)) c.queue.length with ⟨J,_⟩|⟨j,J,L,_⟩<;>omega
  ·rw[I,aW,aq];omega
 ·rw[E,aW,aq];omega
def aAH{c:av}(h:Pq c):Ro c (cC 0 c.aQ.aJ) (fm c)=some (AY c):=by
 have E:=h.ql;obtain⟨l,hl⟩:=akF h;have hb:=akG c;unfold Ro bw xL;rw[br ⟨by omega,by omega,by omega⟩,bu,az6 h,au];simp only[dY];rw[br ⟨by omega,by omega,by omega⟩,br ⟨by omega,by omega,by omega⟩,bu,az7 h,au];simp only[dY];rw[br ⟨by omega,by omega,by omega⟩,br (by decide),bu,show (4:Int).toNat=4 from rfl,aAC h _ _ rfl,au];simp only[dY];rw[hl,au];dsimp only;rw[aAE E,au];simp only[dY];rw[aAF h,au];show (bif decide (oZ c<0)then _ else _)=_;unfold AY;by_cases C:oZ c<0
 ·rw[aP C];rfl
 ·have I:(oZ c).toNat<c.queue.length:=by omega
  rw[aW C,aq,aq];have J:¬ tG (mN c) (dX c) (oa c (oY c)) c.queue.length<0:=C;have D:(tG (mN c) (dX c) (oa c (oY c)) c.queue.length).toNat<c.queue.length:=I;rw[az ⟨by omega,by simp only[dh,cY];exact D⟩,az (by simp only[dh,cY];exact D)];simp only[List.getElem_map,jI];rfl
def ZV(l:aa aL)(b:Int)(hl:l.length<=1048576):E7 l b=some (l.any λa=>a.ax==b):=by
 have E:=uE (λa:aL=>a.ax==b) l;unfold E7 cc;rw[L9];have e:=cL (step:=E6) (c9 (λa:aL=>a.ax==b) l) (λi=>((l,b,(i:Int),()),())) (if c9 (λa:aL=>a.ax==b) l<l.length then .inl ((true,()),())else .inr (.inl ((),()))) aS (λk h=>by
  have D:=ny h (by omega);unfold E6 aA bq xG xI;dsimp only;rw[aP,ak,az ⟨by omega,by omega⟩];simp only[bu];rw[D,aq,bI]) (by
  by_cases C:c9 (λa:aL=>a.ax==b) l<l.length
  ·have D:=qY C;unfold E6 aA bq xG xI;dsimp only;rw[aP,ak,az ⟨by omega,by omega⟩];simp only[bu];rw[D,ak,br C]
  ·unfold E6 aA bq xG xI;dsimp only;rw[aW,aq,bE C]) (bM)
 rw[bT]at e
 refine(bF (λo=>Option.bind o _) e).trans ?_
 by_cases C:c9 (λa:aL=>a.ax==b) l<l.length
 ·rw[br C,aP C];rfl
 ·rw[bE C,aW C];rfl
def akH{c:av}(h:Pq c)(a:aL):(iter E9 aS ((c,fm c,(List.range c.queue.length).map (gY c),(),(0:Int),()),((a.ax,a.row,a.bR,()),()))).bind (Sum.elim (λD=>some D.1.1) (Sum.elim (λU=>some true) (λz=>nomatch z)))=some (!yl c c.queue.length a.ax):=by
 have Y:=h.ql;have E:=v7 h;have e:=gQ (step:=E9) (List.range c.queue.length) (λi=>!(gY c i&&dX c i&&a.ax==(fI c i).ax)) (λi=>((c,fm c,(List.range c.queue.length).map (gY c),(),(i:Int),()),((a.ax,a.row,a.bR,()),()))) (.inl ((false,()),())) (.inr (.inl ((),()))) aS (λk C=>by
  rw[cY]at C;have I:=uN c;have Z:((List.range c.queue.length).map (gY c)).length=c.queue.length:=by simp
  obtain⟨ho,J,L,o3,o4,O⟩:=Di h C;have Q:=ajL (r:=c.aY) (a:=fI c k) O J L E;rw[jI];unfold E9 aA bq xG xI;dsimp only;rw[aP,ak,az ⟨by omega,by omega⟩];simp only[bu,yj C];rw[bI];cases gY c k with
  |false=>rfl
  | true=>
   rw[ak,az ⟨by omega,by omega⟩];simp only[Dh];rw[az ⟨by omega,by omega⟩,Q,au,Bool.beq_comm];have iH:dX c k=vY c.aY (fI c k):=rfl;rw[iH];cases a.ax==(fI c k).ax<;>cases vY c.aY (fI c k)<;>rfl) (by
  rw[cY];have I:=uN c;unfold E9 aA bq xG xI;dsimp only;rw[aW,aq]) (by rw[cY];exact bM)
 rw[bT]at e;rw[e,au];have T:(List.range c.queue.length).all (λi=>!(gY c i&&dX c i&&a.ax==(fI c i).ax)) = !yl c c.queue.length a.ax:=by
  unfold yl;rw[List.any_eq_not_all_not,Bool.not_not]
 rw[T];cases yl c c.queue.length a.ax<;>rfl
def aAI{c:av}(h:Pq c){k:Nat}(C:k<c.queue.length):PY c (fm c) ((List.range c.queue.length).map (gY c)) (k:Int)=some (jV c k):=by
 have hq:=h.ql;have uX:=h.pl;have J:=n7 h.rf;have L:=v7 h;have Gf:=uN c;have hl4:((List.range c.queue.length).map (gY c)).length=c.queue.length:=by simp
 obtain⟨ho,E,O,Q,o4,o5⟩:=Di h C;obtain⟨q1,q2,T⟩:=h.q _ (cO C);rw[qe C]at T;have hnw:=h.nw;have U:(lV c k).write=qZ c.queue k:=by rw[Dg C,qe C]
 have Y:Ae c.aY (fI c k) (lV c k).write=some (mM c k):=by rw[U,ajJ];exact R9 _ E O L
 have Z:W6 (c.now-(lV c k).at_)=c.now-(lV c k).at_:=aR;unfold PY xI cc;rw[az ⟨by omega,by omega⟩];simp only[bu,Dh];rw[az ⟨by omega,by omega⟩];simp only[yj C,(Sx J.1 E Q),au,qe];unfold jV;cases gY c k with
 |false=>rfl
 | true=>
  simp only[bB,aq,cr];cases n9 c (fI c k).ax with
  |true=>rfl
  | false=>
   rw[aq,az ⟨by omega,by omega⟩,Y,au,R8 h.p (akp h C),au];cases dj c (mM c k)with
   |false=>rfl
   | true=>
    simp only[bB,gU,aq,cr,ZV _ _ (show c.pending.length<=1048576 by omega),au,akH h,Z];have BY:(c.pending.any λa=>a.ax==(fI c k).ax)=Mp c (fI c k).ax:=rfl;have hyg:decide (c.now-(lV c k).at_ >= c.box.bU.cap) = !Sw c k:=by
     unfold Sw;by_cases I:c.now-(lV c k).at_<c.box.bU.cap
     ·rw[aP I,aW];rfl
     ·rw[aW I,aP];rfl
    rw[BY,hyg];by_cases D:(mM c k).kind=1
    ·have k4:((mM c k).kind==(4:Int))=false:=by rw[D];rfl
     have k4':((mM c k).kind != (4:Int))=true:=by rw[D];rfl
     have D:((mM c k).kind==(1:Int))=true:=by rw[D];rfl
     rw[D,k4,k4'];cases Mp c (fI c k).ax<;>rfl
    ·have D:((mM c k).kind==(1:Int))=false:=by simpa using D
     rw[D,bne];cases (mM c k).kind==(4:Int)with
     |false=>rfl
     | true=>
      cases Mp c (fI c k).ax with
      |true=>rfl
      | false=>
       simp only[Bool.false_or,bB,ak,aq,cr,gU];refine(az (⟨by omega,C⟩:0<=(k:Int)/\k<c.queue.length)).trans ?_;cases Sw c k with
       |false=>rw[Bool.and_false];rfl
       |true=>rw[Bool.and_true];exact akH h _
def aAJ{c:av}(h:Pq c):P0 c=some (AY c):=by
 have hq:=h.ql;have O:=v7 h;have Gf:=uN c;obtain⟨l,hl⟩:=akF h;have hb:=akG c;have e:=cL (step:=JY) c.queue.length (λi=>((c,(),(),(),(),(),(),(i:Int),()),(((0:Int),(0:Int),(0:Int),(0:Int),()),fm c,(List.range c.queue.length).map (gY c),(List.range i).map (jV c),(List.range i).map (dX c),q7 c i,()))) (.inl ((c,(),(),(),(),(),()),(((0:Int),(0:Int),(0:Int),(0:Int),()),fm c,(List.range c.queue.length).map (jV c),(List.range c.queue.length).map (dX c),q7 c c.queue.length,()))) aS (λk C=>by
  obtain⟨T,E,I,U,Y,Q⟩:=Di h C;obtain⟨q1,Z,q3⟩:=h.q _ (cO C);rw[qe C]at Z;have hwl:=Sz c k;have hh:=ajL (r:=c.aY) (a:=fI c k) Q E I O;have iH:dX c k=vY c.aY (fI c k):=rfl;have hwt:q7 c (k+1)=bif jV c k then (q7 c k).set (lV c k).dB.toNat true else q7 c k:=rfl;unfold JY aA xG xI xL;dsimp only;simp only[dh,cY,iz];rw[aP,ak,aAI h C,au,cP,ak,az ⟨by omega,by omega⟩,az];simp only[bu,Dh];rw[hh,au,ak,bI,List.range_succ,lZ,lZ,List.map_singleton,List.map_singleton,iH,hwt];cases jV c k with
  |false=>rfl
  | true=>
   rw[ak,az ⟨by omega,by omega⟩];simp only[qe];rw[az ⟨by omega,by omega⟩,az];rfl) (by
  unfold JY aA xG xI xL;dsimp only;rw[aW,aq]) (bM)
 have J:=cL (step:=JZ) c.queue.length (λi=>((c,(),(),(),(),oY c,(i:Int),()),(((0:Int),(0:Int),(0:Int),(0:Int),()),fm c,sr (oa c (oY c)) (jV c) c.queue.length i,(List.range c.queue.length).map (dX c),()))) (.inl ((c,(),(),(),(),()),(((0:Int),(0:Int),(0:Int),(0:Int),()),fm c,(List.range c.queue.length).map (oa c (oY c)),(List.range c.queue.length).map (dX c),()))) aS (λk C=>by
  have D:=SA (oa c (oY c)) (jV c) c.queue.length k;have ht:oa c (oY c) k=(jV c k&&(lV c k).dB==oY c):=rfl;rw[<-akE C,ht];unfold JZ aA xG xI xL;dsimp only;rw[aP,ak,az ⟨by omega,by omega⟩,az,bI];simp only[bu,akD];cases jV c k with
  |false=>rw[aq,az ⟨by omega,by omega⟩,az];rfl
  | true=>
   rw[ak,az ⟨by omega,by omega⟩];simp only[qe];rw[az ⟨by omega,by omega⟩,az];rfl) (by
  unfold JZ aA xG xI xL;dsimp only;rw[aW,aq,akC]) (bM)
 rw[bT]at e J;rw[akB]at J;unfold P0 xI bw xL;rw[akb h,au,az3 h,au,br (by decide)]
 refine(bF (λo=>Option.bind o _) e).trans ?_
 rw[au];simp only[dY];rw[ajF _ _ (by have:=h.shl;omega),hl,au]
 refine(bF (λo=>Option.bind o _) J).trans ?_
 rw[au];simp only[dY];rw[aAG h,au];show (bif decide (oZ c<0)then _ else _)=_;unfold AY;by_cases L:oZ c<0
 ·rw[aP L];rfl
 ·have D:(oZ c).toNat<c.queue.length:=by omega
  obtain⟨T,E,I,U,Y,Q⟩:=Di h D;rw[aW L,aq,aq];have nL:¬ tG (mN c) (dX c) (oa c (oY c)) c.queue.length<0:=L;have azk:(tG (mN c) (dX c) (oa c (oY c)) c.queue.length).toNat<c.queue.length:=D;rw[az ⟨by omega,by omega⟩,az];simp only[Dh];rw[az ⟨by omega,by omega⟩];simp only[qe];have IF:(lV c (oZ c).toNat).write=qZ c.queue (oZ c).toNat:=by rw[Dg D,qe D]
  show (Ae c.aY (fI c (oZ c).toNat) (lV c (oZ c).toNat).write).bind _=_;rw[IF,ajJ,R9 _ E I O,au];rfl
def SB{α:Type}(p:α->Bool)(l:aa α):(c9 p l=l.length/\l.find? p=none)\/∃ h:c9 p l<l.length,l.find? p=some l[c9 p l]:=by
 have E:=uE p l;rcases Nat.lt_or_ge (c9 p l) l.length with h|h
 ·refine .inr ⟨h,?_⟩;rw[List.find?_eq_some_iff_getElem]
  refine⟨qY h,_,h,rfl,λj C=>?_⟩
  rw[ny C (by omega)];rfl
 ·refine .inl ⟨by omega,?_⟩;rw[List.find?_eq_none];intro x D;obtain⟨j,C,rfl⟩:=ju.1 D;rw[ny (p:=p) (i:=j) (by omega) C];simp
def Mr(c:av)(l:aa aH):aH×Bool:=match l.find? (dj c)with
 |some x=>(x,true)
 |none=>(we,false)
def akI{c:av}(h:Pq c){l:aa aH}(hl:l.length<=1000)(I:∀ x∈l,dP c.config.ay x=true):JO c l=some (Mr c l):=by
 have hi:=uE (dj c) l;have kZ:∀ (k:Nat) (C:k<l.length),Cw ((c,l,(),(k:Int),()),(((0:Int),(0:Int),(0:Int),(0:Int),()),()))=some (bif dj c l[k]then .inr (.inl (((),true,()),((l[k].kind,l[k].ax,l[k].row,l[k].bR,()),())))else .inl ((c,l,(),((k+1:Nat):Int),()),(((0:Int),(0:Int),(0:Int),(0:Int),()),()))):=by
  intro k C;unfold Cw aA bq xG xI;dsimp only;rw[aP,ak,az ⟨by omega,by omega⟩];simp only[bu];rw[R8 h.p (I _ (cO C)),au];cases dj c l[k]with
  |false=>rw[aq,bI];rfl
  |true=>rw[ak,az ⟨by omega,C⟩];rfl
 unfold JO Mr cc;rcases SB (dj c) l with ⟨D,E⟩|⟨D,E⟩
 ·have e:=cL (step:=Cw) l.length (λk=>((c,l,(),(k:Int),()),(((0:Int),(0:Int),(0:Int),(0:Int),()),()))) (.inr (.inl (((),()),(((0:Int),(0:Int),(0:Int),(0:Int),()),())))) aS (λk C=>by
   rw[kZ k C,ny (p:=dj c) (i:=k) (by omega) C];rfl) (by
   unfold Cw aA bq xG xI;dsimp only;rw[aW,aq]) (bM)
  rw[bT]at e
  refine(bF (λo=>Option.bind o _) e).trans ?_
  rw[E];rfl
 ·have e:=cL (step:=Cw) (c9 (dj c) l) (λk=>((c,l,(),(k:Int),()),(((0:Int),(0:Int),(0:Int),(0:Int),()),()))) (.inl (((),true,()),((l[c9 (dj c) l].kind,l[c9 (dj c) l].ax,l[c9 (dj c) l].row,l[c9 (dj c) l].bR,()),()))) aS (λk C=>by
   rw[kZ k (by omega),ny (p:=dj c) (i:=k) C (by omega)];rfl) (by
   rw[kZ _ D,qY D];rfl) (bM)
  rw[bT]at e
  refine(bF (λo=>Option.bind o _) e).trans ?_
  rw[E];rfl
def AZ(c:av)(b:Int)(x:aH):aH:=bif (js c.aY b).open_ then ⟨4,b,0,0⟩else x
def ZW{c:av}{b:Int}(x:aH)(C:0<=b)(h:b.toNat<c.aY.aC.length):Ay c b x=some (AZ c b x):=by
 unfold Ay AZ xI;rw[az ⟨C,h⟩,AQ h];dsimp only;cases c.aY.aC[b.toNat].open_<;>rfl
def ZX{c:av}(x:aH)(C:0<=x.ax)(h:x.ax.toNat<c.aY.aC.length):E5 c x=some (AZ c x.ax x):=by
 unfold E5 AZ xI;rw[az ⟨C,h⟩,AQ h];dsimp only;cases c.aY.aC[x.ax.toNat].open_<;>rfl
def SC{c:av}{b:Int}{x:aH}(h:Pq c)(C:0<=b/\b<aT c.config.ay)(D:dP c.config.ay x=true):dP c.config.ay (AZ c b x)=true:=by
 unfold AZ;cases (js c.aY b).open_ with
 |false=>exact D
 |true=>exact AR h.p.R.tw (.inl rfl) C
def gS(c:av)(b:Int):aH:=AZ c b ⟨5,b,0,0⟩
def nB(c:av)(i:Nat):aL:=c.pending.getD i zA
def ZY{c:av}{i:Nat}(h:i<c.pending.length):c.pending[i]=nB c i:=by
 unfold nB;rw[en,bO h];rfl
def qf(c:av)(i:Nat):Bool:=!n9 c (nB c i).ax && !((c.pending.take i).any λa=>a.ax==(nB c i).ax)
def jW(c:av)(i:Nat):aH:=AZ c (nB c i).ax ⟨1,(nB c i).ax,(nB c i).row,0⟩
def q8(c:av):aa aH:=(cC 0 c.aQ.aJ).map (gS c)
def su(c:av)(k:Nat):aa aH:=((List.range k).filter (qf c)).map (jW c)
def ZZ{c:av}(h:Pq c){i:Nat}(hi:i<c.pending.length):dL c.config.ay (nB c i)=true/\0<=(nB c i).ax/\(nB c i).ax.toNat<c.aY.aC.length/\(nB c i).ax.toNat<c.aQ.aJ.length/\(nB c i).ax<aT c.config.ay:=by
 have C:=h.pe _ (cO hi);rw[ZY hi]at C;obtain⟨_,D,E,I,J,L,O⟩:=r6 C;have:=h.p.bl;have:=h.dl;exact⟨C,D,by omega,by omega,E⟩
def akJ{c:av}(h:Pq c){b:Int}(hb:b∈cC 0 c.aQ.aJ):(0<=b/\b<aT c.config.ay)/\dP c.config.ay (gS c b)=true:=by
 obtain⟨j,rfl,C,_⟩:=ajB hb;have:=h.dl;have hb:0<=((0+j:Nat):Int)/\((0+j:Nat):Int)<aT c.config.ay:=by omega
 exact⟨hb,SC h hb (AR h.p.R.tw (.inr rfl) hb)⟩
def akK{c:av}(h:Pq c){i:Nat}(hi:i<c.pending.length):dP c.config.ay (jW c i)=true:=by
 obtain⟨C,D,I,J,E⟩:=ZZ h hi;exact SC h ⟨D,E⟩ (azp C)
def akL(c:av)(k:Nat):(su c k).length<=k:=by
 unfold su;rw[dh];have:=List.length_filter_le (qf c) (List.range k);rw[cY]at this;exact this
def aAK{c:av}(h:Pq c):PT c=some (q8 c++su c c.pending.length):=by
 have E:=n7 h.rf;have uX:=h.pl;have hdn:=h.dl;have SD:=h.p.bl;have ul:=De 0 c.aQ.aJ;have e:=cL (step:=JP) c.aQ.aJ.length (λi=>((c,(),(i:Int),()),((cC 0 (c.aQ.aJ.take i)).map (gS c),()))) (.inl ((c,(),()),(q8 c,()))) aS (λk C=>by
  have J:=De 0 (c.aQ.aJ.take k);rw[fF]at J;have L:=(Sx (c:=c) (b:=(k:Int)) E.1 (by omega) (by omega))
  have O:n9 c (k:Int)=decide (c.aQ.aJ[k] >= 4):=by
   unfold n9;rw[bu,en,bO C];rfl
  unfold JP aA xG;dsimp only;rw[aP,ak,L,au,bI,Zv C,O];cases decide (c.aQ.aJ[k] >= 4)with
  |false=>rfl
  | true=>
   rw[ak,ak,ZX _ (by show 0<=(k:Int);omega) (by show (k:Int).toNat<_;omega),au,dh,iz,cP,ak,lZ];rfl) (by
  unfold JP aA xG;dsimp only;rw[aW,aq,iA];rfl) (bM)
 have D:=cL (step:=JQ) c.pending.length (λi=>((c,(),(i:Int),()),(q8 c++su c i,()))) (.inl (((),()),(q8 c++su c c.pending.length,()))) aS (λk C=>by
  obtain⟨ho,I,Q,T,o4⟩:=ZZ h C;have hpk:=akL c k;have hul:(q8 c).length<=8:=by unfold q8;rw[dh];omega
  have U:su c (k+1)=su c k++(bif qf c k then [jW c k]else []):=by
   unfold su;rw[List.range_succ,List.filter_append,lZ];cases Y:qf c k<;>simp[Y]
  rw[U];unfold JQ aA xG xI;dsimp only;rw[aP,ak,az ⟨by omega,by omega⟩,bI];simp only[bu,ZY,(Sx E.1 I T),au,Int.toNat_zero,List.drop_zero];unfold qf;cases n9 c (nB c k).ax with
  |true=>rw[bB,aq,jJ,aq,List.append_nil]
  | false=>
   rw[gU,ak,br ⟨by omega,by omega,by omega⟩,ZV _ _ (by rw[fF];omega),au,cr];cases (c.pending.take k).any λa=>a.ax==(nB c k).ax with
   |true=>rw[bB,aq,aq,List.append_nil]
   | false=>
    rw[gU,ak,ak,ZX _ I Q,au,o8,iz,cP,ak,List.append_assoc];rfl) (by
  unfold JQ aA xG xI;dsimp only;rw[aW,aq]) (bM)
 rw[bT]at e D;unfold PT bw
 refine(bF (λo=>Option.bind o _) e).trans ?_
 rw[au];have Z:q8 c++su c 0=q8 c:=List.append_nil _;rw[Z]at D
 refine(bF (λo=>Option.bind o _) D).trans ?_
 rfl
def uR(u:Bool)(l:aa Int)(idle:Nat->Bool)(i:Nat):Bool:=bif u then decide (l.getD i 0 >= 4)else decide (l.getD i 0 > 0)&&idle i
def A0(r:cZ)(idle:Nat->Bool):Int:=gX (uR (decide (((cC 0 r.aJ).length:Int) > 0)) r.aJ idle) (λi=>r.aJ.getD i 0) r.aJ.length
def Z0(r:cZ)(idle:Nat->Bool):-1<=A0 r idle/\A0 r idle<r.aJ.length:=vX _ _ _
def aAL{r:cZ}(D:eF r=true)(idle:Nat->Bool):LA r ((List.range r.aJ.length).map idle)=some (A0 r idle):=by
 have hl:=n7 D;unfold LA bw;rw[LS _ (by omega),au,D,bB,aq,Zw D,au];generalize L:decide (((cC 0 r.aJ).length:Int) > 0)=u;have e:=cL (step:=Lz) r.aJ.length (λi=>(((List.range r.aJ.length).map idle,(),u,gX (uR u r.aJ idle) (λi=>r.aJ.getD i 0) i,r.aJ,(r.aJ.length:Int),(i:Int),()),((r.aJ,r.wait,r.dN,()),()))) (.inl ((gX (uR u r.aJ idle) (λi=>r.aJ.getD i 0) r.aJ.length,()),())) aS (λk E=>by
  have hb:=vX (uR u r.aJ idle) (λi=>r.aJ.getD i 0) k;rw[F8];generalize gX (uR u r.aJ idle) (λi=>r.aJ.getD i 0) k=C at hb;have O:r.aJ.getD k 0=r.aJ[k]:=by rw[en,bO E];rfl
  unfold Lz AN uR aA xG xI;dsimp only;rw[aP,ak,az ⟨by omega,by omega⟩];simp only[bu,O,dh,cY];rw[bI,aP (by omega:(k:Int)<(r.aJ.length:Int)),ak,az ⟨by omega,by omega⟩];simp only[yj E];by_cases I:C<0
  ·rw[aP I,Bool.true_or];cases u<;>cases decide (r.aJ[k] > 0)<;>cases decide (r.aJ[k] >= 4)<;>cases idle k<;>rfl
  ·have J:C.toNat<r.aJ.length:=by omega
   have Q:r.aJ.getD C.toNat 0=r.aJ[C.toNat]:=by rw[en,bO J];rfl
   have T:0<=C/\C.toNat<r.aJ.length:=⟨by omega,J⟩
   rw[aW I,Bool.false_or,Q];simp only[az T,aq];cases u<;>cases decide (r.aJ[k] > 0)<;>cases decide (r.aJ[k] >= 4)<;>cases idle k<;>cases decide (r.aJ[k] > r.aJ[C.toNat])<;>rfl) (by
  unfold Lz aA xG xI;dsimp only;rw[aW,aq]) (bM)
 rw[bT]at e
 refine(bF (λo=>Option.bind o _) e).trans ?_
 unfold A0;rw[L];rfl
def aAM{r:cZ}(D:eF r=true)(idle:Nat->Bool):P1 r ((List.range r.aJ.length).map idle)=some (A0 r idle):=by
 have hl:=n7 D;unfold P1 bw;rw[RL _ (by omega),au,D,bB,aq,ajC D,au];generalize L:decide (((cC 0 r.aJ).length:Int) > 0)=u;have e:=cL (step:=J0) r.aJ.length (λi=>(((List.range r.aJ.length).map idle,(),u,gX (uR u r.aJ idle) (λi=>r.aJ.getD i 0) i,(i:Int),()),((r.aJ,r.wait,r.dN,()),()))) (.inl ((gX (uR u r.aJ idle) (λi=>r.aJ.getD i 0) r.aJ.length,()),())) aS (λk E=>by
  have hb:=vX (uR u r.aJ idle) (λi=>r.aJ.getD i 0) k;rw[F8];generalize gX (uR u r.aJ idle) (λi=>r.aJ.getD i 0) k=C at hb;have O:r.aJ.getD k 0=r.aJ[k]:=by rw[en,bO E];rfl
  have Q:0<=(k:Int)/\k<r.aJ.length:=⟨by omega,E⟩
  unfold J0 AN uR aA xG xI;dsimp only;rw[aP,ak,az ⟨by omega,by omega⟩];simp only[bu,O,dh,cY,az Q];rw[bI,aP (by omega:(k:Int)<(r.aJ.length:Int)),ak];simp only[yj E];by_cases I:C<0
  ·rw[aP I,Bool.true_or];cases u<;>cases decide (r.aJ[k] > 0)<;>cases decide (r.aJ[k] >= 4)<;>cases idle k<;>rfl
  ·have J:C.toNat<r.aJ.length:=by omega
   have T:r.aJ.getD C.toNat 0=r.aJ[C.toNat]:=by rw[en,bO J];rfl
   have U:0<=C/\C.toNat<r.aJ.length:=⟨by omega,J⟩
   rw[aW I,Bool.false_or,T];simp only[az U,aq];cases u<;>cases decide (r.aJ[k] > 0)<;>cases decide (r.aJ[k] >= 4)<;>cases idle k<;>cases decide (r.aJ[k] > r.aJ[C.toNat])<;>rfl) (by
  unfold J0 aA xG xI;dsimp only;rw[aW,aq]) (bM)
 rw[bT]at e
 refine(bF (λo=>Option.bind o _) e).trans ?_
 unfold A0;rw[L];rfl
def nD(w:aa aL)(r:cM)(b:Nat):Bool:=w.any λa=>a.ax==(b:Int)&&a.row==(js r (b:Int)).row
def sv(w:aa aL)(r:cM)(b:Nat):Bool:=(js r (b:Int)).open_ && !nD w r b
def ym(r:cM)(eP:Int)(w:aa aL):Int:=bif eP != 1 then -1 else fK (sv w r) r.aC.length
def Z1(r:cM)(eP:Int)(w:aa aL):-1<=ym r eP w/\ym r eP w<r.aC.length:=by
 unfold ym;cases eP != 1 with
 |true=>rw[ak];omega
 | false=>
  rw[aq];rcases uQ (sv w r) r.aC.length with ⟨C,_⟩|⟨j,C,D,_⟩<;>omega
def aAN{w:aa aL}{r:cM}{L:aa Int}{b:Nat}{i n:Int}(hb:b<r.aC.length)(hl:r.aC.length<=1048576)(D:w.length<=1000):iter FW aS ((w,(),(b:Int),false,(),n,i,w,(w.length:Int),(0:Int),()),((r.aC,r.bh,()),L,()))=some (.inl ((w,(),(b:Int),nD w r b,(),n,i,()),((r.aC,r.bh,()),L,()))):=by
 have e:=cL (step:=FW) w.length (λk=>((w,(),(b:Int),((w.take k).any λa=>a.ax==(b:Int)&&a.row==(js r (b:Int)).row),(),n,i,w,(w.length:Int),(k:Int),()),((r.aC,r.bh,()),L,()))) (.inl ((w,(),(b:Int),nD w r b,(),n,i,()),((r.aC,r.bh,()),L,()))) aS (λk C=>by
  rw[p7 C,List.any_append,List.any_cons,List.any_nil,Bool.or_false,AQ (by rw[bu];exact hb)];unfold FW aA xG xI;dsimp only;rw[aP,ak,az ⟨by omega,by omega⟩,bI];simp only[bu];cases (w.take k).any λa=>a.ax==(b:Int)&&a.row==r.aC[b].row with
  |true=>rfl
  | false=>
   rw[aq,Bool.false_or];cases w[k].ax==(b:Int)with
   |false=>rfl
   |true=>rw[ak,az ⟨by omega,hb⟩,cr]) (by
  unfold FW aA xG xI;dsimp only;rw[aW,aq,iA];rfl) (bM)
 rw[bT]at e;exact e
def aAO{w:aa aL}{r:cM}{b:Nat}(hb:b<r.aC.length)(hl:r.aC.length<=1048576)(D:w.length<=1000)(o:Bool):iter Fa aS ((w,(),(b:Int),o,(0:Int),()),((r.aC,r.bh,()),()))=some (.inl ((w,(),(b:Int),o || nD w r b,()),((r.aC,r.bh,()),()))):=by
 have e:=cL (step:=Fa) w.length (λk=>((w,(),(b:Int),o || ((w.take k).any λa=>a.ax==(b:Int)&&a.row==(js r (b:Int)).row),(k:Int),()),((r.aC,r.bh,()),()))) (.inl ((w,(),(b:Int),o || nD w r b,()),((r.aC,r.bh,()),()))) aS (λk C=>by
  rw[p7 C,List.any_append,List.any_cons,List.any_nil,Bool.or_false,AQ (by rw[bu];exact hb)];unfold Fa aA xG xI;dsimp only;rw[aP,ak,az ⟨by omega,by omega⟩,bI];simp only[bu];cases w[k].ax==(b:Int)with
  |false=>rw[aq,jJ,Bool.or_false]
  | true=>
   rw[ak,az ⟨by omega,C⟩,az ⟨by omega,hb⟩,cr];cases w[k].row==r.aC[b].row with
   |false=>rw[aq,Bool.or_false]
   |true=>rw[ak,Bool.or_true,Bool.or_true]) (by
  unfold Fa aA xG xI;dsimp only;rw[aW,aq,iA];rfl) (bM)
 rw[bT,List.take_zero,List.any_nil,Bool.or_false]at e;exact e
def akM(w:aa aL)(r:cM):∀ k,k<=r.aC.length->(opens 0 (r.aC.take k)).find? (λb=>!nD w r b.toNat)=bif decide (fK (sv w r) k<0)then none else some (fK (sv w r) k)
 |0,_=>rfl
 | k+1,L=>by
  have E:=akM w r k (by omega);have hb:(js r (k:Int)).open_=r.aC[k].open_:=by rw[AQ (by rw[bu];omega)];simp only[bu]
  have I:sv w r k=(r.aC[k].open_ && !nD w r k):=by unfold sv;rw[hb]
  rw[p7 (show k<r.aC.length by omega),YH,fF,Nat.min_eq_left (by omega),fo,List.find?_append,E,Dk,I];have J:opens k [r.aC[k]]=bif r.aC[k].open_ then [(k:Int)]else []:=rfl;rw[J];by_cases C:fK (sv w r) k<0
  ·rw[aP C,ak,cr];cases r.aC[k].open_ with
   |false=>rw[aq,jJ,aq,aP C];rfl
   | true=>
    rw[ak,cr];cases D:nD w r k with
    |true=>rw[bB,aq,aP C];simp[D]
    |false=>rw[gU,ak,aW];simp[D]
  ·rw[aW C,aq,jJ,aq,aW C];rfl
def akN(i:Nat)(l:aa fC)(x:Int)(h:x∈opens i l):∃ j:Nat,j<l.length/\x=((i+j:Nat):Int):=by
 induction l generalizing i with
 |nil=>cases h
 | cons d l D=>
  have e:opens i (d :: l)=bif d.open_ then (i:Int) :: opens (i+1) l else opens (i+1) l:=rfl;rw[e]at h;have tl:x∈opens (i+1) l->∃ j:Nat,j<(d :: l).length/\x=((i+j:Nat):Int):=λh=>by
   obtain⟨j,E,I⟩:=D _ h;exact⟨j+1,by simpa using E,by rw[I];congr 1;omega⟩
  cases C:d.open_ with
  |false=>rw[C]at h;exact tl h
  | true=>
   rw[C,ak]at h;rcases fQ.1 h with rfl|h
   ·exact⟨0,by simp,rfl⟩
   ·exact tl h
def aAP{r:cM}(eP:Int){w:aa aL}(hl:r.aC.length<=1048576)(O:w.length<=1000):LB r eP w=some (ym r eP w):=by
 unfold LB ym cc;cases eP != 1 with
 |true=>rfl
 | false=>
  rw[aq,aq,Ru r (by omega),au];have C:=akM w r r.aC.length (eB _);rw[iA]at C;have U:=Rt 0 r.aC;have Q:=akN 0 r.aC;generalize Y:opens 0 r.aC=L at *
  have hi:=uE (λb:Int=>!nD w r b.toNat) L;have kZ:∀ (k:Nat) (D:k<L.length),CR ((w,(),(),(L.length:Int),(k:Int),()),((r.aC,r.bh,()),L,()))=some (bif !nD w r L[k].toNat then .inr (.inl ((L[k],()),()))else .inl ((w,(),(),(L.length:Int),((k+1:Nat):Int),()),((r.aC,r.bh,()),L,()))):=by
   intro k D;obtain⟨j,I,E⟩:=Q _ (cO D);rw[fo]at E;unfold CR aA bq xG bw xL;dsimp only;rw[aP,ak,az ⟨by omega,by omega⟩,az];simp only[bu,E];rw[aAN I hl O,au];simp only[dY];rw[bI];cases nD w r j<;>rfl
  rcases SB (λb:Int=>!nD w r b.toNat) L with ⟨I,E⟩|⟨I,E⟩
  ·have e:=cL (step:=CR) L.length (λk=>((w,(),(),(L.length:Int),(k:Int),()),((r.aC,r.bh,()),L,()))) (.inr (.inl ((),()))) aS (λk D=>by
    have:=ny (p:=λb:Int=>!nD w r b.toNat) (q:=L) (i:=k) (by omega) D;rw[kZ k D,this];rfl) (by
    unfold CR aA bq xG bw xL;dsimp only;rw[aW,aq]) (bM)
   rw[bT]at e
   refine(bF (λo=>Option.bind o _) e).trans ?_
   rw[E]at C;by_cases J:fK (sv w r) r.aC.length<0
   ·rcases uQ (sv w r) r.aC.length with ⟨T,_⟩ | ⟨j,_,Z,_⟩
    ·rw[T];rfl
    ·omega
   ·rw[aW J]at C;cases C
  ·have e:=cL (step:=CR) (c9 (λb:Int=>!nD w r b.toNat) L) (λk=>((w,(),(),(L.length:Int),(k:Int),()),((r.aC,r.bh,()),L,()))) (.inl ((L[c9 (λb:Int=>!nD w r b.toNat) L],()),())) aS (λk D=>by
    have:=ny (p:=λb:Int=>!nD w r b.toNat) (q:=L) (i:=k) D (by omega);rw[kZ k (by omega),this];rfl) (by
    have:=qY (p:=λb:Int=>!nD w r b.toNat) (q:=L) I;rw[kZ _ I,this];rfl) (bM)
   rw[bT]at e
   refine(bF (λo=>Option.bind o _) e).trans ?_
   rw[E]at C;by_cases J:fK (sv w r) r.aC.length<0
   ·rw[aP J]at C;cases C
   ·rw[aW J]at C;injection C with C;rw[au,C];rfl
def aAQ{r:cM}(eP:Int){w:aa aL}(hl:r.aC.length<=1048576)(I:w.length<=1000):P2 r eP w=some (ym r eP w):=by
 unfold P2 ym cc;cases eP != 1 with
 |true=>rfl
 | false=>
  rw[aq,aq];have kZ:∀ (k:Nat) (C:k<r.aC.length),Cz ((w,(),(k:Int),()),((r.aC,r.bh,()),()))=some (bif sv w r k then .inr (.inl (((k:Int),()),()))else .inl ((w,(),((k+1:Nat):Int),()),((r.aC,r.bh,()),()))):=by
   intro k C;have hb:(js r (k:Int)).open_=r.aC[k].open_:=by rw[AQ (by rw[bu];omega)];simp only[bu]
   unfold Cz sv aA bq xG xI bw;dsimp only;rw[aP,ak,az ⟨by omega,by omega⟩,hb];simp only[bu];rw[aAO C hl I,au];simp only[dY];rw[bI];cases r.aC[k].open_<;>cases nD w r k<;>rfl
  rcases uQ (sv w r) r.aC.length with ⟨D,E⟩|⟨j,D,E,J,L⟩
  ·have e:=cL (step:=Cz) r.aC.length (λk=>((w,(),(k:Int),()),((r.aC,r.bh,()),()))) (.inr (.inl ((),()))) aS (λk C=>by
    rw[kZ k C,E k C];rfl) (by
    unfold Cz aA bq xG xI bw;dsimp only;rw[aW,aq]) (bM)
   rw[bT]at e
   refine(bF (λo=>Option.bind o _) e).trans ?_
   rw[D];rfl
  ·have e:=cL (step:=Cz) j (λk=>((w,(),(k:Int),()),((r.aC,r.bh,()),()))) (.inl (((j:Int),()),())) aS (λk C=>by
    rw[kZ k (by omega),L k C];rfl) (by
    rw[kZ j D,J];rfl) (bM)
   rw[bT]at e
   refine(bF (λo=>Option.bind o _) e).trans ?_
   rw[E];rfl
def cG(c:av):Int:=uI c.box.bU.eA c.bh (uH c)
def A1(c:av)(i:Nat):Bool:=!((fm c).any λa=>a.ax==(i:Int))
def fZ(c:av):Int:=A0 c.aQ (A1 c)
def gZ(c:av):Int:=ym c.aY c.box.bU.eP (fm c)
def yo(c:av):aa aH:=bif decide (fZ c >= 0) && !n9 c (fZ c)then [gS c (fZ c)]else []
def tH(c:av):aa aH:=bif decide (gZ c >= 0)then [⟨4,gZ c,0,0⟩]else []
def o6(c:av):aa aH:=bif cG c==8&&decide (((opens 0 c.aY.aC).length:Int) > 0)then [⟨4,(opens 0 c.aY.aC).headD 0,0,0⟩]else bif cG c != 0 then [⟨cG c,0,0,0⟩]else []
def tJ(c:av)(l:aa aH):aH:=(l.find? (dj c)).getD we
def fnd_nil(c:av):tJ c []=we:=rfl
def fnd_cons(c:av)(x:aH)(l:aa aH):tJ c (x :: l)=bif dj c x then x else tJ c l:=by
 unfold tJ;rw[List.find?_cons];cases dj c x<;>rfl
def SE(c:av)(w:Int):aj aH:=
 let D:Int->Int->Int->Int->aj (aH):=λE I J L=>(let O:Bool->aj (aH):=λQ=>bif Q then some (⟨E,I,J,L⟩:aH)else some (⟨(0:Int),(0:Int),(0:Int),(0:Int)⟩:aH);bif (E != (0:Int))then (jd c (⟨E,I,J,L⟩:aH)).bind λT=>(O T)else (O false));bif (w==(8:Int))then (Aq c.aY).bind λC=>bif (decide ((C.length:Int) > (0:Int)))then if Z:0<=(0:Int)/\(0:Int).toNat<C.length then if U:(0:Int).toNat<C.length then (let Y:=C[(0:Int).toNat]'U;(D (4:Int) Y (0:Int) (0:Int)))else none else none else (D w 0 0 0)else (D w 0 0 0)
def Dl(c:av)(D:aa aL)(w:Int):aj aH:=
 (LB c.aY c.box.bU.eP D).bind λC=>bif (C != (-1:Int))then (jd c (⟨(4:Int),C,(0:Int),(0:Int)⟩:aH)).bind λE=>bif E then some (⟨(4:Int),C,(0:Int),(0:Int)⟩:aH)else SE c w else SE c w
def Z2(c:av)(J:aa Int)(D:aa aL)(w:Int)(idle:aa Bool):aj aH:=
 (LA c.aQ idle).bind λC=>(let E:Bool->aj (aH):=λL=>bif L then (Ay c C (⟨(5:Int),C,(0:Int),(0:Int)⟩:aH)).bind λI=>(jd c I).bind λO=>bif O then some I else Dl c D w else Dl c D w;bif (C != (-1:Int))then (vJ J C).bind λQ=>(E (!Q))else (E false))
def SF(c:av):cG c=0\/6<=cG c/\cG c<=9:=azf _ _ _
def aAR(l:aa Int)(h:0<l.length):l.headD 0=l[0]:=by
 cases l with
 |nil=>cases h
 |cons x l=>rfl
def Z3(c:av)(h:Pq c)(C:0<(opens 0 c.aY.aC).length):(0<=(opens 0 c.aY.aC)[0]/\(opens 0 c.aY.aC)[0]<aT c.config.ay)/\(opens 0 c.aY.aC).headD 0=(opens 0 c.aY.aC)[0]:=by
 obtain⟨j,D,E⟩:=akN 0 _ _ (cO C);have:=h.p.bl;exact⟨by omega,aAR _ C⟩
def aAS{c:av}(h:Pq c):SE c (cG c)=some (tJ c (o6 c)):=by
 have Y:=v7 h;have Z:=SF c;have E:=h.p.R.tw;have L:cG c≠0->jd c ⟨cG c,0,0,0⟩=some (dj c ⟨cG c,0,0,0⟩):=λhn=>yd h.p (Sa E (by omega))
 have I:(bif (cG c != (0:Int))then (jd c (⟨cG c,0,0,0⟩:aH)).bind λO=>(bif O then some (⟨cG c,0,0,0⟩:aH)else some we)else some we)=some (tJ c (bif cG c != 0 then [⟨cG c,0,0,0⟩]else [])):=by
  by_cases C:cG c=0
  ·rw[C];rfl
  ·rw[fY C,ak,ak,L C,au,fnd_cons,fnd_nil];cases dj c ⟨cG c,0,0,0⟩<;>rfl
 unfold SE o6;dsimp only;by_cases J:cG c=8
 ·have Q:(cG c==8)=true:=by rw[J];rfl
  rw[Q,ak,Ru _ (by omega),au,cr];by_cases D:0<(opens 0 c.aY.aC).length
  ·obtain⟨T,U⟩:=Z3 c h D;rw[aP (by omega:((opens 0 c.aY.aC).length:Int) > 0),ak,ak,az ⟨by omega,D⟩,az (show Int.toNat 0<(opens 0 c.aY.aC).length from D),U];show (bif ((4:Int) != 0)then (jd c ⟨4,(opens 0 c.aY.aC)[0],0,0⟩).bind _ else _)=_;rw[yd h.p (AR E (.inl rfl) T),fnd_cons,fnd_nil];cases dj c ⟨4,(opens 0 c.aY.aC)[0],0,0⟩<;>rfl
  ·rw[aW (by omega:¬ ((opens 0 c.aY.aC).length:Int) > 0),aq,aq];exact I
 ·rw[fP J,aq,jJ,aq];exact I
def aAT{c:av}(h:Pq c):Dl c (fm c) (cG c)=some (tJ c (tH c++o6 c)):=by
 have C:=v7 h;have E:=h.ql;have I:=h.p.bl;have hb:-1<=gZ c/\gZ c<c.aY.aC.length:=Z1 _ _ _;unfold Dl tH;rw[aAP _ C (by rw[uN];omega),au];show (bif gZ c != -1 then (jd c ⟨4,gZ c,0,0⟩).bind _ else _)=_;rw[aAS h];by_cases D:gZ c >= 0
 ·rw[fY (by omega:¬ gZ c = -1),ak,aP D,ak,yd h.p (AR h.p.R.tw (.inl rfl) (by omega)),au,List.singleton_append,fnd_cons];cases dj c ⟨4,gZ c,0,0⟩<;>rfl
 ·rw[show gZ c = -1 by omega];rfl
def aAU{c:av}(h:Pq c):Z2 c (cC 0 c.aQ.aJ) (fm c) (cG c) ((List.range c.aQ.aJ.length).map (A1 c))=some (tJ c (yo c++(tH c++o6 c))):=by
 have Q:=v7 h;have I:=n7 h.rf;have T:=h.p.bl;have U:=h.dl;have hb:-1<=fZ c/\fZ c<c.aQ.aJ.length:=Z0 _ _;unfold Z2 yo;rw[aAL h.rf,au];show (bif fZ c != -1 then (vJ (cC 0 c.aQ.aJ) (fZ c)).bind λJ=>(bif !J then (Ay c (fZ c) ⟨5,fZ c,0,0⟩).bind λD=>(jd c D).bind λC=>bif C then some D else Dl c (fm c) (cG c)else Dl c (fm c) (cG c))else Dl c (fm c) (cG c))=_;rw[aAT h];by_cases L:fZ c >= 0
 ·have E:0<=fZ c/\fZ c<aT c.config.ay:=by omega
  rw[fY (by omega:¬ fZ c = -1),ak,aP L,cr,(ZP I.1 (by omega) (by omega)),au];cases n9 c (fZ c)with
  |true=>rfl
  | false=>
   have O:dP c.config.ay (gS c (fZ c))=true:=SC h E (AR h.p.R.tw (.inr rfl) E);rw[gU,ak,ak,ZW _ (by omega) (by omega),au];show ((jd c (gS c (fZ c))).bind λC=>bif C then some (gS c (fZ c))else _)=_;rw[yd h.p O,au,List.singleton_append,fnd_cons];cases dj c (gS c (fZ c))<;>rfl
 ·rw[show fZ c = -1 by omega];rfl
def aAV{c:av}(h:Pq c):LD c (cC 0 c.aQ.aJ) (fm c) ⟨cG c,0,0,0⟩=some (tJ c (yo c++(tH c++o6 c))):=by
 have D:=v7 h;have E:=h.ql;have I:=h.p.bl;have J:=h.dl;have L:=n7 h.rf;have C:c.aY.aC.length=c.aQ.aJ.length:=by omega
 have e:=cL (step:=LC) c.aY.aC.length (λi=>((cC 0 c.aQ.aJ,fm c,(),(),(),(),(c.aY.aC.length:Int),(i:Int),()),(c,(cG c,(0:Int),(0:Int),(0:Int),()),((0:Int),(0:Int),(0:Int),(0:Int),()),(List.range i).map (A1 c),()))) (.inl ((cC 0 c.aQ.aJ,fm c,(),(),(),(),()),(c,(cG c,(0:Int),(0:Int),(0:Int),()),((0:Int),(0:Int),(0:Int),(0:Int),()),(List.range c.aY.aC.length).map (A1 c),()))) aS (λk O=>by
  unfold LC aA xG;dsimp only;rw[aP,ak,ZD _ _ (by rw[uN];omega),au,dh,cY,iz,cP,ak,bI,List.range_succ,lZ];rfl) (by
  unfold LC aA xG;dsimp only;rw[aW,aq]) (bM)
 rw[bT]at e;unfold LD bw xL
 refine(bF (λo=>Option.bind o _) e).trans ?_
 rw[au,C];show Z2 c (cC 0 c.aQ.aJ) (fm c) (cG c) ((List.range c.aQ.aJ.length).map (A1 c))=_;exact aAU h
def aAW{c:av}(h:Pq c):(o6 c).length<=1/\∀ x∈o6 c,dP c.config.ay x=true:=by
 have Q:=SF c;have D:=h.p.R.tw;have E:(bif cG c != 0 then [(⟨cG c,0,0,0⟩:aH)]else []).length<=1/\∀ x∈(bif cG c != 0 then [(⟨cG c,0,0,0⟩:aH)]else []),dP c.config.ay x=true:=by
  by_cases I:cG c=0
  ·rw[I];exact⟨iO _,λx C=>by cases C⟩
  ·rw[fY I,ak];exact⟨eB _,λx C=>by rw[oe.1 C];exact Sa D (by omega)⟩
 unfold o6;cases cG c==8 with
 |false=>exact E
 | true=>
  by_cases J:0<(opens 0 c.aY.aC).length
  ·obtain⟨L,O⟩:=Z3 c h J;rw[aP (by omega:((opens 0 c.aY.aC).length:Int) > 0),O];exact⟨eB _,λx C=>by rw[oe.1 C];exact AR D (.inl rfl) L⟩
  ·rw[aW (by omega:¬ ((opens 0 c.aY.aC).length:Int) > 0)];exact E
def aAX{c:av}(h:Pq c):(tH c).length<=1/\∀ x∈tH c,dP c.config.ay x=true:=by
 have E:=h.p.bl;have hb:-1<=gZ c/\gZ c<c.aY.aC.length:=Z1 _ _ _;unfold tH;by_cases D:gZ c >= 0
 ·rw[aP D,ak];exact⟨eB _,λx C=>by rw[oe.1 C];exact AR h.p.R.tw (.inl rfl) (by omega)⟩
 ·rw[aW D,aq];exact⟨iO _,λx C=>by cases C⟩
def aAY{c:av}(h:Pq c):(yo c).length<=1/\∀ x∈yo c,dP c.config.ay x=true:=by
 have I:=h.dl;have hb:-1<=fZ c/\fZ c<c.aQ.aJ.length:=Z0 _ _;unfold yo;by_cases D:fZ c >= 0
 ·have E:0<=fZ c/\fZ c<aT c.config.ay:=by omega
  rw[aP D,cr];cases n9 c (fZ c)with
  |true=>exact⟨iO _,λx C=>by cases C⟩
  |false=>exact⟨eB _,λx C=>by rw[oe.1 C];exact SC h E (AR h.p.R.tw (.inr rfl) E)⟩
 ·rw[aW D,jJ,aq];exact⟨iO _,λx C=>by cases C⟩
def aAZ{c:av}(h:Pq c):P3 c (cG c)=some (yo c++(tH c++o6 c)):=by
 have Q:=v7 h;have hq:=h.ql;have SD:=h.p.bl;have hdn:=h.dl;have T:=n7 h.rf;have U:c.aY.aC.length=c.aQ.aJ.length:=by omega
 have vB:-1<=fZ c/\fZ c<c.aQ.aJ.length:=Z0 _ _;have gz:-1<=gZ c/\gZ c<c.aY.aC.length:=Z1 _ _ _;have hol:=Rt 0 c.aY.aC;have e:=cL (step:=J1) c.aY.aC.length (λi=>((c,cG c,(),(),(),(i:Int),()),(([]:aa aH),fm c,(List.range i).map (A1 c),()))) (.inl ((c,cG c,(),(),(),()),(([]:aa aH),fm c,(List.range c.aY.aC.length).map (A1 c),()))) aS (λk hk=>by
  unfold J1 aA xG;dsimp only;rw[aP,ak,ZV _ _ (by rw[uN];omega),au,dh,cY,iz,cP,ak,bI,List.range_succ,lZ];rfl) (by
  unfold J1 aA xG;dsimp only;rw[aW,aq]) (bM)
 rw[bT]at e;have D:∀l:aa aH,l.length<=5->bD (l.length+1)=true:=λl hl=>cP
 -- the end
 have tl:∀ l:aa aH,l.length<=5->(bif (cG c==(8:Int))then (bif (decide (((opens 0 c.aY.aC).length:Int) > (0:Int)))then (if I:0<=(0:Int)/\(0:Int).toNat<(opens 0 c.aY.aC).length then if C:(0:Int).toNat<(opens 0 c.aY.aC).length then (bif bD (l.length+([(⟨(4:Int),(opens 0 c.aY.aC)[(0:Int).toNat]'C,(0:Int),(0:Int)⟩:aH)]:aa aH).length)then some (l++([(⟨(4:Int),(opens 0 c.aY.aC)[(0:Int).toNat]'C,(0:Int),(0:Int)⟩:aH)]:aa aH))else none)else none else none)else (bif (cG c != (0:Int))then bif bD (l.length+([(⟨cG c,(0:Int),(0:Int),(0:Int)⟩:aH)]:aa aH).length)then some (l++([(⟨cG c,(0:Int),(0:Int),(0:Int)⟩:aH)]:aa aH))else none else some l))else (bif (cG c != (0:Int))then bif bD (l.length+([(⟨cG c,(0:Int),(0:Int),(0:Int)⟩:aH)]:aa aH).length)then some (l++([(⟨cG c,(0:Int),(0:Int),(0:Int)⟩:aH)]:aa aH))else none else some l))=some (l++o6 c):=by
  intro l hl;have z:(bif (cG c != (0:Int))then bif bD (l.length+([(⟨cG c,(0:Int),(0:Int),(0:Int)⟩:aH)]:aa aH).length)then some (l++([(⟨cG c,(0:Int),(0:Int),(0:Int)⟩:aH)]:aa aH))else none else some l)=some (l++(bif cG c != 0 then [(⟨cG c,0,0,0⟩:aH)]else [])):=by
   rw[iz,D l hl];cases cG c != 0 with
   |true=>rfl
   |false=>rw[aq,aq,List.append_nil]
  unfold o6;cases cG c==8 with
  |false=>exact z
  | true=>
   rw[ak,cr];by_cases E:0<(opens 0 c.aY.aC).length
   ·obtain⟨k1,Y⟩:=Z3 c h E;rw[aP (by omega:((opens 0 c.aY.aC).length:Int) > 0),ak,ak,az ⟨by omega,E⟩,az (show Int.toNat 0<(opens 0 c.aY.aC).length from E),iz,D l hl,ak,Y];rfl
   ·rw[aW (by omega:¬ ((opens 0 c.aY.aC).length:Int) > 0),aq,aq];exact z
 unfold P3 bw xL;rw[akb h,au]
 refine(bF (λo=>Option.bind o _) e).trans ?_
 rw[au,U];simp only[dY,aAM h.rf,au,aAQ _ Q (show (fm c).length<=1000 by rw[uN];omega),ai3 _ (show c.aY.aC.length<1073741823 by omega)];have er:A0 c.aQ (A1 c)=fZ c:=rfl;have Z:ym c.aY c.box.bU.eP (fm c)=gZ c:=rfl;rw[er,Z];have h1:∀ l:aa aH,l.length<=4->(bif decide (gZ c >= 0)then bif bD (l.length+([(⟨4,gZ c,0,0⟩:aH)]:aa aH).length)then some ((l++([(⟨4,gZ c,0,0⟩:aH)]:aa aH))++o6 c)else none else some (l++o6 c))=some (l++(tH c++o6 c)):=by
  intro l hl;unfold tH;rw[iz,D l (by omega)];cases decide (gZ c >= 0)with
  |true=>rw[ak,ak,List.append_assoc];rfl
  |false=>rfl
 have J:∀ l:aa aH,l.length<=1->(bif decide (gZ c >= 0)then bif bD (l.length+([(⟨4,gZ c,0,0⟩:aH)]:aa aH).length)then (bif (cG c==(8:Int))then (bif (decide (((opens 0 c.aY.aC).length:Int) > (0:Int)))then (if I:0<=(0:Int)/\(0:Int).toNat<(opens 0 c.aY.aC).length then if C:(0:Int).toNat<(opens 0 c.aY.aC).length then (bif bD ((l++([(⟨4,gZ c,0,0⟩:aH)]:aa aH)).length+([(⟨(4:Int),(opens 0 c.aY.aC)[(0:Int).toNat]'C,(0:Int),(0:Int)⟩:aH)]:aa aH).length)then some ((l++([(⟨4,gZ c,0,0⟩:aH)]:aa aH))++([(⟨(4:Int),(opens 0 c.aY.aC)[(0:Int).toNat]'C,(0:Int),(0:Int)⟩:aH)]:aa aH))else none)else none else none)else (bif (cG c != (0:Int))then bif bD ((l++([(⟨4,gZ c,0,0⟩:aH)]:aa aH)).length+([(⟨cG c,(0:Int),(0:Int),(0:Int)⟩:aH)]:aa aH).length)then some ((l++([(⟨4,gZ c,0,0⟩:aH)]:aa aH))++([(⟨cG c,(0:Int),(0:Int),(0:Int)⟩:aH)]:aa aH))else none else some (l++([(⟨4,gZ c,0,0⟩:aH)]:aa aH))))else (bif (cG c != (0:Int))then bif bD ((l++([(⟨4,gZ c,0,0⟩:aH)]:aa aH)).length+([(⟨cG c,(0:Int),(0:Int),(0:Int)⟩:aH)]:aa aH).length)then some ((l++([(⟨4,gZ c,0,0⟩:aH)]:aa aH))++([(⟨cG c,(0:Int),(0:Int),(0:Int)⟩:aH)]:aa aH))else none else some (l++([(⟨4,gZ c,0,0⟩:aH)]:aa aH))))else none else (bif (cG c==(8:Int))then (bif (decide (((opens 0 c.aY.aC).length:Int) > (0:Int)))then (if I:0<=(0:Int)/\(0:Int).toNat<(opens 0 c.aY.aC).length then if C:(0:Int).toNat<(opens 0 c.aY.aC).length then (bif bD (l.length+([(⟨(4:Int),(opens 0 c.aY.aC)[(0:Int).toNat]'C,(0:Int),(0:Int)⟩:aH)]:aa aH).length)then some (l++([(⟨(4:Int),(opens 0 c.aY.aC)[(0:Int).toNat]'C,(0:Int),(0:Int)⟩:aH)]:aa aH))else none)else none else none)else (bif (cG c != (0:Int))then bif bD (l.length+([(⟨cG c,(0:Int),(0:Int),(0:Int)⟩:aH)]:aa aH).length)then some (l++([(⟨cG c,(0:Int),(0:Int),(0:Int)⟩:aH)]:aa aH))else none else some l))else (bif (cG c != (0:Int))then bif bD (l.length+([(⟨cG c,(0:Int),(0:Int),(0:Int)⟩:aH)]:aa aH).length)then some (l++([(⟨cG c,(0:Int),(0:Int),(0:Int)⟩:aH)]:aa aH))else none else some l)))=some (l++(tH c++o6 c)):=by
  intro l hl;rw[tl _ (by rw[o8,iz];omega),tl _ (by omega)];exact h1 l (by omega)
 have L:=J [] (by simp);unfold yo;by_cases O:fZ c >= 0
 ·have hv:0<=fZ c/\fZ c<aT c.config.ay:=by omega
  rw[aP O,ak,cr,(Sx T.1 (by omega) (by omega)),au];cases n9 c (fZ c)with
  |true=>exact L
  | false=>
   rw[gU,ak,ak,ZX _ (by show 0<=fZ c;omega) (by show (fZ c).toNat<_;omega),au,List.length_nil,iz,cP,ak];exact J [gS c (fZ c)] (eB _)
 ·rw[aW O,aq,jJ,aq];exact L
def Z4(c:av):aj aH:=(q8 c++su c c.pending.length).find? (dj c)
def Ms(c:av):aH×Int:=
 bif c.bh.state != 0 then (bif cG c != 0 then (bif dj c ⟨cG c,0,0,0⟩then (⟨cG c,0,0,0⟩,-1)else (we,-1))else (we,-1))else
 match Z4 c with
 |some x=>(x,-1)
 |none=>bif decide ((AY c).2 >= 0)then AY c else (tJ c (yo c++(tH c++o6 c)),-1)
def aA0(c:av)(l:aa aH):Mr c l=(tJ c l,(l.find? (dj c)).isSome):=by
 unfold Mr tJ;cases l.find? (dj c)<;>rfl
def aA1{c:av}(h:Pq c):Al c=some (bif decide ((c.trace.length:Int) >= 2000)then (we,-1)else Ms c):=by
 have D:=h.p.R.tw;have O:=SF c;have Q:=h.pl;have T:=n7 h.rf;have U:=De 0 c.aQ.aJ;have E:=aAY h;have I:=aAX h;have J:=aAW h;unfold Al;cases decide ((c.trace.length:Int) >= 2000)with
 |true=>rfl
 | false=>
  rw[aq,aq,ajE h.rf,au,aze _ _ _ h.eA h.pw,au];have L:uI c.box.bU.eA c.bh (uH c)=cG c:=rfl;rw[L];unfold Ms;cases c.bh.state != 0 with
  | true=>
   rw[ak,ak];by_cases C:cG c=0
   ·rw[C];rfl
   ·rw[fP C,fY C,aq,ak,R8 h.p (Sa D (by omega)),au];cases dj c ⟨cG c,0,0,0⟩<;>rfl
  | false=>
   rw[aq,aq,aAK h,au,akI h (by
    rw[o8];have:=akL c c.pending.length;have:(q8 c).length=(cC 0 c.aQ.aJ).length:=by unfold q8;rw[dh]
    omega) (λx hx=>by
    rcases List.mem_append.1 hx with hx|hx
    ·obtain⟨b,hb,rfl⟩:=List.mem_map.1 hx;exact(akJ h hb).2
    ·obtain⟨i,hi,rfl⟩:=List.mem_map.1 hx;exact akK h (eV.1 (List.mem_filter.1 hi).1)),au]
   unfold Mr Z4;cases (q8 c++su c c.pending.length).find? (dj c)with
   |some x=>rfl
   | none=>
    dsimp only;rw[aq,aAJ h,au];cases decide ((AY c).2 >= 0)with
    |true=>rfl
    | false=>
     rw[aq,aq,aAZ h,au,akI h (by rw[o8,o8];omega) (λx hx=>by
      rcases List.mem_append.1 hx with hx|hx
      ·exact E.2 x hx
      ·rcases List.mem_append.1 hx with hx | hx
       ·exact I.2 x hx
       ·exact J.2 x hx),au,aA0]
def aA2(p:Nat->Bool)(n:Nat):c9 p (List.range n)<=n/\(∀ k,k<c9 p (List.range n)->p k=false)/\(c9 p (List.range n)<n->p (c9 p (List.range n))=true):=by
 have C:=uE p (List.range n);rw[cY]at C
 refine⟨C,λk D=>?_,λE=>?_⟩
 ·have:=ny (p:=p) (q:=List.range n) D (by rw[cY];omega)
  rwa [jI]at this
 ·have:=qY (p:=p) (q:=List.range n) (by rw[cY];exact E)
  rwa [jI]at this
def aA3(c:av)(n:Nat):(su c n).find? (dj c)=if c9 (λi=>qf c i&&dj c (jW c i)) (List.range n)<n then some (jW c (c9 (λi=>qf c i&&dj c (jW c i)) (List.range n)))else none:=by
 unfold su;rw[List.find?_map,List.find?_filter];have e:(List.range n).find? (λa=>decide (qf c a=true/\(dj c ∘ jW c) a=true))=(List.range n).find? (λi=>qf c i&&dj c (jW c i)):=by
  congr 1;funext i;simp
 rw[e];rcases SB (λi=>qf c i&&dj c (jW c i)) (List.range n)with ⟨C,D⟩|⟨C,D⟩
 ·rw[cY]at C;rw[D,bE];rfl
 ·rw[cY]at C;rw[D,br C,jI];rfl
def aA4{c:av}(h:Pq c):Rp c=some (Ms c):=by
 have U:=h.p.R.tw;have hw:=SF c;have uX:=h.pl;have Y:=n7 h.rf;have ul:=De 0 c.aQ.aJ;have SD:=h.p.bl;have hdn:=h.dl;unfold Rp cc;rw[Zw h.rf,au,ajD h.rf,au,azd _ _ _ h.eA h.pw,au];have Z:uI c.box.bU.eA c.bh (uH c)=cG c:=rfl;rw[Z];unfold Ms;cases c.bh.state != 0 with
 | true=>
  rw[ak,ak];by_cases O:cG c=0
  ·rw[O];rfl
  ·rw[fY O,ak,ak,yd h.p (Sa U (by omega)),au];cases dj c ⟨cG c,0,0,0⟩<;>rfl
 | false=>
  rw[aq,aq];have kZ:∀ (k:Nat) (C:k<(cC 0 c.aQ.aJ).length),CS (((),(),(),(),(),((cC 0 c.aQ.aJ).length:Int),(k:Int),()),(c,((0:Int),(0:Int),(0:Int),(0:Int),()),cC 0 c.aQ.aJ,(cG c,(0:Int),(0:Int),(0:Int),()),()))=some (bif dj c (gS c (cC 0 c.aQ.aJ)[k])then .inr (.inl (((),(-1:Int),()),(((gS c (cC 0 c.aQ.aJ)[k]).kind,(gS c (cC 0 c.aQ.aJ)[k]).ax,(gS c (cC 0 c.aQ.aJ)[k]).row,(gS c (cC 0 c.aQ.aJ)[k]).bR,()),())))else .inl (((),(),(),(),(),((cC 0 c.aQ.aJ).length:Int),((k+1:Nat):Int),()),(c,((0:Int),(0:Int),(0:Int),(0:Int),()),cC 0 c.aQ.aJ,(cG c,(0:Int),(0:Int),(0:Int),()),()))):=by
   intro k C;obtain⟨k1,k2⟩:=akJ h (cO C);unfold CS aA bq xG xL;dsimp only;rw[aP,ak,az ⟨by omega,by omega⟩,az];simp only[bu];rw[ZW _ (by omega) (by omega),au];show ((jd c (gS c (cC 0 c.aQ.aJ)[k])).bind _)=_;rw[yd h.p k2,au,bI];cases dj c (gS c (cC 0 c.aQ.aJ)[k])<;>rfl
  have hfu:(q8 c).find? (dj c)=((cC 0 c.aQ.aJ).find? (λb=>dj c (gS c b))).map (gS c):=by
   unfold q8;rw[List.find?_map];rfl
  unfold Z4;rw[List.find?_append,hfu,aA3];rcases SB (λb=>dj c (gS c b)) (cC 0 c.aQ.aJ)with ⟨I,J⟩|⟨I,J⟩
  ·have e:=cL (step:=CS) (cC 0 c.aQ.aJ).length (λk=>(((),(),(),(),(),((cC 0 c.aQ.aJ).length:Int),(k:Int),()),(c,((0:Int),(0:Int),(0:Int),(0:Int),()),cC 0 c.aQ.aJ,(cG c,(0:Int),(0:Int),(0:Int),()),()))) (.inr (.inl (((),(),(),(),()),(c,((0:Int),(0:Int),(0:Int),(0:Int),()),cC 0 c.aQ.aJ,(cG c,(0:Int),(0:Int),(0:Int),()),())))) aS (λk C=>by
    have:=ny (p:=λb=>dj c (gS c b)) (q:=cC 0 c.aQ.aJ) (i:=k) (by omega) C;rw[kZ k C,this];rfl) (by
    unfold CS aA bq xG xL;dsimp only;rw[aW,aq]) (bM)
   rw[bT]at e
   refine(bF (λo=>Option.bind o _) e).trans ?_
   rw[au,J];simp only[Sum.elim_inr,dY,Option.map_none,Option.none_or];obtain⟨i1,Q,i3⟩:=aA2 (λi=>qf c i&&dj c (jW c i)) c.pending.length;have L:∀ (k:Nat) (C:k<c.pending.length),CT (((),(),(),(),c.pending,(c.pending.length:Int),(k:Int),()),(c,((0:Int),(0:Int),(0:Int),(0:Int),()),cC 0 c.aQ.aJ,(cG c,(0:Int),(0:Int),(0:Int),()),()))=some (bif qf c k&&dj c (jW c k)then .inr (.inl (((),(-1:Int),()),(((jW c k).kind,(jW c k).ax,(jW c k).row,(jW c k).bR,()),())))else .inl (((),(),(),(),c.pending,(c.pending.length:Int),((k+1:Nat):Int),()),(c,((0:Int),(0:Int),(0:Int),(0:Int),()),cC 0 c.aQ.aJ,(cG c,(0:Int),(0:Int),(0:Int),()),()))):=by
    intro k C;obtain⟨ho,T,o2,o3,o4⟩:=ZZ h C;unfold CT aA bq xG xI;dsimp only;rw[aP,ak,az ⟨by omega,by omega⟩,bI];simp only[bu,ZY,(ZP Y.1 T o3),au,Int.toNat_zero,List.drop_zero];have ek:qf c k=(!n9 c (nB c k).ax && !((c.pending.take k).any λa=>a.ax==(nB c k).ax)):=rfl;rw[ek];cases n9 c (nB c k).ax with
    |true=>rfl
    | false=>
     rw[aq,br ⟨by omega,by omega,by omega⟩,ZD _ _ (by rw[fF];omega),au];cases (c.pending.take k).any λa=>a.ax==(nB c k).ax with
     |true=>rfl
     | false=>
      rw[aq,ZW _ T o2,au];show ((jd c (jW c k)).bind _)=_;rw[yd h.p (akK h C),au];cases dj c (jW c k)<;>rfl
   by_cases E:c9 (λi=>qf c i&&dj c (jW c i)) (List.range c.pending.length)<c.pending.length
   ·rw[br E];generalize hN:c9 (λi=>qf c i&&dj c (jW c i)) (List.range c.pending.length)=N at *
    have D:=cL (step:=CT) N (λk=>(((),(),(),(),c.pending,(c.pending.length:Int),(k:Int),()),(c,((0:Int),(0:Int),(0:Int),(0:Int),()),cC 0 c.aQ.aJ,(cG c,(0:Int),(0:Int),(0:Int),()),()))) (.inl (((),(-1:Int),()),(((jW c N).kind,(jW c N).ax,(jW c N).row,(jW c N).bR,()),()))) aS (λk C=>by
     rw[L k (by omega),Q k C];rfl) (by
     rw[L N E,i3 E];rfl) (bM)
    rw[bT]at D
    refine(bF (λo=>Option.bind o _) D).trans ?_
    rfl
   ·rw[bE E];have D:=cL (step:=CT) c.pending.length (λk=>(((),(),(),(),c.pending,(c.pending.length:Int),(k:Int),()),(c,((0:Int),(0:Int),(0:Int),(0:Int),()),cC 0 c.aQ.aJ,(cG c,(0:Int),(0:Int),(0:Int),()),()))) (.inr (.inl (((),(),(),(),()),(c,((0:Int),(0:Int),(0:Int),(0:Int),()),cC 0 c.aQ.aJ,(cG c,(0:Int),(0:Int),(0:Int),()),())))) aS (λk C=>by
     rw[L k C,Q k (by omega)];rfl) (by
     unfold CT aA bq xG xI;dsimp only;rw[aW,aq]) (bM)
    rw[bT]at D
    refine(bF (λo=>Option.bind o _) D).trans ?_
    rw[au];simp only[Sum.elim_inr,dY];rw[az5 h,au,aAH h,au];cases decide ((AY c).2 >= 0)with
    |true=>rfl
    | false=>
     rw[aq,aq];show ((LD c (cC 0 c.aQ.aJ) (fm c) ⟨cG c,0,0,0⟩).bind _)=_;rw[aAV h,au]
  ·have e:=cL (step:=CS) (c9 (λb=>dj c (gS c b)) (cC 0 c.aQ.aJ)) (λk=>(((),(),(),(),(),((cC 0 c.aQ.aJ).length:Int),(k:Int),()),(c,((0:Int),(0:Int),(0:Int),(0:Int),()),cC 0 c.aQ.aJ,(cG c,(0:Int),(0:Int),(0:Int),()),()))) (.inl (((),(-1:Int),()),(((gS c (cC 0 c.aQ.aJ)[c9 (λb=>dj c (gS c b)) (cC 0 c.aQ.aJ)]).kind,(gS c (cC 0 c.aQ.aJ)[c9 (λb=>dj c (gS c b)) (cC 0 c.aQ.aJ)]).ax,(gS c (cC 0 c.aQ.aJ)[c9 (λb=>dj c (gS c b)) (cC 0 c.aQ.aJ)]).row,(gS c (cC 0 c.aQ.aJ)[c9 (λb=>dj c (gS c b)) (cC 0 c.aQ.aJ)]).bR,()),()))) aS (λk C=>by
    have:=ny (p:=λb=>dj c (gS c b)) (q:=cC 0 c.aQ.aJ) (i:=k) C (by omega);rw[kZ k (by omega),this];rfl) (by
    have:=qY (p:=λb=>dj c (gS c b)) (q:=cC 0 c.aQ.aJ) I;rw[kZ _ I,this];rfl) (bM)
   rw[bT]at e
   refine(bF (λo=>Option.bind o _) e).trans ?_
   rw[J];rfl
def aA5{r:cM}{x:aH}(C:x.kind<=5):(fU r x).bh=r.bh:=by
 unfold fU;rw[fP (show ¬ x.kind=6 by omega),fP (show ¬ x.kind=8 by omega),fP (show ¬ x.kind=7 by omega),fP (show ¬ x.kind=9 by omega)];cases x.kind==1<;>cases x.kind==4<;>rfl
def fJ.eR{c:av}(p:fJ c)(x:aH):fJ (eR c x):=⟨p.dl,p.tl,p.gl,p.t,p.g,p.pd,p.u⟩
def Ck.eR{c:av}(h:Ck c){x:aH}(C:nt c.config.ay c.aY x=true)(D:x.kind<=5)(E:c.trace.length<2000):Ck (eR c x):=by
 simp only[nt,aM]at C;exact⟨h.f1,h.f2,h.nw,ajc C.1 C.2.1 C.2.2,akx _ h.rd,h.ar,h.sp,h.se,h.rf,((fJ.of h.pa).eR x).ok,h.qu,h.sh,h.sl,h.dr,h.pw,h.ps.trans (aA5 D).symm,h.si,h.s1,h.s2,h.s3,h.er,by simp[Proofs.YtglnbhiaknohlaaGreat.eR];omega,h.rp⟩
def Ck.opn{c:av}(h:Ck c){x:aH}(E:0<=x.ax)(I:x.ax<aT c.config.ay)(J:0<=x.row)(L:x.row<c.config.ay.rows):Ck (uK c x):=by
 have C:=(vU h.rk).1;have Z:=fA C;have p:=fJ.of h.pa;have Su:=p.tl;have hgl:=p.gl;have O:x.ax.toNat<c.bK.length:=by omega
 have D:ep c.config.ay 100000 (uF c.config.ay c.config.dH c.array x.ax x.row):=Zp C c.config.dH (by decide) (ep.so h.ar) E I J L;have Q:∀a∈oU c x,dL c.config.ay a=true/\a.bR=0:=λa D=>p.pd a (List.mem_filter.1 D).1
 have T:(oU c x).Pairwise (λx y=>x≠y):=p.u.filter _;have q:(∀ a∈(uK c x).pending,dL c.config.ay a=true/\a.bR=0)/\(uK c x).pending.Pairwise (λx y=>x≠y):=by
  show (∀a∈(bif (sg c x).2 then (lS c.config.ay.rows x.row).foldl (kF x.ax) (oU c x)else oU c x),dL c.config.ay a=true/\a.bR=0)/\(bif (sg c x).2 then (lS c.config.ay.rows x.row).foldl (kF x.ax) (oU c x)else oU c x).Pairwise (λx y=>x≠y);cases (sg c x).2 with
  |false=>exact⟨Q,T⟩
  | true=>
   rw[ak]
   refine akr _ (λn U=>?_) Q T
   have:=aje J L n U;exact vL C E I this.1 this.2 (Int.le_refl 0) (by show (0:Int)<_;omega)
 have Y:fJ (uK c x):=⟨p.dl,by show ((c.bK.set x.ax.toNat (sg c x).1).length:Int)=_;rw[iw];exact p.tl,p.gl,Ge p.t (by unfold sg;rw[kG _ O];exact aAs (p.t _ (cO O)) _ _),p.g,q.1,q.2⟩
 exact⟨h.f1,h.f2,h.nw,h.rk,h.rd,tF C D,h.sp,h.se,h.rf,Y.ok,h.qu,h.sh,h.sl,h.dr,h.pw,h.ps,h.si,h.s1,h.s2,h.s3,h.er,h.tr,h.rp⟩
def Ck.ref{c:av}(h:Ck c)(hl:c.box.bU.weights.length<1073741823)(E:aK c.config.hD 1 16=true){b:Int}(I:0<=b)(J:b<aT c.config.ay):Ck (Sr c b):=by
 have C:=(vU h.rk).1;have O:=fA C;have p:=fJ.of h.pa;have Q:=p.dl;have D:ep c.config.ay 100000 (n8 c.config.ay c.config.dH c.array b c.config.ay.rows.toNat):=Gb C c.config.dH (by decide) (ep.so h.ar) I J _ (by omega);have L:fJ (Sr c b):=⟨by show ((vZ c.aQ b).aJ.length:Int)=_;rw[akl];exact p.dl,by show ((c.bK.set b.toNat (uJ c.config.hD)).length:Int)=_;rw[iw];exact p.tl,by show ((c.guard.set b.toNat c.box.bU.eK).length:Int)=_;rw[iw];exact p.gl,Ge p.t (aks E),Ge p.g (akt hl h.f1),λa D=>p.pd a (List.mem_filter.1 D).1,p.u.filter _⟩
 exact⟨h.f1,h.f2,h.nw,h.rk,h.rd,tF C D,h.sp,h.se,aAA h.rf (by omega),L.ok,h.qu,h.sh,h.sl,h.dr,h.pw,h.ps,h.si,h.s1,h.s2,h.s3,h.er,h.tr,h.rp⟩
def Z5{T:Type}{p:T->Prop}{l:aa T}{x:T}(h:∀ y∈l,p y)(C:p x):∀ k:Nat,∀ y∈(List.range k).foldl (λd b=>d.set b x) l,p y
 |0=>h
 | k+1=>by
  rw[yg];exact Ge (Z5 h C k) C
def akO{r:cZ}(h:eF r=true):∀ k:Nat,eF ⟨(List.range k).foldl (λd b=>d.set b 0) r.aJ,r.wait,r.dN⟩=true
 |0=>h
 | k+1=>by
  rw[yg];exact akA (akO h k) k (by omega)
def Ck.Sf{c:av}(h:Ck c)(hl:c.box.bU.weights.length<1073741823)(E:aK c.config.hD 1 16=true)(n:Nat)(I:(n:Int)<=aT c.config.ay):Ck (gw c n []):=by
 have D:=(vU h.rk).1;have p:=fJ.of h.pa;have C:=Se D c.config.dH (by decide) (ep.so h.ar) n I;have J:fJ (gw c n []):=⟨by show (((List.range n).foldl (λd b=>d.set b 0) c.aQ.aJ).length:Int)=_;rw[yh];exact p.dl,by show (((List.range n).foldl (λd b=>d.set b (uJ c.config.hD)) c.bK).length:Int)=_;rw[yh];exact p.tl,by show (((List.range n).foldl (λd b=>d.set b c.box.bU.eK) c.guard).length:Int)=_;rw[yh];exact p.gl,Z5 p.t (aks E) n,Z5 p.g (akt hl h.f1) n,λa C=>(by cases C),List.Pairwise.nil⟩
 exact⟨h.f1,h.f2,h.nw,h.rk,h.rd,tF D C,h.sp,h.se,akO h.rf n,J.ok,h.qu,h.sh,h.sl,h.dr,h.pw,h.ps,h.si,h.s1,h.s2,h.s3,h.er,h.tr,h.rp⟩
def Ck.acc{c:av}(h:Ck c){i:Nat}(C:oX c i 100000)(hr:c.cy.length<400):Ck (uO c i):=by
 have O:=(vU h.rk).1;have p:=fJ.of h.pa;have hi:=C.i;obtain⟨f1,f3,E,Q,f6,f7,f8⟩:=C.facts (cO hi);have D:c.queue.getD i v8=c.queue[i]:=kG _ hi;have I:=C.d _ (cO hi);have T:=C.shl;have J:gF (v9 c.shares c.queue[i].dB)=true/\((v9 c.shares c.queue[i].dB).length:Int)=4:=by
  obtain⟨y,t,e,hl,U⟩:=aAy ((List.replicate 4 false).set c.queue[i].dB.toNat true) (by omega) h.sh (by simp[T]);unfold v9;rw[e];exact⟨U,by show (y.length:Int)=4;omega⟩
 have Y:iJ (dK (dW c.config.ay c.spare)) (c.queue.take i++c.queue.drop (i+1))=true:=((Qk.of h.qu).sub (aky _ _)).ok;have key:∀ (a:dx) (e:aa cv) (x:fe),ep c.config.ay 100000 a->kV e=true->Ck (oW c i a e x):=λa e x Z he=>
  ⟨h.f1,h.f2,h.nw,h.rk,h.rd,tF O Z,h.sp,h.se,h.rf,(show fJ (oW c i a e x)from ⟨p.dl,p.tl,p.gl,p.t,p.g,p.pd,p.u⟩).ok,Y,by unfold oW;rw[D];exact J.1,by unfold oW;rw[D];exact J.2,h.dr,h.pw,h.ps,h.si,h.s1,h.s2,h.s3,he,h.tr,by simp[oW];omega⟩
 unfold uO;rw[D];dsimp only;cases c.queue[i].write with
 |true=>exact key _ _ _ (C.a.AK _ (c:=⟨_,false⟩) (Ml I.1 I.2).2.1) h.er
 | false=>
  have L:=C.a.syms _ (cO E);rw[aq,kG _ E];refine key _ _ _ (C.a.AK _ (Sh L)) ?_;have SG:=Mo L;by_cases e:iM c.array.cells[ir c.config.ay (fl c c.queue[i].line)]=0
  ·rw[e];exact h.er
  ·rw[fY e,ak];exact ZU h.er ⟨by omega,Q⟩ (by omega)
def Ck.SH{c:av}(h:Ck c){x:aH}(C:nt c.config.ay c.aY x=true)(D:6<=x.kind/\x.kind<=9)(O:c.trace.length<2000):Ck (AX (Proofs.YtglnbhiaknohlaaGreat.eR c x) x.kind):=by
 simp only[nt,aM]at C;have E:=bx.1 h.nw;obtain⟨I,J,L⟩:=aAB (r:=c.aY) (p:=c.bh) (x:=x) h.pw h.ps h.si E.2 D C.2.2;have p:=fJ.of h.pa;exact⟨h.f1,h.f2,h.nw,ajc C.1 C.2.1 C.2.2,akx _ h.rd,h.ar,h.sp,h.se,h.rf,(show fJ (AX (Proofs.YtglnbhiaknohlaaGreat.eR c x) x.kind)from ⟨p.dl,p.tl,p.gl,p.t,p.g,p.pd,p.u⟩).ok,h.qu,h.sh,h.sl,h.dr,I,J,L,h.s1,h.s2,h.s3,h.er,by simp[AX,aki,Proofs.YtglnbhiaknohlaaGreat.eR];omega,h.rp⟩
def Ck.iss{c:av}(I:c8 c)(h:Ck c){x:aH}{i:Int}(E:uP c x i=true):Ck (tE c x i):=by
 have Q:=Pq.of I h.ok;have J:c.box.bU.weights.length<1073741823:=by
  have:=I.1.1;unfold RY at this;omega
 have T:aK c.config.hD 1 16=true:=by
  have:=(Ga J h.f1).1;simp only[nY,aM]at this;exact this.2.2.2.2.2.1
 obtain⟨hb,C,U,hr⟩:=ZS I Q E;have D:c.trace.length<2000:=by
  simp only[uP,aM,gy,od]at E;omega
 have Y:x.kind=2\/x.kind=3->c.cy.length<400:=λL=>by
  simp only[uP,aM]at E;have e:(x.kind==2 ||x.kind==3)=true:=by rcases L with q|q<;>rw[q]<;>rfl
  have E:=E.2.2.2;rw[e,ak]at E;simp only[Mq,aM,gf]at E;omega
 obtain⟨hg,hlen,L,Z⟩:=C4 C;have hc:dP c.config.ay x=true:=by
  simp only[nt,aM]at C;exact C.2.1
 have Su:=(fJ.of h.pa).tl;have me:=Q.p.bl;unfold tE;rcases kinds L with q|q|q|q|q|q|q|q|q<;>rw[q]<;>simp only[Int.reduceBEq,Int.reduceBNe,ak,aq,Bool.or_true,Bool.or_false,Bool.true_or,Bool.false_or,Bool.or_self]
 ·obtain⟨O,vB⟩:=Z (by omega);obtain⟨r0,r1⟩:=Ss hc q;exact(h.eR C (by omega) D).opn O (by show x.ax<aT c.config.ay;omega) r0 r1
 ·exact(h.eR C (by omega) D).acc ((U (.inl q)).1.eR x) (Y (.inl q))
 ·exact(h.eR C (by omega) D).acc ((U (.inr q)).1.eR x) (Y (.inr q))
 ·exact h.eR C (by omega) D
 ·obtain⟨O,vB⟩:=Z (by omega);exact(h.eR C (by omega) D).ref J T O (by show x.ax<aT c.config.ay;omega)
 ·have:=h.SH C (by omega) D;rw[q]at this;exact this
 ·have:=h.SH C (by omega) D;rw[q]at this;exact this
 ·have:=h.SH C (by omega) D;rw[q]at this;exact this
 ·have:=h.SH C (by omega) D;rw[q]at this;exact this.Sf J T _ (by show (c.bK.length:Int)<=aT c.config.ay;omega)
def Nx(c y:av):Prop:=y.now=c.now/\y.config=c.config/\y.queue.Sublist c.queue/\(∀r∈y.cy,r∈c.cy\/∃q∈c.queue,r.id=q.id)/\(y.trace=c.trace\/∃x,y.trace=c.trace++[⟨c.now,x⟩])
def Nx.refl(c:av):Nx c c:=⟨rfl,rfl,List.Sublist.refl _,λr C=>.inl C,.inl rfl⟩
def akP{c:av}(x:aH){i:Nat}(hi:i<c.queue.length):Nx c (uO (eR c x) i):=by
 have key:∀ (a:dx) (e:aa cv) (t:fe),t.id=c.queue[i].id->Nx c (oW (eR c x) i a e t):=λa e t C=>by
  refine⟨rfl,rfl,aky _ _,λr hr=>?_,.inr ⟨x,rfl⟩⟩
  rcases List.mem_append.1 hr with hr|hr
  ·exact .inl hr
  ·rw[oe.1 hr];exact .inr ⟨_,cO hi,C⟩
 have D:(eR c x).queue.getD i v8=c.queue[i]:=kG _ hi;unfold uO;rw[D];dsimp only;cases c.queue[i].write with
 |true=>exact key _ _ _ rfl
 |false=>exact key _ _ _ rfl
def akQ{c:av}{x:aH}{i:Int}(I:1<=x.kind/\x.kind<=9)(D:x.kind=2\/x.kind=3->i.toNat<c.queue.length):Nx c (tE c x i):=by
 have C:∀y:av,y.now=c.now->y.config=c.config->y.queue=c.queue->y.cy=c.cy->y.trace=c.trace++[⟨c.now,x⟩]->Nx c y:=λy J L O Q T=>⟨J,L,by rw[O];exact List.Sublist.refl _,λr E=>by rw[Q]at E;exact .inl E,.inr ⟨x,T⟩⟩
 unfold tE;rcases kinds I with q|q|q|q|q|q|q|q|q<;>rw[q]<;>simp only[Int.reduceBEq,Int.reduceBNe,ak,aq,Bool.or_true,Bool.or_false,Bool.true_or,Bool.false_or,Bool.or_self]
 ·exact C _ rfl rfl rfl rfl rfl
 ·exact akP x (D (.inl q))
 ·exact akP x (D (.inr q))
 ·exact C _ rfl rfl rfl rfl rfl
 ·exact C _ rfl rfl rfl rfl rfl
 ·exact C _ rfl rfl rfl rfl rfl
 ·exact C _ rfl rfl rfl rfl rfl
 ·exact C _ rfl rfl rfl rfl rfl
 ·exact C _ rfl rfl rfl rfl rfl
def aA6{c:av}(C:c8 c)(x:aH)(i:Int):∃ y b,qS c x i=some (y,b)/\c8 y/\(dA c=true->dA y=true)/\Nx c y:=by
 cases D:dA c with
 | false=>
  refine⟨c,false,?_,C,λh=>(by cases h),Nx.refl c⟩
  unfold qS xI;rw[Zo c C,au,F6 c C,au,D];rfl
 | true=>
  have h:=Pq.of C D;rw[aAp C h];cases hm:uP c x i with
  |false=>exact⟨c,false,rfl,C,λ_=>D,Nx.refl c⟩
  | true=>
   obtain⟨hb,E,I,J⟩:=ZS C h hm
   refine⟨tE c x i,true,?_,ako C hb J E I,λ_=>(Ck.iss C (Ck.of D) hm).ok,akQ (C4 E).2.2.1 λq=>(I q).1.i⟩
   rw[ak,aAe hb E I];rfl
def aA7{c:av}(C:c8 c):∃ y,s9 c=some y:=by
 unfold s9;rw[F6 c C,au];cases D:dA c with
 |false=>exact⟨_,rfl⟩
 | true=>
  have h:=Pq.of C D;rw[bB,aq,aA4 h];cases decide ((c.trace.length:Int) >= 2000)with
  |true=>exact⟨_,rfl⟩
  |false=>exact⟨_,rfl⟩
def o7(d:Int):Int:=if (5:Int)<W6 (d+1)then 5 else W6 (d+1)
def aA8{r:cZ}(h:eF r=true)(n:Int):∃ y,Re r n=some y/\eF y=true/\y.aJ.length=r.aJ.length:=by
 have hl:=n7 h;have C:=Mh h;have T:1<=r.wait/\r.wait<=10000:=by
  simp only[eF,aM,bx]at h;exact h.2.2
 have mk:∀ (l:aa Int) (w:Int) (b:Bool),l.length=r.aJ.length->(∀ x∈l,-2<=x/\x<=5)->1<=w/\w<=10000->eF ⟨l,w,b⟩=true:=λl w b U I J=>by
  simp only[eF,aM,cE,uz,bx];exact⟨I,by omega,J⟩
 unfold Re CJ bw xA xZ;rw[cP (by simp;omega),ak,jH,au,LS _ (by omega),au,h,bB,aq,dJ,au];cases L:aK n 2 10000 with
 |false=>exact⟨r,rfl,h,rfl⟩
 |true=>
 have hb:=bx.1 L;rw[bB,aq];dsimp only;rw[aR (n:=r.wait-1)];by_cases D:r.wait-1 > 0
 ·rw[aP D,ak];exact⟨_,rfl,mk _ _ _ rfl C (by omega),rfl⟩
 ·rw[aW D,aq];have e:=cL (step:=Lq) r.aJ.length (λi=>((n,(),(),(),(r.aJ.length:Int),(i:Int),()),((r.aJ,r.wait,r.dN,()),((),(0:Int),false,()),((),r.wait-1,r.dN,()),([]:aa Int),upto o7 r.aJ i,()))) (.inl ((n,(),(),(),()),((r.aJ,r.wait,r.dN,()),((),(0:Int),false,()),((),r.wait-1,r.dN,()),([]:aa Int),r.aJ.map o7,()))) aS (λi hi=>by
   have hlen:=AA o7 r.aJ i;unfold Lq aA xG xL;dsimp only;rw[aP,ak,az ⟨by omega,by omega⟩,az,az ⟨by omega,by omega⟩,az,bI];simp only[bu];rw[FZ o7 r.aJ i hi,<-F0 o7 r.aJ i hi];rfl) (by
   unfold Lq aA xG xL;dsimp only;rw[aW,aq,FY]) (bM)
  rw[bT,FX]at e;have E:∀ x∈r.aJ.map o7,-2<=x/\x<=5:=λx O=>by
   obtain⟨d,Q,rfl⟩:=List.mem_map.1 O;have:=C d Q;unfold o7;rw[aR (n:=d+1)];split<;>omega
  have Y:W6 (n.tdiv 2)=n / 2:=by rw[qh (by omega)];exact aR
  refine(bF (λo=>∃y,Option.bind o _=some y/\eF y=true/\y.aJ.length=r.aJ.length) e).mpr ?_
  rw[au];simp only[dY];cases r.dN with
  |true=>exact⟨_,rfl,mk _ _ _ (by simp) E (by omega),by simp⟩
  |false=>exact⟨_,rfl,mk _ _ _ (by simp) E (by omega),by simp⟩
def aA9{g:aO}{a:dx}(h:nh g a=true):∃ y,Ls g a 1=some y/\nh g y=true:=by
 have D:cD g=true:=(ajo h).1;have C:=ep.so h
 refine⟨_,ayf D C (by decide) (by decide) (by decide),tF D ⟨C.cells,C.syms,by rw[dh];exact C.bC,C.bz,λx E=>?_,C.iH⟩⟩
 obtain⟨y,I,rfl⟩:=List.mem_map.1 E;exact YO (C.AB y I) (by decide)
def aBa(q:aa aX)(w:Bool)(hl:q.length<1073741824):∃ n,FL q w=some n:=by
 unfold FL bw;have e:=cL (step:=Lt) q.length (λi=>((w,(((q.take i).countP λr=>r.write==w:Nat):Int),q,(q.length:Int),(i:Int),()),())) (.inl (((((q.take q.length).countP λr=>r.write==w:Nat):Int),()),())) aS (λk C=>by
  have D:=List.countP_le_length (p:=λr:aX=>r.write==w) (l:=q.take k);rw[fF]at D;unfold Lt aA xG xI;dsimp only;rw[aP,ak,az ⟨by omega,by omega⟩,bI];simp only[bu];rw[p7 C,List.countP_append,List.countP_singleton];cases q[k].write==w with
  |true=>rw[ak,bI];rfl
  |false=>rw[aq,bI];rfl) (by
  unfold Lt aA xG xI;dsimp only;rw[aW,aq]) (bM)
 rw[bT]at e;exact⟨_,(bF (λo=>Option.bind o _) e).trans rfl⟩
def aBb{d:gJ}(h:jS d=true)(n:Int):∃ y,FK d n=some y/\jS y=true:=by
 unfold FK;rw[RJ,au,h,bB,aq];cases decide (n >= d.high)with
 |true=>exact⟨_,rfl,h⟩
 | false=>
  cases decide (n<=d.low)with
  |true=>exact⟨_,rfl,h⟩
  |false=>exact⟨_,rfl,h⟩
def aBc{p:eT}(h:gR p=true)(w:Bool):∃ y,FM p w=some y/\gR y=true/\y.state=p.state/\y.since=p.since:=by
 unfold FM;rw[RN,au,h,bB,aq];simp only[gR,aM,bx]at h;cases w with
 |true=>exact⟨_,rfl,by simp only[gR,aM,bx];omega,rfl,rfl⟩
 | false=>
  refine⟨_,rfl,?_,rfl,rfl⟩;rw[aR (n:=p.idle+1)];simp only[gR,aM,bx];split<;>omega
def aBd(b:gi)(h:AL b)(x:Bool):∃ t,Lv b x=some (bif t then ⟨b.next,b.next,false⟩else b,t):=by
 have C:b.next.weights.length<=1048576:=h.2
 unfold Lv;rw[Zm b h,au];cases x with
 |false=>exact⟨false,rfl⟩
 | true=>
  cases b.waits with
  |false=>exact⟨false,rfl⟩
  | true=>
   refine⟨true,?_⟩;unfold Fw xA xZ;rw[gW _];rfl
def akR{c:eX}{p:dS}(hl:p.weights.length<1073741823)(h:lT c p=true):∃ l t,Ao p.weights=some (l,t)/\gF l=true/\(l.length:Int)=4/\jS ⟨false,p.low,p.high⟩=true:=by
 obtain⟨_,f2⟩:=Ga hl h;simp only[oQ,aM,fz]at f2;obtain⟨I,J,L,D,E,C,O⟩:=f2;refine⟨p.weights.map iI,true,?_,C,by rw[dh];exact E,D⟩;rw[YT _ hl];unfold xW;rw[C];rfl
def aBe{s:lA}{n:Int}(C:aK s.every 1 100000=true)(E:aK s.wait 1 s.every=true)(D:aK s.next 0 (W6 (n-1))=true)(T:1<=n/\n<=1000000):∃ y m,xS s n=some (y,m)/\aK y.every 1 100000=true/\aK y.wait 1 y.every=true/\aK y.next 0 (W6 (n-1))=true/\m<n:=by
 have L:=bx.1 C;have U:=bx.1 E;have I:W6 (n-1)=n-1:=aR;have O:=bx.1 D;rw[I]at O;unfold xS;rw[dJ,au,C,bB,aq,dJ,au,E,bB,aq,aW,aq,dJ,au,D,bB,aq,aR (n:=s.wait-1)];by_cases J:s.wait-1 > 0
 ·rw[aP J,ak];exact⟨_,_,rfl,C,bx.2 ⟨by dsimp only;omega,by dsimp only;omega⟩,D,by omega⟩
 ·rw[aW J,aq,bE,aR (n:=s.next+1)];refine⟨_,_,rfl,C,bx.2 ⟨L.1,Int.le_refl _⟩,?_,by omega⟩;rw[I,qg (by omega)];have Q:=Int.emod_nonneg (s.next+1) (show n≠0 by omega);have Y:=Int.emod_lt_of_pos (s.next+1) (show 0<n by omega);exact bx.2 ⟨Q,by dsimp only;omega⟩
def Kn(s:av)(o:aj av):Prop:=∃y,o=some y/\c8 y/\dA y=true/\Nx s y
def Dm(c y:av):Prop:=y.now=c.now+1/\y.config=c.config/\y.queue.Sublist c.queue/\(∀r∈y.cy,r∈c.cy\/∃q∈c.queue,r.id=q.id)/\(y.trace=c.trace\/∃x,y.trace=c.trace++[⟨c.now+1,x⟩])
def uS(c:av)(b:gi)(a:dx)(r:cZ)(s:aa cz)(d:gJ)(p:eT)(u:lA):av:=⟨c.config,b,W6 (c.now+1),c.aY,c.ready,a,c.spare,r,c.bK,c.guard,c.pending,c.queue,s,d,p,u,c.errors,c.trace,c.cy⟩
def SI(x:av):aj av:=(s9 x).bind λC=>bif (C.1.kind != (0:Int))then (qS x C.1 C.2).bind λD=>some D.1 else some x
def SJ(x:av)(n:Int):aj av:=bif (decide (n >= (0:Int)))then (xQ x n).bind λC=>(xP C.2.1 n C.1.2).bind λD=>SI D.2.1 else SI x
def stepT(c:av)(r:cZ)(a:dx):aj av:=(FL c.queue true).bind λL=>(FK c.drain L).bind λI=>(Ax (uS c c.box a r c.shares I c.bh c.cU)).bind λO=>(FM c.bh O).bind λJ=>(Lv c.box ((c.queue.length:Int)==(0:Int))).bind λC=>bif C.2 then (Ao C.1.bU.weights).bind λQ=>(vG c.config.ay).bind λE=>(xS c.cU E).bind λD=>SJ (uS c C.1 a r Q.1 ⟨false,C.1.bU.low,C.1.bU.high⟩ J D.1) D.2 else (vG c.config.ay).bind λE=>(xS c.cU E).bind λD=>SJ (uS c C.1 a r c.shares I J D.1) D.2
def Z6{x:av}(C:c8 x)(h:dA x=true):Kn x (SI x):=by
 obtain⟨y,e⟩:=aA7 C;obtain⟨z,b,D,E,I,J⟩:=aA6 C y.1 y.2;unfold SI;rw[e,au];cases y.1.kind != (0:Int)with
 |false=>exact⟨x,rfl,C,h,Nx.refl x⟩
 | true=>
  rw[ak,D,au];exact⟨z,rfl,E,I h,J⟩
def akS{x:av}(L:c8 x)(h:dA x=true){n:Int}(hn:n<dK x.config.ay):Kn x (SJ x n):=by
 unfold SJ;by_cases E:n >= 0
 ·have C:=Ck.of h;have I:=ep.so C.ar;have O:=(vU C.rk).1;have hl:=I.cells;have hb:=kU x.config.ay;obtain⟨j,rfl⟩:=fy E;have Q:j<x.array.cells.length:=by omega
  have J:=I.syms _ (cO Q);have SG:=Mo J;have D:ep x.config.ay 100000 ⟨x.array.cells.set j (kY x.array.cells[j]),x.array.bC,x.array.bz⟩:=I.AK _ (Sh J);have p:=fJ.of C.pa;have jm:=(Ek.of C.er).l;rw[aP E,ak,aj7 Q J,au];dsimp only;rw[akd (c:=nA x j (kY x.array.cells[j])) C.er ⟨by omega,by omega⟩ SG,au];dsimp only;obtain⟨T,U,Y,z5,Z,z7,z8,z9,iq,jE,jg,jh,iK,jT⟩:=L;have It:c8 (nA x j (kY x.array.cells[j])):=⟨T,U,Y,sq D,Z,z7,z8,z9,iq,jE,jg,jh,iK,jT⟩
  have HQ:Ck (nA x j (kY x.array.cells[j])):=⟨C.f1,C.f2,C.nw,C.rk,C.rd,tF O D,C.sp,C.se,C.rf,(show fJ (nA x j (kY x.array.cells[j]))from ⟨p.dl,p.tl,p.gl,p.t,p.g,p.pd,p.u⟩).ok,C.qu,C.sh,C.sl,C.dr,C.pw,C.ps,C.si,C.s1,C.s2,C.s3,C.er,C.tr,C.rp⟩
  unfold AV;by_cases e:iM x.array.cells[j]=0
  ·rw[e];exact Z6 It HQ.ok
  ·rw[fY e,ak];have he:=ZU (l:=x.errors) C.er (n:=(j:Int)) ⟨by omega,by omega⟩ (code:=iM x.array.cells[j]) (by omega);have hle:=ZO (l:=x.errors) (j:Int) (iM x.array.cells[j]);exact Z6 (x:=Dj (nA x j (kY x.array.cells[j])) (oV x.errors (j:Int) (iM x.array.cells[j]))) ⟨T,U,Y,sq D,Z,z7,z8,z9,iq,jE,jg,by show (oV x.errors (j:Int) (iM x.array.cells[j])).length<=_;omega,iK,jT⟩ (Ck.ok ⟨C.f1,C.f2,C.nw,C.rk,C.rd,tF O D,C.sp,C.se,C.rf,(show fJ (Dj (nA x j (kY x.array.cells[j])) (oV x.errors (j:Int) (iM x.array.cells[j])))from ⟨p.dl,p.tl,p.gl,p.t,p.g,p.pd,p.u⟩).ok,C.qu,C.sh,C.sl,C.dr,C.pw,C.ps,C.si,C.s1,C.s2,C.s3,he,C.tr,C.rp⟩)
 ·rw[aW E,aq];exact Z6 L h
def akT{c:av}(Z:c8 c)(h:Ck c)(hn:c.now≠1000000){r:cZ}{a:dx}(O:eF r=true)(Vt:r.aJ.length=c.aQ.aJ.length)(Q:nh c.config.ay a=true):∃ y,stepT c r a=some y/\c8 y/\dA y=true/\Dm c y:=by
 obtain⟨C,z2,z3,z5,z6,z7,z8,z9,iq,jE,jg,jh,iK,jT⟩:=Z;have p:=fJ.of h.pa;have hg:=(vU h.rk).1;have hnw:=bx.1 h.nw;have hb:=kU c.config.ay;have Z7:1<=dK c.config.ay:=by
  have:=bx.1 h.s3;rw[aR (n:=dK c.config.ay-1)]at this;omega
 have w1:c.box.bU.weights.length<=1048576:=C.1;have w2:c.box.next.weights.length<=1048576:=C.2
 obtain⟨n,e1⟩:=aBa c.queue true (by omega);obtain⟨d,e2,I⟩:=aBb h.dr n;have e3:Ax (uS c c.box a r c.shares d c.bh c.cU)=some (uH (uS c c.box a r c.shares d c.bh c.cU)):=ajD (c:=uS c c.box a r c.shares d c.bh c.cU) O;obtain⟨pw,e4,ED,BV,Z8⟩:=aBc h.pw (uH (uS c c.box a r c.shares d c.bh c.cU));obtain⟨t,e5⟩:=aBd c.box C ((c.queue.length:Int)==(0:Int));obtain⟨u,m,T,Hi,Hj,Z9,U⟩:=aBe h.s1 h.s2 h.s3 ⟨Z7,by omega⟩;have E:W6 (c.now+1)=c.now+1:=aR;have key:∀ (b:gi) (s:aa cz) (d:gJ),AL b->lT c.config b.bU=true->lT c.config b.next=true->gF s=true->(s.length:Int)=4->jS d=true->c8 (uS c b a r s d pw u)/\dA (uS c b a r s d pw u)=true:=λb s d vB gz hb3 SK Mt I=>by
  refine⟨⟨vB,z2,z3,sq (ep.so Q),z6,by have:=z7;unfold AM at this ⊢;show r.aJ.length<=_;omega,z8,z9,iq,jE,by show s.length<=_;omega,jh,iK,jT⟩,Ck.ok ⟨gz,hb3,?_,h.rk,h.rd,Q,h.sp,h.se,O,(show fJ (uS c b a r s d pw u)from ⟨by show (r.aJ.length:Int)=_;rw[Vt];exact p.dl,p.tl,p.gl,p.t,p.g,p.pd,p.u⟩).ok,h.qu,SK,Mt,I,ED,BV.trans h.ps,?_,Hi,Hj,Z9,h.er,h.tr,h.rp⟩⟩
  ·show aK (W6 (c.now+1)) 0 1000000=true;rw[E];exact bx.2 ⟨by omega,by omega⟩
  ·show pw.since<=W6 (c.now+1);have:=h.si;rw[E,Z8];omega
 have Y:∀ (b:gi) (s:aa cz) (d:gJ) (o:aj av),Kn (uS c b a r s d pw u) o->∃ y,o=some y/\c8 y/\dA y=true/\Dm c y:=λb s d o ho=>by
  obtain⟨y,f1,f2,f3,f4,f5,f6,f7,D⟩:=ho;refine⟨y,f1,f2,f3,f4.trans E,f5,f6,f7,?_⟩;rcases D with D|⟨x,D⟩
  ·exact .inl D
  ·refine .inr ⟨x,D.trans ?_⟩;show c.trace++[⟨W6 (c.now+1),x⟩]=_;rw[E]
 unfold stepT;rw[e1,au,e2,au,e3,au,e4,au,e5,au];dsimp only;cases t with
 | false=>
  rw[aq,aq,LH,au,T,au];obtain⟨J,L⟩:=key c.box c.shares d C h.f1 h.f2 h.sh h.sl I;exact Y _ _ _ _ (akS J L U)
 | true=>
  obtain⟨l,t2,e7,sJ,mc,Gf⟩:=akR (p:=c.box.next) (by omega) h.f2;rw[ak,ak];dsimp only;rw[e7,au,LH,au,T,au];obtain⟨J,L⟩:=key ⟨c.box.next,c.box.next,false⟩ l ⟨false,c.box.next.low,c.box.next.high⟩ ⟨C.2,C.2⟩ h.f2 h.f2 sJ mc Gf;exact Y _ _ _ _ (akS J L U)
def aBf{c:av}(D:c8 c)(E:dA c=true):∃ y,LF c=some y/\c8 y/\dA y=true/\(c.now≠1000000->Dm c y)/\(c.now=1000000->y=c):=by
 have h:=Ck.of E;unfold LF;rw[Zo c D,au,F6 c D,au,E,bB,aq];by_cases C:c.now=1000000
 ·rw[C];exact⟨c,rfl,D,E,λh=>absurd rfl h,λ_=>rfl⟩
 ·rw[fP C,aq];cases c.aY.bh != (2:Int)with
  | true=>
   obtain⟨r,Q,T,U⟩:=aA8 h.rf c.config.interval;obtain⟨a,Y,Z⟩:=aA9 h.ar;rw[ak,Q,au,Y,au];obtain⟨y,I,J,L,O⟩:=akT D h C T U Z;exact⟨y,I,J,L,λ_=>O,λe=>absurd e C⟩
  | false=>
   rw[aq];obtain⟨y,I,J,L,O⟩:=akT D h C h.rf rfl h.ar;exact⟨y,I,J,L,λ_=>O,λe=>absurd e C⟩
def SL(R:Nat)(M:Int)(m:aa Int)(b j:Nat):Prop:=m.getD (b*R+j) 0=(j:Int)\/((R:Int)<=m.getD (b*R+j) 0/\m.getD (b*R+j) 0<=M/\∀k,k<j->m.getD (b*R+k) 0≠m.getD (b*R+j) 0)
def aaa{m:aa Int}{R b k:Nat}(C:k<R)(hl:(b+1)*R<=m.length):(gN m R b)[k]?=some (m.getD (b*R+k) 0):=by
 rw[gH]at hl;rw[F3,List.getElem?_take_of_lt C,List.getElem?_drop,bO (by omega),kG _ (by omega)]
def akU{R:Nat}{M:Int}{m:aa Int}{b j:Nat}(E:j<R)(hl:(b+1)*R<=m.length):uA (R:Int) M (gN m R b) j=true ↔ SL R M m b j:=by
 unfold uA SL;rw[aaa E hl];simp only[ei,aM,fz,bx,gy,kK];have key:(∀ x∈(gN m R b).take j,¬ x=m.getD (b*R+j) 0) ↔ ∀ k,k<j->m.getD (b*R+k) 0≠m.getD (b*R+j) 0:=by
  have J:=C2 hl;constructor
  ·intro h k C;refine h _ ?_;rw[List.mem_iff_getElem?];exact⟨k,by rw[List.getElem?_take_of_lt C,aaa (by omega) hl]⟩
  ·intro h x I;obtain⟨k,C⟩:=List.mem_iff_getElem?.1 I;have D:k<j:=by
    have:=(dQ.1 C).1;rw[fF]at this;omega
   rw[List.getElem?_take_of_lt D,aaa (by omega) hl]at C;injection C with C;rw[<-C];exact h k D
 rw[key,and_assoc]
structure Sp (g:aO) (s:dG) (bn R:Nat):Prop where
 sb:jD g s.bP=true
 hb:aT g=(bn:Int)
 hR:g.rows-s.bP=(R:Int)
 hl:s.map.length=bn*R
 f:∀b,b<bn->∀j,j<R->SL R (g.rows-1) s.map b j
def Sp.of{g:aO}{s:dG}(h:kX g s=true):∃ C R,Sp g s C R:=by
 obtain⟨_,U,_,_,E,Y,Z,h4⟩:=Me h;have Q:=eY g;simp only[kX,aM,fz,cE,eV]at h;obtain⟨T,hl,J⟩:=h;obtain⟨R,hR⟩:=fy (show 0<=g.rows-s.bP by omega);obtain⟨C,I⟩:=fy Q.1;rw[hR,I,bu,bu]at hl;have hl:s.map.length=C*R:=by exact_mod_cast hl
 rw[hR,I,bu,bu]at J
 refine⟨C,R,T,I,hR,hl,λb hb j D=>?_⟩
 have L:(b+1)*R<=s.map.length:=by rw[hl];exact iN R hb
 have O:=C2 L;have e:=Y4 (R:Int) (g.rows-1) (gN s.map R b) (by rw[O]);rw[O]at e;have E:(List.range R).all (qW (R:Int) (g.rows-1) (gN s.map R b))=true:=cE.2 λj D=>J b hb j (eV.1 D)
 rw[e]at E;exact(akU D L).1 (cE.1 E j (eV.2 D))
def Sp.ok{g:aO}{s:dG}{J R:Nat}(h:Sp g s J R):kX g s=true:=by
 obtain⟨L,O,hR,hl,Q⟩:=h;simp only[kX,aM,fz,cE,eV];rw[hR,O,bu,bu]
 refine⟨L,by exact_mod_cast hl,λb hb=>?_⟩
 have D:(b+1)*R<=s.map.length:=by rw[hl];exact iN R hb
 have E:=C2 D;have e:=Y4 (R:Int) (g.rows-1) (gN s.map R b) (by rw[E]);rw[E]at e;have I:(List.range R).all (uA (R:Int) (g.rows-1) (gN s.map R b))=true:=cE.2 λj C=>(akU (eV.1 C) D).2 (Q b hb j (eV.1 C))
 rw[<-e]at I;exact λj C=>cE.1 I j (eV.2 C)
def aBg{R b c r j:Nat}(C:r<R)(D:j<R)(h:b*R+r=c*R+j):b=c/\r=j:=by
 have key:∀ {b c r j:Nat},r<R->b*R+r=c*R+j->¬ b<c:=λ{b c r j} C h E=>by
  have:=iN R (show b+1<=c from E);rw[gH]at this;omega
 have I:=key (j:=j) C h;have J:=key (j:=r) D h.symm;have e:b=c:=by omega
 subst e;exact⟨rfl,by omega⟩
def Gg{m:aa Int}{p:Nat}(C:p<m.length)(i:Int)(q:Nat):(m.set p i).getD q 0=if q=p then i else m.getD q 0:=by
 rw[en,List.getElem?_set,en];by_cases e:q=p
 ·subst e;simp[C]
 ·rw[bE (λh=>e h.symm),bE e]
def Sp.set{g:aO}{s:dG}{I R:Nat}(h:Sp g s I R){b r:Nat}(hb:b<I)(T:r<R){i:Int}(Z:(R:Int)<=i)(h2:i<=g.rows-1)(U:∀ k,k<R->s.map.getD (b*R+k) 0≠i):Sp g ⟨s.bP,s.map.set (b*R+r) i⟩ I R:=by
 have D:b*R+r<s.map.length:=by
  have:=AG (R:=R) hb (show r+1<=R from T);rw[h.hl];omega
 refine⟨h.sb,h.hb,h.hR,by rw[iw];exact h.hl,λc hc j J=>?_⟩
 have C:=h.f c hc j J;unfold SL at C ⊢;dsimp only;by_cases e:c=b
 ·subst e;by_cases ej:j=r
  ·subst ej;refine .inr ?_;rw[Gg D,br rfl]
   refine⟨Z,h2,λk E=>?_⟩
   rw[Gg D,bE];exact U k (by omega)
  ·rw[Gg D,bE];rcases C with C | ⟨L,O,Q⟩
   ·exact .inl C
   ·refine .inr ⟨L,O,λk E=>?_⟩
    rw[Gg D];by_cases ek:k=r
    ·rw[br];exact(U j J).symm
    ·rw[bE];exact Q k E
 ·have Y:∀ k,k<R->¬ c*R+k=b*R+r:=λk E he=>e (aBg E T he).1
  rw[Gg D,bE (Y j J)];rcases C with C|⟨L,O,Q⟩
  ·exact .inl C
  ·refine .inr ⟨L,O,λk E=>?_⟩
   rw[Gg D,bE (Y k (by omega))];exact Q k E
def Sp.A3{g:aO}{s:dG}{C R:Nat}(h:Sp g s C R):cD g=true/\cD (dW g s)=true/\dW g s=⟨g.cq,g.aC,(R:Int),g.aN⟩/\aT (dW g s)=(C:Int)/\C<=8/\R<=16/\2<=R/\1<=g.aN/\g.rows<=16/\0<=s.bP:=by
 obtain⟨e,D,E,I,J,O,Q,L⟩:=Me h.ok;have T:=eY g;have U:=fA D;have:=h.hb;have hR:=h.hR;rw[h.hR]at e;exact⟨D,E,e,by rw[I];exact h.hb,by omega,by omega,by omega,by omega,L,J⟩
def Sp.bound{g:aO}{s:dG}{C R:Nat}(h:Sp g s C R){b r:Nat}(hb:b<C)(D:r<R):0<=s.map.getD (b*R+r) 0/\s.map.getD (b*R+r) 0<g.rows:=by
 have hR:=h.hR;have E:=h.A3.2.2.2.2.2.2.2.2.2;rcases h.f b hb r D with e|⟨I,J,_⟩
 ·omega
 ·omega
def Sp.ex{g:aO}{s:dG}{I R:Nat}(h:Sp g s I R)(b r:Int):dL (dW g s) ⟨b,r,0⟩=true ↔ (0<=b/\b<(I:Int))/\0<=r/\r<(R:Int):=by
 obtain⟨_,L,e,J,_,_,_,T,_⟩:=h.A3;have er:(dW g s).rows=(R:Int):=by rw[e]
 have O:(dW g s).aN=g.aN:=by rw[e]
 constructor
 ·intro Q;obtain⟨_,D,C,E,a4,_⟩:=r6 Q;rw[J]at C;rw[er]at a4;exact⟨⟨D,C⟩,E,a4⟩
 ·rintro⟨⟨D,C⟩,E,a4⟩;exact vL L D (by rw[J];exact C) E (by rw[er];exact a4) (Int.le_refl 0) (by rw[O];show (0:Int)<_;omega)
def Sp.lens{g:aO}{s:dG}{C R:Nat}(h:Sp g s C R){b:Nat}(hb:b<C):(b+1)*R<=s.map.length/\s.map.length<=128/\(gN s.map R b).length=R/\Nat.ble (b*R) ((b+1)*R)=true/\Nat.ble ((b+1)*R) s.map.length=true:=by
 have hl:=h.hl;have E:=h.A3.2.2.2.2.1;have I:=h.A3.2.2.2.2.2.1;have D:(b+1)*R<=s.map.length:=by rw[hl];exact iN R hb
 have J:C*R<=8*16:=Nat.mul_le_mul E I;exact⟨D,by omega,C2 D,iP (by rw[gH];omega),iP D⟩
def SM:cx:=⟨List.replicate 16 (-1),List.replicate 16 0,0⟩
def aab:bZ:=⟨List.replicate 11 0,false⟩
def SN(g:aO):dx:=⟨List.replicate (dK g).toNat aab,List.replicate (gu g).toNat 0,List.replicate (gu g).toNat 0⟩
def tK(c:eX)(p:dS):av:=⟨c,⟨p,p,false⟩,0,RT c.ay,RX c.ay,SN c.ay,(th c.ay c.bP).1,⟨List.replicate (aT c.ay).toNat 0,c.interval,false⟩,List.replicate (aT c.ay).toNat SM,List.replicate (aT c.ay).toNat p.eK,[],[],p.weights.map iI,⟨false,p.low,p.high⟩,⟨0,0,0⟩,⟨0,10,10⟩,[],[],[]⟩
def Dn{p:dS}(h:yb p):oQ p=true/\gF (p.weights.map iI)=true/\p.weights.length=4:=by
 obtain⟨⟨⟨E,I⟩,⟨J,Q⟩,⟨L,T⟩,⟨O,U⟩,⟨i,w,hi,Y,Z,C⟩,⟨h9,h10⟩,R7,ke⟩,kf,lG⟩:=h;have hl:p.weights.length=4:=by rw[C,iw];rfl
 have D:gF (p.weights.map iI)=true:=by
  rw[C];rcases(by omega:i=0\/i=1\/i=2\/i=3)with rfl|rfl|rfl|rfl<;>rcases(by omega:w=1\/w=2\/w=3\/w=4)with rfl|rfl|rfl|rfl<;>rfl
 refine⟨?_,D,hl⟩;unfold oQ jS xX;rw[D,hl];simp only[aK,aM,gf,fz];refine⟨⟨E,I⟩,⟨J,by omega⟩,⟨by omega,by omega⟩,⟨L,O,by omega⟩,rfl,trivial,⟨by omega,by omega⟩,by omega,by omega⟩
def aBh{n:Int}(C:8<=n)(D:n<=17):Ap n=some (2*n+2):=by
 unfold Ap;rw[dJ,au,bx.2 ⟨by omega,by omega⟩,bB,aq,aR (n:=2*n),aR]
def SO{g:aO}(h:R1 g):cD g=true:=by
 obtain⟨⟨C,D⟩,⟨E,I⟩,⟨J,L⟩,O,Q⟩:=h;simp only[cD,aK,aM,gf];omega
def aBi:∀ r∈[(1:Int),2,3,4],∀ w∈[(4:Int),5,6,7,8],jr (Zj r w)=true/\decide (CY (Zj r w)<=200)=true:=by
 intro r C w D;simp only[fQ,List.not_mem_nil,or_false]at C D;rcases C with rfl|rfl|rfl|rfl<;>rcases D with rfl|rfl|rfl|rfl|rfl<;>exact⟨by kernel_rfl,by kernel_rfl⟩
def aBj{c:eX}(h:vV c):nY c=true:=by
 obtain⟨C,⟨r,w,L,O,Q,T,D⟩,⟨U,Y⟩,⟨Z,Mt⟩,⟨hi1,hi2⟩,E,hl⟩:=h;have I:=SO C;obtain⟨J,t2⟩:=aBi r (by simp;omega) w (by simp;omega);have t2:=of_decide_eq_true t2;obtain⟨⟨h1,h2⟩,⟨h3,h4⟩,⟨h5,h6⟩,h7,h8⟩:=C;unfold nY jD;rw[I,D,J,hl,E];dsimp only;rw[aR (n:=6*c.interval)];simp only[aK,aM,gf,true_and];omega
def akV{c:eX}{p:dS}(C:vV c)(D:yb p):s7 c p=some true:=by
 have I:=aBj C;obtain⟨J,_,Y⟩:=Dn D;obtain⟨Z,⟨r,w,hr1,A8,hw1,hw2,E⟩,⟨hm1,hm2⟩,⟨SK,Mt⟩,⟨hi1,hi2⟩,L,hl⟩:=C;obtain⟨_,O,Q⟩:=D;have T:c.cm.gI=7:=by rw[E];rfl
 have U:c.cm.rp=3:=by rw[E];rfl
 unfold s7;rw[RI,au,I,ak,RK _ (by omega),au,J,ak,aBh O Q,au,hl,L,T,U,aR (n:=2*p.eK+2+2)];dsimp only;rw[aP,ak,aR (n:=7+3),bE,aR (n:=5*c.interval),qh (by omega),aR (n:=16+1),aR (n:=(16+1)*p.eK),aR (n:=5*c.interval / (7+3)),aR,aP]
def grow(x:av)(l:Int)(i:Nat):av:=⟨x.config,x.box,x.now,x.aY,x.ready,x.array,x.spare,x.aQ,x.bK++List.replicate i SM,x.guard++List.replicate i l,x.pending,x.queue,x.shares,x.drain,x.bh,x.cU,x.errors,x.trace,x.cy⟩
def aac(g:aO)(sp:Int):aO:=⟨g.cq,g.aC,g.rows-sp,g.aN⟩
def SP(g:aO)(sp:Int):Bool:=nq g (RT g)&&(kW g (RX g)&&(nh g (SN g)&&(kX g (th g sp).1&&((th g sp).1.bP==sp&&(cD (aac g sp)&&(decide (0<dK (aac g sp))&&(W6 (W6 ((dK g).tdiv g.rows)*W6 (g.rows-sp))==dK (aac g sp)&&(decide (1<=dK g)&&decide ((th g sp).1.map.length<=1048576)))))))))
def aBk:(([1,2]:aa Int).all λG=>([1,2]:aa Int).all λB=>([4,5,6]:aa Int).all λR=>([1,2]:aa Int).all λC=>([0,1,2]:aa Int).all λsp=>SP ⟨G,B,R,C⟩ sp)=true:=by kernel_rfl
def akW{g:aO}{sp:Int}(h:R1 g)(C:0<=sp)(D:sp<=2):SP g sp=true:=by
 obtain⟨⟨E,I⟩,⟨J,L⟩,⟨O,Q⟩,T,U⟩:=h;have e:=aBk;simp only[cE]at e;exact e g.cq (by simp;omega) g.aC (by simp;omega) g.rows (by simp;omega) g.aN (by simp;omega) sp (by simp;omega)
def aBl:jf SM=true:=by kernel_rfl
def aBm{c:eX}{p:dS}(C:vV c)(I:yb p):c8 (tK c p):=by
 have hb:=eY c.ay;have hl:=kU c.ay;have J:=p6 c.ay;obtain⟨_,_,L⟩:=Dn I;have E:=akW C.1 C.2.2.2.1.1 C.2.2.2.1.2;simp only[SP,aM,gf]at E
 refine⟨⟨?_,?_⟩,?_,⟨?_,?_⟩,⟨⟨?_,λy D=>?_⟩,?_,?_⟩,E.2.2.2.2.2.2.2.2.2,?_,⟨?_,λy D=>?_⟩,?_,?_,?_,?_,?_,?_,?_⟩
 ·show p.weights.length<=_;omega
 ·show p.weights.length<=_;omega
 ·show (List.replicate _ _).length<=_;rw[mO];omega
 ·show (List.replicate _ _).length<=_;rw[mO];omega
 ·exact iO _
 ·show (List.replicate _ _).length<=_;rw[mO];omega
 ·obtain rfl:=List.eq_of_mem_replicate D;exact cI rfl
 ·show (List.replicate _ _).length<=_;rw[mO];omega
 ·show (List.replicate _ _).length<=_;rw[mO];omega
 ·show (List.replicate _ _).length<=_;rw[mO];omega
 ·show (List.replicate _ _).length<=_;rw[mO];omega
 ·obtain rfl:=List.eq_of_mem_replicate D;exact⟨cI rfl,cI rfl⟩
 ·show (List.replicate _ _).length<=_;rw[mO];omega
 ·exact iO _
 ·exact iO _
 ·show (p.weights.map iI).length<=_;rw[dh];omega
 ·exact iO _
 ·exact iO _
 ·exact iO _
def aBn{c:eX}{p:dS}(C:vV c)(D:yb p):dA (tK c p)=true:=by
 have hb:=eY c.ay;have hbp:=LG (SO C.1);have hl:=kU c.ay;obtain⟨_,J,L⟩:=Dn D;have E:=akW C.1 C.2.2.2.1.1 C.2.2.2.1.2;simp only[SP,aM,gf]at E;obtain⟨O,Q,T,U,Y,g6,g7,g8,g9,g10⟩:=E;have I:lT c p=true:=by unfold lT;rw[akV C D];rfl
 have hiv:200<=c.interval/\c.interval<=259:=C.2.2.2.2.1;obtain⟨⟨_,_,⟨l1,l2⟩,⟨Z,l4⟩,_⟩,p1,p2⟩:=D;have e1:eF (tK c p).aQ=true:=by
  unfold eF;simp only[tK,mO,aK,aM,gf,List.all_replicate];refine⟨?_,by omega,aP,aP⟩;split<;>rfl
 have e2:tj (tK c p)=true:=by
  unfold tj;simp only[tK,mO,aM,fz,List.length_nil,List.range_zero,List.all_nil];refine⟨by omega,by omega,by omega,rfl,?_,trivial⟩;rw[cE];intro i hi;have hi:i<(aT c.ay).toNat:=eV.1 hi;unfold partAt;simp only[List.getElem?_replicate,hi,if_true,aBl,cr];exact bx.2 ⟨by omega,by omega⟩
 have e3:jS (tK c p).drain=true:=by
  unfold jS;simp only[tK,aM];exact⟨aP l1,aP Z,aP⟩
 have e4:aK 0 0 (W6 (dK c.ay-1))=true:=by
  rw[aR];exact bx.2 ⟨by omega,by omega⟩
 have e5:((p.weights.map iI).length:Int)==4:=by rw[dh,L];rfl
 unfold dA;simp only[aM];exact⟨I,I,rfl,O,Q,T,U,Y,⟨e1,e2⟩,rfl,J,e5,e3,rfl,rfl,rfl,rfl,rfl,e4,rfl,rfl,rfl⟩
def aBo{c:av}(E:dA c=true)(r:aX):dA (tu c r).1=true/\((tu c r).2=false->(tu c r).1=c):=by
 have h:=Ck.of E;have p:=fJ.of h.pa;unfold tu;cases hb:((!dA c) ||((!(lU c r).2) ||(c.cy.any λx=>x.id==r.id)))with
 |true=>exact⟨E,λ_=>rfl⟩
 | false=>
  refine⟨?_,λh=>by cases h⟩
  rw[aq];simp only[o9,Bool.not_eq_false']at hb;have I:iJ (dK (dW c.config.ay c.spare)) (lU c r).1=true:=by
   have C:=hb.2.1;unfold lU Da at C ⊢;cases D:(iJ (dK (dW c.config.ay c.spare)) c.queue&&iJ (dK (dW c.config.ay c.spare)) (tq (λx=>fk (Db c r) x) c.queue (Db c r)))with
   |false=>rw[D]at C;cases C
   | true=>
    rw[aM]at D;exact D.2
  exact Ck.ok ⟨h.f1,h.f2,h.nw,h.rk,h.rd,h.ar,h.sp,h.se,h.rf,(show fJ { c with queue:=(lU c r).1 } from ⟨p.dl,p.tl,p.gl,p.t,p.g,p.pd,p.u⟩).ok,I,h.sh,h.sl,h.dr,h.pw,h.ps,h.si,h.s1,h.s2,h.s3,h.er,h.tr,h.rp⟩
def aBp{b:aa Int}{c:bN}(E:kC b c):Dr b (Qh c) λ_=>True:=by
 unfold Qh;rw[E.eq]
 refine(fB E 4).bind λx L O D=>?_
 dsimp only;rw[D.eta];cases hb:(x==(0:Int))with
 | true=>
  rw[ak]
  refine(Rz D _ (by decide)).bind λy I _ C=>?_
  dsimp only;rw[C.eta];exact Dr.pure C trivial
 | false=>
  rw[aq];cases Q:(x==(1:Int))with
  | true=>
   rw[ak]
   refine(fB D 200).bind λy I _ C=>?_
   dsimp only;rw[C.eta];exact Dr.pure C trivial
  | false=>
   rw[aq]
   refine(fB D 65536).bind λy I _ C=>?_
   dsimp only;rw[C.eta]
   refine(fB C 65536).bind λy T _ J=>?_
   dsimp only;rw[J.eta];exact Dr.pure J trivial
def aBq{b:aa Int}{c:bN}(D:kC b c)(n:Int):Dr b (Qi c n) λ_=>True:=by
 unfold Qi;rw[D.eq]
 refine(fB D 60).bind λT U Y E=>?_
 dsimp only;rw[E.eta]
 refine(fB E 3).bind λZ k2 h2 I=>?_
 dsimp only;rw[I.eta]
 refine(fB I n).bind λx3 k3 h3 J=>?_
 dsimp only;rw[J.eta]
 refine(fB J 50).bind λx4 k4 h4 L=>?_
 dsimp only;rw[L.eta]
 refine(RB L 2).bind λQ k5 h5 C=>?_
 dsimp only;rw[C.eta];cases Q with
 | true=>
  rw[ak]
  refine(aBp C).bind λx6 k6 h6 O=>?_
  dsimp only;rw[O.eta];exact Dr.pure O trivial
 |false=>exact Dr.pure C trivial
def Mv(a:jk):Prop:=a.oh.weights.length<=1048576
def WtI(i:Int)(a:jk):Prop:=Mv a/\(a.request.id=0\/a.request.id=i)
def aBr{b:aa Int}{c:bN}(J:kC b c){x:eX}(hx:vV x)(i:Int):Dr b (Ql c x i) (WtI i):=by
 have L:=SO hx.1;have gb:=fA L;unfold Ql;rw[CU,au,bE,J.eq];dsimp only
 refine(fB J 12).bind λD k2 h2 C=>?_
 dsimp only;rw[C.eta];have O:∀ l:aa Int,0<l.length->Dr b ((Am k2 l).bind λE=>some ((⟨(2:Int),⟨(0:Int),(0:Int),(0:Int),false,(0:Int),(0:Int)⟩,E.1,(0:Int),⟨(0:Int),(0:Int),(0:Int)⟩,⟨(0:Int),(0:Int),(0:Int),(0:Int),(0:Int),[],⟨(0:Int),(0:Int)⟩⟩⟩:jk),((⟨b,E.2.1.i,E.2.1.h⟩:bN),()))) (WtI i):=λl hl=>by
  refine(Rz C l hl).bind λy k hy Q=>?_
  dsimp only;rw[Q.eta];exact Dr.pure Q ⟨by show (0:Nat)<=1048576;omega,.inl rfl⟩
 cases h0:D==(0:Int)with
 | true=>
  rw[ak,ak];exact O _ (by simp)
 |false=>
 rw[aq];cases h1:D==(1:Int)with
 | true=>
  rw[ak];exact O _ (by simp)
 |false=>
 rw[aq];cases D==(2:Int)with
 | true=>
  rw[ak]
  refine(axe C L).bind λy5 k5 h5 T=>?_
  dsimp only;rw[T.eta]
  refine(fB T 11).bind λy6 k6 h6 U=>?_
  dsimp only;rw[U.eta]
  refine(fB U 16).bind λy7 k7 h7 Y=>?_
  dsimp only;rw[Y.eta];exact Dr.pure Y ⟨by show (0:Nat)<=1048576;omega,.inl rfl⟩
 |false=>
 rw[aq];cases D==(3:Int)with
 | true=>
  rw[ak]
  refine(Rz C _ (by simp)).bind λy8 k8 h8 Z=>?_
  dsimp only;rw[Z.eta]
  refine(fB Z 2).bind λy9 k9 h9 C7=>?_
  rw[oO,au];dsimp only;rw[C7.eta]
  refine(fB C7 _).bind λjR Yd R7 akX=>?_
  dsimp only;rw[akX.eta]
  refine(fB akX _).bind λlQ Yc ke akY=>?_
  dsimp only;rw[akY.eta]
  refine(ajq akY).bind λqQ Yn kf akZ=>?_
  dsimp only;rw[akZ.eta];have hl:=(Dn kf).2.2;exact Dr.pure akZ ⟨by show qQ.weights.length<=1048576;omega,.inl rfl⟩
 |false=>
 rw[aq]
 refine(aBq C _).bind λoK k14 lG ak0=>?_
 dsimp only;rw[ak0.eta]
 refine(RB ak0 2).bind λr4 k15 kN I=>?_
 dsimp only;rw[I.eta];cases r4 with
 | true=>
  rw[ak]
  refine(fB I 3).bind λoL k16 jL ak1=>?_
  dsimp only;rw[ak1.eta];exact Dr.pure ak1 ⟨by show (0:Nat)<=1048576;omega,.inr rfl⟩
 |false=>exact Dr.pure I ⟨by show (0:Nat)<=1048576;omega,.inr rfl⟩
def aBs{b:aa Int}{c:bN}(O:kC b c){x:eX}(Y:vV x)(m:Nat)(hm:m<=100):Dr b (Qo c x (m:Int)) λl=>l.length<=m+1/\∀ a∈l,Mv a/\a.request.id<=(m:Int)+1:=by
 unfold Qo bw;rw[O.eq];obtain⟨z,e,C,bg,D,hl,E,rfl⟩:=YC (step:=Kp) (m+1) (λk s=>∃ (C:bN) (bg:aa jk),kC b C/\bg.length=k/\(∀ a∈bg,Mv a/\a.request.id<=(m:Int)+1)/\s=(((),(m:Int),(),(),(k:Int),()),(((),C.i,C.h,()),x,bg,b,())))
  (λz=>∃(C:bN) (bg:aa jk),kC b C/\bg.length<=m+1/\(∀a∈bg,Mv a/\a.request.id<=(m:Int)+1)/\z = .inl (((),()),(bg,((),C.i,C.h,()),b,()))) aS (x:=(((),(m:Int),(),(),(0:Int),()),(((),c.i,c.h,()),x,([]:aa jk),b,()))) ⟨c,[],O,rfl,λa ha=>(by cases ha),rfl⟩ (by
  rintro k hk s ⟨C,bg,D,hl,E,rfl⟩;unfold Kp aA xG;dsimp only;rw[D.eta,aR (n:=(m:Int)+1)];obtain⟨Q,J,L,I,T⟩:=fB D ((m:Int)+1);rw[L,au];dsimp only;by_cases U:(k:Int)<Q
  ·obtain⟨Z,k2,e2,Oi,h2,h3⟩:=aBr I Y (W6 ((k:Int)+1));rw[aP U,ak,I.eta,e2,au];dsimp only;rw[aR (n:=(k:Int)+1)]at h3;rw[cP (by rw[iz];omega),ak,bI]
   refine .inl ⟨_,rfl,k2,bg++[Z],Oi,by rw[o8,iz,hl],λa ha=>?_,rfl⟩
   rcases List.mem_append.1 ha with ha|ha
   ·exact E a ha
   ·rw[oe.1 ha];exact⟨h2,by omega⟩
  ·rw[aW U,aq];exact .inr ⟨_,rfl,J,bg,I,by omega,E,rfl⟩) (by
  rintro s ⟨C,bg,D,hl,E,rfl⟩;unfold Kp aA xG;dsimp only;rw[D.eta,aR (n:=(m:Int)+1)];obtain⟨Q,J,L,I,T⟩:=fB D ((m:Int)+1);have h31:=T.2.2 (by omega);rw[L,au];dsimp only;rw[aW,aq];exact⟨_,rfl,J,bg,I,by omega,E,rfl⟩) (bM)
 rw[e,au];simp only[dY];rw[D.eta];exact Dr.pure D ⟨hl,E⟩
abbrev Mw:=aj (af×(av×af))
def Ks(s:av)(o:Mw):Prop:=∃y,o=some ((),(y,()))/\c8 y/\dA y=true/\Nx s y
def aBt{c:av}(h:eF c.aQ=true){n:Int}(U:2<=n/\n<=10000):∃ r,J9 c n=some ((),(q6 c r,()))/\eF r=true/\r.aJ.length=c.aQ.aJ.length:=by
 have hl:=n7 h;have C:=Mh h;have Y:1<=c.aQ.wait/\c.aQ.wait<=10000:=by
  simp only[eF,aM,bx]at h;exact h.2.2
 have mk:∀ (l:aa Int) (w:Int) (b:Bool),l.length=c.aQ.aJ.length->(∀ x∈l,-2<=x/\x<=5)->1<=w/\w<=10000->eF ⟨l,w,b⟩=true:=λl w b Z J L=>by
  simp only[eF,aM,cE,uz,bx];exact⟨J,by omega,L⟩
 have D:W6 (c.aQ.wait-1)=c.aQ.wait-1:=aR;unfold J9 bw;by_cases E:c.aQ.wait-1 > 0
 ·rw[D,aP E,ak];exact⟨⟨c.aQ.aJ,c.aQ.wait-1,c.aQ.dN⟩,rfl,mk _ _ _ rfl C (by omega),rfl⟩
 ·have e:=cL (step:=J8) c.aQ.aJ.length (λi=>(((),n,(i:Int),()),(q6 c ⟨upto o7 c.aQ.aJ i,c.aQ.wait-1,c.aQ.dN⟩,()))) (.inl (((),n,()),(q6 c ⟨c.aQ.aJ.map o7,c.aQ.wait-1,c.aQ.dN⟩,()))) aS (λi hi=>by
   have hlen:=AA o7 c.aQ.aJ i;unfold J8 q6 aA xG xL;dsimp only;rw[aP,ak,az ⟨by omega,by omega⟩,az,az ⟨by omega,by omega⟩,az,bI];simp only[bu];rw[FZ o7 c.aQ.aJ i hi,<-F0 o7 c.aQ.aJ i hi];rfl) (by
   unfold J8 q6 aA xG xL;dsimp only;rw[FY,aW (by rw[dh];omega),aq]) (bM)
  rw[bT,FX]at e;have I:∀ x∈c.aQ.aJ.map o7,-2<=x/\x<=5:=λx O=>by
   obtain⟨d,Q,rfl⟩:=List.mem_map.1 O;have:=C d Q;unfold o7;rw[aR (n:=d+1)];split<;>omega
  have T:W6 (n.tdiv 2)=n / 2:=by rw[qh (by omega)];exact aR
  rw[D,aW E,aq]
  refine(bF (λo=>∃r,Option.bind o _=some ((),(q6 c r,()))/\eF r=true/\r.aJ.length=c.aQ.aJ.length) e).mpr ?_
  rw[au];simp only[dY,q6];rw[T];cases c.aQ.dN with
  |true=>exact⟨⟨c.aQ.aJ.map o7,n / 2,true⟩,rfl,mk _ _ _ (by simp) I (by omega),by simp⟩
  |false=>exact⟨⟨c.aQ.aJ.map o7,n,false⟩,rfl,mk _ _ _ (by simp) I (by omega),by simp⟩
def aBu{c:av}(h:nh c.config.ay c.array=true):∃ a,Kb c 1=some ((),(cR c a,()))/\nh c.config.ay a=true:=by
 have E:cD c.config.ay=true:=(ajo h).1;have C:=ep.so h;have hb:=p6 c.config.ay;have hl:=C.bC
 refine⟨⟨c.array.cells,c.array.bC.map (nj 1),c.array.bz⟩,?_,tF E ⟨C.cells,C.syms,by rw[dh];exact C.bC,C.bz,λx D=>?_,C.iH⟩⟩
 ·have e:=cL (step:=Ka) c.array.bC.length (λi=>(((),(1:Int),(i:Int),()),(cR c ⟨c.array.cells,upto (nj 1) c.array.bC i,c.array.bz⟩,()))) (.inl ((),(cR c ⟨c.array.cells,c.array.bC.map (nj 1),c.array.bz⟩,()))) aS (λi hi=>by
   have hlen:=AA (nj 1) c.array.bC i;have D:=C.AB _ (cO hi);unfold Ka cR aA xG xL;dsimp only;rw[aP,ak,az ⟨by omega,by omega⟩,az,az ⟨by omega,by omega⟩,az,bI];simp only[bu];rw[FZ (nj 1) c.array.bC i hi,aR (n:=c.array.bC[i]+1),<-F0 (nj 1) c.array.bC i hi];rfl) (by
   unfold Ka cR aA xG xL;dsimp only;rw[FY,aW (by rw[dh];omega),aq]) (bM)
  rw[bT,FX]at e;unfold Kb bw;exact(bF (λo=>Option.bind o _) e).trans rfl
 ·obtain⟨y,I,rfl⟩:=List.mem_map.1 D;exact YO (C.AB y I) (by decide)
def aBv(q:aa aX)(w:Bool)(hl:q.length<1073741824):∃ n,J5 q w=some n:=by
 unfold J5 bw;have e:=cL (step:=J4) q.length (λi=>((q,w,(((q.take i).countP λr=>r.write==w:Nat):Int),(i:Int),()),())) (.inl (((((q.take q.length).countP λr=>r.write==w:Nat):Int),()),())) aS (λk C=>by
  have D:=List.countP_le_length (p:=λr:aX=>r.write==w) (l:=q.take k);rw[fF]at D;unfold J4 aA xG xI;dsimp only;rw[aP,ak,az ⟨by omega,by omega⟩,bI];simp only[bu];rw[p7 C,List.countP_append,List.countP_singleton];cases q[k].write==w with
  |true=>rw[ak,bI];rfl
  |false=>rw[aq,bI];rfl) (by
  unfold J4 aA xG xI;dsimp only;rw[aW,aq]) (bM)
 rw[bT]at e;exact⟨_,(bF (λo=>Option.bind o _) e).trans rfl⟩
def aBw{d:gJ}(h:jS d=true)(n:Int):∃ y,J3 d n=some y/\jS y=true:=by
 unfold J3;rw[YV,au,h,bB,aq];cases decide (n >= d.high)with
 | true=>
  cases decide (n<=d.low)with
  |true=>exact⟨_,rfl,h⟩
  |false=>exact⟨_,rfl,h⟩
 | false=>
  cases decide (n<=d.low)with
  |true=>exact⟨_,rfl,h⟩
  |false=>exact⟨_,rfl,h⟩
def aBx{p:eT}(h:gR p=true)(w:Bool):∃ y,J6 p w=some y/\gR y=true/\y.state=p.state/\y.since=p.since:=by
 unfold J6;rw[Y1,au,h,bB,aq];simp only[gR,aM,bx]at h;cases w with
 |true=>exact⟨_,rfl,by simp only[gR,aM,bx];omega,rfl,rfl⟩
 | false=>
  refine⟨_,rfl,?_,rfl,rfl⟩;rw[aR (n:=p.idle+1)];simp only[gR,aM,bx];split<;>omega
def aBy(b:gi)(h:AL b)(x:Bool):∃ t,J7 b x=some (bif t then ⟨b.next,b.next,false⟩else b,t):=by
 have C:b.next.weights.length<=1048576:=h.2
 unfold J7;rw[Zn b h,au];cases x with
 |false=>exact⟨false,rfl⟩
 | true=>
  cases b.waits with
  |false=>exact⟨false,rfl⟩
  | true=>
   refine⟨true,?_⟩;unfold vD xA xZ;rw[gW _];rfl
def aBz{c:eX}{p:dS}(hl:p.weights.length<1073741823)(h:lT c p=true):∃ l t,Ab p.weights=some (l,t)/\gF l=true/\(l.length:Int)=4/\jS ⟨false,p.low,p.high⟩=true:=by
 obtain⟨l,t,e,C⟩:=akR hl h;rw[YT _ hl]at e;exact⟨l,t,by rw[YU _ hl];exact e,C⟩
def aBA{s:lA}{n:Int}(C:aK s.every 1 100000=true)(D:aK s.wait 1 s.every=true)(E:aK s.next 0 (W6 (n-1))=true)(T:1<=n/\n<=1000000):∃ y m,CA s n=some (y,m)/\aK y.every 1 100000=true/\aK y.wait 1 y.every=true/\aK y.next 0 (W6 (n-1))=true/\m<n:=by
 have L:=bx.1 C;have U:=bx.1 D;have I:W6 (n-1)=n-1:=aR;have O:=bx.1 E;rw[I]at O;unfold CA;rw[eJ,au,C,bB,aq,eJ,au,D,bB,aq,aW (show ¬ n<1 by omega),aq,aW (show ¬ s.next<0 by omega),aq,aW (show ¬ s.next >= n by omega),aq,aR (n:=s.wait-1)];by_cases J:s.wait-1 > 0
 ·rw[aP J,ak];exact⟨_,_,rfl,C,bx.2 ⟨by dsimp only;omega,by dsimp only;omega⟩,E,by omega⟩
 ·rw[aW J,aq,bE,aR (n:=s.next+1)];refine⟨_,_,rfl,C,bx.2 ⟨L.1,Int.le_refl _⟩,?_,by omega⟩;rw[I,qg (by omega)];have Q:=Int.emod_nonneg (s.next+1) (show n≠0 by omega);have Y:=Int.emod_lt_of_pos (s.next+1) (show 0<n by omega);exact bx.2 ⟨Q,by dsimp only;omega⟩
def wg(j:av)(b:gi)(s:aa cz)(d:gJ)(p:eT)(u:lA):av:=⟨j.config,b,j.now,j.aY,j.ready,j.array,j.spare,j.aQ,j.bK,j.guard,j.pending,j.queue,s,d,p,u,j.errors,j.trace,j.cy⟩
def SQ(x:av):Mw:=(Al x).bind λC=>(let D:Bool -> Mw:=λE=>bif E then (Aj x C.1 C.2).bind λI=>some ((),(I.2.1,()))else some ((),(x,()));bif (C.1.kind != (0:Int))then (Af x C.1 C.2).bind λJ=>(D J)else (D false))
def SR(x:av)(n:Int):Mw:=bif (decide (n >= (0:Int)))then (Cr x n).bind λC=>(Cq C.2.1 n C.1.2).bind λD=>SQ D.2.1 else SQ x
def Gh(j:av):Mw:=(J5 j.queue true).bind λL=>(J3 j.drain L).bind λD=>(Cv (wg j j.box j.shares D j.bh j.cU)).bind λO=>(J6 j.bh O).bind λE=>(J7 j.box ((j.queue.length:Int)==(0:Int))).bind λC=>bif C.2 then (Ab C.1.bU.weights).bind λQ=>(um j.config.ay).bind λT=>(CA j.cU T).bind λI=>SR (wg j C.1 Q.1 ⟨false,C.1.bU.low,C.1.bU.high⟩ E I.1) I.2 else (um j.config.ay).bind λU=>(CA j.cU U).bind λJ=>SR (wg j C.1 j.shares D E J.1) J.2
def aad{x:av}(C:c8 x)(D:dA x=true):Ks x (SQ x):=by
 have h:=Pq.of C D;have same:Ks x (some ((),(x,()))):=⟨x,rfl,C,D,Nx.refl x⟩
 unfold SQ;rw[aA1 h,au];dsimp only;generalize (bif decide ((x.trace.length:Int) >= 2000)then (we,-1)else Ms x:aH×Int)=p;obtain⟨cmd,i⟩:=p;dsimp only;cases cmd.kind != (0:Int)with
 |false=>exact same
 | true=>
  rw[ak,aAo h,au];cases hm:uP x cmd i with
  |false=>exact same
  | true=>
   obtain⟨hb,E,I,J⟩:=ZS C h hm;rw[ak,aAf hb E I (λr J=>ZM h J),au];exact⟨tE x cmd i,rfl,ako C hb J E I,(Ck.iss C (Ck.of D) hm).ok,akQ (C4 E).2.2.1 λq=>(I q).1.i⟩
def ak2{x:av}(L:c8 x)(h:dA x=true){n:Int}(hn:n<dK x.config.ay):Ks x (SR x n):=by
 unfold SR;by_cases E:n >= 0
 ·have C:=Ck.of h;have I:=ep.so C.ar;have O:=(vU C.rk).1;have hl:=I.cells;have hb:=kU x.config.ay;obtain⟨j,rfl⟩:=fy E;have Q:j<x.array.cells.length:=by omega
  have J:=I.syms _ (cO Q);have SG:=Mo J;have D:ep x.config.ay 100000 ⟨x.array.cells.set j (kY x.array.cells[j]),x.array.bC,x.array.bz⟩:=I.AK _ (Sh J);have p:=fJ.of C.pa;have jm:=(Ek.of C.er).l;rw[aP E,ak,aj8 Q J,au];dsimp only;rw[ake (c:=nA x j (kY x.array.cells[j])) C.er ⟨by omega,by omega⟩ SG,au];dsimp only;obtain⟨T,U,Y,z5,Z,z7,z8,z9,iq,jE,jg,jh,iK,jT⟩:=L;have It:c8 (nA x j (kY x.array.cells[j])):=⟨T,U,Y,sq D,Z,z7,z8,z9,iq,jE,jg,jh,iK,jT⟩
  have HQ:Ck (nA x j (kY x.array.cells[j])):=⟨C.f1,C.f2,C.nw,C.rk,C.rd,tF O D,C.sp,C.se,C.rf,(show fJ (nA x j (kY x.array.cells[j]))from ⟨p.dl,p.tl,p.gl,p.t,p.g,p.pd,p.u⟩).ok,C.qu,C.sh,C.sl,C.dr,C.pw,C.ps,C.si,C.s1,C.s2,C.s3,C.er,C.tr,C.rp⟩
  unfold AV;by_cases e:iM x.array.cells[j]=0
  ·rw[e];exact aad It HQ.ok
  ·rw[fY e,ak];have he:=ZU (l:=x.errors) C.er (n:=(j:Int)) ⟨by omega,by omega⟩ (code:=iM x.array.cells[j]) (by omega);have hle:=ZO (l:=x.errors) (j:Int) (iM x.array.cells[j]);exact aad (x:=Dj (nA x j (kY x.array.cells[j])) (oV x.errors (j:Int) (iM x.array.cells[j]))) ⟨T,U,Y,sq D,Z,z7,z8,z9,iq,jE,jg,by show (oV x.errors (j:Int) (iM x.array.cells[j])).length<=_;omega,iK,jT⟩ (Ck.ok ⟨C.f1,C.f2,C.nw,C.rk,C.rd,tF O D,C.sp,C.se,C.rf,(show fJ (Dj (nA x j (kY x.array.cells[j])) (oV x.errors (j:Int) (iM x.array.cells[j])))from ⟨p.dl,p.tl,p.gl,p.t,p.g,p.pd,p.u⟩).ok,C.qu,C.sh,C.sl,C.dr,C.pw,C.ps,C.si,C.s1,C.s2,C.s3,he,C.tr,C.rp⟩)
 ·rw[aW E,aq];exact aad L h
def ak3{c:av}(O:c8 c)(Q:dA c=true):Ks c (Gh c):=by
 have h:=Ck.of Q;obtain⟨C,T,U,Y,Z,z7,z8,z9,iq,jE,jg,jh,iK,jT⟩:=O;have p:=fJ.of h.pa;have hb:=kU c.config.ay;have Z7:1<=dK c.config.ay:=by
  have:=bx.1 h.s3;rw[aR (n:=dK c.config.ay-1)]at this;omega
 have w2:c.box.next.weights.length<=1048576:=C.2
 obtain⟨n,e1⟩:=aBv c.queue true (by omega);obtain⟨d,e2,D⟩:=aBw h.dr n;have e3:Cv (wg c c.box c.shares d c.bh c.cU)=some (uH (wg c c.box c.shares d c.bh c.cU)):=ajE (c:=wg c c.box c.shares d c.bh c.cU) h.rf;obtain⟨pw,e4,ED,BV,Z8⟩:=aBx h.pw (uH (wg c c.box c.shares d c.bh c.cU));obtain⟨t,e5⟩:=aBy c.box C ((c.queue.length:Int)==(0:Int));obtain⟨u,m,J,Hi,Hj,Z9,L⟩:=aBA h.s1 h.s2 h.s3 ⟨Z7,by omega⟩;have key:∀ (b:gi) (s:aa cz) (d:gJ),AL b->lT c.config b.bU=true->lT c.config b.next=true->gF s=true->(s.length:Int)=4->jS d=true->c8 (wg c b s d pw u)/\dA (wg c b s d pw u)=true:=λb s d vB gz hb3 SK Mt D=>
  ⟨⟨vB,T,U,Y,Z,z7,z8,z9,iq,jE,by show s.length<=_;omega,jh,iK,jT⟩,Ck.ok ⟨gz,hb3,h.nw,h.rk,h.rd,h.ar,h.sp,h.se,h.rf,(show fJ (wg c b s d pw u)from ⟨p.dl,p.tl,p.gl,p.t,p.g,p.pd,p.u⟩).ok,h.qu,SK,Mt,D,ED,BV.trans h.ps,by show pw.since<=c.now;rw[Z8];exact h.si,Hi,Hj,Z9,h.er,h.tr,h.rp⟩⟩
 unfold Gh;rw[e1,au,e2,au,e3,au,e4,au,e5,au];dsimp only;cases t with
 | false=>
  rw[aq,aq,CU,au,J,au];obtain⟨E,I⟩:=key c.box c.shares d C h.f1 h.f2 h.sh h.sl D;exact ak2 E I L
 | true=>
  obtain⟨l,t2,e7,sJ,mc,Gf⟩:=aBz (p:=c.box.next) (by omega) h.f2;rw[ak,ak];dsimp only;rw[e7,au,CU,au,J,au];obtain⟨E,I⟩:=key ⟨c.box.next,c.box.next,false⟩ l ⟨false,c.box.next.low,c.box.next.high⟩ ⟨C.2,C.2⟩ h.f2 h.f2 sJ mc Gf;exact ak2 E I L
def yp(c:av)(n:Int):av:=⟨c.config,c.box,n,c.aY,c.ready,c.array,c.spare,c.aQ,c.bK,c.guard,c.pending,c.queue,c.shares,c.drain,c.bh,c.cU,c.errors,c.trace,c.cy⟩
def aBB{c:av}(hz:c8 c)(hk:dA c=true)(hi:2<=c.config.interval/\c.config.interval<=10000)(hn:c.now<1000000):∃ y,P4 c=some ((),(y,()))/\c8 y/\dA y=true/\Dm c y:=by
 have h:=Ck.of hk;have p:=fJ.of h.pa;have hnw:=bx.1 h.nw;have z:=hz;obtain⟨z1,z2,z3,z5,z6,z7,z8,z9,iq,jE,jg,jh,iK,jT⟩:=z;have e1:W6 (c.now+1)=c.now+1:=aR;have O:∀ (j:av),j.now=c.now+1->j.config=c.config->j.queue=c.queue->j.cy=c.cy->j.trace=c.trace->Ks j (Gh j)->∃ y,Gh j=some ((),(y,()))/\c8 y/\dA y=true/\Dm c y:=λj Q j2 j3 j4 j5 hj=>by
  obtain⟨y,f1,f2,f3,T,U,Y,D,Z⟩:=hj;rw[Q]at T;rw[j2]at U;rw[j3]at Y D;rw[j4]at D;rw[Q,j5]at Z;exact⟨y,f1,f2,f3,T,U,Y,D,Z⟩
 have key:∀ (r:cZ) (a:dx),eF r=true->r.aJ.length=c.aQ.aJ.length->nh c.config.ay a=true->c8 (cR (q6 (yp c (c.now+1)) r) a)/\dA (cR (q6 (yp c (c.now+1)) r) a)=true:=λr a E I C=>by
  refine⟨⟨z1,z2,z3,sq (ep.so C),z6,by have:=z7;unfold AM at this ⊢;show r.aJ.length<=_;omega,z8,z9,iq,jE,jg,jh,iK,jT⟩,Ck.ok ⟨h.f1,h.f2,bx.2 ⟨by show 0<=c.now+1;omega,by show c.now+1<=_;omega⟩,h.rk,h.rd,C,h.sp,h.se,E,(show fJ (cR (q6 (yp c (c.now+1)) r) a)from ⟨by show (r.aJ.length:Int)=_;rw[I];exact p.dl,p.tl,p.gl,p.t,p.g,p.pd,p.u⟩).ok,h.qu,h.sh,h.sl,h.dr,h.pw,h.ps,by show c.bh.since<=c.now+1;have:=h.si;omega,h.s1,h.s2,h.s3,h.er,h.tr,h.rp⟩⟩
 unfold P4;rw[aW (show ¬ c.now >= 1000000 by omega),aq,e1];show ∃y,(bif (c.aY.bh != (2:Int))then (J9 (yp c (c.now+1)) c.config.interval).bind λy1=>(Kb y1.2.1 (1:Int)).bind λy2=>Gh y2.2.1 else Gh (yp c (c.now+1)))=some ((),(y,()))/\c8 y/\dA y=true/\Dm c y;cases c.aY.bh != (2:Int)with
 | true=>
  obtain⟨r,f1,E,I⟩:=aBt (c:=yp c (c.now+1)) h.rf hi;obtain⟨a,f2,C⟩:=aBu (c:=q6 (yp c (c.now+1)) r) h.ar;obtain⟨J,L⟩:=key r a E I C;rw[ak,f1,au];dsimp only;rw[f2,au];exact O _ rfl rfl rfl rfl rfl (ak3 J L)
 | false=>
  obtain⟨J,L⟩:=key c.aQ c.array h.rf rfl h.ar;rw[aq];exact O (yp c (c.now+1)) rfl rfl rfl rfl rfl (ak3 (c:=yp c (c.now+1)) J L)
def aae{g:aO}{s:dG}{D R:Nat}(h:Sp g s D R)(b r:Int):Kh g s b r=some (bif dL (dW g s) ⟨b,r,0⟩then b*(R:Int)+r else -1):=by
 obtain⟨T,U,Y,Z,h8,jL,oD,hc,RS,Np⟩:=h.A3;have hR:W6 (g.rows-s.bP)=(R:Int):=by rw[h.hR];exact aR
 unfold Kh;rw[axO,au,h.ok,bB,aq,oO,au,h.hb,hR,aR (n:=(D:Int)-1),aR (n:=(R:Int)-1),eJ,au];by_cases E:0<=b/\b<(D:Int)
 ·rw[bx.2 ⟨E.1,by omega⟩,bB,aq,eJ,au];by_cases J:0<=r/\r<(R:Int)
  ·have I:=(h.ex b r).2 ⟨E,J⟩;obtain⟨b,rfl⟩:=fy E.1;have O:=(h.lens (b:=b) (by omega)).1;have aCg:=(h.lens (b:=b) (by omega)).2.1;rw[gH]at O;have Q:W6 ((b:Int)*(R:Int))=((b*R:Nat):Int):=by rw[<-Int.natCast_mul];exact aR
   rw[bx.2 ⟨J.1,by omega⟩,bB,aq,I,ak,Q,aR,Int.natCast_mul]
  ·have I:dL (dW g s) ⟨b,r,0⟩=false:=by
    cases C:dL (dW g s) ⟨b,r,0⟩with
    |false=>rfl
    |true=>exact absurd ((h.ex b r).1 C).2 J
   have L:aK r 0 ((R:Int)-1)=false:=by
    cases C:aK r 0 ((R:Int)-1)with
    |false=>rfl
    |true=>have:=bx.1 C;exact absurd ⟨this.1,by omega⟩ J
   rw[L,I];rfl
 ·have I:dL (dW g s) ⟨b,r,0⟩=false:=by
   cases C:dL (dW g s) ⟨b,r,0⟩with
   |false=>rfl
   |true=>exact absurd ((h.ex b r).1 C).1 E
  have L:aK b 0 ((D:Int)-1)=false:=by
   cases C:aK b 0 ((D:Int)-1)with
   |false=>rfl
   |true=>have:=bx.1 C;exact absurd ⟨this.1,by omega⟩ E
  rw[L,I];rfl
def ak4{g:aO}{s:dG}{C R:Nat}(h:Sp g s C R){b r:Nat}(hb:b<C)(I:r<R):xH g s (b:Int) (r:Int)=some (s.map.getD (b*R+r) 0):=by
 have D:=(h.lens hb).1;rw[gH]at D;have E:=(h.ex (b:Int) (r:Int)).2 ⟨⟨by omega,by omega⟩,by omega,by omega⟩;have e:(b:Int)*(R:Int)+(r:Int)=((b*R+r:Nat):Int):=by rw[Int.natCast_add,Int.natCast_mul]
 unfold xH xI;rw[aae h,au,E,ak,e,aW,aq,az ⟨by omega,by rw[bu];omega⟩];simp only[bu];rw[kG _ (by omega)]
def ak5{g:aO}{s:dG}{C R:Nat}(h:Sp g s C R){b r:Int}(D:dL (dW g s) ⟨b,r,0⟩=false):xH g s b r=some (-1):=by
 unfold xH xI;rw[aae h,au,D];rfl
def ak6{g:aO}{s:dG}{D R:Nat}(h:Sp g s D R)(b r:Int):∃ y,xH g s b r=some y/\(dL (dW g s) ⟨b,r,0⟩=true->0<=y/\y<g.rows):=by
 cases C:dL (dW g s) ⟨b,r,0⟩with
 |false=>exact⟨-1,ak5 h C,λh=>by cases h⟩
 | true=>
  obtain⟨⟨E,J⟩,I,a4⟩:=(h.ex b r).1 C;obtain⟨b,rfl⟩:=fy E;obtain⟨r,rfl⟩:=fy I;exact⟨_,ak4 h (by omega) (by omega),λ_=>h.bound (by omega) (by omega)⟩
def aBC{g:aO}{s:dG}{J R:Nat}(h:Sp g s J R){b:Nat}(hb:b<J){x:Int}(E:0<=x):∃ y,Qa g s (b:Int) x=some y/\(y<0->∀ k,k<R->s.map.getD (b*R+k) 0≠x):=by
 have U:=h.A3.2.2.2.2.2.1;unfold Qa cc;obtain⟨z,e,L⟩:=YC (step:=Ki) 16 (λk t=>t=(((b:Int),x,(),(),(k:Int),()),((g.cq,g.aC,g.rows,g.aN,()),(s.bP,s.map,()),()))/\∀ j,j<k->j<R->s.map.getD (b*R+j) 0≠x)
  (λz=>(∃r:Int,0<=r/\z = .inl ((r,()),()))\/(z = .inr (.inl ((),()))/\∀j,j<R->s.map.getD (b*R+j) 0≠x)) aS (x:=(((b:Int),x,(),(),(0:Int),()),((g.cq,g.aC,g.rows,g.aN,()),(s.bP,s.map,()),()))) ⟨rfl,λj D=>by omega⟩ (by
  rintro k Y t ⟨rfl,C⟩;unfold Ki aA bq xG;dsimp only;rw[ni,show (⟨s.bP,s.map⟩:dG)=s from rfl,aP (show (k:Int)<16 by omega),ak,aP (show x >= 0 from E),ak];by_cases O:k<R
  ·rw[ak4 h hb O,au];by_cases e:s.map.getD (b*R+k) 0=x
   ·rw[e,kM,ak];exact .inr ⟨_,rfl,.inl ⟨(k:Int),by omega,rfl⟩⟩
   ·rw[fP e,aq,bI]
    refine .inl ⟨_,rfl,rfl,λj D I=>?_⟩
    by_cases Q:j=k
    ·subst Q;exact e
    ·exact C j (by omega) I
  ·have T:dL (dW g s) ⟨(b:Int),(k:Int),0⟩=false:=by
    cases E:dL (dW g s) ⟨(b:Int),(k:Int),0⟩with
    |false=>rfl
    |true=>have:=((h.ex (b:Int) (k:Int)).1 E).2;omega
   rw[ak5 h T,au,fP (show ¬ (-1:Int)=x by omega),aq,bI];exact .inl ⟨_,rfl,rfl,λj D I=>C j (by omega) I⟩) (by
  rintro t ⟨rfl,C⟩;unfold Ki aA bq xG;dsimp only;rw[aW,aq];exact⟨_,rfl,.inr ⟨rfl,λj D=>C j (by omega) D⟩⟩) (bM)
 rw[e,au];rcases L with ⟨r,Z,rfl⟩|⟨rfl,C⟩
 ·exact⟨r,rfl,λhn=>by omega⟩
 ·exact⟨-1,rfl,λ_=>C⟩
def aBD{g:aO}{s:dG}{C R:Nat}(h:Sp g s C R)(b r:Int):∃ y t,Qb g s b r=some (y,t)/\Sp g y C R/\y.bP=s.bP/\(t=true->dL (dW g s) ⟨b,r,0⟩=true):=by
 obtain⟨hg,DS,eg,eb,E,I,oD,hc,RS,Np⟩:=h.A3;have hm:s.map.length<=128:=by
  rw[h.hl];exact Nat.mul_le_mul E I
 have hR:=h.hR;have J:W6 (g.rows-s.bP)=(R:Int):=by rw[h.hR];exact aR
 unfold Qb IW cc xA xZ;rw[cP (by simp;omega),ak,jH,au,aae h,au];cases L:dL (dW g s) ⟨b,r,0⟩with
 |false=>exact⟨s,false,rfl,h,rfl,λh=>by cases h⟩
 | true=>
  obtain⟨⟨O,a2⟩,Q,a4⟩:=(h.ex b r).1 L;obtain⟨b,rfl⟩:=fy O;obtain⟨r,rfl⟩:=fy Q;have hb:b<C:=by omega
  have T:r<R:=by omega
  have U:=(h.lens hb).1;have hp:b*R+r<s.map.length:=by
   rw[gH]at U;omega
  have Y:(b:Int)*(R:Int)+(r:Int)=((b*R+r:Nat):Int):=by rw[Int.natCast_add,Int.natCast_mul]
  rw[ak,Y,aW,aq,J];dsimp only;obtain⟨n,hn⟩:=fy (show 0<=g.rows-(R:Int) by omega);obtain⟨z,e,Z⟩:=YC (step:=Kj) n (λk x=>x=(((b:Int),(),(),(),(),((b*R+r:Nat):Int),(R:Int)+(k:Int),()),((g.cq,g.aC,g.rows,g.aN,()),(s.bP,s.map,()),((0:Int),(),()),(s.bP,(),()),([]:aa Int),s.map,())))
   (λz=>(∃i:Int,z = .inl (((),true,()),((s.bP,(),()),s.map.set (b*R+r) i,()))/\(R:Int)<=i/\i<=g.rows-1/\∀k,k<R->s.map.getD (b*R+k) 0≠i)\/z = .inr (.inl (((),(),()),(((0:Int),(),()),(s.bP,(),()),([]:aa Int),s.map,())))) aS (x:=(((b:Int),(),(),(),(),((b*R+r:Nat):Int),(R:Int),()),((g.cq,g.aC,g.rows,g.aN,()),(s.bP,s.map,()),((0:Int),(),()),(s.bP,(),()),([]:aa Int),s.map,()))) (by rw[bT,Int.add_zero]) (by
   rintro k hk x rfl;obtain⟨y,ey,hy⟩:=aBC h hb (x:=(R:Int)+(k:Int)) (by omega);unfold Kj aA bq xG xL;dsimp only;rw[ni,aP (show (R:Int)+(k:Int)<g.rows by omega),ak];rw[show (⟨s.bP,s.map⟩:dG)=s from rfl,ey,au];by_cases D:y<0
   ·rw[aP D,ak,az ⟨by omega,by omega⟩,az];refine .inr ⟨_,rfl,.inl ⟨(R:Int)+(k:Int),?_,by omega,by omega,hy D⟩⟩;simp only[bu]
   ·rw[aW D,aq,aR (n:=(R:Int)+(k:Int)+1)];exact .inl ⟨_,rfl,by rw[show ((k+1:Nat):Int)=(k:Int)+1 from Int.natCast_succ k,<-Int.add_assoc]⟩) (by
   rintro x rfl;unfold Kj aA bq xG xL;dsimp only;rw[aW (show ¬ (R:Int)+(n:Int)<g.rows by omega),aq];exact⟨_,rfl,.inr rfl⟩) (bM)
  rw[e,au];rcases Z with ⟨i,rfl,i1,i2,i3⟩|rfl
  ·exact⟨_,true,rfl,h.set hb T i1 i2 i3,rfl,λ_=>rfl⟩
  ·exact⟨_,false,rfl,h,rfl,λh=>by cases h⟩
def aBE{c:av}(L:c8 c)(D:dA c=true)(t:aL):∃ v y,Qc c t=some (v,(y,()))/\c8 y/\dA y=true/\Nx c y:=by
 have h:=Ck.of D;obtain⟨bn,R,E⟩:=Sp.of h.sp;obtain⟨O,DS,eg,eb,h8,jL,oD,hc,RS,Np⟩:=E.A3;obtain⟨f,e1,hf⟩:=ak6 E t.ax t.row;obtain⟨y,v,e2,I,U,ht⟩:=aBD E t.ax t.row;unfold Qc bw xL;rw[e1,au,e2,au];cases v with
 |false=>exact⟨false,c,rfl,L,D,Nx.refl c⟩
 | true=>
  have Q:=ht rfl;obtain⟨⟨Y,a2⟩,a3,a4⟩:=(E.ex t.ax t.row).1 Q;have me:=(vU h.rk).2.1;have SD:=E.hb;have hR:=E.hR;obtain⟨f1,f2⟩:=hf Q;have Z:dW c.config.ay y=dW c.config.ay c.spare:=by
   unfold dW;rw[I.ok,h.sp,U]
  obtain⟨q,e3,J⟩:=ak6 I t.ax t.row;have J:=J (by rw[Z];exact Q);rw[bB,aq,az ⟨Y,by omega⟩,az];dsimp only;cases c.aY.aC[t.ax.toNat].open_ with
  |true=>exact⟨false,c,rfl,L,D,Nx.refl c⟩
  | false=>
   rw[aq,e3,au];obtain⟨n,hn⟩:=fy (show 0<=c.config.ay.aN by omega);have gb:=fA O;have Zs:∀(row:Int) (k:Nat),0<=row->row<c.config.ay.rows->k<n->dL c.config.ay ⟨t.ax,row,(k:Int)⟩=true:=λrow k r1 r2 D=>vL O Y (by rw[SD];exact a2) r1 r2 (by dsimp only;omega) (by dsimp only;omega)
   obtain⟨z,e,D7⟩:=YB (step:=Fe) n (λk x=>∃ a:dx,ep c.config.ay 100000 a/\x=(((),(),(),f,(),q,(k:Int),()),(cR c a,(t.ax,t.row,t.bR,()),(c.config.ay.cq,c.config.ay.aC,c.config.ay.rows,c.config.ay.aN,()),(y.bP,(),()),y.map,())))
    (λz=>∃a:dx,ep c.config.ay 100000 a/\z = .inl (((),(),()),(cR c a,(y.bP,(),()),y.map,()))) aS (x:=(((),(),(),f,(),q,(0:Int),()),(c,(t.ax,t.row,t.bR,()),(c.config.ay.cq,c.config.ay.aC,c.config.ay.rows,c.config.ay.aN,()),(y.bP,(),()),y.map,()))) ⟨c.array,ep.so h.ar,rfl⟩ (by
    rintro k D x ⟨a,C,rfl⟩;have at1:=Zs q k J.1 J.2 D;have at2:=Zs f k f1 f2 D;obtain⟨i1,_⟩:=L4 at1;obtain⟨i2,_⟩:=L4 at2;have l1:=C.lt at1;have l2:=C.lt at2;have hsy:=C.syms _ (cO l2);have st:Fe (((),(),(),f,(),q,(k:Int),()),(cR c a,(t.ax,t.row,t.bR,()),(c.config.ay.cq,c.config.ay.aC,c.config.ay.rows,c.config.ay.aN,()),(y.bP,(),()),y.map,()))=some (.inl (((),(),(),f,(),q,((k+1:Nat):Int),()),(cR c ⟨a.cells.set (ir c.config.ay ⟨t.ax,q,(k:Int)⟩) a.cells[ir c.config.ay ⟨t.ax,f,(k:Int)⟩],a.bC,a.bz⟩,(t.ax,t.row,t.bR,()),(c.config.ay.cq,c.config.ay.aC,c.config.ay.rows,c.config.ay.aN,()),(y.bP,(),()),y.map,()))):=by
     unfold Fe aA xG xL xM;dsimp only;rw[ni,aP (show (k:Int)<c.config.ay.aN by omega),ak,Rs,au,Rs,au,i1,i2];have T:0<=(ir c.config.ay ⟨t.ax,f,(k:Int)⟩:Int)/\(ir c.config.ay ⟨t.ax,f,(k:Int)⟩:Int).toNat<(cR c a).array.cells.length:=⟨by omega,by simpa [cR]using l2⟩
     have c2:0<=(ir c.config.ay ⟨t.ax,q,(k:Int)⟩:Int)/\(ir c.config.ay ⟨t.ax,q,(k:Int)⟩)<(cR c a).array.cells.length:=⟨by omega,by simpa [cR]using l1⟩
     rw[az T,az T.2,az T.2];simp only[bu];rw[aix _ (by simp only[cR];rw[hsy.1];omega),au,az c2,az c2.2,bI];rfl
    exact⟨_,st,_,C.AK _ hsy,rfl⟩) (by
    rintro x ⟨a,C,rfl⟩;unfold Fe aA xG xL xM;dsimp only;rw[aW (show ¬ (n:Int)<c.config.ay.aN by omega),aq];exact⟨_,rfl,a,C,rfl⟩) (bM)
   rw[e,au];obtain⟨a,C,rfl⟩:=D7;have p:=fJ.of h.pa;obtain⟨z1,z2,z3,z5,z6,z7,z8,z9,iq,jE,jg,jh,iK,jT⟩:=L;have hml:y.map.length<=128:=by
    rw[I.hl];exact Nat.mul_le_mul h8 jL
   refine⟨true,⟨c.config,c.box,c.now,c.aY,c.ready,a,y,c.aQ,c.bK,c.guard,c.pending,c.queue,c.shares,c.drain,c.bh,c.cU,c.errors,c.trace,c.cy⟩,rfl,⟨z1,z2,z3,sq C,by show y.map.length<=1048576;omega,z7,z8,z9,iq,jE,jg,jh,iK,jT⟩,Ck.ok ⟨h.f1,h.f2,h.nw,h.rk,h.rd,tF O C,I.ok,U.trans h.se,h.rf,(show fJ ⟨c.config,c.box,c.now,c.aY,c.ready,a,y,c.aQ,c.bK,c.guard,c.pending,c.queue,c.shares,c.drain,c.bh,c.cU,c.errors,c.trace,c.cy⟩from ⟨p.dl,p.tl,p.gl,p.t,p.g,p.pd,p.u⟩).ok,?_,h.sh,h.sl,h.dr,h.pw,h.ps,h.si,h.s1,h.s2,h.s3,h.er,h.tr,h.rp⟩,rfl,rfl,List.Sublist.refl _,λr hr=>.inl hr,.inl rfl⟩
   show iJ (dK (dW c.config.ay y)) c.queue=true;rw[Z];exact h.qu
def aBF{g:aO}(D:cD g=true):O2 g=some (SN g):=by
 have E:=kU g;have I:=p6 g;have er:aT g*g.rows=gu g:=by simp[gu,D]
 obtain⟨n,C⟩:=fy E.1;unfold O2 bw;have e:=cL (step:=I7) n (λi=>(((),(),(),(i:Int),()),((g.cq,g.aC,g.rows,g.aN,()),((),(),(),()),((),(),(),()),([]:aa bZ),([]:aa Int),([]:aa Int),List.replicate i aab,([]:aa Int),([]:aa Int),()))) (.inl (((),(),(),()),((g.cq,g.aC,g.rows,g.aN,()),((),(),(),()),((),(),(),()),([]:aa bZ),([]:aa Int),([]:aa Int),List.replicate n aab,([]:aa Int),([]:aa Int),()))) aS (λk h=>by
  unfold I7 aA xG;dsimp only;rw[ni,CU,au,C,aP,ak,br ⟨by decide,by decide,by decide⟩,cP (by simp;omega),ak,bI,List.replicate_succ' (n:=k)];rfl) (by
  unfold I7 aA xG;dsimp only;rw[ni,CU,au,C,aW,aq]) (bM)
 rw[bT,List.replicate_zero]at e
 refine(bF (λo=>Option.bind o _) e).trans ?_
 rw[au];simp only[dY];rw[ni,oO,au,er,aR (n:=gu g),aW,aq,F1,au,D,bB,aq,br ⟨by omega,by omega,by omega⟩,br ⟨by omega,by omega,by omega⟩];unfold SN;rw[C,bu]
def aBG{p:dS}(C:yb p):O3 p=some (⟨p,p,false⟩,true):=by
 obtain⟨D,_,E⟩:=Dn C;unfold O3 vD xA xZ;rw[YW _ (by omega),au,D,bB,aq,cP (by simp[E]),ak,jH,au,au]
def aBH:EP 16=some (SM,true):=by kernel_rfl
def aBI(Z C:av)(c:eX)(p:dS)(n:Nat)(L:n<=8)(D:c.hD=16)(E:C.bK=[])(I:C.guard=[]):
  iter ER aS (((),(),(),(),(n:Int),(0:Int),()),(Z,C,c,(p.eP,p.cap,p.eK,p.low,p.high,p.weights,p.eA.down,p.eA.sleep,()),()))=some (.inl (((),(),(),()),(Z,grow C p.eK n,(p.eP,p.cap,p.eK,p.low,p.high,p.weights,p.eA.down,p.eA.sleep,()),()))):=by
 have e:=cL (step:=ER) n (λi=>(((),(),(),(),(n:Int),(i:Int),()),(Z,grow C p.eK i,c,(p.eP,p.cap,p.eK,p.low,p.high,p.weights,p.eA.down,p.eA.sleep,()),()))) (.inl (((),(),(),()),(Z,grow C p.eK n,(p.eP,p.cap,p.eK,p.low,p.high,p.weights,p.eA.down,p.eA.sleep,()),()))) aS (λk h=>by
  unfold ER grow aA xG;dsimp only;rw[aP,ak,D,aBH,au,E,I,cP (by simp;omega),ak,cP (by simp;omega),ak,bI,List.replicate_succ' (n:=k),List.replicate_succ' (n:=k),List.append_assoc,List.append_assoc]) (by
  unfold ER grow aA xG;dsimp only;rw[aW,aq]) (bM)
 have J:grow C p.eK 0=C:=by
  unfold grow;simp only[List.replicate_zero,List.append_nil]
 rw[bT,J]at e;exact e
def aBJ{c:eX}{p:dS}(D:vV c)(C:yb p):Cg c p=some true:=by
 obtain⟨_,_,E⟩:=Dn C;have e:=akV D C;rw[L6 _ _ (by omega)]at e;rw[ajn _ _ (by omega)];exact e
def aBK{c:eX}{p:dS}(C:vV c)(D:yb p):O5 c p=some (tK c p,true):=by
 have E:=SO C.1;have hb:=eY c.ay;have U:=LG E;obtain⟨Y,J,Z⟩:=Dn D;obtain⟨n,I⟩:=fy hb.1;have L:c.hD=16:=C.2.2.2.2.2.1;have hiv:200<=c.interval/\c.interval<=259:=C.2.2.2.2.1;have O:O4 (n:Int) c.interval=some (⟨List.replicate n 0,c.interval,false⟩,true):=by
  unfold O4;rw[eJ,au,bx.2 ⟨by omega,by omega⟩,bB,aq,eJ,au,bx.2 ⟨by omega,by omega⟩,bB,aq,br ⟨by omega,by omega,by omega⟩,bu]
 have Q:Xr 10=some (⟨0,10,10⟩,true):=rfl;have T:xW p.weights=(p.weights.map iI,true):=by unfold xW;rw[J,ak]
 unfold O5 bw;rw[aBJ C D,au,bB,aq,axX,au,aya E,au,aBF E,au,oO,au,aBG D,au,YR,au,I,O,au];dsimp only;rw[aBI _ _ c p n (by omega) L rfl rfl,au];simp only[dY];rw[YU _ (by omega),au,Q,au,T];unfold tK grow;rw[I,bu];rfl
def Rv(c:av)(N:Int):Prop:=(∀r∈c.queue,r.id<=N/\r.at_<=c.now)/\∀r∈c.cy,r.id<=N
def Rv.nx{c y:av}{N:Int}(h:Rv c N)(D:Nx c y):Rv y N:=by
 obtain⟨E,O,I,J,Q⟩:=D
 refine⟨λr C=>by rw[E];exact h.1 r (I.subset C),λr C=>?_⟩
 rcases J r C with q|⟨q,L,e⟩
 ·exact h.2 r q
 ·rw[e];exact(h.1 q L).1
def Rv.kZ{c y:av}{N:Int}(h:Rv c N)(D:Dm c y):Rv y N:=by
 obtain⟨E,O,I,J,Q⟩:=D
 refine⟨λr C=>?_,λr C=>?_⟩
 ·have:=h.1 r (I.subset C);rw[E];omega
 ·rcases J r C with q | ⟨q,L,e⟩
  ·exact h.2 r q
  ·rw[e];exact(h.1 q L).1
def aBL{r:cZ}(h:eF r=true)(x:Bool):∃ y,P6 r x=some y/\eF y=true/\y.aJ.length=r.aJ.length:=by
 have hl:=n7 h;have C:=h;simp only[eF,aM,bx]at h;have mk:∀ (w:Int) (b:Bool),1<=w/\w<=10000->eF ⟨r.aJ,w,b⟩=true:=λw b D=>by
  simp only[eF,aM,bx];exact⟨h.1,h.2.1,D⟩
 have E:W6 ((W6 (r.wait+1)).tdiv 2)=(r.wait+1) / 2:=by
  rw[aR (n:=r.wait+1),qh (by omega)];exact aR
 have I:W6 (W6 (2*r.wait)-1)=2*r.wait-1:=by
  rw[aR (n:=2*r.wait)];exact aR
 unfold P6 Ce xA xZ;rw[cP (by simp;omega),ak,jH,au,RL _ (by omega),au,C,bB,aq];dsimp only;rw[E,I];cases x with
 | true=>
  cases r.dN with
  |false=>exact⟨_,rfl,mk _ _ (by omega),rfl⟩
  |true=>exact⟨_,rfl,mk _ _ h.2.2,rfl⟩
 | false=>
  cases r.dN with
  |false=>exact⟨_,rfl,mk _ _ h.2.2,rfl⟩
  |true=>exact⟨_,rfl,mk _ _ (by split<;>omega),rfl⟩
def aBM(b:gi)(C:AL b)(p:dS)(D:p.weights.length<=1048576):P7 b p=some (bif oQ p then ⟨b.bU,p,true⟩else b,oQ p):=by
 unfold P7;rw[Zn b C,au,YW _ (by omega),au];cases oQ p with
 |false=>rfl
 | true=>
  unfold vD xA xZ;rw[bB,aq,gW _,ak,jH];rfl
def aBN{c:av}(C:dA c=true)(r:aX):(Ma c r).2=(tu c r).1:=by
 unfold Ma tu;rw[C,bB,Bool.false_or];cases (c.cy.any λx=>x.id==r.id)with
 |true=>rw[Bool.or_true];rfl
 |false=>cases (lU c r).2<;>rfl
def aBO{c:av}{N:Int}(h:Rv c N){r:aX}(D:r.id<=N):Rv (tu c r).1 N/\(tu c r).1.now=c.now/\(tu c r).1.config=c.config:=by
 unfold tu;cases hb:((!dA c) ||((!(lU c r).2) ||(c.cy.any λx=>x.id==r.id)))with
 |true=>exact⟨h,rfl,rfl⟩
 | false=>
  refine⟨⟨λx hx=>?_,h.2⟩,rfl,rfl⟩
  have hx:x∈(lU c r).1:=hx;unfold lU Da at hx;cases C:(iJ (dK (dW c.config.ay c.spare)) c.queue&&iJ (dK (dW c.config.ay c.spare)) (tq (λx=>fk (Db c r) x) c.queue (Db c r)))with
  | false=>
   rw[C]at hx;exact h.1 x hx
  | true=>
   rw[C,ak]at hx;unfold tq at hx;rcases List.mem_append.1 hx with hx|hx
   ·rcases List.mem_append.1 hx with hx | hx
    ·exact h.1 x (List.mem_of_mem_take hx)
    ·rw[oe.1 hx];exact⟨D,Int.le_refl _⟩
   ·exact h.1 x (List.mem_of_mem_drop hx)
def Do(c:av)(N:Int)(o:aj (Bool×(av×af))):Prop:=∃t y,o=some (t,(y,()))/\c8 y/\dA y=true/\y.config=c.config/\(0<=y.now/\y.now<=c.now+500)/\Rv y N
def aBP{c:av}{N:Int}(hz:c8 c)(I:dA c=true)(hi:2<=c.config.interval/\c.config.interval<=10000)(hn:c.now<=900000)(J:Rv c N){a:jk}(hw:a.oh.weights.length<=1048576)(hid:a.request.id<=N):Do c N (Qd c a):=by
 have h:=Ck.of I;have p:=fJ.of h.pa;have L:=bx.1 h.nw;have Q:=hz;obtain⟨Y,z2,z3,z5,z6,z7,z8,z9,iq,jE,jg,jh,iK,jT⟩:=hz;have O:∀t:Bool,Do c N (some (t,(c,()))):=λt=>⟨t,c,rfl,Q,I,rfl,⟨L.1,by omega⟩,J⟩
 unfold Qd xC bw xL xM;cases a.kind==(1:Int)with
 | true=>
  obtain⟨q1,q2⟩:=aBo I a.request;obtain⟨v1,v2,v3⟩:=aBO J hid;rw[ak,ayY c a.request Q I,au];dsimp only;rw[aBN I];exact⟨_,_,rfl,ayX c a.request Q,q1,v3,⟨by rw[v2];exact L.1,by rw[v2];omega⟩,v1⟩
 |false=>
 rw[aq];cases a.kind==(2:Int)with
 | true=>
  rw[ak,eJ,au];cases T:aK a.n 0 500 with
  |false=>exact O _
  | true=>
   have hb:=bx.1 T;obtain⟨m,hm⟩:=fy hb.1;rw[bB,aq];obtain⟨z,e,y,rfl,D,E,C,Z,U⟩:=YB (step:=Kk) m (λk x=>∃ y:av,x=(((),(),(k:Int),()),(y,a,()))/\c8 y/\dA y=true/\y.config=c.config/\(0<=y.now/\y.now=c.now+(k:Int))/\Rv y N) (λz=>∃ y:av,z = .inl ((),(y,()))/\c8 y/\dA y=true/\y.config=c.config/\(0<=y.now/\y.now<=c.now+500)/\Rv y N) aS (x:=(((),(),(0:Int),()),(c,a,()))) ⟨c,rfl,Q,I,rfl,⟨L.1,by omega⟩,J⟩ (by
    rintro k hkk x ⟨y,rfl,D,E,C,Z,U⟩;obtain⟨v,f1,f2,f3,f4⟩:=aBB D E (by rw[C];exact hi) (by omega);unfold Kk aA xG;dsimp only;rw[hm,aP (show (k:Int)<(m:Int) by omega),ak,f1,au,bI];have aCh:=f4.1;exact⟨_,rfl,v,rfl,f2,f3,f4.2.1.trans C,⟨by omega,by omega⟩,U.kZ f4⟩) (by
    rintro x ⟨y,rfl,D,E,C,Z,U⟩;unfold Kk aA xG;dsimp only;rw[hm,aW (show ¬ (m:Int)<(m:Int) by omega),aq];exact⟨_,rfl,y,rfl,D,E,C,⟨Z.1,by omega⟩,U⟩) (bM)
   rw[e,au];exact⟨true,y,rfl,D,E,C,Z,U⟩
 |false=>
 rw[aq];cases a.kind==(3:Int)with
 | true=>
  have hg:=(vU h.rk).1;have ha:=ep.so h.ar;rw[ak,YE,au];cases c1:dL c.config.ay a.addr with
  |false=>exact O _
  |true=>
  rw[bB,aq,eJ,au];cases c2:aK a.yw 0 10 with
  |false=>exact O _
  |true=>
  unfold xD;rw[bB,aq,eJ];cases c3:aK a.n 0 15 with
  |false=>exact O _
  | true=>
   have b2:=bx.1 c2;have b3:=bx.1 c3;obtain⟨k,hkc⟩:=fy b2.1;have hl:=ha.lt c1;obtain⟨i1,i2⟩:=L4 c1;have hs:=ha.syms _ (cO hl);have hkl:k<c.array.cells[ir c.config.ay a.addr].symbols.length:=by rw[hs.1];omega
   have T:=YM (hs.get hkl) b3;have ha2:ep c.config.ay 100000 ⟨c.array.cells.set (ir c.config.ay a.addr) ⟨c.array.cells[ir c.config.ay a.addr].symbols.set k (bits .xor .i64 c.array.cells[ir c.config.ay a.addr].symbols[k] a.n),c.array.cells[ir c.config.ay a.addr].iX⟩,c.array.bC,c.array.bz⟩:=ha.AK _ (c:=⟨_,_⟩) (hs.set ⟨T.1,T.2.1⟩);refine⟨true,cR c ⟨c.array.cells.set (ir c.config.ay a.addr) ⟨c.array.cells[ir c.config.ay a.addr].symbols.set k (bits .xor .i64 c.array.cells[ir c.config.ay a.addr].symbols[k] a.n),c.array.cells[ir c.config.ay a.addr].iX⟩,c.array.bC,c.array.bz⟩,?_,⟨Y,z2,z3,sq ha2,z6,z7,z8,z9,iq,jE,jg,jh,iK,jT⟩,Ck.ok ⟨h.f1,h.f2,h.nw,h.rk,h.rd,tF hg ha2,h.sp,h.se,h.rf,(show fJ (cR c _)from ⟨p.dl,p.tl,p.gl,p.t,p.g,p.pd,p.u⟩).ok,h.qu,h.sh,h.sl,h.dr,h.pw,h.ps,h.si,h.s1,h.s2,h.s3,h.er,h.tr,h.rp⟩,rfl,⟨L.1,by show c.now<=c.now+500;omega⟩,J⟩;simp[Rs,i1,hl,hkc,hkl,cR]
 |false=>
 rw[aq];cases a.kind==(4:Int)with
 | true=>
  rw[ak,eJ,au];cases T:aK a.n 0 1 with
  |false=>exact O _
  | true=>
   obtain⟨y,e,D,E⟩:=aBL h.rf (a.n==(1:Int));rw[bB,aq,e,au];exact⟨true,q6 c y,rfl,⟨Y,z2,z3,z5,z6,by unfold AM at z7 ⊢;show y.aJ.length<=_;omega,z8,z9,iq,jE,jg,jh,iK,jT⟩,Ck.ok ⟨h.f1,h.f2,h.nw,h.rk,h.rd,h.ar,h.sp,h.se,D,(show fJ (q6 c y)from ⟨by show (y.aJ.length:Int)=_;rw[E];exact p.dl,p.tl,p.gl,p.t,p.g,p.pd,p.u⟩).ok,h.qu,h.sh,h.sl,h.dr,h.pw,h.ps,h.si,h.s1,h.s2,h.s3,h.er,h.tr,h.rp⟩,rfl,⟨L.1,by show c.now<=c.now+500;omega⟩,J⟩
 |false=>
 rw[aq];cases a.kind==(5:Int)with
 | true=>
  rw[ak,ajn _ _ (by omega),au];cases hf:lT c.config a.oh with
  |false=>exact O _
  | true=>
   have hp:=(Ga (by omega) hf).2;rw[bB,aq,aBM c.box Y a.oh hw,au,hp,ak];exact⟨true,⟨c.config,⟨c.box.bU,a.oh,true⟩,c.now,c.aY,c.ready,c.array,c.spare,c.aQ,c.bK,c.guard,c.pending,c.queue,c.shares,c.drain,c.bh,c.cU,c.errors,c.trace,c.cy⟩,rfl,⟨⟨Y.1,hw⟩,z2,z3,z5,z6,z7,z8,z9,iq,jE,jg,jh,iK,jT⟩,Ck.ok ⟨h.f1,hf,h.nw,h.rk,h.rd,h.ar,h.sp,h.se,h.rf,(show fJ ⟨c.config,⟨c.box.bU,a.oh,true⟩,c.now,c.aY,c.ready,c.array,c.spare,c.aQ,c.bK,c.guard,c.pending,c.queue,c.shares,c.drain,c.bh,c.cU,c.errors,c.trace,c.cy⟩from ⟨p.dl,p.tl,p.gl,p.t,p.g,p.pd,p.u⟩).ok,h.qu,h.sh,h.sl,h.dr,h.pw,h.ps,h.si,h.s1,h.s2,h.s3,h.er,h.tr,h.rp⟩,rfl,⟨L.1,by show c.now<=c.now+500;omega⟩,J⟩
 |false=>
 rw[aq];cases a.kind==(6:Int)with
 | true=>
  obtain⟨t,y,e,D,E,C⟩:=aBE Q I a.addr;rw[ak,e,au];exact⟨t,y,rfl,D,E,C.2.1,⟨by rw[C.1];exact L.1,by rw[C.1];omega⟩,J.nx C⟩
 |false=>exact O _
def aBQ{c:eX}{p:dS}(J:vV c)(O:yb p){bg:aa jk}{N:Int}(hN:0<=N)(hw:∀ a∈bg,Mv a/\a.request.id<=N)(hl:bg.length<=60):∃ y n,Qf c p bg=some (y,n)/\c8 y/\dA y=true/\y.config=c/\(0<=y.now/\y.now<=30000)/\Rv y N:=by
 have hiv:200<=c.interval/\c.interval<=259:=J.2.2.2.2.1;have hz:=aBm J O;have hk:=aBn J O;unfold Qf bw;rw[aBK J O,au];dsimp only;rw[bB,aq,aW (show ¬ (bg.length:Int) > 60 by omega),aq];generalize (⟨⟨⟨(0:Int),(0:Int),(0:Int),(0:Int)⟩,⟨(0:Int),(0:Int),(0:Int),(0:Int),(0:Int),(0:Int),(0:Int),(0:Int),(0:Int),(0:Int),(0:Int),(0:Int),(0:Int),(0:Int),(0:Int),(0:Int),(0:Int)⟩,⟨(0:Int),false⟩,(0:Int),(0:Int),(0:Int),⟨(0:Int),(0:Int)⟩⟩,⟨⟨(0:Int),(0:Int),(0:Int),(0:Int),(0:Int),([]:aa Int),⟨(0:Int),(0:Int)⟩⟩,⟨(0:Int),(0:Int),(0:Int),(0:Int),(0:Int),([]:aa Int),⟨(0:Int),(0:Int)⟩⟩,false⟩,(0:Int),⟨([]:aa fC),(0:Int)⟩,⟨([]:aa Int),([]:aa Int)⟩,⟨([]:aa bZ),([]:aa Int),([]:aa Int)⟩,⟨(0:Int),([]:aa Int)⟩,⟨([]:aa Int),(0:Int),false⟩,([]:aa cx),([]:aa Int),([]:aa aL),([]:aa aX),([]:aa cz),⟨false,(0:Int),(0:Int)⟩,⟨(0:Int),(0:Int),(0:Int)⟩,⟨(0:Int),(0:Int),(0:Int)⟩,([]:aa cv),([]:aa fG),([]:aa fe)⟩:av)=Z;obtain⟨z,e,y,n,rfl,D,E,C,L,I⟩:=YB (step:=Kl) bg.length (λk x=>∃ (y:av) (n:Int),x=((bg,(),(),n,(k:Int),()),(Z,y,()))/\c8 y/\dA y=true/\y.config=c/\(0<=y.now/\y.now<=500*(k:Int))/\Rv y N) (λz=>∃ (y:av) (n:Int),z = .inl (((),(),n,()),(Z,y,()))/\c8 y/\dA y=true/\y.config=c/\(0<=y.now/\y.now<=30000)/\Rv y N) aS (x:=((bg,(),(),(0:Int),(0:Int),()),(Z,tK c p,()))) ⟨tK c p,0,rfl,hz,hk,rfl,⟨Int.le_refl _,Int.le_refl _⟩,λr Q=>(by cases Q),λr Q=>(by cases Q)⟩ (by
  rintro k hkk x ⟨y,n,rfl,D,E,C,L,I⟩;obtain⟨w1,w2⟩:=hw _ (cO hkk);obtain⟨t,v,f1,f2,T,U,Y,f6⟩:=aBP D E (by rw[C];omega) (by omega) I (a:=bg[k]) w1 w2;unfold Kl aA xG xI;dsimp only;rw[aP (show (k:Int)<(bg.length:Int) by omega),ak,az ⟨by omega,by omega⟩];simp only[bu];rw[f1,au,bI (i:=k)];dsimp only;cases t with
  |true=>exact⟨_,rfl,v,_,rfl,f2,T,U.trans C,⟨Y.1,by omega⟩,f6⟩
  |false=>exact⟨_,rfl,v,_,rfl,f2,T,U.trans C,⟨Y.1,by omega⟩,f6⟩) (by
  rintro x ⟨y,n,rfl,D,E,C,L,I⟩;unfold Kl aA xG xI;dsimp only;rw[aW (show ¬ (bg.length:Int)<(bg.length:Int) by omega),aq];exact⟨_,rfl,y,n,rfl,D,E,C,⟨L.1,by omega⟩,I⟩) (bM)
 refine⟨y,n,?_,D,E,C,L,I⟩
 refine(bF (λo=>Option.bind o _) e).trans ?_
 rw[au];simp only[dY];rw[ayU y D,au]
def aBR(l:aa Int)(h:l.length<=1073741823):∃ y,Qp l=some y/\c8 y/\dA y=true/\(0<=y.now/\y.now<=30000)/\Rv y 13:=by
 unfold Qp XR;obtain⟨J,L⟩:=awM l h;have O:=awN l J h;obtain⟨x,k,Q,C,D⟩:=ayB O;obtain⟨p,k2,T,E,U⟩:=ajq C;obtain⟨bg,k3,Y,zR,I,Z⟩:=aBs E D 12 (by decide);obtain⟨y,n,e4,y1,y2,y3,y4,y5⟩:=aBQ D U (N:=13) (by decide) (λa I=>Z a I) (by omega);refine⟨y,?_,y1,y2,y4,y5⟩;rw[L,au,Q,au];dsimp only;rw[C.eta,T,au];dsimp only;rw[E.eta]
 refine(bF (λo=>Option.bind (Option.bind o _) _) Y).trans ?_
 rw[au];dsimp only;rw[e4];rfl
def aBS(l:aa Int)(h:l.length<=maxLen):YA l=some true:=by
 unfold YA Xi;rw[au];by_cases D:(l.length:Int) > 1048576
 ·rw[aP D];rfl
 ·rw[aW D,aq];obtain⟨c,I,C,E,hn,hv⟩:=aBR l (by omega);obtain⟨y,J,L,O,Q,_⟩:=aBf C E;obtain⟨s1,_,_,_,T⟩:=Q (by omega);have ht:c.trace.length<=1048576:=C.2.2.2.2.2.2.2.2.2.2.2.2.1;rw[I,au,J,au,F6 c C,au,E,ak,F6 y L,au,O,ak,s1,show W6 (c.now+1)=c.now+1 from aR,kM,ak];rcases T with e | ⟨x,e⟩
  ·rw[e,Int.sub_self];rfl
  ·have el:y.trace.length=c.trace.length+1:=by rw[e];simp
   have U:W6 ((y.trace.length:Int)-(c.trace.length:Int))=1:=by rw[aR];omega
   have Y:W6 ((y.trace.length:Int)-1)=(c.trace.length:Int):=by rw[aR];omega
   simp only[U,Y,bu];rw[show ((1:Int)==0)=false from rfl,aq,kM,ak,az ⟨by omega,by omega⟩,az];have Z:y.trace[c.trace.length]'(by omega)=⟨c.now+1,x⟩:=by simp[e]
   rw[Z,kM]
def aBT(C:Value)(w:World)(D:RdL .u8 (λx:Int=>0<=x/\x<=255) w C):Calls Tryz.prog 4 #[C] w λe w'=>e = .returned (.bool true)/\Below w.heap.size w w':=by
 obtain⟨l,hl,_,E⟩:=D;exact apS awL (apT (ai:=[(false,.sl .u8)]) (x:=(l,())) (by kernel_rfl) (aBS l hl)) (apU E)
def kZ(c:av):av:=(LF c).getD c
end Go.Proofs.YtglnbhiaknohlaaGreat
