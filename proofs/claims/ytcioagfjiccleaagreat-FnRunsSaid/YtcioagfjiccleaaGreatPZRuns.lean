/-
  Plain laws. Nothing here is a claim.
-/
import Derived.Test.YtcioagfjiccleaaGreatPYRuns
namespace Go.Proofs.YtcioagfjiccleaaGreat
open Go.RowKit
set_option linter.unusedVariables false
set_option linter.unusedSimpArgs false
set_option maxRecDepth 100000
theorem afm{T:Type}{p:T->Bool}{l:af T}{k:Nat}(h:l.findIdx? p=some k):l.filter (λx=>!p x)=l.take k++(l.drop (k+1)).filter (λx=>!p x):=by
 obtain⟨hk,hp,hq⟩:=qv.1 h;have e:l=l.take k++l[k] :: l.drop (k+1):=by
  rw[<-List.drop_eq_getElem_cons hk,List.take_append_drop]
 have e1:(l.take k).filter (λx=>!p x)=l.take k:=by
  rw[List.filter_eq_self];intro a ha;obtain⟨i,hi,rfl⟩:=lV.1 ha;rw[lM]at hi;rw[List.getElem_take]
  simpa using hq i (by omega)
 conv=>lhs;rw[e]
 rw[List.filter_append,List.filter_cons_of_neg (by simp[hp]),e1]
theorem WT{T:Type}(s r:af T)(i:Nat)(h:i<=s.length):(splice s i r).take i=s.take i:=by
 unfold splice;rw[List.append_assoc,List.take_append_of_le_length (by simp;omega),List.take_take,Nat.min_self]
theorem ati(l:af aV)(a:aV)(hl:l.length<1073741824):O4 l a=some (ko (kJ a) l):=by
 unfold O4 ko;have e:=Gw (step:=KJ) l (kJ a) (λi=>((l,a,(l.length:Int),(i:Int),()),())) (λi=>.inl (((i:Int),()),())) (.inr (.inl ((),()))) bB (λk h=>by
  unfold KJ kJ aH bI xG xI;dsimp only;rw[bz (by omega),aq,aK ⟨by omega,by omega⟩];simp only[bX];rw[cK (by omega)];cases (l[k].aE==a.aE&&(l[k].row==a.row&&(l[k].cO==a.cO&&true)))<;>rfl) (by
  unfold KJ aH bI xG xI;dsimp only;rw[bK (by omega),au]) (cT hl)
 rw[cZ]at e;rw[e];cases l.findIdx? (kJ a)<;>rfl
theorem atj(l:af aV)(x:aT)(hl:l.length<1073741824):Pc l x=some (ko (λa=>a.aE==x.aE) l):=by
 unfold Pc ko;have e:=Gw (step:=KS) l (λa=>a.aE==x.aE) (λi=>((l,x,(l.length:Int),(i:Int),()),())) (λi=>.inl (((i:Int),()),())) (.inr (.inl ((),()))) bB (λk h=>by
  unfold KS aH bI xG xI;dsimp only;rw[bz (by omega),aq,aK ⟨by omega,by omega⟩];simp only[bX];rw[cK (by omega)];cases (l[k].aE==x.aE)<;>rfl) (by
  unfold KS aH bI xG xI;dsimp only;rw[bK (by omega),au]) (cT hl)
 rw[cZ]at e;rw[e];cases l.findIdx? (λa=>a.aE==x.aE)<;>rfl
theorem atk(l:af aV)(a:aV)(hl:l.length<1000000):O5 l a=some (l.filter (λx=>!kJ a x),([],())):=by
 unfold O5;rw[ati l a (by omega),av];unfold ko;cases hf:l.findIdx? (kJ a)with
 | none=>
  have e:l.filter (λx=>!kJ a x)=l:=by
   rw[List.filter_eq_self];intro x hx;have:=List.findIdx?_eq_none_iff.1 hf x hx;simp[this]
  rw[e];rfl
 | some k=>
  obtain⟨hk,hp,hq⟩:=qv.1 hf;rw[afm hf];simp only;rw[mz (show ¬ (k:Int) = -1 by omega),au,cK (by omega)];obtain⟨s',i',h1,h2,h3,h4⟩:=afl (step:=KM) (kJ a) (λi j s=>(((),a,(i:Int),(j:Int),()),(s,()))) (λi s=>.inl (((),(i:Int),()),(s,()))) (λi j s hj hi hb=>by
   unfold KM kJ xC aH xG;dsimp only;rw[bz (by omega),aq,aK ⟨by omega,by omega⟩,aK (by omega)];simp only[bX];rw[cK (by omega),cK (by omega),aK ⟨by omega,by omega⟩,aK (by omega)];cases (s[j].aE==a.aE&&(s[j].row==a.row&&(s[j].cO==a.cO&&true)))<;>rfl) (λi s hi=>by
   unfold KM xC aH xG;dsimp only;rw[bK (by omega),au]) (l.length-(k+1)) k (k+1) bB l (by omega) (by omega) (by omega) (by unfold bB;omega)
  rw[h1,av,jf];dsimp only;rw[bu ⟨by omega,by omega,by omega⟩,bu ⟨by omega,by omega⟩,bu ⟨by omega,by omega,by
   rw[uh _ _ _ (by simp;omega)];omega⟩]
  rw[WT _ _ _ (by omega),bX,h4]
theorem atl(l:af aV)(c:aT)(hl:l.length<1000000):Pd l c=some (l.filter (λx=>!(x.aE==c.aE)),([],())):=by
 unfold Pd;rw[atj l c (by omega),av];unfold ko;cases hf:l.findIdx? (λa=>a.aE==c.aE)with
 | none=>
  have e:l.filter (λx=>!(x.aE==c.aE))=l:=by
   rw[List.filter_eq_self];intro x hx;have:=List.findIdx?_eq_none_iff.1 hf x hx;simp[this]
  rw[e];rfl
 | some k=>
  obtain⟨hk,hp,hq⟩:=qv.1 hf;rw[afm hf];simp only;rw[mz (show ¬ (k:Int) = -1 by omega),au,cK (by omega)];obtain⟨s',i',h1,h2,h3,h4⟩:=afl (step:=KT) (λx=>x.aE==c.aE) (λi j s=>(((),c,(i:Int),(j:Int),()),(s,()))) (λi s=>.inl (((),(i:Int),()),(s,()))) (λi j s hj hi hb=>by
   unfold KT xC aH xG;dsimp only;rw[bz (by omega),aq,aK ⟨by omega,by omega⟩,aK (by omega)];simp only[bX];rw[cK (by omega),cK (by omega),aK ⟨by omega,by omega⟩,aK (by omega)];cases (s[j].aE==c.aE)<;>rfl) (λi s hi=>by
   unfold KT xC aH xG;dsimp only;rw[bK (by omega),au]) (l.length-(k+1)) k (k+1) bB l (by omega) (by omega) (by omega) (by unfold bB;omega)
  rw[h1,av,jf];dsimp only;rw[bu ⟨by omega,by omega,by omega⟩,bu ⟨by omega,by omega⟩,bu ⟨by omega,by omega,by
   rw[uh _ _ _ (by simp;omega)];omega⟩]
  rw[WT _ _ _ (by omega),bX,h4]
def pP(b:Int)(pd:af aV)(n:Int):af aV:=bif pd.any (kJ ⟨b,n,0⟩)then pd else pd++[⟨b,n,0⟩]
def wo(c:ay)(t:af dm)(gd:af Int)(pd:af aV):ay:=⟨c.config,c.box,c.now,c.br,c.ready,c.array,c.spare,c.bh,t,gd,pd,c.queue,c.shares,c.drain,c.aX,c.cB,c.errors,c.trace,c.bR⟩
theorem afn{T:Type}(p:T->Bool)(l:af T):decide (ko p l<0) = !l.any p/\decide (ko p l >= 0)=l.any p:=by
 unfold ko;cases hf:l.findIdx? p with
 | none=>
  have e:l.any p=false:=by
   rw[mW];intro x hx;simp[List.findIdx?_eq_none_iff.1 hf x hx]
  rw[e];exact⟨rfl,rfl⟩
 | some k=>
  obtain⟨hk,hp,hq⟩:=qv.1 hf;have e:l.any p=true:=List.any_eq_true.2 ⟨_,dy hk,hp⟩;rw[e];exact⟨bK (by simp only;omega),bz (by simp only;omega)⟩
theorem WU(b:Int):∀ (ns:af Int) (pd:af aV),(ns.foldl (pP b) pd).length<=pd.length+ns.length
 |[],pd=>gZ _
 | n :: ns,pd=>by
  have:=WU b ns (pP b pd n);have h2:(pP b pd n).length<=pd.length+1:=by
   unfold pP;cases pd.any (kJ ⟨b,n,0⟩)<;>simp
  simp only[List.foldl_cons,n9];omega
theorem Qp{T U:Type}(f:U->T->U)(l:af T)(u:U){k:Nat}(h:k<l.length):(l.take (k+1)).foldl f u=f ((l.take k).foldl f u) l[k]:=by
 rw[List.take_add_one,bT h,List.foldl_append];rfl
theorem atm(c:ay)(x:aT)(ns:af Int)(hn:ns.length<=1000)(hp:c.pending.length<=1000):iter Gj bB (((),(),(),(ns.length:Int),(0:Int),()),(c,(x.kind,x.aE,x.row,x.cO,()),ns,()))=some (.inl ((),(wo c c.bx c.guard (ns.foldl (pP x.aE) c.pending),()))):=by
 have e:=eG (step:=Gj) ns.length (λi=>(((),(),(),(ns.length:Int),(i:Int),()),(wo c c.bx c.guard ((ns.take i).foldl (pP x.aE) c.pending),(x.kind,x.aE,x.row,x.cO,()),ns,()))) (.inl ((),(wo c c.bx c.guard ((ns.take ns.length).foldl (pP x.aE) c.pending),()))) bB (λk h=>by
  have hl:=WU x.aE (ns.take k) c.pending;rw[lM]at hl;rw[Qp _ _ _ h];generalize (ns.take k).foldl (pP x.aE) c.pending=pd at hl;unfold Gj pP wo VD xC aH xG;dsimp only;rw[bz (by omega),aq,aK ⟨by omega,by omega⟩,aK (by omega)];simp only[bX];rw[aeL _ _ (by omega),av,av,(afn _ _).2,cK (by omega),gk (by simp;omega)];cases pd.any (kJ ⟨x.aE,ns[k],0⟩)<;>rfl) (by
  unfold Gj wo xC aH xG;dsimp only;rw[bK (by omega),au]) (cT (by omega))
 rw[cZ,List.take_zero,List.take_length]at e;exact e
def zT:dm:=⟨[],[],0⟩
def xK(c:ay)(x:aT):dm×Bool:=zM (c.bx.getD x.aE.toNat zT) x.row (c.guard.getD x.aE.toNat 0)
def u7(c:ay)(x:aT):af aV:=c.pending.filter (λa=>!kJ ⟨x.aE,x.row,0⟩ a)
def B9(c:ay)(x:aT):ay:=
 wo (fh c (B4 c.config.aD c.config.gf c.array x.aE x.row)) (c.bx.set x.aE.toNat (xK c x).1) c.guard (bif (xK c x).2 then (oU c.config.aD.rows x.row).foldl (pP x.aE) (u7 c x)else u7 c x)
theorem qp{T:Type}{l:af T}{i:Nat}(d:T)(h:i<l.length):l.getD i d=l[i]:=by
 rw[iz,bT h];rfl
theorem afo(R r:Int):(oU R r).length<=2:=by
 unfold oU;cases decide (0<r)<;>cases decide (r<R-1)<;>simp
theorem atn{T:Type}(p:T->Bool)(l:af T):(l.filter p).length<=l.length:=List.length_filter_le p l
theorem ato{B:Int}(c:ay)(x:aT)(hg:cY c.config.aD=true)(ha:fH c.config.aD B c.array)(hp:c.pending.length<=200)(hz:∀ t∈c.bx,nq t)(h1:0<=x.aE)(h2:x.aE<bf c.config.aD)(h3:0<=x.row)(h4:x.row<c.config.aD.rows)(ht:x.aE.toNat<c.bx.length)(hd:x.aE.toNat<c.guard.length):O6 c x=some ((),(B9 c x,())):=by
 obtain⟨_,_,_,_,g5,g6,g7,g8⟩:=jw hg;have e1:=afc hg c.config.gf c ha h1 h2 h3 h4;have e2:=atk c.pending ⟨x.aE,x.row,0⟩ (by omega);have hf:(u7 c x).length<=c.pending.length:=List.length_filter_le _ _;have ur:=afo c.config.aD.rows x.row;simp only[fh]at e1;unfold O6 xC cC
 refine(cA (λo=>Option.bind o _) e1).trans ?_
 rw[av];dsimp only
 refine(cA (λo=>Option.bind o _) e2).trans ?_
 rw[av];dsimp only;rw[aK ⟨h1,ht⟩,aK ht,aK ⟨h1,hd⟩,aK hd,aK ht,aK ht];rw[ate _ (hz _ (dy ht)),av,aK ⟨h1,ht⟩,aK ht];unfold B9 xK;rw[qp _ ht,qp _ hd];cases (zM (c.bx[x.aE.toNat]'ht) x.row (c.guard[x.aE.toNat]'hd)).2 with
 |false=>rfl
 | true=>
  rw[cm,au,aeT (by omega) (by omega) h3 h4,av]
  refine(cA (λo=>Option.bind o _) (atm (wo (fh c (B4 c.config.aD c.config.gf c.array x.aE x.row)) (c.bx.set x.aE.toNat (zM (c.bx[x.aE.toNat]'ht) x.row (c.guard[x.aE.toNat]'hd)).1) c.guard (u7 c x)) x (oU c.config.aD.rows x.row) (by omega) (by unfold wo;dsimp only;omega))).trans ?_
  rfl
def Ed(l:af aV):Prop:=∀i (h:i<l.length),(l.take i).any (kJ l[i])=false
theorem WV{a b:aV}:kJ a b=true ↔ a=b:=by
 obtain⟨a1,a2,a3⟩:=a;obtain⟨b1,b2,b3⟩:=b;simp only[kJ,aJ,iC,and_true,aV.mk.injEq];constructor
 ·rintro⟨rfl,rfl,rfl⟩;exact⟨rfl,rfl,rfl⟩
 ·rintro⟨rfl,rfl,rfl⟩;exact⟨rfl,rfl,rfl⟩
theorem Ca{U:Type}(f:U->Nat->U)(u:U)(k:Nat):(List.range (k+1)).foldl f u=f ((List.range k).foldl f u) k:=by
 rw[List.range_succ,List.foldl_append];rfl
def va(g:aR)(l:rI)(a:dK)(b:Int)(n:Nat):dK:=(List.range n).foldl (λa (r:Nat)=>B4 g l a b (r:Int)) a
theorem LJ{g:aR}(hg:cY g=true)(l:rI){B:Int}(hB:0<=B){a:dK}(ha:fH g B a){b:Int}(h1:0<=b)(h2:b<bf g):∀ n:Nat,(n:Int)<=g.rows->fH g B (va g l a b n)
 |0,_=>ha
 | n+1,h=>by
  unfold va;rw[Ca];exact WA hg l hB (LJ hg l hB ha h1 h2 n (by omega)) h1 h2 (by omega) (by omega)
theorem afp{B:Int}(hB:0<=B)(c:ay)(hg:cY c.config.aD=true)(ha:fH c.config.aD B c.array){b:Int}(h1:0<=b)(h2:b<bf c.config.aD):KO c b=some ((),(fh c (va c.config.aD c.config.gf c.array b c.config.aD.rows.toNat),())):=by
 obtain⟨_,_,_,_,g5,g6,g7,g8⟩:=jw hg;have e:=eG (step:=KN) c.config.aD.rows.toNat (λi=>(((),b,(i:Int),()),(fh c (va c.config.aD c.config.gf c.array b i),()))) (.inl ((),(fh c (va c.config.aD c.config.gf c.array b c.config.aD.rows.toNat),()))) bB (λk h=>by
  have e1:=afc hg c.config.gf (fh c (va c.config.aD c.config.gf c.array b k)) (LJ hg c.config.gf hB ha h1 h2 k (by omega)) h1 h2 (show 0<=(k:Int) by omega) (by omega);simp only[fh]at e1;unfold KN fh aH xG;dsimp only;rw[bz (by omega),aq,e1,av,cK (by omega)];dsimp only;unfold va;rw[Ca]) (by
  unfold KN fh aH xG;dsimp only;rw[bK (by omega),au]) (cT (by omega))
 rw[cZ]at e;unfold KO cC
 refine(cA (λo=>Option.bind o _) e).trans ?_
 rfl
def Qq(c:ay)(b:Int)(pd:af aV):ay:=
 wo (fh c (va c.config.aD c.config.gf c.array b c.config.aD.rows.toNat)) (c.bx.set b.toNat (xJ c.config.kO)) (c.guard.set b.toNat c.box.ck.fB) pd
theorem afq(c:ay)(hk:aP c.config.kO 1 16=true){b:Int}(h1:0<=b)(ht:b.toNat<c.bx.length)(hd:b.toNat<c.guard.length):KP c b=some ((),(wo c (c.bx.set b.toNat (xJ c.config.kO)) (c.guard.set b.toNat c.box.ck.fB) c.pending,())):=by
 unfold KP xC;rw[atf hk,av,aK ⟨h1,ht⟩,aK ht,aK ⟨h1,hd⟩,aK hd];rfl
def ku(c:ay)(k:Nat)(pd:af aV):ay:=
 ⟨c.config,c.box,c.now,c.br,c.ready,(List.range k).foldl (λa (b:Nat)=>va c.config.aD c.config.gf a (b:Int) c.config.aD.rows.toNat) c.array,c.spare,⟨(List.range k).foldl (λd b=>d.set b 0) c.bh.aN,c.bh.wait,c.bh.gL⟩,(List.range k).foldl (λd b=>d.set b (xJ c.config.kO)) c.bx,(List.range k).foldl (λd b=>d.set b c.box.ck.fB) c.guard,pd,c.queue,c.shares,c.drain,c.aX,c.cB,c.errors,c.trace,c.bR⟩
theorem zN{T:Type}(x:T)(l:af T):∀ k:Nat,((List.range k).foldl (λd b=>d.set b x) l).length=l.length
 |0=>rfl
 |k+1=>by rw[Ca,kM,zN x l k]
theorem Qr{g:aR}(hg:cY g=true)(l:rI){B:Int}(hB:0<=B){a:dK}(ha:fH g B a):∀ k:Nat,(k:Int)<=bf g->fH g B ((List.range k).foldl (λa (b:Nat)=>va g l a (b:Int) g.rows.toNat) a)
 |0,_=>ha
 | k+1,h=>by
  obtain⟨_,_,_,_,g5,g6,g7,g8⟩:=jw hg;rw[Ca];exact LJ hg l hB (Qr hg l hB ha k (by omega)) (by omega) (by omega) _ (by omega)
structure xL (B:Int) (c:ay):Prop where
 hB:0<=B
 g:cY c.config.aD=true
 a:fH c.config.aD B c.array
 k:aP c.config.kO 1 16=true
 p:c.pending.length<=200
 t:(c.bx.length:Int)=bf c.config.aD
 d:(c.guard.length:Int)=bf c.config.aD
 r:(c.bh.aN.length:Int)=bf c.config.aD
theorem xL.WW{B:Int}{c:ay}(h:xL B c)(k:Nat)(hk:(k:Int)<=bf c.config.aD)(pd:af aV)(hp:pd.length<=200):xL B (ku c k pd):=
 ⟨h.hB,h.g,Qr h.g c.config.gf h.hB h.a k hk,h.k,hp,(cA (λn:Nat=>(n:Int)) (zN _ _ k)).trans h.t,(cA (λn:Nat=>(n:Int)) (zN _ _ k)).trans h.d,(cA (λn:Nat=>(n:Int)) (zN _ _ k)).trans h.r⟩
theorem atp(c:ay)(k:Nat)(pd qd:af aV):ku c (k+1) qd=⟨c.config,c.box,c.now,c.br,c.ready,(Qq (ku c k pd) (k:Int) qd).array,c.spare,⟨(ku c k pd).bh.aN.set k 0,c.bh.wait,c.bh.gL⟩,(Qq (ku c k pd) (k:Int) qd).bx,(Qq (ku c k pd) (k:Int) qd).guard,qd,c.queue,c.shares,c.drain,c.aX,c.cB,c.errors,c.trace,c.bR⟩:=by
 unfold ku;simp only[Ca];rfl
theorem atq{B:Int}{c:ay}(h:xL B c):iter zB bB (((),(c.bx.length:Int),(0:Int),()),(ku c 0 [],()))=some (.inl ((),(ku c c.bx.length [],()))):=by
 have b1:=iI c.config.aD;have oV:=h.t;have e:=eG (step:=zB) c.bx.length (λi=>(((),(c.bx.length:Int),(i:Int),()),(ku c i [],()))) (.inl ((),(ku c c.bx.length [],()))) bB (λk hk=>by
  have hw:=h.WW k (by omega) [] (by simp);have w1:=hw.t;have w2:=hw.d;have w3:=hw.r;have rV:bf (ku c k []).config.aD=bf c.config.aD:=rfl;rw[rV]at w1 w2 w3;have e1:=afp hw.hB _ hw.g hw.a (b:=(k:Int)) (by omega) (by rw[rV];omega);have e2:=afq (fh (ku c k []) (va (ku c k []).config.aD (ku c k []).config.gf (ku c k []).array (k:Int) (ku c k []).config.aD.rows.toNat)) hw.k (b:=(k:Int)) (by omega) (by show (k:Int).toNat<(ku c k []).bx.length;omega) (by show (k:Int).toNat<(ku c k []).guard.length;omega);rw[atp c k [] []];unfold zB xC aH xG;dsimp only;rw[bz (by omega),aq,e1,av,e2,av,cK (by omega)];have w4:k<(ku c k []).bh.aN.length:=by omega
  rw[aK ⟨by omega,by show (k:Int).toNat<(ku c k []).bh.aN.length;omega⟩,aK (by show (k:Int).toNat<(ku c k []).bh.aN.length;omega)];rfl) (by
  unfold zB xC aH xG;dsimp only;rw[bK (by omega),au]) (cT (by omega))
 rw[cZ]at e;exact e
def wv(l:af Int):Nat->Int
 |0=>0
 |i+1=>bits .or .i64 (wv l i) (W6 (l.getD i 0*2 ^ (min (4*(i:Int)).toNat IntKind.i64.bits)))
theorem atr{l:af Int}(h:l.length=8)(hd:∀ s∈l,0<=s/\s<=15):xE l 8=true:=by
 simp only[xE,aJ,c9,iB,DU,bO];exact⟨λx hx=>hd x hx,by rw[h];rfl⟩
theorem att{l:af Int}(h:l.length=8)(hd:∀ s∈l,0<=s/\s<=15):OD l=some (wv l 8,true):=by
 unfold OD cC;rw[aep _ _ (by omega),atr h hd,av];have e:=eG (step:=Kf) 8 (λi=>((wv l i,l,(l.length:Int),(i:Int),()),())) (.inl ((wv l 8,()),())) bB (λi hi=>by
  have bC:i<l.length:=by omega
  have e1:W6 (4*(i:Int))=4*(i:Int):=bD (by omega) (by omega);have hz:¬ 4*(i:Int)<0:=by omega
  have eg:l.getD i 0=l[i]:=by rw[iz,bT bC];rfl
  have ew:wv l (i+1)=bits .or .i64 (wv l i) (W6 (l.getD i 0*2 ^ (min (4*(i:Int)).toNat IntKind.i64.bits))):=rfl;unfold Kf aH xG xI;rw[ew,eg];simp (disch:=omega) [bC,e1,hz,cK]) (by unfold Kf aH xG xI;simp[h]) (cT (by omega))
 rw[cZ]at e;simp only[cm,au];have e0:wv l 0=0:=rfl;rw[e0]at e;rw[e];rfl
theorem atu{w:af Nat}(hw:mB w)(hl:w.length=11):(cR (w.drop 3)).length=8/\∀ s∈cR (w.drop 3),0<=s/\s<=15:=by
 refine⟨by rw[tP];simp[hl],λs hs=>?_⟩
 simp only[cR,List.mem_map]at hs;obtain⟨x,hx,rfl⟩:=hs;have:=hw x (List.mem_of_mem_drop hx);omega
def WX(w:af Nat):Int:=bif (mU w).2.1==2 then 0 else wv (cR ((mU w).1.drop 3)) 8
theorem atv{w:af Nat}(hw:mB w)(hl:w.length=11):OF (cR w)=some (WX w,(mU w).2.1,(mU w).2.2):=by
 obtain⟨c1,c2,_⟩:=Qb hw hl;obtain⟨d1,d2⟩:=atu c2 c1;unfold OF WX;rw[ae0 hw hl,av];dsimp only;cases h:(mU w).2.1==2 with
 |true=>simp
 | false=>
  rw[au,au,asq c2 c1,av,att d1 d2];rfl
def nw(c:cq):af Nat:=c.symbols.map Int.toNat
theorem WY{c:cq}(h:Sy c.symbols):cR (nw c)=c.symbols/\mB (nw c)/\(nw c).length=11:=by
 obtain⟨h1,h2⟩:=aet c.symbols h.2;exact⟨h1,h2,by simp[nw,h.1]⟩
def n5(c:cq):Int:=bif c.jg then 2 else (mU (nw c)).2.1
def vb(c:cq):cq:=bif c.jg then c else bif (mU (nw c)).2.1==1 then ⟨cR (mU (nw c)).1,c.jg⟩else bif (mU (nw c)).2.1==2 then ⟨c.symbols,true⟩else c
theorem atw{l:af cq}{j:Nat}(h:j<l.length):l.set j l[j]=l:=List.set_getElem_self h
theorem WZ{c:cq}(h:Sy c.symbols):Sy (vb c).symbols:=by
 obtain⟨n1,n2,n3⟩:=WY h;obtain⟨c1,c2,_⟩:=Qb n2 n3;unfold vb;cases c.jg with
 |true=>exact h
 | false=>
  cases (mU (nw c)).2.1==1 with
  |true=>exact aeu c2 c1
  |false=>cases (mU (nw c)).2.1==2<;>exact h
theorem atx(a:dK)(h1:a.cells.length<1073741823)(h2:a.bU.length<1073741823)(h3:a.bL.length<1073741823)(h4:∀ c∈a.cells,c.symbols.length<1073741823):PB a a=some true:=by
 have e:=eG (step:=K6) a.cells.length (λi=>(((),(),(i:Int),()),((a.cells,a.bU,a.bL,()),(a.cells,a.bU,a.bL,()),()))) (.inr (.inl ((),()))) bB (λi hi=>by
  unfold K6 aH bI xG xI;simp (disch:=omega) [hi,asf _ (h4 _ (dy hi)),cK]) (by unfold K6 aH bI xG xI;simp) (cT (by omega))
 rw[cZ]at e;unfold PB cX;simp[v5 a.bU h2,v5 a.bL h3,e]
def sy1(x:Int)(k:Nat):Int:=bits .and .i64 (x.fdiv (2 ^ (min (4*(k:Int)).toNat IntKind.i64.bits))) 15
def tW(x:Int):Nat->af Int
 |0=>[]
 |k+1=>tW x k++[sy1 x k]
theorem W0(x:Int):∀ k,(tW x k).length=k
 |0=>rfl
 |k+1=>by simp[tW,W0 x k]
theorem afr(x:Int):∀ k,∀ s∈tW x k,0<=s/\s<=15
 |0,s,h=>by cases h
 | k+1,s,h=>by
  rcases List.mem_append.1 h with h|h
  ·exact afr x k s h
  ·rw[List.mem_singleton.1 h];exact asj _
theorem aty{x:Int}(h0:0<=x)(h1:x<=4294967295):O8 x=some (tW x 8):=by
 have c1:aP x 0 4294967295=true:=by rw[bO];omega
 unfold O8 Du cC;rw[dw,av,av,c1,cm,au];have e:=eG (step:=KR) 8 (λk=>((x,(),(k:Int),()),(tW x k,()))) (.inl (((),()),(tW x 8,()))) bB (λk hk=>by
  have bC:(k:Int)<8:=by omega
  have ho:bZ ((tW x k).length+1)=true:=gk (by rw[W0];omega);have e1:W6 (4*(k:Int))=4*(k:Int):=bD (by omega) (by omega);have hz:¬ 4*(k:Int)<0:=by omega
  unfold KR aH xG;simp (disch:=omega) [bC,e1,hz,ho,cK,tW,sy1]) (by
  unfold KR aH xG;simp) (cT (by omega))
 rw[cZ]at e;have e0:tW x 0=[]:=rfl;rw[e0]at e;rw[e];rfl
def GN(x:Int):af Int:=(BO x).getD []
theorem W2{x:Int}(h0:0<=x)(h1:x<=4294967295):BO x=some (GN x)/\Sy (GN x)/\∃ w,GN x=cR w/\w.length=11/\mB w/\cR (w.drop 3)=tW x 8/\GD w=true:=by
 have c1:aP x 0 4294967295=true:=by rw[bO];omega
 obtain⟨t1,t2⟩:=aet (tW x 8) (afr x 8);have tl:((tW x 8).map Int.toNat).length=8:=by rw[eV,W0]
 obtain⟨w,e1,l1,d1,p1,q1,q2,q3⟩:=arj t2 tl;have z1:GD w=true:=by simp[GD,q1,q2,q3]
 rw[t1]at e1;have ei:BO x=some (cR w):=by
  unfold BO Du;rw[dw,av,av,c1,cm,au,aty h0 h1,av,e1,av]
 have ee:GN x=cR w:=by unfold GN;rw[ei];rfl
 rw[ee];exact⟨ei,aeu d1 l1,w,rfl,l1,d1,by rw[p1,t1],z1⟩
def W3(d:cq):Int:=bif d.jg then 0 else WX (nw d)
def xM(c:ay)(j:Nat)(d:cq):ay:=fh c ⟨c.array.cells.set j d,c.array.bU,c.array.bL⟩
theorem atz{c:ay}{j:Nat}(h:j<c.array.cells.length):xM c j c.array.cells[j]=c:=by
 unfold xM fh;rw[atw h]
theorem afs{c:ay}{j:Nat}(hj:j<c.array.cells.length)(hs:Sy c.array.cells[j].symbols):zz c (j:Int)=some ((W3 c.array.cells[j],n5 c.array.cells[j]),(xM c j (vb c.array.cells[j]),())):=by
 obtain⟨n1,n2,n3⟩:=WY hs;have e1:=ae0 n2 n3;have e2:=atv n2 n3;rw[n1]at e1 e2;have ec:=atz hj;unfold zz n5 vb W3 xC;rw[aK ⟨by omega,by omega⟩,aK (by omega)];simp only[bX];cases hp:c.array.cells[j].jg with
 | true=>
  rw[aq,aq,aq,aq,ec]
 | false=>
  rw[au,au,au,au,aK hj,aK hj,e1,av,aK hj,aK hj,e2,av];dsimp only;rcases(Qb n2 n3).2.2 with q|q|q
  ·rw[q,mz (by omega),au,mz (by omega),au,au,au,ec]
  ·rw[q,beq_self_eq_true,aq,aq,aK hj,hp];rfl
  ·rw[q,mz (by omega),au,beq_self_eq_true,aq,au,aq,aK hj];rfl
def Ee(q:af bk)(i:Nat):Bool:=match q[i]? with
 |some r=>(q.take i).any λx=>x.line==r.line
 |none=>false
theorem atA{q:af bk}{i:Nat}(h:i<q.length):Ee q i=(q.take i).any λx=>x.line==q[i].line:=by
 unfold Ee;rw[bT h]
theorem atB{q:af bk}{i:Nat}(h:i<q.length)(hq:q.length<=1000):OP q (i:Int)=some (Ee q i):=by
 have hk:=GH (λx:bk=>x.line==q[i].line) (q.take i);have hlen:(q.take i).length=i:=by rw[lM];omega
 unfold OP cX;rw[dw,av,Qn (by omega) (by omega) (by omega),cm,au,bu ⟨by omega,by omega,by omega⟩,atA h,Ww];simp only[bX,Int.toNat_zero,List.drop_zero];generalize ht:q.take i=t at *
 have e:=eG (step:=Ga) (fN (λx:bk=>x.line==q[i].line) t) (λj=>((q,(i:Int),t,(t.length:Int),(j:Int),()),())) (if fN (λx:bk=>x.line==q[i].line) t<t.length then .inl ((true,()),())else .inr (.inl ((),()))) bB (λk GI=>by
  have h2:=wm GI (by omega);unfold Ga aH bI xG xI;dsimp only;rw[bz (by omega),aq,aK ⟨by omega,by omega⟩,aK ⟨by omega,by omega⟩];simp only[bX];rw[h2,au,cK (by omega)]) (by
  by_cases bC:fN (λx:bk=>x.line==q[i].line) t<t.length
  ·have h2:=B1 bC;unfold Ga aH bI xG xI;dsimp only;rw[bz (by omega),aq,aK ⟨by omega,by omega⟩,aK ⟨by omega,by omega⟩];simp only[bX];rw[h2,aq,bu bC]
  ·unfold Ga aH bI xG xI;dsimp only;rw[bK (by omega),au,bJ bC]) (cT (by omega))
 rw[cZ]at e
 refine(cA (λo=>Option.bind o _) e).trans ?_
 by_cases bC:fN (λx:bk=>x.line==q[i].line) t<t.length
 ·rw[bu bC,bz bC];rfl
 ·rw[bJ bC,bK bC];rfl
def LK(d:mJ)(n:Int)(w:Bool):Bool:=bif w then d.on ||decide (n<1)else !d.on
theorem atC{d:mJ}(n:Int)(w:Bool)(h:rq d=true):OQ d n w=some (LK d n w):=by
 unfold OQ LK;rw[PX,av,h];cases w<;>cases d.on<;>rfl
def Cb(p:Nat->Bool)(k:Nat):Int:=((List.range k).countP p:Nat)
theorem aft(p:Nat->Bool)(k:Nat):Cb p (k+1)=Cb p k+(bif p k then 1 else 0):=by
 unfold Cb;rw[List.range_succ,List.countP_append,List.countP_singleton];cases p k<;>simp
theorem afu(p:Nat->Bool)(k:Nat):0<=Cb p k/\Cb p k<=k:=by
 unfold Cb;have:=List.countP_le_length (p:=p) (l:=List.range k);rw[gq]at this;omega
def tX(f:Nat->Bool)(n k:Nat):af Bool:=(List.range k).map f++List.replicate (n-k) false
theorem Qs{f:Nat->Bool}{n k:Nat}(h:k<=n):(tX f n k).length=n:=by unfold tX;simp;omega
theorem Qt{f:Nat->Bool}{n k:Nat}(h:k<n):(tX f n k).set k (f k)=tX f n (k+1):=by
 unfold tX;rw[List.set_append_right _ _ (by simp),eV,gq,Nat.sub_self,show n-k=(n-(k+1))+1 by omega,List.replicate_succ,List.set_cons_zero,List.range_succ,List.map_append,List.append_assoc];rfl
theorem Qu(f:Nat->Bool)(n:Nat):tX f n 0=List.replicate n false:=rfl
theorem Qv(f:Nat->Bool)(n:Nat):tX f n n=(List.range n).map f:=by unfold tX;simp
theorem LL{f:Nat->Bool}{n k:Nat}(h:k<n)(h':k<((List.range n).map f).length):((List.range n).map f)[k]=f k:=by simp
def xN(q:af bk)(i:Nat):Bool:=match q[i]? with
 |some r=>r.write
 |none=>false
theorem W4{q:af bk}{i:Nat}(h:i<q.length):xN q i=q[i].write:=by
 unfold xN;rw[bT h]
def qq(q:af bk)(i:Nat):Bool:=!Ee q i
def zO(q:af bk)(k:Nat):Int:=Cb (λi=>qq q i && !xN q i) k
def zP(q:af bk)(k:Nat):Int:=Cb (λi=>qq q i&&xN q i) k
def rD(c:ay)(i:Nat):Bool:=qq c.queue i&&(LK c.drain (zO c.queue c.queue.length) (xN c.queue i) ||(!xN c.queue i&&zP c.queue c.queue.length==0))
def jJ(c:ay):af aV:=c.queue.map λr=>iJ c r.line
theorem LM(c:ay):(jJ c).length=c.queue.length:=by unfold jJ;rw[eV]
theorem atD{c:ay}{i:Nat}(h:i<c.queue.length)(h':i<(jJ c).length):(jJ c)[i]=iJ c c.queue[i].line:=by simp only[jJ,List.getElem_map]
theorem Qx{c:ay}(h:Pq c){r:bk}(hr:r∈c.queue):vW c r.line=some (iJ c r.line,true)/\fe c.config.aD (iJ c r.line)=true:=
 as8 h.p h.sp h.se h.mo (h.q r hr).1.1 (h.q r hr).1.2
theorem atE{c:ay}(h:Pq c):OO c=some (jJ c):=by
 have hq:=h.ql;have e:=eG (step:=Kv) c.queue.length (λi=>(((),(),c.queue,(c.queue.length:Int),(i:Int),()),(c,(c.queue.take i).map (λr=>iJ c r.line),()))) (.inl (((),()),(jJ c,()))) bB (λk hk=>by
  have hl:((c.queue.take k).map (λr=>iJ c r.line)).length=k:=by simp;omega
  unfold Kv aH xG xI;dsimp only;rw[bz (by omega),aq,aK ⟨by omega,by omega⟩];simp only[bX];rw[(Qx h (dy hk)).1,av,cK (by omega),hl,rF,gk (by omega),aq,DS hk,List.map_append];rfl) (by
  unfold Kv aH xG xI;dsimp only;rw[bK (by omega),au,List.take_length];rfl) (cT (by omega))
 rw[cZ]at e;unfold OO cC
 refine(cA (λo=>Option.bind o _) e).trans ?_
 rfl
def zA:aV:=⟨0,0,0⟩
def zQ:bk:=⟨0,0,0,false,0,0⟩
def lJ(c:ay)(i:Nat):aV:=(jJ c).getD i zA
def zR(c:ay)(i:Nat):bk:=c.queue.getD i zQ
theorem W5{c:ay}{i:Nat}(h:i<(jJ c).length):(jJ c)[i]=lJ c i:=by
 unfold lJ;rw[iz,bT h];rfl
theorem GO{c:ay}{i:Nat}(h:i<c.queue.length):c.queue[i]=zR c i:=by
 unfold zR;rw[iz,bT h];rfl
theorem W7{c:ay}(h:Pq c){i:Nat}(hi:i<c.queue.length):fe c.config.aD (lJ c i)=true/\0<=(lJ c i).aE/\(lJ c i).aE.toNat<c.br.aI.length/\(lJ c i).aE.toNat<c.bh.aN.length/\(lJ c i).aE<bf c.config.aD/\0<=(lJ c i).row:=by
 have e:=atD hi (by rw[LM];exact hi);rw[W5]at e;have ho:=(Qx h (dy hi)).2;rw[<-e]at ho;obtain⟨_,b1,b2,b3,b4,b5,b6⟩:=uV ho;have:=h.p.bl;have:=h.dl;exact⟨ho,b1,by omega,by omega,b2,b3⟩
theorem GP{c:ay}(h:Pq c):c.br.aI.length<=1048576:=by
 have:=h.p.bl;have:=iI c.config.aD;omega
def iw(c:ay)(i:Nat):Bool:=LF c.br (lJ c i)
theorem atF{c:ay}(h:Pq c)(url:af Int)(sI:af aV)(Z:Int×Int×Int×Int×ak)(P:Int×Int×Int×Int×Int×(af Int)×Int×Int×ak):iter Gd bB ((url,sI,(),(),(),(),(0:Int),(0:Int),c.queue,(c.queue.length:Int),(0:Int),()),(c,Z,P,List.replicate c.queue.length false,()))=some (.inl ((url,sI,(),(),(),(),zO c.queue c.queue.length,zP c.queue c.queue.length,()),(c,Z,P,(List.range c.queue.length).map (qq c.queue),()))):=by
 have hq:=h.ql;have e:=eG (step:=Gd) c.queue.length (λi=>((url,sI,(),(),(),(),zO c.queue i,zP c.queue i,c.queue,(c.queue.length:Int),(i:Int),()),(c,Z,P,tX (qq c.queue) c.queue.length i,()))) (.inl ((url,sI,(),(),(),(),zO c.queue c.queue.length,zP c.queue c.queue.length,()),(c,Z,P,(List.range c.queue.length).map (qq c.queue),()))) bB (λk hk=>by
  have b1:=afu (λi=>qq c.queue i && !xN c.queue i) k;have b2:=afu (λi=>qq c.queue i&&xN c.queue i) k;have hf:qq c.queue k = !Ee c.queue k:=rfl;have hl:=Qs (f:=qq c.queue) (n:=c.queue.length) (k:=k) (by omega);have gF:((tX (qq c.queue) c.queue.length k).set k (!Ee c.queue k)).length=c.queue.length:=by rw[kM,hl]
  rw[<-Qt hk];unfold Gd xC aH xG xI;dsimp only;rw[bz (by omega),aq,aK ⟨by omega,by omega⟩,atB hk (by omega),av,aK ⟨by omega,by omega⟩,aK (by omega),aK ⟨by omega,by simp only[bX];omega⟩,aK (by simp only[bX];omega),cK (by omega)];simp only[bX,List.getElem_set_self];unfold zO zP at *
  rw[aft,aft];simp only[hf,W4 hk];cases Ee c.queue k with
  | true=>
   rw[cm,au,aK ⟨by omega,by rw[kM];omega⟩,aK (by rw[kM];omega),au];simp
  | false=>
   rw[Bool.not_false,aq];cases c.queue[k].write with
   |true=>rw[aq,bD (by omega) (by omega)];simp
   | false=>
    rw[au,aK ⟨by omega,by rw[kM];omega⟩,aK (by rw[kM];omega),aq,bD (by omega) (by omega)];simp) (by
  unfold Gd xC aH xG xI;dsimp only;rw[bK (by omega),au,Qv]) (cT (by omega))
 rw[cZ,Qu]at e;exact e
def tY(c:ay):Nat->af (Int×Bool)
 |0=>[]
 |k+1=>bif rD c k&&iw c k then nh (tY c k) (lJ c k).aE true else tY c k
def LN(c:ay)(k:Nat)(b:Int):Bool:=(List.range k).any λi=>rD c i&&iw c i&&b==(lJ c i).aE
theorem afv(c:ay)(b:Int):∀ k,mO (tY c k) b=LN c k b
 |0=>rfl
 | k+1=>by
  have ih:=afv c b k;have e:LN c (k+1) b=(LN c k b || (rD c k&&iw c k&&b==(lJ c k).aE)):=by
   unfold LN;rw[List.range_succ,List.any_append];simp
  rw[e,<-ih];show mO (bif rD c k&&iw c k then nh (tY c k) (lJ c k).aE true else tY c k) b=_;cases rD c k&&iw c k with
  |false=>simp
  |true=>rw[aq,asc,dF,Bool.or_comm]
theorem atG{c:ay}(h:Pq c)(url:af Int)(Z:Int×Int×Int×Int×ak)(P:Int×Int×Int×Int×Int×(af Int)×Int×Int×ak):iter Ge bB ((url,jJ c,(),(),(),(),zO c.queue c.queue.length,zP c.queue c.queue.length,(),(),(),c.queue,(c.queue.length:Int),(0:Int),()),(c,Z,P,(List.range c.queue.length).map (qq c.queue),List.replicate c.queue.length false,List.replicate c.queue.length false,([]:af (Int×Bool)),()))=some (.inl ((url,jJ c,(),(),(),(),(),(),()),(c,Z,P,(List.range c.queue.length).map (rD c),(List.range c.queue.length).map (iw c),tY c c.queue.length,()))):=by
 have hq:=h.ql;have fk:=GP h;have e:=eG (step:=Ge) c.queue.length (λi=>((url,jJ c,(),(),(),(),zO c.queue c.queue.length,zP c.queue c.queue.length,(),(),(),c.queue,(c.queue.length:Int),(i:Int),()),(c,Z,P,(List.range c.queue.length).map (qq c.queue),tX (rD c) c.queue.length i,tX (iw c) c.queue.length i,tY c i,()))) (.inl ((url,jJ c,(),(),(),(),(),(),()),(c,Z,P,(List.range c.queue.length).map (rD c),(List.range c.queue.length).map (iw c),tY c c.queue.length,()))) bB (λk hk=>by
  have hl:=Qs (f:=rD c) (n:=c.queue.length) (k:=k) (by omega);have gF:=Qs (f:=iw c) (n:=c.queue.length) (k:=k) (by omega);have Qy:=LM c;have hl4:((List.range c.queue.length).map (qq c.queue)).length=c.queue.length:=by simp
  obtain⟨ho,o1,o2,o3,o4,o5⟩:=W7 h hk;have hh:=ata (r:=c.br) (a:=lJ c k) o5 o1 o2 fk;have hd:rD c k=(qq c.queue k&&(LK c.drain (zO c.queue c.queue.length) c.queue[k].write ||(!c.queue[k].write&&zP c.queue c.queue.length==0))):=by unfold rD;rw[W4 hk]
  have hhb:tY c (k+1)=bif rD c k&&iw c k then nh (tY c k) (lJ c k).aE true else tY c k:=rfl;have nW:iw c k=LF c.br (lJ c k):=rfl;rw[<-Qt hk,<-Qt hk,hhb];unfold Ge xC aH xG xI;dsimp only;rw[bz (by omega),aq,aK ⟨by omega,by omega⟩,aK ⟨by omega,by omega⟩,aK (by omega)];simp only[bX,LL hk,atC _ _ h.dr,av,W5,hh,cK (show k<4611686018427387904 by omega),List.getElem_set_self,kM,hl,gF,Qy];rw[hd,nW];cases qq c.queue k<;>cases LK c.drain (zO c.queue c.queue.length) c.queue[k].write<;>cases c.queue[k].write<;>cases LF c.br (lJ c k)<;>cases zP c.queue c.queue.length==0<;>simp[hk]) (by
  unfold Ge xC aH xG xI;dsimp only;rw[bK (by omega),au,Qv,Qv]) (cT (by omega))
 rw[cZ,Qu,Qu]at e;exact e
def Qz(e:cy):cy:=⟨e.line,e.code,(if (999:Int)<(W6 (e.times+(1:Int)))then (999:Int)else (W6 (e.times+(1:Int))))⟩
def zEE:cy:=⟨0,0,0⟩
def wq(l:af cy)(line code:Int):af cy:=match l.findIdx? (nZ ⟨line,code,1⟩)with
 |some i=>l.set i (Qz (l.getD i zEE))
 |none=>bif ((l.length:Int)==(6:Int))then l.drop 1++[⟨line,code,1⟩]else l++[⟨line,code,1⟩]
theorem atH{l:af cy}(h:qk l=true){line code:Int}(h1:0<=line/\line<=1023)(h2:code=1\/code=2):OG l line code=some (wq l line code,true):=by
 have hl:l.length<=6:=by
  simp only[qk,aJ,iB]at h;omega
 have c1:aP line 0 1023=true:=bO.2 h1;unfold OG Kg wq cX;rw[gk (by simp;omega),aq,av,aeH _ (by omega),av,h,cm,au,dw,av,c1,cm,au,List.nil_append];have e:=Gw (step:=Kh) l (nZ ⟨line,code,1⟩) (λk=>((line,code,(),(),(l.length:Int),(k:Int),()),(l,()))) (λi=>.inl (((),true,()),(l.set i (Qz (l.getD i zEE)),()))) (.inr (.inl ((line,code,(),()),(l,())))) bB (λk hk=>by
  unfold Kh nZ xC aH bI xG;dsimp only;rw[bz (by omega),aq,aK ⟨by omega,by omega⟩,aK (by omega)];simp only[bX];rw[aK ⟨by omega,by omega⟩,aK (by omega),cK (by omega),qp _ hk];cases l[k].line==line<;>cases l[k].code==code<;>rfl) (by
  unfold Kh xC aH bI xG;dsimp only;rw[bK (by omega),au]) (cT (by omega))
 rw[cZ]at e;have e2:iter Vo bB ((line,code,(),(),(l.length:Int),(0:Int),()),(l,()))=_:=e;rcases h2 with rfl|rfl
 ·rw[bne_self_eq_false,au,e2];cases l.findIdx? (nZ ⟨line,1,1⟩)with
  |some i=>rfl
  | none=>
   rw[av,Sum.elim_inr,jf];dsimp only;cases h6:(l.length:Int)==(6:Int)with
   |false=>rw[au,au,gk (by simp;omega)];rfl
   | true=>
    have h6:=eq_of_beq h6;rw[aq,aq,bu ⟨by omega,by omega,by omega⟩,gk (by simp;omega),aq,av,gk (by simp;omega),aq];simp
 ·rw[mS (by omega),aq,bne_self_eq_false,au,e];cases l.findIdx? (nZ ⟨line,2,1⟩)with
  |some i=>rfl
  | none=>
   rw[av,Sum.elim_inr,jf];dsimp only;cases h6:(l.length:Int)==(6:Int)with
   |false=>rw[au,au,gk (by simp;omega)];rfl
   | true=>
    have h6:=eq_of_beq h6;rw[aq,aq,bu ⟨by omega,by omega,by omega⟩,gk (by simp;omega),aq,av,gk (by simp;omega),aq];simp
def QA(c:ay)(l:af cy):ay:=⟨c.config,c.box,c.now,c.br,c.ready,c.array,c.spare,c.bh,c.bx,c.guard,c.pending,c.queue,c.shares,c.drain,c.aX,c.cB,l,c.trace,c.bR⟩
def QB(c:ay)(n code:Int):ay:=bif code != 0 then QA c (wq c.errors n code)else c
theorem afw{c:ay}(h:qk c.errors=true){n code:Int}(h1:0<=n/\n<=1023)(h2:code=0\/code=1\/code=2):zq c n code=some ((),(QB c n code,())):=by
 unfold zq QB;rcases h2 with rfl|h2
 ·rfl
 ·rw[atH h h1 h2,mS (by omega)];rfl
def atI(q:af bk):Prop:=∀i (h:i<q.length),(q.take i).any (λx=>x.id==q[i].id)=false
theorem atJ{q:af bk}{i:Nat}(h:i<q.length)(hl:q.length<=12):O9 q (i:Int) (W6 ((i:Int)+1))=some (q.take i++q.drop (i+1),([],())):=by
 have hs:(splice q i ((q.take ((q.length:Int).toNat)).drop (i+1))).length=q.length:=by
  rw[uh _ _ _ (by simp;omega)]
 have ht:((q.take ((q.length:Int).toNat)).drop (i+1))=q.drop (i+1):=by rw[bX,List.take_length]
 unfold O9;rw[cK (by omega),bu ⟨by omega,by omega,by omega,by omega⟩,mz (by omega),au,bu ⟨by omega,by omega,by omega⟩,bu ⟨by omega,by omega,by omega⟩];simp only[bX]at hs ⊢;rw[bu ⟨by omega,by omega,by omega,by omega⟩,bu ⟨by omega,by omega,by omega⟩,bu ⟨by omega,by omega⟩];have e1:i+(q.length-(i+1))-0=i+(q.length-(i+1)):=by omega
 rw[e1,WT _ _ _ (by omega)];unfold splice;rw[List.take_length,List.take_append_of_le_length (by simp;omega),List.take_of_length_le (by simp;omega)]
def zS:bk:=⟨0,0,0,false,0,0⟩
def zU(s:af cI)(t:Int):af cI:=match uQ s ((List.replicate 4 false).set t.toNat true)with
 |some (l,_)=>l
 |none=>[]
def sJ(c:ay)(i:Nat)(a:dK)(e:af cy)(x:eN):ay:=
 ⟨c.config,c.box,c.now,c.br,c.ready,a,c.spare,c.bh,c.bx,c.guard,c.pending,c.queue.take i++c.queue.drop (i+1),zU c.shares (c.queue.getD i zS).bM,c.drain,c.aX,c.cB,e,c.trace,c.bR++[x]⟩
def zV(c:ay)(i:Nat):ay:=
 let r:=c.queue.getD i zS
 let n:=kK c.config.aD (iJ c r.line)
 bif r.write then sJ c i ⟨c.array.cells.set n ⟨GN r.data,false⟩,c.array.bU,c.array.bL⟩ c.errors ⟨r.id,c.now,0,0⟩
 else sJ c i ⟨c.array.cells.set n (vb (c.array.cells.getD n B3)),c.array.bU,c.array.bL⟩ (bif n5 (c.array.cells.getD n B3) != 0 then wq c.errors (n:Int) (n5 (c.array.cells.getD n B3))else c.errors) ⟨r.id,c.now,W3 (c.array.cells.getD n B3),n5 (c.array.cells.getD n B3)⟩
theorem W8{d:cq}(h:Sy d.symbols):n5 d=0\/n5 d=1\/n5 d=2:=by
 obtain⟨n1,n2,n3⟩:=WY h;unfold n5;cases d.jg with
 |true=>exact .inr (.inr rfl)
 |false=>exact(Qb n2 n3).2.2
structure sK (c:ay) (i:Nat) (B:Int):Prop where
 ad:∀r∈c.queue,vW c r.line=some (iJ c r.line,true)/\fe c.config.aD (iJ c r.line)=true
 tn:∀r∈c.queue,0<=r.bM/\r.bM<=3
 ql:c.queue.length<=12
 sh:lT c.shares=true
 shl:c.shares.length=4
 u:atI c.queue
 i:i<c.queue.length
 d:∀r∈c.queue,0<=r.data/\r.data<=4294967295
 a:fH c.config.aD B c.array
 e:qk c.errors=true
 r:c.bR.length<=1000
theorem sK.facts{c:ay}{i:Nat}{B:Int}(h:sK c i B){r:bk}(hm:r∈c.queue):vW c r.line=some (iJ c r.line,true)/\vZ c.config.aD (iJ c r.line)=(kK c.config.aD (iJ c r.line):Int)/\kK c.config.aD (iJ c r.line)<c.array.cells.length/\(kK c.config.aD (iJ c r.line):Int)<=1023/\uQ c.shares ((List.replicate 4 false).set r.bM.toNat true)=some (zU c.shares r.bM,(uQ c.shares ((List.replicate 4 false).set r.bM.toNat true)).get!.2)/\0<=r.bM/\r.bM.toNat<4:=by
 obtain⟨a1,a3⟩:=h.ad _ hm;have ht:=h.tn _ hm;obtain⟨b1,b2⟩:=Lu a3;have hc:=h.a.cells;have hl:=qj c.config.aD;obtain⟨y,t,e,_⟩:=WK ((List.replicate 4 false).set r.bM.toNat true) (by have:=h.shl;omega) h.sh (by simp[h.shl]);refine⟨a1,b1,by omega,by omega,?_,ht.1,by omega⟩;unfold zU;rw[e];rfl
theorem afx{c:ay}{i:Nat}{B:Int}(h:sK c i B):Pa c (i:Int)=some ((),(zV c i,())):=by
 have hi:=h.i;obtain⟨f1,f3,f4,f5,f6,f7,f8⟩:=h.facts (dy hi);have hd:=h.d _ (dy hi);have rz:=h.a.syms _ (dy f4);have hq:c.queue.getD i zS=c.queue[i]:=qp _ hi;have hr:=h.r;unfold Pa xC;rw[aK ⟨by omega,by omega⟩,aK (by omega)];simp only[bX];rw[f1,av,atJ hi h.ql,av,bu (by decide)];have e4:(4:Int).toNat=4:=rfl;rw[e4,aK ⟨f7,by simpa using f8⟩,aK (by simpa using f8)];dsimp only;rw[f6,av];dsimp only;unfold zV;rw[hq];dsimp only;cases hw:c.queue[i].write with
 | true=>
  rw[aq,aq,Gr,av,f3,(W2 hd.1 hd.2).1,av,aK ⟨by omega,by omega⟩,aK (by omega),gk (by simp;omega),aq];unfold sJ;rw[hq];rfl
 | false=>
  rw[au,au,Gr,av,f3,qp _ f4]
  refine(cA (λo=>Option.bind o _) (afs (c:=⟨c.config,c.box,c.now,c.br,c.ready,c.array,c.spare,c.bh,c.bx,c.guard,c.pending,c.queue.take i++c.queue.drop (i+1),zU c.shares c.queue[i].bM,c.drain,c.aX,c.cB,c.errors,c.trace,c.bR⟩) f4 rz)).trans ?_
  rw[av];unfold xM fh;dsimp only;rw[gk (by simp;omega),aq,av]
  refine(cA (λo=>Option.bind o _) (afw (by exact h.e) ⟨by omega,f5⟩ (W8 rz))).trans ?_
  rw[av];unfold QB sJ QA;rw[hq];dsimp only;cases n5 c.array.cells[kK c.config.aD (iJ c c.queue[i].line)] != 0<;>rfl
def gn(c:ay)(x:aT):ay:=⟨c.config,c.box,c.now,iX c.br x,zF c.config.aD c.ready ⟨c.now,x⟩,c.array,c.spare,c.bh,c.bx,c.guard,c.pending,c.queue,c.shares,c.drain,c.aX,c.cB,c.errors,c.trace++[⟨c.now,x⟩],c.bR⟩
def afy(c:ay)(p:jh):ay:=⟨c.config,c.box,c.now,c.br,c.ready,c.array,c.spare,c.bh,c.bx,c.guard,c.pending,c.queue,c.shares,c.drain,p,c.cB,c.errors,c.trace,c.bR⟩
def W9(c:ay)(r:eo):ay:=⟨c.config,c.box,c.now,c.br,c.ready,c.array,c.spare,r,c.bx,c.guard,c.pending,c.queue,c.shares,c.drain,c.aX,c.cB,c.errors,c.trace,c.bR⟩
def Ef(c:ay)(k:Int):ay:=afy c (Ec c.aX k c.now)
def QC(c:ay)(b:Int):ay:=W9 (Qq c b (c.pending.filter (λa=>!(a.aE==b)))) (B8 c.bh b)
def zW(c:ay)(x:aT)(i:Int):ay:=
 bif x.kind==1 then B9 (gn c x) x else
 bif x.kind==5 then QC (gn c x) x.aE else
 bif x.kind==2 ||x.kind==3 then zV (gn c x) i.toNat else
 bif x.kind==4 then gn c x else
 bif x.kind==9 then ku (Ef (gn c x) 9) c.bx.length []else Ef (gn c x) x.kind
structure Bs (c:ay):Prop where
 w:xL 100000 c
 u:Ed c.pending
 pk:∀a∈c.pending,0<=a.aE/\a.aE<bf c.config.aD
 zt:∀t∈c.bx,nq t
 rf:gP c.bh=true
 bl:(c.br.aI.length:Int)=bf c.config.aD
 l1:c.ready.last.length<1073741824
 l2:c.ready.aY.length<1073741824
 tl:c.trace.length<10000
theorem Bs.gn{c:ay}(h:Bs c)(x:aT):xL 100000 (gn c x):=⟨h.w.hB,h.w.g,h.w.a,h.w.k,h.w.p,h.w.t,h.w.d,h.w.r⟩
theorem sK.gn{c:ay}{n:Nat}{B:Int}(h:sK c n B)(x:aT):sK (gn c x) n B:=⟨h.ad,h.tn,h.ql,h.sh,h.shl,h.u,h.i,h.d,h.a,h.e,h.r⟩
theorem atK{c:ay}(h:xL 100000 c):iter zB bB (((),(c.bx.length:Int),(0:Int),()),((⟨c.config,c.box,c.now,c.br,c.ready,c.array,c.spare,c.bh,c.bx,c.guard,([]:af aV),c.queue,c.shares,c.drain,c.aX,c.cB,c.errors,c.trace,c.bR⟩:ay),()))=some (.inl ((),(ku c c.bx.length [],()))):=atq h
theorem Xa{g:aR}{x:aT}(h:gx g x=true)(hk:x.kind=1):0<=x.row/\x.row<g.rows:=by
 simp only[gx,aJ]at h;have h3:=h.2.2.2.1;rw[tV,hk,show ((1:Int)==1)=true from rfl,aq,bO]at h3;omega
theorem atM{c:ay}(h:Bs c){x:aT}(ha:qm c.config.aD c.br x=true){i:Int}(hs:x.kind=2\/x.kind=3->sK c i.toNat 100000/\0<=i):BP c x i=some ((),(zW c x i,())):=by
 obtain⟨hg,hlen,hk,hb⟩:=Lr ha;have hc:gx c.config.aD x=true:=by
  simp only[qm,aJ]at ha;exact ha.2.1
 have b1:=iI c.config.aD;have w:=h.gn x;have ht:=h.w.t;have hd:=h.w.d;have hr:=h.w.r;have LO:=h.tl;have er:KH c.config.aD c.br x=some (iX c.br x,true):=by
  rw[arT _ _ _ (by omega)];unfold Wi;rw[ha];rfl
 unfold BP zW cC;rw[gk (by simp;omega),aq,ar4 _ _ _ h.l1 h.l2,av,er,av];rcases kinds hk with q|q|q|q|q|q|q|q|q<;>rw[q]<;>simp only[Int.reduceBEq,Int.reduceBNe,aq,au,Bool.or_true,Bool.or_false,Bool.true_or,Bool.false_or,Bool.or_self]
 ·obtain⟨l9,nI⟩:=hb (by omega);obtain⟨r0,r1⟩:=Xa hc q
  refine(cA (λo=>Option.bind o _) (ato (c:=gn c x) x w.g w.a w.p h.zt l9 (by show x.aE<bf c.config.aD;omega) r0 r1 (by show x.aE.toNat<c.bx.length;omega) (by show x.aE.toNat<c.guard.length;omega))).trans ?_
  rfl
 ·obtain⟨s,s0⟩:=hs (.inl q);have e:=afx (s.gn x);rw[Int.toNat_of_nonneg s0]at e
  refine(cA (λo=>Option.bind o _) e).trans ?_
  rfl
 ·obtain⟨s,s0⟩:=hs (.inr q);have e:=afx (s.gn x);rw[Int.toNat_of_nonneg s0]at e
  refine(cA (λo=>Option.bind o _) e).trans ?_
  rfl
 ·rfl
 ·obtain⟨l9,nI⟩:=hb (by omega);obtain⟨y,e4⟩:=ath h.rf (b:=x.aE) l9 (by omega)
  refine(cA (λo=>Option.bind o _) (afp w.hB (gn c x) w.g w.a l9 (by show x.aE<bf c.config.aD;omega))).trans ?_
  rw[av];unfold fh;dsimp only;rw[atl _ _ (by show c.pending.length<1000000;have:=h.w.p;omega),av];dsimp only
  refine(cA (λo=>Option.bind o _) (afq _ (by exact w.k) l9 (by show x.aE.toNat<c.bx.length;omega) (by show x.aE.toNat<c.guard.length;omega))).trans ?_
  rw[av];unfold wo;dsimp only
  refine(cA (λo=>Option.bind o _) e4).trans ?_
  rfl
 ·obtain⟨y,e⟩:=Qo c.aX (k:=6) (by omega) c.now;rw[e,av];rfl
 ·obtain⟨y,e⟩:=Qo c.aX (k:=7) (by omega) c.now;rw[e,av];rfl
 ·obtain⟨y,e⟩:=Qo c.aX (k:=8) (by omega) c.now;rw[e,av];rfl
 ·obtain⟨y,e⟩:=Qo c.aX (k:=9) (by omega) c.now;rw[e,av]
  refine(cA (λo=>Option.bind o _) (atK (c:=Ef (gn c x) 9) ⟨w.hB,w.g,w.a,w.k,w.p,w.t,w.d,w.r⟩)).trans ?_
  rfl
theorem atO{l m:af Int}(h:l.length=m.length)(ha:(l.zip m).all zD=true):(∀ x∈l,0<=x/\x<=100000)/\∀ x∈m,0<=x/\x<=100000:=by
 rw[c9]at ha;have key:∀ i (h1:i<l.length) (h2:i<m.length),(0<=l[i]/\l[i]<=100000)/\(0<=m[i]/\m[i]<=100000):=λi h1 h2=>by
  have hz:i<(l.zip m).length:=by rw[List.length_zip];omega
  have:=ha _ (dy hz);rw[List.getElem_zip]at this;simp only[zD,aJ,bO]at this;exact this
 constructor
 ·intro x hx;obtain⟨i,hi,rfl⟩:=lV.1 hx;exact(key i hi (by omega)).1
 ·intro x hx;obtain⟨i,hi,rfl⟩:=lV.1 hx;exact(key i (by omega) hi).2
theorem fH.wu{g:aR}{a:dK}(h:pM g a=true):fH g 100000 a:=by
 simp only[pM,aJ,iB]at h;obtain⟨h1,h2,h3,h4,h5,h6⟩:=h;obtain⟨k1,k2⟩:=atO (by omega) h6
 refine⟨h2,λc hc=>?_,h3,h4,k1,k2⟩
 exact Sy.of (c9.1 h5 c hc)
theorem Bs.of{c:ay}(hz:dS c)(h:ff c=true)(LO:c.trace.length<10000):Bs c:=by
 have hq:=Pq.of hz h;have z1:c.box.ck.weights.length<=1048576:=hz.1.1;have h0:=h;simp only[ff,aJ]at h;obtain⟨h1,h2,h3,h4,h5,h6,h7,h8,h9,fJ,gT,jz,gU,js,jA,gC,od,lP,oY,mZ,vi,sN⟩:=h;obtain⟨f1,f2⟩:=GL (by omega) h1;simp only[tS,aJ]at f1;simp only[uY,aJ,iC,hD,oW,c9,iA]at h9;obtain⟨h9,g1,g2,g3,g4,g5,g6⟩:=h9;have iP:=hq.pl;obtain⟨hg,rl,ra⟩:=Wm h5;have b1:=iI c.config.aD
 refine⟨⟨by decide,hg,fH.wu h6,f1.2.2.2.2.2.1,by omega,g2,g3,g1⟩,λi hi=>?_,λa ha=>?_,hz.2.2.2.2.2.2.1.2,h9,hq.p.bl,by omega,by omega,LO⟩
 ·have hb:=g6 i hi;unfold BX at hb;rw[bT hi]at hb;simp only[aJ,hD]at hb;exact hb.2.2
 ·obtain⟨_,k1,k2,_⟩:=uV (hq.pe a ha);exact⟨k1,k2⟩
theorem sK.of{c:ay}(hz:dS c)(h:ff c=true){n:Nat}(hn:n<c.queue.length)(hr:c.bR.length<=1000):sK c n 100000:=by
 have hq:=Pq.of hz h;have h0:=h;simp only[ff,aJ]at h;obtain⟨h1,h2,h3,h4,h5,h6,h7,h8,h9,fJ,gT,jz,gU,js,jA,gC,od,lP,oY,mZ,vi,sN⟩:=h;simp only[jI,aJ,c9,iA,iB]at fJ;obtain⟨q1,q2⟩:=fJ
 refine⟨λr hr=>Qx hq hr,λr hr=>(hq.q r hr).2.1,hq.ql,hq.sh,hq.shl,λi hi=>?_,hn,λr hr=>?_,fH.wu h6,mZ,hr⟩
 ·cases i with
  |zero=>simp
  | succ i=>
   have hb:=q1 (i+1) hi;rw[PY hi]at hb;simp only[aJ,hD]at hb;exact hb.2.2
 ·obtain⟨i,hi,rfl⟩:=lV.1 hr;have hb:=q1 i hi;unfold wg at hb;rw[bT hi]at hb;simp only[we,V6,aJ,bO]at hb;exact hb.1.2.2.2.2.1
theorem xO{g:aR}{B:Int}{a:dK}(h:fH g B a):Qd a:=by
 have h1:=h.cells;have h2:=h.bU;have h3:=h.bL;have b1:=qj g;have b2:=vY g;exact⟨⟨by omega,λc hc=>by unfold Qc;rw[(h.syms c hc).1];omega⟩,by omega,by omega⟩
theorem Xb{l:af dm}(h:l.length<=1048576/\∀ y∈l,nq y){t:dm}(ht:nq t)(i:Nat):(l.set i t).length<=1048576/\∀ y∈l.set i t,nq y:=by
 refine⟨by rw[kM];exact h.1,λy hy=>?_⟩
 rcases List.mem_or_eq_of_mem_set hy with hy|rfl
 ·exact h.2 y hy
 ·exact ht
theorem afz{k:Int}(h:aP k 1 16=true):nq (xJ k):=by
 have:=bO.1 h;unfold xJ nq;simp only[nv];omega
theorem atP{t:dm}(h:nq t)(row dQ:Int):nq (zM t row dQ).1:=by
 have hl:=afk (t:=t) row;unfold nq at h ⊢;unfold zM;cases mC t&&(aP row 0 15&&aP dQ 2 1000)with
 |false=>exact h
 | true=>
  rw[aq];cases mC (mE t row)with
  |false=>exact h
  | true=>
   rw[aq];show (mE t row).rows.length<=_/\(mE t row).counts.length<=_;omega
theorem atQ{c:ay}(hz:dS c)(hr:c.ready.aY.length<=4)(ht:c.trace.length<=10000)(x:aT):dS (gn c x):=by
 obtain⟨z1,z2,⟨z3,z4⟩,z5,z6,z7,z8,z9,bF,fm,gI,iH,fy,jq⟩:=hz;have ha:=asb c.config.aD c.ready ⟨c.now,x⟩;refine⟨z1,by unfold Wp at z2 ⊢;show (iX c.br x).aI.length<=_;rw[arV];exact z2,⟨by show (zF _ _ _).last.length<=_;rw[ha.1];exact z3,Nat.le_trans (ha.2 hr) (by decide)⟩,z5,z6,z7,z8,z9,bF,fm,gI,iH,by simp[gn];omega,jq⟩
theorem QD{c:ay}(hz:dS c){a:dK}(ha:Qd a){r:eo}(hr:BZ r){t:af dm}(ht:t.length<=1048576/\∀ y∈t,nq y){gd:af Int}(hg:gd.length<=1048576){pd:af aV}(hp:pd.length<=1048576)(pw:jh):dS ⟨c.config,c.box,c.now,c.br,c.ready,a,c.spare,r,t,gd,pd,c.queue,c.shares,c.drain,pw,c.cB,c.errors,c.trace,c.bR⟩:=by
 obtain⟨z1,z2,z3,z5,z6,z7,z8,z9,bF,fm,gI,iH,fy,jq⟩:=hz;exact⟨z1,z2,z3,ha,z6,hr,ht,hg,hp,fm,gI,iH,fy,jq⟩
theorem atT{c:ay}(hz:dS c)(h:xL 100000 c)(x:aT)(h1:0<=x.aE)(h2:x.aE<bf c.config.aD)(h3:0<=x.row)(h4:x.row<c.config.aD.rows):dS (B9 c x):=by
 have zt:=hz.2.2.2.2.2.2.1;have hb:x.aE.toNat<c.bx.length:=by have:=h.t;omega
 have hp:=h.p;refine QD hz (xO (WA h.g c.config.gf h.hB h.a h1 h2 h3 h4)) hz.2.2.2.2.2.1 (Xb zt ?_ _) hz.2.2.2.2.2.2.2.1 ?_ c.aX
 ·unfold xK;rw[qp _ hb];exact atP (zt.2 _ (dy hb)) _ _
 ·have hf:(u7 c x).length<=c.pending.length:=List.length_filter_le _ _;have hn:=afo c.config.aD.rows x.row;have ha:=WU x.aE (oU c.config.aD.rows x.row) (u7 c x);cases (xK c x).2 with
  |false=>rw[au];omega
  |true=>rw[aq];omega
theorem afA(r:eo)(b:Int):(B8 r b).aN.length=r.aN.length:=by
 unfold B8;cases decide (r.aN.getD b.toNat 0 = -2)<;>simp
theorem atU{c:ay}(hz:dS c)(h:xL 100000 c){b:Int}(h1:0<=b)(h2:b<bf c.config.aD):dS (QC c b):=by
 obtain⟨_,_,_,_,g5,g6,g7,g8⟩:=jw h.g;have zt:=hz.2.2.2.2.2.2.1;have hp:=h.p;have hf:=atn (λa:aV=>!(a.aE==b)) c.pending;exact QD hz (xO (LJ h.g c.config.gf h.hB h.a h1 h2 _ (by omega))) (by unfold BZ;rw[afA];exact hz.2.2.2.2.2.1) (Xb zt (afz h.k) _) (by show (c.guard.set _ _).length<=_;rw[kM];exact hz.2.2.2.2.2.2.2.1) (by show (c.pending.filter (λa=>!(a.aE==b))).length<=_;omega) c.aX
theorem afB{l:af dm}(h:l.length<=1048576/\∀ y∈l,nq y){t:dm}(ht:nq t):∀ k:Nat,((List.range k).foldl (λd b=>d.set b t) l).length<=1048576/\∀ y∈(List.range k).foldl (λd b=>d.set b t) l,nq y
 |0=>h
 |k+1=>by rw[Ca];exact Xb (afB h ht k) ht k
theorem atV{c:ay}(hz:dS c)(h:xL 100000 c)(k:Nat)(hk:(k:Int)<=bf c.config.aD):dS (ku c k []):=
 QD hz (xO (Qr h.g c.config.gf h.hB h.a k hk)) (by unfold BZ;rw[zN];exact hz.2.2.2.2.2.1) (afB hz.2.2.2.2.2.2.1 (afz h.k) k) (by rw[zN];exact hz.2.2.2.2.2.2.2.1) (by simp) c.aX
theorem afC{l:af cy}(n code:Int):(wq l n code).length<=l.length+1:=by
 unfold wq;cases l.findIdx? (nZ ⟨n,code,1⟩)with
 |some i=>simp
 | none=>
  dsimp only;cases (l.length:Int)==(6:Int)<;>simp<;>omega
theorem afD{c:ay}(hz:dS c){i:Nat}(h:sK c i 100000):dS (zV c i):=by
 obtain⟨z1,z2,z3,z5,z6,z7,z8,z9,bF,fm,gI,iH,fy,jq⟩:=hz;have hi:=h.i;have hql:=h.ql;have hr:=h.r;obtain⟨f1,f3,f4,f5,f6,f7,f8⟩:=h.facts (dy hi);have hq:c.queue.getD i zS=c.queue[i]:=qp _ hi;have hd:=h.d _ (dy hi);have Fw:(zU c.shares c.queue[i].bM).length<=1048576:=by
  obtain⟨y,t,e,hl⟩:=WK ((List.replicate 4 false).set c.queue[i].bM.toNat true) (by have:=h.shl;omega) h.sh (by simp[h.shl]);unfold zU;rw[e];have:=h.shl;show y.length<=_;omega
 have kf:c.errors.length<=6:=by
  have he:=h.e;simp only[qk,aJ,iB]at he;omega
 have key:∀ (a:dK) (e:af cy) (x:eN),Qd a->e.length<=100->dS (sJ c i a e x):=λa e x ha he=>
  ⟨z1,z2,z3,ha,z6,z7,z8,z9,bF,by simp[sJ];omega,by unfold sJ;rw[hq];exact Fw,by show e.length<=_;omega,fy,by simp[sJ];omega⟩
 unfold zV;rw[hq];dsimp only;cases c.queue[i].write with
 |true=>exact key _ _ _ (xO (h.a.D4 _ (c:=⟨_,false⟩) (W2 hd.1 hd.2).2.1)) (by omega)
 | false=>
  rw[au,qp _ f4];refine key _ _ _ (xO (h.a.D4 _ (WZ (h.a.syms _ (dy f4))))) ?_;have:=afC (l:=c.errors) (kK c.config.aD (iJ c c.queue[i].line):Int) (n5 c.array.cells[kK c.config.aD (iJ c c.queue[i].line)]);cases n5 c.array.cells[kK c.config.aD (iJ c c.queue[i].line)] != 0 with
  |true=>rw[aq];omega
  |false=>rw[au];omega
theorem atW{c:ay}(hz:dS c)(h:Bs c)(hr:c.ready.aY.length<=4){x:aT}(ha:qm c.config.aD c.br x=true){i:Int}(hs:x.kind=2\/x.kind=3->sK c i.toNat 100000/\0<=i):dS (zW c x i):=by
 obtain⟨hg,hlen,hk,hb⟩:=Lr ha;have hc:gx c.config.aD x=true:=by
  simp only[qm,aJ]at ha;exact ha.2.1
 have w:=h.gn x;have ht:=h.w.t;have LO:=h.tl;have z:=atQ hz hr (by omega) x;have zp:∀k,dS (Ef (gn c x) k):=λk=>QD z z.2.2.2.1 z.2.2.2.2.2.1 z.2.2.2.2.2.2.1 z.2.2.2.2.2.2.2.1 z.2.2.2.2.2.2.2.2.1 _
 unfold zW;rcases kinds hk with q|q|q|q|q|q|q|q|q<;>rw[q]<;>simp only[Int.reduceBEq,Int.reduceBNe,aq,au,Bool.or_true,Bool.or_false,Bool.true_or,Bool.false_or,Bool.or_self]
 ·obtain⟨l9,nI⟩:=hb (by omega);obtain⟨r0,r1⟩:=Xa hc q;exact atT z w x l9 (by show x.aE<bf c.config.aD;omega) r0 r1
 ·exact afD z ((hs (.inl q)).1.gn x)
 ·exact afD z ((hs (.inr q)).1.gn x)
 ·exact z
 ·obtain⟨l9,nI⟩:=hb (by omega);exact atU z w l9 (by show x.aE<bf c.config.aD;omega)
 ·exact zp 6
 ·exact zp 7
 ·exact zp 8
 ·exact atV (zp 9) ⟨w.hB,w.g,w.a,w.k,w.p,w.t,w.d,w.r⟩ _ (by show (c.bx.length:Int)<=bf c.config.aD;omega)
def zX(c:ay)(b:Int):Bool:=decide (c.bh.aN.getD b.toNat 0 >= 4)
def pnB(c:ay)(b:Int):Bool:=c.pending.any λa=>a.aE==b
def wz(c:ay)(i:Nat):aT:=rC c.br (lJ c i) (xN c.queue i)
def atX(c:ay)(i:Nat):Bool:=decide (c.now-(zR c i).at_<c.box.ck.cap)
def tZ(c:ay)(i:Nat):Bool:=
 rD c i&&(!zX c (lJ c i).aE&&(ga c (wz c i)&&(!(((wz c i).kind==1 ||(wz c i).kind==4)&&pnB c (lJ c i).aE) && !((wz c i).kind==4&&(LN c c.queue.length (lJ c i).aE&&atX c i)))))
theorem atY{l:af Int}{b:Int}(h0:0<=b)(h:b.toNat<l.length):∀ i:Nat,(((i:Int)+b)∈cS i l) ↔ l.getD b.toNat 0 >= 4:=by
 obtain⟨n,rfl⟩:=iM h0;rw[bX]at *
 clear h0
 induction l generalizing n with
 |nil=>simp at h
 | cons d l ih=>
  intro i;have bC:∀ x∈cS (i+1) l,(i:Int)+1<=x:=λx hx=>by
   obtain⟨j,h1,_,_⟩:=aff hx;omega
  have e:cS i (d::l)=bif decide (d >= 4)then (i:Int)::cS (i+1) l else cS (i+1) l:=rfl;rw[e];cases n with
  | zero=>
   have h1:¬ (i:Int)∈cS (i+1) l:=λhx=>by have:=bC _ hx;omega
   by_cases hd:d >= 4
   ·rw[bz hd,aq];simp[hd]
   ·rw[bK hd,au];simp[h1];omega
  | succ n=>
   have h2:=ih n (by simpa using h) (i+1);rw[show ((i+1:Nat):Int)+(n:Int)=(i:Int)+((n+1:Nat):Int) by omega]at h2;rw[show (d::l).getD (n+1) 0=l.getD n 0 by simp,<-h2];cases decide (d >= 4)with
   |false=>rfl
   | true=>
    rw[aq,iL];constructor
    ·rintro(h | h)
     ·omega
     ·exact h
    ·exact .inr
theorem Xc{c:ay}{b:Int}(hl:c.bh.aN.length<=8)(h0:0<=b)(h:b.toNat<c.bh.aN.length):xx (cS 0 c.bh.aN) b=some (zX c b):=by
 have hu:=WG 0 c.bh.aN;have hm:=atY h0 h 0;rw[cZ,Int.zero_add]at hm;unfold xx;rw[P0 _ _ (by omega),av];congr 1;unfold zX ko;by_cases hc:c.bh.aN.getD b.toNat 0 >= 4
 ·obtain⟨i,hi,e⟩:=lV.1 (hm.2 hc);rw[bz hc];cases hf:(cS 0 c.bh.aN).findIdx? (λe=>b==e)with
  | none=>
   rw[List.findIdx?_eq_none_iff]at hf;have:=hf _ (dy hi);rw[e]at this;simp at this
  |some j=>simp
 ·rw[bK hc];cases hf:(cS 0 c.bh.aN).findIdx? (λe=>b==e)with
  |none=>rfl
  | some j=>
   obtain⟨hj,hp,_⟩:=qv.1 hf;have hp:b=(cS 0 c.bh.aN)[j]:=by simpa using hp
   exact absurd (hm.1 (by rw[hp];exact dy hj)) hc
theorem atZ{c:ay}(h:Pq c){i:Nat}(hi:i<c.queue.length):gx c.config.aD (wz c i)=true:=atb _ (W7 h hi).1
def zY(c:ay):Nat->af Bool
 |0=>List.replicate 4 false
 |k+1=>bif tZ c k then (zY c k).set (zR c k).bM.toNat true else zY c k
theorem Xd(c:ay):∀ k,(zY c k).length=4
 |0=>rfl
 | k+1=>by
  have ih:=Xd c k;show (bif tZ c k then _ else _:af Bool).length=4;cases tZ c k with
  |true=>rw[aq,kM,ih]
  |false=>exact ih
theorem at0{c:ay}{url:af Int}{sI:af aV}{Z:Int×Int×Int×Int×ak}{P:Int×Int×Int×Int×Int×(af Int)×Int×Int×ak}{due nW iK wait:af Bool}{hb:af (Int×Bool)}{Cc:af aT}{k:Nat}{r:bk}{a:aV}{nd:aT}{ct rd ib:Bool}(hq:c.queue.length<=12)(hk:k<c.queue.length)(hr:c.queue[k]=r)(h2:k<sI.length)(ha:sI[k]=a)(h3:k<due.length)(h4:k<iK.length)(h5:Cc.length=k)(t0:0<=r.bM)(t1:r.bM.toNat<wait.length)(e1:BF c.br a r.write=some nd)(e2:xx url a.aE=some ct)(e3:kI c nd=some rd)(e4:BB c.pending a.aE=some ib)(b1:0<=r.at_/\r.at_<=1000000)(b2:0<=c.now/\c.now<=1000000):
  DG ((url,sI,(),(),(),(),(),(),(),(),(),c.queue,(c.queue.length:Int),(k:Int),()),(c,Z,P,due,nW,hb,Cc,iK,wait,()))=some (.inl ((url,sI,(),(),(),(),(),(),(),(),(),c.queue,(c.queue.length:Int),((k+1:Nat):Int),()),(c,Z,P,due,nW,hb,Cc++[nd],iK.set k (due[k]&&(!ct&&(rd&&(!((nd.kind==1 ||nd.kind==4)&&ib) && !(nd.kind==4&&(mO hb a.aE&&decide (c.now-r.at_<P.2.1))))))),(bif (due[k]&&(!ct&&(rd&&(!((nd.kind==1 ||nd.kind==4)&&ib) && !(nd.kind==4&&(mO hb a.aE&&decide (c.now-r.at_<P.2.1)))))))then wait.set r.bM.toNat true else wait),()))):=by
 have hw:W6 (c.now-r.at_)=c.now-r.at_:=bD (by omega) (by omega);unfold DG xC aH xG xI;dsimp only;rw[bz (by omega),aq,aK ⟨by omega,by omega⟩,aK ⟨by omega,by omega⟩,aK ⟨by omega,by omega⟩];simp only[bX,hr,ha,e1,av,h5,rF,gk (show k+1<1073741824 by omega),aq,e2,e3,e4,hw,cK (show k<4611686018427387904 by omega)];by_cases k1:nd.kind=1
 ·have k4:(nd.kind==(4:Int))=false:=by rw[k1];rfl
  have k1:(nd.kind==(1:Int))=true:=by rw[k1];rfl
  simp only[k1,k4,aq,au,Bool.true_or,dF,Bool.false_and,Bool.not_false,Bool.and_true];rw[aK ⟨by omega,by omega⟩,aK (by omega)];cases due[k]<;>cases ct<;>cases rd<;>cases ib<;>simp[h4,t0,t1]
 ·have k1:(nd.kind==(1:Int))=false:=by simpa using k1
  simp only[k1,au,Bool.false_or];rw[aK ⟨by omega,by omega⟩,aK (by omega)];cases nd.kind==(4:Int)with
  |false=>cases due[k]<;>cases ct<;>cases rd<;>cases ib<;>simp[h4,t0,t1]
  | true=>
   cases due[k]with
   |false=>simp[h4,t0,t1]
   | true=>
    cases ct with
    |true=>simp[h4,t0,t1]
    | false=>
     cases rd with
     |false=>simp[h4,t0,t1]
     | true=>
      cases ib with
      |true=>simp[h4,t0,t1]
      | false=>
       cases mO hb a.aE with
       |false=>simp[h4,t0,t1]
       | true=>
        by_cases hc:c.now-r.at_<P.2.1
        ·simp[h4,t0,t1,hc]
        ·simp[h4,t0,t1,hc]
def Xe(y x:aT):Bool:=(y.kind==x.kind)&&((y.aE==x.aE)&&((y.row==x.row)&&((y.cO==x.cO)&&true)))
def QE(c:ay)(x:aT)(i:Int):Bool:=aP i 0 ((c.queue.length:Int)-1)&&(decide ((c.bR.length:Int)<400)&&Xe (rC c.br (iJ c (c.queue.getD i.toNat zS).line) (c.queue.getD i.toNat zS).write) x)
def Cd(c:ay)(x:aT)(i:Int):Bool:=gx c.config.aD x&&(ga c x&&(!decide ((c.trace.length:Int) >= 2000)&&bif x.kind==2 ||x.kind==3 then QE c x i else i == -1 ||aP i 0 ((c.queue.length:Int)-1)))
theorem afE{c:ay}(h:Pq c){i:Int}(hi:aP i 0 ((c.queue.length:Int)-1)=true):∃ bC:i.toNat<c.queue.length,0<=i/\c.queue.getD i.toNat zS=c.queue[i.toNat]/\vW c c.queue[i.toNat].line=some (iJ c c.queue[i.toNat].line,true)/\BF c.br (iJ c c.queue[i.toNat].line) c.queue[i.toNat].write=some (rC c.br (iJ c c.queue[i.toNat].line) c.queue[i.toNat].write):=by
 have hb:=bO.1 hi;have bC:i.toNat<c.queue.length:=by omega
 obtain⟨a1,a3⟩:=Qx h (dy bC);obtain⟨_,k1,k2,_⟩:=uV a3;have fk:=h.p.bl;have b1:=iI c.config.aD;exact⟨bC,hb.1,qp _ bC,a1,afi _ k1 (by omega) (by omega)⟩
theorem at3{c:ay}(hz:dS c)(h:Pq c)(x:aT)(i:Int):sy c x i=bif Cd c x i then (BP c x i).bind (λy=>some (y.2.1,true))else some (c,false):=by
 have hql:=h.ql;unfold sy Cd xI;rw[GG c hz,av,D5 c hz,av,h.p.ok,cm,au];cases hc:gx c.config.aD x with
 | false=>
  have e:kI c x=some false:=by
   unfold kI;rw[Wh,av,hc,Bool.false_and,Bool.and_false];rfl
  rw[e];rfl
 |true=>
 rw[zJ h.p hc,av];cases ga c x with
 |false=>rfl
 |true=>
 rw[cm,au];cases decide ((c.trace.length:Int) >= 2000)with
 |true=>rfl
 |false=>
 rw[au,dF,dF,Bool.not_false,dF,dw,bD (n:=(c.queue.length:Int)-1) (by omega) (by omega),av];unfold QE;cases hi:aP i 0 ((c.queue.length:Int)-1)with
 | true=>
  obtain⟨bC,h0,hq,f1,f3⟩:=afE h hi;rw[mS (show ¬ i = -1 by omega),cm,au,aq,au,dF,Bool.or_true,hq];by_cases q2:x.kind=2
  ·rw[show (x.kind==2)=true by rw[q2];rfl,aq,Bool.true_or,aq];by_cases hr:(c.bR.length:Int)<400
   ·rw[bz hr,bK (show ¬ (c.bR.length:Int) >= 400 by omega),au,aK ⟨h0,bC⟩];dsimp only;rw[f1,av,aK ⟨h0,bC⟩,f3,av,dF];unfold Xe;cases (((rC c.br (iJ c c.queue[i.toNat].line) c.queue[i.toNat].write).kind==x.kind)&&(((rC c.br (iJ c c.queue[i.toNat].line) c.queue[i.toNat].write).aE==x.aE)&&(((rC c.br (iJ c c.queue[i.toNat].line) c.queue[i.toNat].write).row==x.row)&&(((rC c.br (iJ c c.queue[i.toNat].line) c.queue[i.toNat].write).cO==x.cO)&&true))))<;>rfl
   ·rw[bK hr,bz (show (c.bR.length:Int) >= 400 by omega)];rfl
  ·rw[mz q2,au,Bool.false_or];by_cases q3:x.kind=3
   ·rw[show (x.kind==3)=true by rw[q3];rfl,aq,aq];by_cases hr:(c.bR.length:Int)<400
    ·rw[bz hr,bK (show ¬ (c.bR.length:Int) >= 400 by omega),au,aK ⟨h0,bC⟩];dsimp only;rw[f1,av,aK ⟨h0,bC⟩,f3,av,dF];unfold Xe;cases (((rC c.br (iJ c c.queue[i.toNat].line) c.queue[i.toNat].write).kind==x.kind)&&(((rC c.br (iJ c c.queue[i.toNat].line) c.queue[i.toNat].write).aE==x.aE)&&(((rC c.br (iJ c c.queue[i.toNat].line) c.queue[i.toNat].write).row==x.row)&&(((rC c.br (iJ c c.queue[i.toNat].line) c.queue[i.toNat].write).cO==x.cO)&&true))))<;>rfl
    ·rw[bK hr,bz (show (c.bR.length:Int) >= 400 by omega)];rfl
   ·rw[mz q3];rfl
 | false=>
  rw[Bool.false_and,Bool.not_false,aq,Bool.or_false];by_cases q2:x.kind=2
  ·rw[q2];cases decide ((c.bR.length:Int) >= 400)<;>rfl
  ·rw[mz q2,au,Bool.false_or];by_cases q3:x.kind=3
   ·rw[q3];cases decide ((c.bR.length:Int) >= 400)<;>rfl
   ·rw[mz q3,au,au];by_cases e:i = -1
    ·subst e;rfl
    ·rw[mS e,mz e];rfl
theorem afF{c:ay}(hz:dS c)(h:Pq c){x:aT}{i:Int}(hm:Cd c x i=true):Bs c/\qm c.config.aD c.br x=true/\(x.kind=2\/x.kind=3->sK c i.toNat 100000/\0<=i)/\c.ready.aY.length<=4:=by
 simp only[Cd,aJ,hD,oW]at hm;obtain⟨m1,m2,m3,m4⟩:=hm;simp only[ga,aJ]at m2
 refine⟨Bs.of hz h.p.ok (by omega),?_,λhk=>?_,(Wm h.p.rdy).2.2⟩
 ·unfold qm;rw[h.p.rk,m1,m2.1];rfl
 ·have e:(x.kind==2 || x.kind==3)=true:=by rcases hk with q | q <;>rw[q] <;>rfl
  rw[e,aq]at m4;simp only[QE,aJ,iB]at m4;obtain⟨bC,h0,_⟩:=afE h m4.1;exact⟨sK.of hz h.p.ok bC (by omega),h0⟩
structure Ck (c:ay):Prop where
 f1:ru c.config c.box.ck=true
 f2:ru c.config c.box.next=true
 nw:aP c.now 0 1000000=true
 rk:oR c.config.aD c.br=true
 rd:oS c.config.aD c.ready=true
 ar:pM c.config.aD c.array=true
 sp:oT c.config.aD c.spare=true
 se:c.spare.cg=c.config.cg
 rf:gP c.bh=true
 pa:uY c=true
 qu:jI (fE (gK c.config.aD c.spare)) c.queue=true
 sh:lT c.shares=true
 sl:(c.shares.length:Int)=4
 dr:rq c.drain=true
 pw:nY c.aX=true
 ps:c.aX.state=c.br.aX
 si:c.aX.since<=c.now
 s1:aP c.cB.every 1 100000=true
 s2:aP c.cB.wait 1 c.cB.every=true
 s3:aP c.cB.next 0 (W6 (fE c.config.aD-1))=true
 er:qk c.errors=true
 tr:c.trace.length<=2000
 rp:c.bR.length<=400
theorem Ck.of{c:ay}(h:ff c=true):Ck c:=by
 simp only[ff,aJ,iC,iB,hD,oW]at h;obtain⟨h1,h2,h3,h4,h5,h6,h7,h8,⟨h9,Xf⟩,fJ,gT,jz,gU,js,jA,gC,od,lP,oY,mZ,vi,sN⟩:=h;exact⟨h1,h2,h3,h4,h5,h6,h7,h8,h9,Xf,fJ,gT,jz,gU,js,jA,by omega,od,lP,oY,mZ,by omega,by omega⟩
theorem Ck.ok{c:ay}(h:Ck c):ff c=true:=by
 obtain⟨h1,h2,h3,h4,h5,h6,h7,h8,h9,Xf,fJ,gT,jz,gU,js,jA,gC,od,lP,oY,mZ,vi,sN⟩:=h;simp only[ff,aJ,iC,iB,hD,oW];exact⟨h1,h2,h3,h4,h5,h6,h7,h8,⟨h9,Xf⟩,fJ,gT,jz,gU,js,jA,by omega,od,lP,oY,mZ,by omega,by omega⟩
theorem afG:∀ (l:af Nat) (a:Nat),l.Pairwise (λx y=>x≠y)->l.length<=(l.filter (λx=>decide (x≠a))).length+1
 |[],a,_=>by simp
 | x :: l,a,h=>by
  obtain⟨h1,h2⟩:=List.pairwise_cons.1 h;by_cases e:x=a
  ·subst e;have:(x :: l).filter (λy=>decide (y≠x))=l:=by
    rw[List.filter_cons_of_neg (by simp)];exact List.filter_eq_self.2 λy hy=>by simpa using (h1 y hy).symm
   rw[this,n9];exact gZ _
  ·rw[List.filter_cons_of_pos (by simpa using e)];have:=afG l a h2;simp only[n9];omega
theorem pig:∀ (n:Nat) (l:af Nat),(∀ x∈l,x<n)->l.Pairwise (λx y=>x≠y)->l.length<=n
 | 0,l,h,_=>by
  cases l with
  |nil=>simp
  |cons x l=>exact absurd (h x (.head _)) (by omega)
 | n+1,l,h,hp=>by
  have h1:=afG l n hp;have h2:=pig n (l.filter (λx=>decide (x≠n))) (λx hx=>by
   have:=List.mem_filter.1 hx;have h3:=h x this.1;have h4:x≠n:=by simpa using this.2
   omega) (hp.filter _)
  omega
theorem Ed.pw{l:af aV}(h:Ed l):l.Pairwise (λx y=>x≠y):=by
 rw[List.pairwise_iff_getElem];intro i j hi hj qU e;have h1:=h j hj;rw[mW]at h1;have hm:l[i]∈l.take j:=by
  rw[List.mem_take_iff_getElem];exact⟨i,by omega,rfl⟩
 exact h1 _ hm (WV.2 e.symm)
theorem Ed.mk{l:af aV}(h:l.Pairwise (λx y=>x≠y)):Ed l:=by
 rw[List.pairwise_iff_getElem]at h;intro j hj;rw[mW];intro x hx e;obtain⟨i,hi,rfl⟩:=List.mem_take_iff_getElem.1 hx;exact h i j (by omega) hj (by omega) (WV.1 e).symm
structure jd (c:ay):Prop where
 dl:(c.bh.aN.length:Int)=bf c.config.aD
 tl:(c.bx.length:Int)=bf c.config.aD
 gl:(c.guard.length:Int)=bf c.config.aD
 t:∀x∈c.bx,mC x=true
 g:∀x∈c.guard,3<=x/\x<=1000
 pd:∀a∈c.pending,fe c.config.aD a=true/\a.cO=0
 u:c.pending.Pairwise (λx y=>x≠y)
theorem jd.of{c:ay}(h:uY c=true):jd c:=by
 simp only[uY,aJ,iC,hD,oW,c9,iA]at h;obtain⟨g1,g2,g3,g4,g5,g6⟩:=h;have key:∀ i (h1:i<c.bx.length) (h2:i<c.guard.length),mC c.bx[i]=true/\3<=c.guard[i]/\c.guard[i]<=1000:=λi h1 h2=>by
  have:=g5 i h1;unfold partAt at this;rw[bT h1,bT h2,aJ,bO]at this;exact this
 have Xg:∀ i (h1:i<c.pending.length),fe c.config.aD c.pending[i]=true/\c.pending[i].cO=0/\(c.pending.take i).any (kJ c.pending[i])=false:=λi h1=>by
  have:=g6 i h1;unfold BX at this;rw[bT h1]at this
  simpa [aJ]using this
 refine⟨g1,g2,g3,λx hx=>?_,λx hx=>?_,λa ha=>?_,Ed.pw λi hi=>(Xg i hi).2.2⟩
 ·obtain⟨i,hi,rfl⟩:=lV.1 hx;exact(key i hi (by omega)).1
 ·obtain⟨i,hi,rfl⟩:=lV.1 hx;exact(key i (by omega) hi).2
 ·obtain⟨i,hi,rfl⟩:=lV.1 ha;exact⟨(Xg i hi).1,(Xg i hi).2.1⟩
theorem at4{g:aR}{l:af aV}(hp:∀ a∈l,fe g a=true/\a.cO=0)(hu:l.Pairwise (λx y=>x≠y)):l.length<=128:=by
 have hr:∀ a∈l,0<=a.aE/\a.aE<8/\0<=a.row/\a.row<16:=λa ha=>by
  obtain⟨h1,h2,h3,h4,h5,_⟩:=uV (hp a ha).1;have b1:=iI g;have b2:=jw h1;omega
 have h1:=pig 128 (l.map λa=>(a.aE*16+a.row).toNat) (λx hx=>by
  obtain⟨a,ha,rfl⟩:=List.mem_map.1 hx;have:=hr a ha;omega) (by
  rw[List.pairwise_map]
  refine hu.imp_of_mem λ{a b} ha hb bg e=>bg ?_
  have r1:=hr a ha;have r2:=hr b hb;have c1:=(hp a ha).2;have c2:=(hp b hb).2;cases a;cases b;simp only at *
  congr 1<;>omega)
 rw[eV]at h1;exact h1
theorem jd.ok{c:ay}(h:jd c):uY c=true:=by
 obtain⟨g1,g2,g3,g4,g5,g6,g7⟩:=h;have hl:=at4 g6 g7;have hu:=Ed.mk g7;simp only[uY,aJ,iC,hD,oW,c9,iA]
 refine⟨g1,g2,g3,by omega,λi hi=>?_,λi hi=>?_⟩
 ·have h2:i<c.guard.length:=by omega
  unfold partAt;rw[bT hi,bT h2,aJ,bO];exact⟨g4 _ (dy hi),g5 _ (dy h2)⟩
 ·unfold BX;rw[bT hi];simp only[aJ,iC,hD];exact⟨(g6 _ (dy hi)).1,(g6 _ (dy hi)).2,hu i hi⟩
theorem at5{g:aR}{b n:Int}{l:af aV}(hn:fe g ⟨b,n,0⟩=true)(hp:∀ a∈l,fe g a=true/\a.cO=0)(hu:l.Pairwise (λx y=>x≠y)):(∀ a∈pP b l n,fe g a=true/\a.cO=0)/\(pP b l n).Pairwise (λx y=>x≠y):=by
 unfold pP;cases h:l.any (kJ ⟨b,n,0⟩)with
 |true=>exact⟨hp,hu⟩
 | false=>
  rw[au];rw[mW]at h
  refine⟨λa ha=>?_,?_⟩
  ·rcases List.mem_append.1 ha with ha | ha
   ·exact hp a ha
   ·rw[List.mem_singleton.1 ha];exact⟨hn,rfl⟩
  ·rw[List.pairwise_append]
   refine⟨hu,List.pairwise_singleton _ _,λx hx y hy e=>?_⟩
   rw[List.mem_singleton.1 hy]at e;exact h x hx (WV.2 e.symm)
theorem afH{g:aR}{b:Int}:∀ (ns:af Int) {l:af aV},(∀ n∈ns,fe g ⟨b,n,0⟩=true)->(∀ a∈l,fe g a=true/\a.cO=0)->l.Pairwise (λx y=>x≠y)->(∀ a∈ns.foldl (pP b) l,fe g a=true/\a.cO=0)/\(ns.foldl (pP b) l).Pairwise (λx y=>x≠y)
 |[],l,_,hp,hu=>⟨hp,hu⟩
 | n :: ns,l,hn,hp,hu=>by
  obtain⟨h1,h2⟩:=at5 (hn n (.head _)) hp hu;exact afH ns (λm hm=>hn m (.tail _ hm)) h1 h2
theorem GQ{T:Type}{p:T->Prop}{l:af T}{i:Nat}{x:T}(h:∀ y∈l,p y)(hx:p x):∀ y∈l.set i x,p y:=λy hy=>by
 rcases List.mem_or_eq_of_mem_set hy with hy|rfl
 ·exact h y hy
 ·exact hx
theorem at6{t:dm}(h:mC t=true)(row dQ:Int):mC (zM t row dQ).1=true:=by
 unfold zM;cases mC t&&(aP row 0 15&&aP dQ 2 1000)with
 |false=>exact h
 | true=>
  cases h2:mC (mE t row)with
  |false=>exact h
  |true=>exact h2
theorem afI{k:Int}(h:aP k 1 16=true):mC (xJ k)=true:=by
 have hb:=bO.1 h;simp only[mC,xJ,aJ,iC,c9,iA,nv,bO]
 refine⟨by omega,trivial,by omega,λi hi=>?_⟩
 rw[Wa (by simpa using hi) (by simpa using hi)];simp[aP]
theorem afJ{c:gu}{p:eM}(hl:p.weights.length<1073741823)(h:ru c p=true):3<=p.fB/\p.fB<=1000:=by
 obtain⟨_,f2⟩:=GL hl h;simp only[tT,aJ,bO]at f2;exact f2.2.2.1
theorem zZ{g:aR}{a:dK}(hg:cY g=true)(h:fH g 100000 a):pM g a=true:=by
 simp only[pM,aJ,iB,c9]
 refine⟨hg,h.cells,h.bU,h.bL,λc hc=>Sy.ok (h.syms c hc),λp hp=>?_⟩
 obtain⟨x,y⟩:=p;obtain⟨h1,h2⟩:=List.of_mem_zip hp;simp only[zD,aJ,bO];exact⟨h.Gs x h1,h.nW y h2⟩
theorem at7{g:aR}{c:aT}(h:gx g c=true):tU g (sG g c).toNat=true:=by
 obtain⟨hg,hk,hb,_⟩:=Gz h;obtain⟨p0,p1⟩:=aeQ h;have b1:=iI g;unfold tU;rw[Int.toNat_of_nonneg p0];unfold sG at *
 cases hu:aP c.kind 1 5 with
 | true=>
  have hu:=bO.1 hu;have:=hb hu.2;rw[aq,bz (by omega),bz (by omega)];rfl
 | false=>
  have h6:¬ c.kind<=5:=λh=>by rw[bO.2 ⟨hk.1,h⟩]at hu;cases hu
  rw[au,bK (by omega),bK (by omega)];rfl
theorem afK{l:af Int}(h:∀ i,i<l.length->sE l i=true){i:Nat}(hi:i<l.length):aP l[i] 0 1000000=true:=by
 have:=h i hi;cases i with
 |zero=>rw[P2 hi]at this;exact this
 |succ i=>rw[Lq hi,aJ]at this;exact this.1
theorem afL{l:af Int}(h:∀ i,i<l.length->sE l i=true){i:Nat}(hi:i+1<l.length):l[i]<l[i+1]:=by
 have:=h (i+1) hi;rw[Lq hi,aJ,hD,oW]at this;omega
theorem afM{l:af Int}(h1:∀ i (hi:i<l.length),aP l[i] 0 1000000=true)(h2:∀ i (hi:i+1<l.length),l[i]<l[i+1]):∀ i,i<l.length->sE l i=true:=λi hi=>by
 cases i with
 |zero=>rw[P2 hi];exact h1 0 hi
 | succ i=>
  have:=h2 i hi;rw[Lq hi,aJ,hD,oW];exact⟨h1 _ hi,by omega⟩
theorem at8{l:af Int}(h:∀ i,i<l.length->sE l i=true){x:Int}(hx:aP x 0 1000000=true)(hl:GA ⟨[],l⟩ x=false):∀ i,i<(l++[x]).length->sE (l++[x]) i=true:=by
 refine afM (λi hi=>?_) λi hi=>?_
 ·by_cases vn:i<l.length
  ·rw[List.getElem_append_left vn];exact afK h vn
  ·have e:i=l.length:=by simp at hi;omega
   subst e
   simpa using hx
 ·have Xh:i<l.length:=by simp at hi;omega
  by_cases vn:i+1<l.length
  ·rw[List.getElem_append_left vn,List.getElem_append_left Xh];exact afL h vn
  ·have e:i+1=l.length:=by omega
   have e2:(l++[x])[i+1]=x:=by simp[e]
   rw[e2,List.getElem_append_left Xh];unfold GA at hl;have e3:l.getLast?=some l[i]:=by
    rw[List.getLast?_eq_getElem?,show l.length-1=i by omega,bT Xh]
   dsimp only at hl;rw[e3,oW]at hl;omega
theorem at9{l:af Int}(h:∀ i,i<l.length->sE l i=true)(k:Nat):∀ i,i<(l.drop k).length->sE (l.drop k) i=true:=by
 refine afM (λi hi=>?_) λi hi=>?_
 ·rw[List.getElem_drop];exact afK h _
 ·rw[List.getElem_drop,List.getElem_drop];rw[List.length_drop]at hi;exact afL h (i:=k+i) (by omega)
theorem afN{g:aR}{r:gA}(e:fo)(h:oS g r=true):oS g (zF g r e)=true:=by
 unfold zF;cases hc:oS g r&&(gx g e.cmd&&(aP e.at_ 0 1000000 && !(e.cmd.kind==1&&GA r e.at_)))with
 |false=>exact h
 | true=>
  rw[aq];simp only[aJ,hD]at hc;obtain⟨_,c1,c2,c3⟩:=hc;simp only[oS,aJ,iC,hD,oW,c9,iA]at h ⊢;obtain⟨h1,h2,h3,h4,h5⟩:=h
  refine⟨h1,by rw[kM];exact h2,?_,λi hi=>?_,?_⟩
  ·cases e.cmd.kind==1 with
   |false=>exact h3
   | true=>
    rw[aq];unfold Ls;rw[List.length_drop,List.length_append,rF];omega
  ·rw[kM]at hi;have hb:=h4 i hi;rw[P1 hi]at hb;rw[P1 (by rw[kM];exact hi)];by_cases e':(sG g e.cmd).toNat=i
   ·subst e';rw[List.getElem_set_self,at7 c1];have:=bO.1 c2;rw[bO.2 ⟨by omega,by omega⟩];rfl
   ·rw[List.getElem_set_ne e'];exact hb
  ·cases hk:e.cmd.kind==1 with
   |false=>exact h5
   | true=>
    rw[hk,dF]at c3;rw[aq];exact at9 (at8 h5 c2 c3) _
structure Qk (n:Int) (q:List bk):Prop where
 r:∀x∈q,we n x=true
 b:q.Pairwise λx y=>gY x y=true
 i:q.Pairwise λx y=>x.id≠y.id
 l:q.length<=12
theorem aua{x y z:bk}(h1:gY x y=true)(h2:gY y z=true):gY x z=true:=by
 simp only[gY,eH,aJ,iB,iC]at *
 omega
theorem Qk.of{n:Int}{q:af bk}(h:jI n q=true):Qk n q:=by
 have h0:=h;simp only[jI,aJ,c9,iA,iB]at h;obtain⟨h1,h2⟩:=h;have hr:∀ x∈q,we n x=true:=λx hx=>by
  obtain⟨i,hi,rfl⟩:=lV.1 hx;have:=h1 i hi;unfold wg at this;rw[bT hi,aJ]at this;exact this.1
 have hb:∀ j i (qU:i<j) (hj:j<q.length),gY q[i] q[j]=true:=by
  intro j
  induction j with
  |zero=>intro i qU;omega
  | succ j ih=>
   intro i qU hj;have:=h1 (j+1) hj;rw[PY hj,aJ,aJ]at this;by_cases e:i=j
   ·subst e;exact this.2.1
   ·exact aua (ih i (by omega) (by omega)) this.2.1
 refine⟨hr,?_,?_,by omega⟩
 ·rw[List.pairwise_iff_getElem];exact λi j hi hj qU=>hb j i qU hj
 ·rw[List.pairwise_iff_getElem];intro i j hi hj qU e;have:=Ws h0 qU hj;rw[e,beq_self_eq_true]at this;cases this
theorem Qk.ok{n:Int}{q:af bk}(h:Qk n q):jI n q=true:=by
 obtain⟨h1,h2,h3,h4⟩:=h;rw[List.pairwise_iff_getElem]at h2 h3;simp only[jI,aJ,c9,iA,iB]
 refine⟨λi hi=>?_,by omega⟩
 cases i with
 |zero=>rw[aeG hi];exact h1 _ (dy hi)
 | succ i=>
  rw[PY hi,aJ,aJ,hD];refine⟨h1 _ (dy hi),h2 i (i+1) (by omega) hi (by omega),?_⟩;rw[mW];intro x hx e;obtain⟨k,hk,rfl⟩:=List.mem_take_iff_getElem.1 hx;exact h3 k (i+1) (by omega) hi (by omega) (by simpa using e)
theorem Qk.sub{n:Int}{q s:af bk}(h:Qk n q)(hs:s.Sublist q):Qk n s:=
 ⟨λx hx=>h.r x (hs.subset hx),h.b.sublist hs,h.i.sublist hs,Nat.le_trans hs.length_le h.l⟩
theorem afO{T:Type}(l:af T)(i:Nat):(l.take i++l.drop (i+1)).Sublist l:=by
 rw[<-List.eraseIdx_eq_take_drop_succ];exact List.eraseIdx_sublist l i
def aub(e x:cy):Prop:=¬ (e.line=x.line/\e.code=x.code)
structure Ek (l:List cy):Prop where
 e:∀x∈l,zE x=true
 k:l.Pairwise aub
 l:l.length<=6
theorem Xi{e x:cy}:nZ e x=true ↔ x.line=e.line/\x.code=e.code:=by
 simp only[nZ,aJ,iC]
theorem Ek.of{l:af cy}(h:qk l=true):Ek l:=by
 simp only[qk,aJ,c9,iA,iB]at h;obtain⟨h1,h2⟩:=h;have key:∀ i (hi:i<l.length),zE l[i]=true/\(l.take i).any (nZ l[i])=false:=λi hi=>by
  have:=h1 i hi;rw[V9 hi,aJ,hD]at this;exact this
 refine⟨λx hx=>?_,?_,by omega⟩
 ·obtain⟨i,hi,rfl⟩:=lV.1 hx;exact(key i hi).1
 ·rw[List.pairwise_iff_getElem];intro i j hi hj qU e;have h3:=(key j hj).2;rw[mW]at h3;exact h3 l[i] (List.mem_take_iff_getElem.2 ⟨i,by omega,rfl⟩) (Xi.2 e)
theorem Ek.ok{l:af cy}(h:Ek l):qk l=true:=by
 obtain⟨h1,h2,h3⟩:=h;rw[List.pairwise_iff_getElem]at h2;simp only[qk,aJ,c9,iA,iB]
 refine⟨λi hi=>?_,by omega⟩
 rw[V9 hi,aJ,hD];refine⟨h1 _ (dy hi),?_⟩;rw[mW];intro x hx e;obtain⟨k,hk,rfl⟩:=List.mem_take_iff_getElem.1 hx;exact h2 k i (by omega) hi (by omega) (Xi.1 e)
theorem afP{l:af cy}(h:qk l=true){n code:Int}(h1:0<=n/\n<=1023)(h2:code=1\/code=2):qk (wq l n code)=true:=by
 have hk:=Ek.of h;have hl:=hk.l;have qJ:zE ⟨n,code,1⟩=true:=by
  simp only[zE,aJ,eH,iC,bO];omega
 refine Ek.ok ?_;unfold wq;cases hf:l.findIdx? (nZ ⟨n,code,1⟩)with
 | some i=>
  obtain⟨hi,hp⟩:=LI hf;dsimp only;rw[qp _ hi];have he:=hk.e _ (dy hi);have hu:zE (Qz l[i])=true:=by
   simp only[zE,aJ,eH,iC,bO]at he ⊢;unfold Qz;dsimp only;rw[bD (n:=l[i].times+1) (by omega) (by omega)];refine⟨he.1,he.2.1,?_⟩;split<;>omega
  refine⟨GQ hk.e hu,?_,by rw[kM];exact hl⟩;have hpw:=hk.k;rw[List.pairwise_iff_getElem]at hpw ⊢;intro a b ha hb hab;rw[kM]at ha hb;have:=hpw a b ha hb hab;rw[List.getElem_set,List.getElem_set];by_cases e1:i=a
  ·subst e1;rw[bu rfl,bJ (by omega)];exact this
  ·rw[bJ e1];by_cases e2:i=b
   ·subst e2;rw[bu rfl];exact this
   ·rw[bJ e2];exact this
 | none=>
  have hn:∀ x∈l,¬ (x.line=n/\x.code=code):=λx hx e=>by
   have:=List.findIdx?_eq_none_iff.1 hf x hx;rw[Xi.2 e]at this;cases this
  have app:∀ m:af cy,m.Sublist l->m.length<=5->Ek (m++[⟨n,code,1⟩]):=λm hm hml=>by
   refine⟨λx hx=>?_,?_,by rw[List.length_append,rF];omega⟩
   ·rcases List.mem_append.1 hx with hx | hx
    ·exact hk.e x (hm.subset hx)
    ·rw[List.mem_singleton.1 hx];exact qJ
   ·rw[List.pairwise_append]
    refine⟨hk.k.sublist hm,List.pairwise_singleton _ _,λx hx y hy e=>?_⟩
    rw[List.mem_singleton.1 hy]at e;exact hn x (hm.subset hx) e
  dsimp only;by_cases e6:l.length=6
  ·rw[show ((l.length:Int)==(6:Int))=true by rw[e6];rfl,aq];exact app _ (List.drop_sublist 1 l) (by rw[List.length_drop];omega)
  ·rw[mz (show ¬ (l.length:Int)=6 by omega),au];exact app l (List.Sublist.refl l) (by omega)
theorem afQ{l:af cI}(h:∀ s∈l,sD s=true){k:Nat}(hk:k<l.length)(h0:1<=l[k].iN):∀ s∈l.set k ⟨l[k].weight,W6 (l[k].iN-1)⟩,sD s=true:=by
 have hs:=h _ (dy hk);simp only[sD,aJ,bO]at hs;rw[bD (n:=l[k].iN-1) (by omega) (by omega)];refine GQ h ?_;simp only[sD,aJ,bO];omega
theorem auc{l:af cI}(w:af Bool)(hl:l.length<1073741823)(hs:lT l=true)(hw:l.length=w.length):∃ y t,uQ l w=some (y,t)/\y.length=l.length/\lT y=true:=by
 have mk:∀ y:af cI,y.length=l.length->(∀ s∈y,sD s=true)->y.length=l.length/\lT y=true:=λy h1 h2=>by
  refine⟨h1,?_⟩;simp only[lT,aJ,c9]at hs ⊢;exact⟨h2,by rw[h1];exact hs.2⟩
 have ir:∀ s∈l,sD s=true:=by
  simp only[lT,aJ,c9]at hs;exact hs.1
 unfold uQ xC cC;have hb:=zL (λi=>w.getD i false) (λi=>(l.getD i ⟨0,0⟩).iN) (min l.length w.length);have Ea:(kL l).length=l.length:=by simp[kL]
 have fT:=zL (λi=>w.getD i false) (λi=>((kL l).getD i ⟨0,0⟩).iN) (min (kL l).length w.length);have hm:=WI (λi=>w.getD i false) (λi=>(l.getD i ⟨0,0⟩).iN) (min l.length w.length);rw[List.nil_append,Qj l w (by omega),av,PW _ (by omega),av,hs,cm,au,List.length_nil,fQ,gk (by omega),aq];unfold u5;generalize hr:kr (λi=>w.getD i false) (λi=>(l.getD i ⟨0,0⟩).iN) (min l.length w.length)=b at *
 by_cases h0:b<0
 ·rw[bz h0];exact⟨_,_,rfl,mk _ rfl ir⟩
 ·have h1:b.toNat<l.length:=by omega
  rw[bK h0,au,aK ⟨by omega,h1⟩,aK h1];dsimp only;have hsb:=ir _ (dy h1);simp only[sD,aJ,bO]at hsb;cases hz:l[b.toNat].iN==0 with
  | false=>
   have hz:¬ l[b.toNat].iN=0:=by simpa using hz
   rw[au,aK ⟨by omega,h1⟩,aK h1,aK ⟨by omega,h1⟩,aK h1];exact⟨_,_,rfl,mk _ (by simp) (afQ ir h1 (by omega))⟩
  | true=>
   have aud:∀ s∈kL l,sD s=true:=λs hs=>by
    obtain⟨x,hx,rfl⟩:=List.mem_map.1 hs;have:=ir x hx;simp only[sD,aJ,bO,D9]at this ⊢;omega
   rw[aq,afh l w (by omega),av];simp only[jf];rw[Qj _ w (by omega),av];have hp:0<=u5 (kL l) w:=WJ _ (i:=b.toNat) (by rcases hm with h|h;exact absurd h (by omega);exact h) _ (by rw[Ea];omega);have hq:u5 (kL l) w<((min (kL l).length w.length:Nat):Int):=fT.2;have h3:(u5 (kL l) w).toNat<(kL l).length:=by omega
   have h4:1<=(kL l)[(u5 (kL l) w).toNat].iN:=by
    have bC:(u5 (kL l) w).toNat<l.length:=by omega
    have hx:=ir _ (dy bC);simp only[sD,aJ,bO]at hx;simp only[kL,List.getElem_map,D9];simp only[kL]at hx;omega
   rw[aK ⟨hp,h3⟩,aK h3,aK ⟨hp,h3⟩,aK h3];exact⟨_,_,rfl,mk _ (by simp[Ea]) (afQ aud h3 h4)⟩
theorem afR{r:eo}(h:gP r=true)(k:Nat){d:Int}(hd:-2<=d/\d<=5):gP ⟨r.aN.set k d,r.wait,r.gL⟩=true:=by
 simp only[gP,aJ]at h ⊢;refine⟨Wn h.1 ?_,by rw[kM];exact h.2.1,h.2.2⟩;unfold DX;exact bO.2 hd
theorem aue{r:eo}(h:gP r=true){b:Int}(hb:b.toNat<r.aN.length):gP (B8 r b)=true:=by
 have hd:=WS h _ (dy hb);unfold B8;rw[qp _ hb];by_cases e:r.aN[b.toNat] = -2
 ·rw[bz e];exact h
 ·rw[bK e,au];exact afR h _ (by omega)
theorem auf{r:dj}{p:jh}{x:aT}{now:Int}(hp:nY p=true)(hs:p.state=r.aX)(hn:p.since<=now)(EX:now<=1000000)(hk:6<=x.kind/\x.kind<=9)(hm:sF r x=true):nY (Ec p x.kind now)=true/\(Ec p x.kind now).state=(iX r x).aX/\(Ec p x.kind now).since<=now:=by
 have hb:0<=p.since:=by
  simp only[nY,aJ,bO]at hp;omega
 have hi:0<=p.idle/\p.idle<=1000000:=by
  simp only[nY,aJ,bO]at hp;omega
 have hr:aP now p.since 1000000=true:=bO.2 ⟨hn,EX⟩;unfold Ec;rw[hp,hr,Bool.and_self,aq];have mk:∀ s:Int,0<=s/\s<=2->nY ⟨s,now,p.idle⟩=true:=λs hs=>by
  simp only[nY,aJ,bO];omega
 have:x.kind=6\/x.kind=7\/x.kind=8\/x.kind=9:=by omega
 rcases this with h|h|h|h
 ·have e:r.aX=0:=by simpa [sF,h]using hm
  simp[iX,h,hs,e,mk]
 ·have e:r.aX=1:=by simpa [sF,h]using hm
  simp[iX,h,hs,e,mk]
 ·have e:r.aX=0:=by have:=hm;simp[sF,h]at this;exact this.1
  simp[iX,h,hs,e,mk]
 ·have e:r.aX=2:=by simpa [sF,h]using hm
  simp[iX,h,hs,e,mk]
theorem aug{c:ay}(h:Pq c)(Z:Int×Int×Int×Int×ak)(P:Int×Int×Int×Int×Int×(af Int)×Int×Int×ak)(hP:P.2.1=c.box.ck.cap):iter DG bB ((cS 0 c.bh.aN,jJ c,(),(),(),(),(),(),(),(),(),c.queue,(c.queue.length:Int),(0:Int),()),(c,Z,P,(List.range c.queue.length).map (rD c),(List.range c.queue.length).map (iw c),tY c c.queue.length,([]:af aT),List.replicate c.queue.length false,List.replicate 4 false,()))=some (.inl (((),(),(),(),(),(),(),()),(c,Z,P,(List.range c.queue.length).map (iw c),(List.range c.queue.length).map (wz c),(List.range c.queue.length).map (tZ c),zY c c.queue.length,()))):=by
 have hq:=h.ql;have iP:=h.pl;have Eg:=zK h.rf;have fk:=GP h;have e:=eG (step:=DG) c.queue.length (λi=>((cS 0 c.bh.aN,jJ c,(),(),(),(),(),(),(),(),(),c.queue,(c.queue.length:Int),(i:Int),()),(c,Z,P,(List.range c.queue.length).map (rD c),(List.range c.queue.length).map (iw c),tY c c.queue.length,(List.range i).map (wz c),tX (tZ c) c.queue.length i,zY c i,()))) (.inl (((),(),(),(),(),(),(),()),(c,Z,P,(List.range c.queue.length).map (iw c),(List.range c.queue.length).map (wz c),(List.range c.queue.length).map (tZ c),zY c c.queue.length,()))) bB (λk hk=>by
  have hl:=Qs (f:=tZ c) (n:=c.queue.length) (k:=k) (by omega);have Qy:=LM c;have hwl:=Xd c k;obtain⟨ho,o1,o2,o3,o4,o5⟩:=W7 h hk;obtain⟨q1,q2,q3⟩:=h.q _ (dy hk);rw[GO hk]at q1 q2 q3;have UT:(zR c k).write=xN c.queue k:=by rw[W4 hk,GO hk]
  refine(at0 (r:=zR c k) (a:=lJ c k) (nd:=wz c k) (ct:=zX c (lJ c k).aE) (rd:=ga c (wz c k)) (ib:=pnB c (lJ c k).aE) hq hk (GO hk) (by omega) (W5 _) (by simp;exact hk) (by omega) (by simp) (by omega) (by omega) (by rw[UT];exact afi _ o1 o2 fk) (Xc Eg.1 o1 o3) (zJ h.p (atZ h hk)) (WQ _ _ (by omega)) q3 h.nw).trans ?_;rw[LL hk,afv,hP,<-Qt hk,List.range_succ,List.map_append];rfl) (by
  unfold DG xC aH xG xI;dsimp only;rw[bK (by omega),au,Qv]) (cT (by omega))
 rw[cZ,Qu]at e;exact e
def vc(f g:Nat->Bool)(n k:Nat):af Bool:=(List.range n).map λi=>bif Nat.blt i k then f i else g i
theorem auh(f g:Nat->Bool)(n:Nat):vc f g n 0=(List.range n).map g:=rfl
theorem aui(f g:Nat->Bool)(n:Nat):vc f g n n=(List.range n).map f:=by
 unfold vc
 refine lK λi hi=>?_
 have hi:=iA.1 hi;rw[show Nat.blt i n=true from jV hi];rfl
theorem Xj(f g:Nat->Bool)(n k:Nat):(vc f g n k).length=n:=by unfold vc;simp
theorem auj(k:Nat):Nat.blt k k=false:=by
 cases h:Nat.blt k k with
 |false=>rfl
 |true=>have:=cH h;omega
theorem auk{f g:Nat->Bool}{n k:Nat}(h':k<(vc f g n k).length):(vc f g n k)[k]=g k:=by
 simp only[vc,List.getElem_map,pR,auj,au]
theorem aul{f g:Nat->Bool}{n k:Nat}(h:k<n):(vc f g n k).set k (f k)=vc f g n (k+1):=by
 apply List.ext_getElem
 ·rw[kM,Xj,Xj]
 ·intro i h1 h2;rw[List.getElem_set];simp only[vc,List.getElem_map,pR];by_cases e:k=i
  ·subst e;rw[bu rfl,show Nat.blt k (k+1)=true from jV (gZ _)];rfl
  ·rw[bJ e];rcases Nat.lt_or_gt_of_ne e with h3 | h3
   ·have e1:Nat.blt i k=false:=by
     cases hb:Nat.blt i k with
     |false=>rfl
     |true=>have:=cH hb;omega
    have e2:Nat.blt i (k+1)=false:=by
     cases hb:Nat.blt i (k+1)with
     |false=>rfl
     |true=>have:=cH hb;omega
    rw[e1,e2]
   ·rw[show Nat.blt i k=true from jV h3,show Nat.blt i (k+1)=true from jV (by omega)]
def wA(c:ay)(t:Int)(i:Nat):Bool:=tZ c i&&(zR c i).bM==t
theorem aum{c:ay}(hq:c.queue.length<=12)(t:Int)(Z:Int×Int×Int×Int×ak)(P:Int×Int×Int×Int×Int×(af Int)×Int×Int×ak)(nW:af Bool)(Cc:af aT):iter Gg bB (((),(),(),(),(),(),t,c.queue,(c.queue.length:Int),(0:Int),()),(c,Z,P,nW,Cc,(List.range c.queue.length).map (tZ c),()))=some (.inl (((),(),(),(),(),(),()),(c,Z,P,nW,Cc,(List.range c.queue.length).map (wA c t),()))):=by
 have e:=eG (step:=Gg) c.queue.length (λi=>(((),(),(),(),(),(),t,c.queue,(c.queue.length:Int),(i:Int),()),(c,Z,P,nW,Cc,vc (wA c t) (tZ c) c.queue.length i,()))) (.inl (((),(),(),(),(),(),()),(c,Z,P,nW,Cc,(List.range c.queue.length).map (wA c t),()))) bB (λk hk=>by
  have hl:=Xj (wA c t) (tZ c) c.queue.length k;rw[<-aul hk];unfold Gg xC aH xG xI;dsimp only;rw[bz (by omega),aq,aK ⟨by omega,by omega⟩,aK ⟨by omega,by omega⟩,aK (by omega),cK (by omega)];simp only[bX,auk,GO];have ht:wA c t k=(tZ c k&&(zR c k).bM==t):=rfl;rw[ht];cases tZ c k with
  |false=>rw[au,aK ⟨by omega,by omega⟩,aK (by omega)];rfl
  |true=>rw[aq,aK ⟨by omega,by omega⟩,aK (by omega)];rfl) (by
  unfold Gg xC aH xG xI;dsimp only;rw[bK (by omega),au,aui]) (cT (by omega))
 rw[cZ,auh]at e;exact e
def iY(p:Nat->Bool):Nat->Int
 |0=>-1
 |k+1=>bif decide (iY p k<0)&&p k then (k:Int)else iY p k
theorem QF(p:Nat->Bool)(k:Nat):iY p (k+1)=bif decide (iY p k<0)&&p k then (k:Int)else iY p k:=rfl
theorem Eh(p:Nat->Bool):∀ n,(iY p n = -1/\∀ k,k<n->p k=false)\/∃ j:Nat,j<n/\iY p n=(j:Int)/\p j=true/\∀ k,k<j->p k=false
 |0=>.inl ⟨rfl,λk hk=>absurd hk (Nat.not_lt_zero k)⟩
 | n+1=>by
  rw[QF];rcases Eh p n with ⟨h1,h2⟩|⟨j,h1,h2,h3,h4⟩
  ·rw[h1];cases hp:p n with
   |true=>exact .inr ⟨n,by omega,rfl,hp,h2⟩
   | false=>
    refine .inl ⟨rfl,λk hk=>?_⟩
    by_cases e:k=n
    ·rw[e,hp]
    ·exact h2 k (by omega)
  ·rw[h2,bK (by omega),Bool.false_and,au];exact .inr ⟨j,by omega,rfl,h3,h4⟩
def GR(sW nW iK:Nat->Bool)(n:Nat):Int:=
 bif decide (iY (λi=>iK i&&sW i) n<0)then (bif decide (iY (λi=>iK i&&nW i) n<0)then iY iK n else iY (λi=>iK i&&nW i) n)else iY (λi=>iK i&&sW i) n
def z0(c:ay)(i:Nat):Bool:=decide ((zR c i).at_<=c.now-c.box.ck.cap)
theorem aun{c:ay}(h:Pq c)(iK:Nat->Bool):OT c.queue ((List.range c.queue.length).map iK) ((List.range c.queue.length).map (iw c)) c.box.ck.cap c.now=some (GR (z0 c) (iw c) iK c.queue.length):=by
 have hq:=h.ql;have hnw:=h.nw;have hcp:=h.cap;have hw:W6 (c.now-c.box.ck.cap)=c.now-c.box.ck.cap:=bD (by omega) (by omega);have xP:∀ (k:Nat),k<c.queue.length->(iK k&&z0 c k)=false->BH (((List.range c.queue.length).map iK,(List.range c.queue.length).map (iw c),c.box.ck.cap,c.now,iY iK k,iY (λi=>iK i&&iw c i) k,c.queue,(c.queue.length:Int),(k:Int),()),())=some (.inl (((List.range c.queue.length).map iK,(List.range c.queue.length).map (iw c),c.box.ck.cap,c.now,iY iK (k+1),iY (λi=>iK i&&iw c i) (k+1),c.queue,(c.queue.length:Int),((k+1:Nat):Int),()),())):=by
  intro k hk ho;rw[QF,QF];unfold BH aH bI xG xI;dsimp only;rw[bz (by omega),aq,aK ⟨by omega,by omega⟩];simp only[eV,gq];rw[bK (by omega),au,aK ⟨by omega,by omega⟩];simp only[bX,LL hk,hw,GO];rw[cK (by omega)];cases ha:iK k with
  |false=>simp[ha]
  | true=>
   rw[ha,dF]at ho;unfold z0 at ho;rw[ho,bz (by omega:(k:Int)<(c.queue.length:Int)),aK ⟨by omega,by omega⟩];simp only[cm,au,aq,ha,dF];cases iw c k<;>cases decide (iY iK k<0)<;>cases decide (iY (λi=>iK i&&iw c i) k<0)<;>simp
 unfold OT GR cX;rw[dw,av,bO.2 ⟨hcp.1,by omega⟩,cm,au,dw,av,bO.2 hnw,cm,au];rcases Eh (λi=>iK i&&z0 c i) c.queue.length with ⟨h1,h2⟩|⟨j,h1,h2,h3,h4⟩
 ·have e:=eG (step:=BH) c.queue.length (λk=>(((List.range c.queue.length).map iK,(List.range c.queue.length).map (iw c),c.box.ck.cap,c.now,iY iK k,iY (λi=>iK i&&iw c i) k,c.queue,(c.queue.length:Int),(k:Int),()),())) (.inr (.inl ((iY iK c.queue.length,iY (λi=>iK i&&iw c i) c.queue.length,()),()))) bB (λk hk=>xP k hk (h2 k hk)) (by
   unfold BH aH bI xG xI;dsimp only;rw[bK (by omega),au]) (cT (by omega))
  rw[cZ]at e
  refine(cA (λo=>Option.bind o _) e).trans ?_
  rw[av,h1];simp only[Sum.elim_inr,jf];by_cases hh:iY (λi=>iK i&&iw c i) c.queue.length<0
  ·rw[bK (by omega:¬ iY (λi=>iK i&&iw c i) c.queue.length >= 0),bz hh];rfl
  ·rw[bz (by omega:iY (λi=>iK i&&iw c i) c.queue.length >= 0),bK hh];rfl
 ·have e:=eG (step:=BH) j (λk=>(((List.range c.queue.length).map iK,(List.range c.queue.length).map (iw c),c.box.ck.cap,c.now,iY iK k,iY (λi=>iK i&&iw c i) k,c.queue,(c.queue.length:Int),(k:Int),()),())) (.inl (((j:Int),()),())) bB (λk hk=>xP k (by omega) (h4 k hk)) (by
   rw[aJ]at h3;have h5:=h3.2;unfold z0 at h5;unfold BH aH bI xG xI;dsimp only;rw[bz (by omega),aq,aK ⟨by omega,by omega⟩];simp only[eV,gq];rw[bK (by omega),au,aK ⟨by omega,by omega⟩];simp only[bX,LL h1,hw,GO,h3.1,h5,cm,au,aq]) (cT (by omega))
  rw[cZ]at e
  refine(cA (λo=>Option.bind o _) e).trans ?_
  rw[av,h2,bK (by omega)];rfl
def Ei:aT:=⟨0,0,0,0⟩
def Ce(c:ay):Int:=match uQ c.shares (zY c c.queue.length)with
 |some y=>y.2
 |none=>0
def Aa(c:ay):Int:=GR (z0 c) (iw c) (wA c (Ce c)) c.queue.length
def LP(c:ay):aT×Int:=bif decide (Aa c<0)then (Ei,-1)else (wz c (Aa c).toNat,Aa c)
theorem auo{c:ay}(h:Pq c):∃ l,uQ c.shares (zY c c.queue.length)=some (l,Ce c):=by
 obtain⟨y,t,e,_⟩:=WK (zY c c.queue.length) (by have:=h.shl;omega) h.sh (by rw[Xd,h.shl]);refine⟨y,?_⟩;unfold Ce;rw[e]
theorem aup(c:ay):-1<=Aa c/\Aa c<c.queue.length:=by
 unfold Aa GR;rcases Eh (λi=>wA c (Ce c) i&&z0 c i) c.queue.length with ⟨h1,_⟩|⟨j,h1,h2,_⟩
 ·rw[h1,bz (by omega),aq];rcases Eh (λi=>wA c (Ce c) i&&iw c i) c.queue.length with ⟨h3,_⟩ | ⟨j,h3,h4,_⟩
  ·rw[h3,bz (by omega),aq];rcases Eh (wA c (Ce c)) c.queue.length with ⟨h5,_⟩|⟨j,h5,h6,_⟩<;>omega
  ·rw[h4,bK (by omega),au];omega
 ·rw[h2,bK (by omega),au];omega
theorem auq{c:ay}(h:Pq c):OW c (cS 0 c.bh.aN) (jJ c)=some (LP c):=by
 have hq:=h.ql;obtain⟨l,hl⟩:=auo h;have hb:=aup c;unfold OW xC cC;rw[bu ⟨by omega,by omega,by omega⟩,bX,atF h,av];simp only[jf];rw[bu ⟨by omega,by omega,by omega⟩,bu ⟨by omega,by omega,by omega⟩,bX,atG h,av];simp only[jf];rw[bu ⟨by omega,by omega,by omega⟩,bu (by decide),bX,show (4:Int).toNat=4 from rfl,aug h _ _ rfl,av];simp only[jf];rw[hl,av];dsimp only;rw[aum hq,av];simp only[jf];rw[aun h,av];show (bif decide (Aa c<0)then _ else _)=_;unfold LP;by_cases hc:Aa c<0
 ·rw[bz hc];rfl
 ·have bC:(Aa c).toNat<c.queue.length:=by omega
  rw[bK hc,au,au];have jt:¬ GR (z0 c) (iw c) (wA c (Ce c)) c.queue.length<0:=hc;have WN:(GR (z0 c) (iw c) (wA c (Ce c)) c.queue.length).toNat<c.queue.length:=bC;rw[aK ⟨by omega,by simp only[eV,gq];exact WN⟩,aK (by simp only[eV,gq];exact WN)];simp only[List.getElem_map,pR];rfl
theorem Xk{α:Type}(p:α->Bool)(l:af α):(fN p l=l.length/\l.find? p=none)\/∃ h:fN p l<l.length,l.find? p=some l[fN p l]:=by
 have h1:=GH p l;rcases Nat.lt_or_ge (fN p l) l.length with h|h
 ·refine .inr ⟨h,?_⟩;rw[List.find?_eq_some_iff_getElem]
  refine⟨B1 h,_,h,rfl,λj hj=>?_⟩
  rw[wm hj (by omega)];rfl
 ·refine .inl ⟨by omega,?_⟩;rw[List.find?_eq_none];intro x hx;obtain⟨j,hj,rfl⟩:=lV.1 hx;rw[wm (p:=p) (i:=j) (by omega) hj];simp
def GS(c:ay)(b:Int)(x:aT):aT:=bif (mT c.br b).open_ then ⟨4,b,0,0⟩else x
theorem Xl{c:ay}{b:Int}(x:aT)(h0:0<=b)(h:b.toNat<c.br.aI.length):BA c b x=some (GS c b x):=by
 unfold BA GS xI;rw[aK ⟨h0,h⟩,LG h];dsimp only;cases c.br.aI[b.toNat].open_<;>rfl
theorem Xm{c:ay}{b:Int}{x:aT}(h:Pq c)(h0:0<=b/\b<bf c.config.aD)(hx:gx c.config.aD x=true):gx c.config.aD (GS c b x)=true:=by
 unfold GS;cases (mT c.br b).open_ with
 |false=>exact hx
 |true=>exact LH h.p.R.D7 (.inl rfl) h0
def jK(c:ay)(b:Int):aT:=GS c b ⟨5,b,0,0⟩
def qt(c:ay)(i:Nat):aV:=c.pending.getD i zA
theorem afS{c:ay}{i:Nat}(h:i<c.pending.length):c.pending[i]=qt c i:=by
 unfold qt;rw[iz,bT h];rfl
def wB(c:ay)(i:Nat):Bool:=!zX c (qt c i).aE && !((c.pending.take i).any λa=>a.aE==(qt c i).aE)
def mF(c:ay)(i:Nat):aT:=GS c (qt c i).aE ⟨1,(qt c i).aE,(qt c i).row,0⟩
def Xn(c:ay):af aT:=(cS 0 c.bh.aN).map (jK c)
def Xo(c:ay)(k:Nat):af aT:=((List.range k).filter (wB c)).map (mF c)
theorem afT{c:ay}(h:Pq c){i:Nat}(hi:i<c.pending.length):fe c.config.aD (qt c i)=true/\0<=(qt c i).aE/\(qt c i).aE.toNat<c.br.aI.length/\(qt c i).aE.toNat<c.bh.aN.length/\(qt c i).aE<bf c.config.aD:=by
 have ho:=h.pe _ (dy hi);rw[afS hi]at ho;obtain⟨_,b1,b2,b3,b4,b5,b6⟩:=uV ho;have:=h.p.bl;have:=h.dl;exact⟨ho,b1,by omega,by omega,b2⟩
theorem aur{c:ay}(h:Pq c){b:Int}(hb:b∈cS 0 c.bh.aN):(0<=b/\b<bf c.config.aD)/\gx c.config.aD (jK c b)=true:=by
 obtain⟨j,rfl,hj,_⟩:=aff hb;have:=h.dl;have hb:0<=((0+j:Nat):Int)/\((0+j:Nat):Int)<bf c.config.aD:=by omega
 exact⟨hb,Xm h hb (LH h.p.R.D7 (.inr rfl) hb)⟩
theorem aus{c:ay}(h:Pq c){i:Nat}(hi:i<c.pending.length):gx c.config.aD (mF c i)=true:=by
 obtain⟨ho,o1,o2,o3,o4⟩:=afT h hi;exact Xm h ⟨o1,o4⟩ (atc ho)
def GU(u:Bool)(l:af Int)(idle:Nat->Bool)(i:Nat):Bool:=bif u then decide (l.getD i 0 >= 4)else decide (l.getD i 0 > 0)&&idle i
def LQ(r:eo)(idle:Nat->Bool):Int:=kr (GU (decide (((cS 0 r.aN).length:Int) > 0)) r.aN idle) (λi=>r.aN.getD i 0) r.aN.length
theorem aut(r:eo)(idle:Nat->Bool):-1<=LQ r idle/\LQ r idle<r.aN.length:=zL _ _ _
theorem auu{r:eo}(hr:gP r=true)(idle:Nat->Bool):KA r ((List.range r.aN.length).map idle)=some (LQ r idle):=by
 have hl:=zK hr;unfold KA cC;rw[Gv _ (by omega),av,hr,cm,au,WH hr,av];generalize hu:decide (((cS 0 r.aN).length:Int) > 0)=u;have e:=eG (step:=Kz) r.aN.length (λi=>(((List.range r.aN.length).map idle,(),u,kr (GU u r.aN idle) (λi=>r.aN.getD i 0) i,r.aN,(r.aN.length:Int),(i:Int),()),((r.aN,r.wait,r.gL,()),()))) (.inl ((kr (GU u r.aN idle) (λi=>r.aN.getD i 0) r.aN.length,()),())) bB (λk hk=>by
  have hb:=zL (GU u r.aN idle) (λi=>r.aN.getD i 0) k;rw[LD];generalize kr (GU u r.aN idle) (λi=>r.aN.getD i 0) k=rB at hb;have hg:r.aN.getD k 0=r.aN[k]:=by rw[iz,bT hk];rfl
  unfold Kz D8 GU aH xG xI;dsimp only;rw[bz (by omega),aq,aK ⟨by omega,by omega⟩];simp only[bX,hg,eV,gq];rw[cK (by omega),bz (by omega:(k:Int)<(r.aN.length:Int)),aq,aK ⟨by omega,by omega⟩];simp only[LL hk];by_cases hn:rB<0
  ·rw[bz hn,Bool.true_or];cases u<;>cases decide (r.aN[k] > 0)<;>cases decide (r.aN[k] >= 4)<;>cases idle k<;>rfl
  ·have h3:rB.toNat<r.aN.length:=by omega
   have nG:r.aN.getD rB.toNat 0=r.aN[rB.toNat]:=by rw[iz,bT h3];rfl
   have h4:0<=rB/\rB.toNat<r.aN.length:=⟨by omega,h3⟩
   rw[bK hn,Bool.false_or,nG];simp only[aK h4,au];cases u<;>cases decide (r.aN[k] > 0)<;>cases decide (r.aN[k] >= 4)<;>cases idle k<;>cases decide (r.aN[k] > r.aN[rB.toNat])<;>rfl) (by
  unfold Kz aH xG xI;dsimp only;rw[bK (by omega),au]) (cT (by omega))
 rw[cZ]at e
 refine(cA (λo=>Option.bind o _) e).trans ?_
 unfold LQ;rw[hu];rfl
def rE(w:af aV)(r:dj)(b:Nat):Bool:=w.any λa=>a.aE==(b:Int)&&a.row==(mT r (b:Int)).row
def xQ(w:af aV)(r:dj)(b:Nat):Bool:=(mT r (b:Int)).open_ && !rE w r b
def GV(r:dj)(fS:Int)(w:af aV):Int:=bif fS != 1 then -1 else iY (xQ w r) r.aI.length
theorem auv(r:dj)(fS:Int)(w:af aV):-1<=GV r fS w/\GV r fS w<r.aI.length:=by
 unfold GV;cases fS != 1 with
 |true=>rw[aq];omega
 | false=>
  rw[au];rcases Eh (xQ w r) r.aI.length with ⟨h1,_⟩|⟨j,h1,h2,_⟩<;>omega
theorem auw{w:af aV}{r:dj}{L:af Int}{b:Nat}{i n:Int}(hb:b<r.aI.length)(hl:r.aI.length<=1048576)(hw:w.length<=1000):iter Gh bB ((w,(),(b:Int),false,(),n,i,w,(w.length:Int),(0:Int),()),((r.aI,r.aX,()),L,()))=some (.inl ((w,(),(b:Int),rE w r b,(),n,i,()),((r.aI,r.aX,()),L,()))):=by
 have e:=eG (step:=Gh) w.length (λk=>((w,(),(b:Int),((w.take k).any λa=>a.aE==(b:Int)&&a.row==(mT r (b:Int)).row),(),n,i,w,(w.length:Int),(k:Int),()),((r.aI,r.aX,()),L,()))) (.inl ((w,(),(b:Int),rE w r b,(),n,i,()),((r.aI,r.aX,()),L,()))) bB (λk hk=>by
  rw[DS hk,List.any_append,List.any_cons,List.any_nil,Bool.or_false,LG (by rw[bX];exact hb)];unfold Gh aH xG xI;dsimp only;rw[bz (by omega),aq,aK ⟨by omega,by omega⟩,cK (by omega)];simp only[bX];cases (w.take k).any λa=>a.aE==(b:Int)&&a.row==r.aI[b].row with
  |true=>rfl
  | false=>
   rw[au,Bool.false_or];cases w[k].aE==(b:Int)with
   |false=>rfl
   |true=>rw[aq,aK ⟨by omega,hb⟩,dF]) (by
  unfold Gh aH xG xI;dsimp only;rw[bK (by omega),au,List.take_length];rfl) (cT (by omega))
 rw[cZ]at e;exact e
theorem afU(w:af aV)(r:dj):∀ k,k<=r.aI.length->(opens 0 (r.aI.take k)).find? (λb=>!rE w r b.toNat)=bif decide (iY (xQ w r) k<0)then none else some (iY (xQ w r) k)
 |0,_=>rfl
 | k+1,hk=>by
  have ih:=afU w r k (by omega);have hb:(mT r (k:Int)).open_=r.aI[k].open_:=by rw[LG (by rw[bX];omega)];simp only[bX]
  have hc:xQ w r k=(r.aI[k].open_ && !rE w r k):=by unfold xQ;rw[hb]
  rw[DS (show k<r.aI.length by omega),ael,lM,Nat.min_eq_left (by omega),fQ,List.find?_append,ih,QF,hc];have e1:opens k [r.aI[k]]=bif r.aI[k].open_ then [(k:Int)]else []:=rfl;rw[e1];by_cases hn:iY (xQ w r) k<0
  ·rw[bz hn,aq,dF];cases r.aI[k].open_ with
   |false=>rw[au,Bool.false_and,au,bz hn];rfl
   | true=>
    rw[aq,dF];cases hd:rE w r k with
    |true=>rw[cm,au,bz hn];simp[hd]
    |false=>rw[Bool.not_false,aq,bK (by omega)];simp[hd]
  ·rw[bK hn,au,Bool.false_and,au,bK hn];rfl
theorem afV(i:Nat)(l:af gy)(x:Int)(h:x∈opens i l):∃ j:Nat,j<l.length/\x=((i+j:Nat):Int):=by
 induction l generalizing i with
 |nil=>cases h
 | cons d l ih=>
  have e:opens i (d :: l)=bif d.open_ then (i:Int) :: opens (i+1) l else opens (i+1) l:=rfl;rw[e]at h;have tl:x∈opens (i+1) l->∃ j:Nat,j<(d :: l).length/\x=((i+j:Nat):Int):=λh=>by
   obtain⟨j,h1,h2⟩:=ih _ h;exact⟨j+1,by simpa using h1,by rw[h2];congr 1;omega⟩
  cases hd:d.open_ with
  |false=>rw[hd]at h;exact tl h
  | true=>
   rw[hd,aq]at h;rcases iL.1 h with rfl|h
   ·exact⟨0,by simp,rfl⟩
   ·exact tl h
theorem auy{r:dj}(fS:Int){w:af aV}(hl:r.aI.length<=1048576)(hw:w.length<=1000):KB r fS w=some (GV r fS w):=by
 unfold KB GV cX;cases fS != 1 with
 |true=>rfl
 | false=>
  rw[au,au,PR r (by omega),av];have hf:=afU w r r.aI.length (gZ _);rw[List.take_length]at hf;have hol:=aem 0 r.aI;have hom:=afV 0 r.aI;generalize hL:opens 0 r.aI=L at *
  have hi:=GH (λb:Int=>!rE w r b.toNat) L;have xP:∀ (k:Nat) (hk:k<L.length),DI ((w,(),(),(L.length:Int),(k:Int),()),((r.aI,r.aX,()),L,()))=some (bif !rE w r L[k].toNat then .inr (.inl ((L[k],()),()))else .inl ((w,(),(),(L.length:Int),((k+1:Nat):Int),()),((r.aI,r.aX,()),L,()))):=by
   intro k hk;obtain⟨j,h1,h2⟩:=hom _ (dy hk);rw[fQ]at h2;unfold DI xC aH bI xG cC;dsimp only;rw[bz (by omega),aq,aK ⟨by omega,by omega⟩,aK (by omega)];simp only[bX,h2];rw[auw h1 hl hw,av];simp only[jf];rw[cK (by omega)];cases rE w r j<;>rfl
  rcases Xk (λb:Int=>!rE w r b.toNat) L with ⟨h1,h2⟩|⟨h1,h2⟩
  ·have e:=eG (step:=DI) L.length (λk=>((w,(),(),(L.length:Int),(k:Int),()),((r.aI,r.aX,()),L,()))) (.inr (.inl ((),()))) bB (λk hk=>by
    have:=wm (p:=λb:Int=>!rE w r b.toNat) (q:=L) (i:=k) (by omega) hk;rw[xP k hk,this];rfl) (by
    unfold DI xC aH bI xG cC;dsimp only;rw[bK (by omega),au]) (cT (by omega))
   rw[cZ]at e
   refine(cA (λo=>Option.bind o _) e).trans ?_
   rw[h2]at hf;by_cases hn:iY (xQ w r) r.aI.length<0
   ·rcases Eh (xQ w r) r.aI.length with ⟨k1,_⟩ | ⟨j,_,k2,_⟩
    ·rw[k1];rfl
    ·omega
   ·rw[bK hn]at hf;cases hf
  ·have e:=eG (step:=DI) (fN (λb:Int=>!rE w r b.toNat) L) (λk=>((w,(),(),(L.length:Int),(k:Int),()),((r.aI,r.aX,()),L,()))) (.inl ((L[fN (λb:Int=>!rE w r b.toNat) L],()),())) bB (λk hk=>by
    have:=wm (p:=λb:Int=>!rE w r b.toNat) (q:=L) (i:=k) hk (by omega);rw[xP k (by omega),this];rfl) (by
    have:=B1 (p:=λb:Int=>!rE w r b.toNat) (q:=L) h1;rw[xP _ h1,this];rfl) (cT (by omega))
   rw[cZ]at e
   refine(cA (λo=>Option.bind o _) e).trans ?_
   rw[h2]at hf;by_cases hn:iY (xQ w r) r.aI.length<0
   ·rw[bz hn]at hf;cases hf
   ·rw[bK hn]at hf;injection hf with hf;rw[av,hf];rfl
def fI(c:ay):Int:=B5 c.box.ck.eE c.aX (GJ c)
def LR(c:ay)(i:Nat):Bool:=!((jJ c).any λa=>a.aE==(i:Int))
def n6(c:ay):Int:=LQ c.bh (LR c)
def xR(c:ay):Int:=GV c.br c.box.ck.fS (jJ c)
def QG(c:ay):af aT:=bif decide (n6 c >= 0) && !zX c (n6 c)then [jK c (n6 c)]else []
def LS(c:ay):af aT:=bif decide (xR c >= 0)then [⟨4,xR c,0,0⟩]else []
def GW(c:ay):af aT:=bif fI c==8&&decide (((opens 0 c.br.aI).length:Int) > 0)then [⟨4,(opens 0 c.br.aI).headD 0,0,0⟩]else bif fI c != 0 then [⟨fI c,0,0,0⟩]else []
def xS(c:ay)(l:af aT):aT:=(l.find? (ga c)).getD Ei
theorem fnd_nil(c:ay):xS c []=Ei:=rfl
theorem fnd_cons(c:ay)(x:aT)(l:af aT):xS c (x :: l)=bif ga c x then x else xS c l:=by
 unfold xS;rw[List.find?_cons];cases ga c x<;>rfl
def QH(c:ay)(w:Int):aj aT:=
 let tN:Int->Int->Int->Int->aj (aT):=λzw KF KG Dn=>(let vV:Bool->aj (aT):=λBp=>bif Bp then some (⟨zw,KF,KG,Dn⟩:aT)else some (⟨(0:Int),(0:Int),(0:Int),(0:Int)⟩:aT);bif (zw != (0:Int))then (kI c (⟨zw,KF,KG,Dn⟩:aT)).bind λvU=>(vV vU)else (vV false));bif (w==(8:Int))then (tM c.br).bind λfM=>bif (decide ((fM.length:Int) > (0:Int)))then if jz:0<=(0:Int)/\(0:Int).toNat<fM.length then if gU:(0:Int).toNat<fM.length then (let sx:=fM[(0:Int).toNat]'gU;(tN (4:Int) sx (0:Int) (0:Int)))else none else none else (tN w 0 0 0)else (tN w 0 0 0)
def Ej(c:ay)(sI:af aV)(w:Int):aj aT:=
 (KB c.br c.box.ck.fS sI).bind λy9=>bif (y9 != (-1:Int))then (kI c (⟨(4:Int),y9,(0:Int),(0:Int)⟩:aT)).bind λgX=>bif gX then some (⟨(4:Int),y9,(0:Int),(0:Int)⟩:aT)else QH c w else QH c w
def Xp(c:ay)(url:af Int)(sI:af aV)(w:Int)(idle:af Bool):aj aT:=
 (KA c.bh idle).bind λy3=>(let k8:Bool->aj (aT):=λj5=>bif j5 then (BA c y3 (⟨(5:Int),y3,(0:Int),(0:Int)⟩:aT)).bind λy6=>(kI c y6).bind λy7=>bif y7 then some y6 else Ej c sI w else Ej c sI w;bif (y3 != (-1:Int))then (xx url y3).bind λy4=>(k8 (!y4))else (k8 false))
theorem afW(c:ay):fI c=0\/6<=fI c/\fI c<=9:=as4 _ _ _
theorem auz(l:af Int)(h:0<l.length):l.headD 0=l[0]:=by
 cases l with
 |nil=>cases h
 |cons x l=>rfl
theorem auA(c:ay)(h:Pq c)(hL:0<(opens 0 c.br.aI).length):(0<=(opens 0 c.br.aI)[0]/\(opens 0 c.br.aI)[0]<bf c.config.aD)/\(opens 0 c.br.aI).headD 0=(opens 0 c.br.aI)[0]:=by
 obtain⟨j,h1,h2⟩:=afV 0 _ _ (dy hL);have:=h.p.bl;exact⟨by omega,auz _ hL⟩
theorem auB{c:ay}(h:Pq c):QH c (fI c)=some (xS c (GW c)):=by
 have fk:=GP h;have hw:=afW c;have hg:=h.p.R.D7;have hr:fI c≠0->kI c ⟨fI c,0,0,0⟩=some (ga c ⟨fI c,0,0,0⟩):=λhn=>zJ h.p (afj hg (by omega))
 have fnl:(bif (fI c != (0:Int))then (kI c (⟨fI c,0,0,0⟩:aT)).bind λvU=>(bif vU then some (⟨fI c,0,0,0⟩:aT)else some Ei)else some Ei)=some (xS c (bif fI c != 0 then [⟨fI c,0,0,0⟩]else [])):=by
  by_cases h0:fI c=0
  ·rw[h0];rfl
  ·rw[mS h0,aq,aq,hr h0,av,fnd_cons,fnd_nil];cases ga c ⟨fI c,0,0,0⟩<;>rfl
 unfold QH GW;dsimp only;by_cases h8:fI c=8
 ·have e8:(fI c==8)=true:=by rw[h8];rfl
  rw[e8,aq,PR _ (by omega),av,dF];by_cases hL:0<(opens 0 c.br.aI).length
  ·obtain⟨k1,k2⟩:=auA c h hL;rw[bz (by omega:((opens 0 c.br.aI).length:Int) > 0),aq,aq,aK ⟨by omega,hL⟩,aK (show Int.toNat 0<(opens 0 c.br.aI).length from hL),k2];show (bif ((4:Int) != 0)then (kI c ⟨4,(opens 0 c.br.aI)[0],0,0⟩).bind _ else _)=_;rw[zJ h.p (LH hg (.inl rfl) k1),fnd_cons,fnd_nil];cases ga c ⟨4,(opens 0 c.br.aI)[0],0,0⟩<;>rfl
  ·rw[bK (by omega:¬ ((opens 0 c.br.aI).length:Int) > 0),au,au];exact fnl
 ·rw[mz h8,au,Bool.false_and,au];exact fnl
theorem auC{c:ay}(h:Pq c):Ej c (jJ c) (fI c)=some (xS c (LS c++GW c)):=by
 have fk:=GP h;have hq:=h.ql;have v9:=h.p.bl;have hb:-1<=xR c/\xR c<c.br.aI.length:=auv _ _ _;unfold Ej LS;rw[auy _ fk (by rw[LM];omega),av];show (bif xR c != -1 then (kI c ⟨4,xR c,0,0⟩).bind _ else _)=_;rw[auB h];by_cases hc:xR c >= 0
 ·rw[mS (by omega:¬ xR c = -1),aq,bz hc,aq,zJ h.p (LH h.p.R.D7 (.inl rfl) (by omega)),av,List.singleton_append,fnd_cons];cases ga c ⟨4,xR c,0,0⟩<;>rfl
 ·rw[show xR c = -1 by omega];rfl
theorem auD{c:ay}(h:Pq c):Xp c (cS 0 c.bh.aN) (jJ c) (fI c) ((List.range c.bh.aN.length).map (LR c))=some (xS c (QG c++(LS c++GW c))):=by
 have fk:=GP h;have Eg:=zK h.rf;have v9:=h.p.bl;have hdn:=h.dl;have hb:-1<=n6 c/\n6 c<c.bh.aN.length:=aut _ _;unfold Xp QG;rw[auu h.rf,av];show (bif n6 c != -1 then (xx (cS 0 c.bh.aN) (n6 c)).bind λy4=>(bif !y4 then (BA c (n6 c) ⟨5,n6 c,0,0⟩).bind λy6=>(kI c y6).bind λy7=>bif y7 then some y6 else Ej c (jJ c) (fI c)else Ej c (jJ c) (fI c))else Ej c (jJ c) (fI c))=_;rw[auC h];by_cases hc:n6 c >= 0
 ·have hv:0<=n6 c/\n6 c<bf c.config.aD:=by omega
  rw[mS (by omega:¬ n6 c = -1),aq,bz hc,dF,(Xc Eg.1 (by omega) (by omega)),av];cases zX c (n6 c)with
  |true=>rfl
  | false=>
   have dZ:gx c.config.aD (jK c (n6 c))=true:=Xm h hv (LH h.p.R.D7 (.inr rfl) hv);rw[Bool.not_false,aq,aq,Xl _ (by omega) (by omega),av];show ((kI c (jK c (n6 c))).bind λy7=>bif y7 then some (jK c (n6 c))else _)=_;rw[zJ h.p dZ,av,List.singleton_append,fnd_cons];cases ga c (jK c (n6 c))<;>rfl
 ·rw[show n6 c = -1 by omega];rfl
theorem auE{c:ay}(h:Pq c):KE c (cS 0 c.bh.aN) (jJ c) ⟨fI c,0,0,0⟩=some (xS c (QG c++(LS c++GW c))):=by
 have fk:=GP h;have hq:=h.ql;have v9:=h.p.bl;have hdn:=h.dl;have Eg:=zK h.rf;have ET:c.br.aI.length=c.bh.aN.length:=by omega
 have e:=eG (step:=KD) c.br.aI.length (λi=>((cS 0 c.bh.aN,jJ c,(),(),(),(),(c.br.aI.length:Int),(i:Int),()),(c,(fI c,(0:Int),(0:Int),(0:Int),()),((0:Int),(0:Int),(0:Int),(0:Int),()),(List.range i).map (LR c),()))) (.inl ((cS 0 c.bh.aN,jJ c,(),(),(),(),()),(c,(fI c,(0:Int),(0:Int),(0:Int),()),((0:Int),(0:Int),(0:Int),(0:Int),()),(List.range c.br.aI.length).map (LR c),()))) bB (λk hk=>by
  unfold KD aH xG;dsimp only;rw[bz (by omega),aq,WQ _ _ (by rw[LM];omega),av,eV,gq,rF,gk (by omega),aq,cK (by omega),List.range_succ,List.map_append];rfl) (by
  unfold KD aH xG;dsimp only;rw[bK (by omega),au]) (cT (by omega))
 rw[cZ]at e;unfold KE xC cC
 refine(cA (λo=>Option.bind o _) e).trans ?_
 rw[av,ET];show Xp c (cS 0 c.bh.aN) (jJ c) (fI c) ((List.range c.bh.aN.length).map (LR c))=_;exact auD h
def afX(c:ay):aj aT:=(Xn c++Xo c c.pending.length).find? (ga c)
def afY(c:ay):aT×Int:=
 bif c.aX.state != 0 then (bif fI c != 0 then (bif ga c ⟨fI c,0,0,0⟩then (⟨fI c,0,0,0⟩,-1)else (Ei,-1))else (Ei,-1))else
 match afX c with
 |some x=>(x,-1)
 |none=>bif decide ((LP c).2 >= 0)then LP c else (xS c (QG c++(LS c++GW c)),-1)
theorem auF(p:Nat->Bool)(n:Nat):fN p (List.range n)<=n/\(∀ k,k<fN p (List.range n)->p k=false)/\(fN p (List.range n)<n->p (fN p (List.range n))=true):=by
 have h1:=GH p (List.range n);rw[gq]at h1
 refine⟨h1,λk hk=>?_,λbC=>?_⟩
 ·have:=wm (p:=p) (q:=List.range n) hk (by rw[gq];omega)
  rwa [pR]at this
 ·have:=B1 (p:=p) (q:=List.range n) (by rw[gq];exact bC)
  rwa [pR]at this
theorem auG(c:ay)(n:Nat):(Xo c n).find? (ga c)=if fN (λi=>wB c i&&ga c (mF c i)) (List.range n)<n then some (mF c (fN (λi=>wB c i&&ga c (mF c i)) (List.range n)))else none:=by
 unfold Xo;rw[List.find?_map,List.find?_filter];have e:(List.range n).find? (λa=>decide (wB c a=true/\(ga c ∘ mF c) a=true))=(List.range n).find? (λi=>wB c i&&ga c (mF c i)):=by
  congr 1;funext i;simp
 rw[e];rcases Xk (λi=>wB c i&&ga c (mF c i)) (List.range n)with ⟨h1,h2⟩|⟨h1,h2⟩
 ·rw[gq]at h1;rw[h2,bJ (by omega)];rfl
 ·rw[gq]at h1;rw[h2,bu h1,pR];rfl
theorem auH{c:ay}(h:Pq c):OX c=some (afY c):=by
 have hg:=h.p.R.D7;have hw:=afW c;have iP:=h.pl;have Eg:=zK h.rf;have ul:=WG 0 c.bh.aN;have v9:=h.p.bl;have hdn:=h.dl;unfold OX cX;rw[WH h.rf,av,afg h.rf,av,as3 _ _ _ h.eE h.pw,av];have ew:B5 c.box.ck.eE c.aX (GJ c)=fI c:=rfl;rw[ew];unfold afY;cases c.aX.state != 0 with
 | true=>
  rw[aq,aq];by_cases h0:fI c=0
  ·rw[h0];rfl
  ·rw[mS h0,aq,aq,zJ h.p (afj hg (by omega)),av];cases ga c ⟨fI c,0,0,0⟩<;>rfl
 | false=>
  rw[au,au];have xP:∀ (k:Nat) (hk:k<(cS 0 c.bh.aN).length),DJ (((),(),(),(),(),((cS 0 c.bh.aN).length:Int),(k:Int),()),(c,((0:Int),(0:Int),(0:Int),(0:Int),()),cS 0 c.bh.aN,(fI c,(0:Int),(0:Int),(0:Int),()),()))=some (bif ga c (jK c (cS 0 c.bh.aN)[k])then .inr (.inl (((),(-1:Int),()),(((jK c (cS 0 c.bh.aN)[k]).kind,(jK c (cS 0 c.bh.aN)[k]).aE,(jK c (cS 0 c.bh.aN)[k]).row,(jK c (cS 0 c.bh.aN)[k]).cO,()),())))else .inl (((),(),(),(),(),((cS 0 c.bh.aN).length:Int),((k+1:Nat):Int),()),(c,((0:Int),(0:Int),(0:Int),(0:Int),()),cS 0 c.bh.aN,(fI c,(0:Int),(0:Int),(0:Int),()),()))):=by
   intro k hk;obtain⟨k1,k2⟩:=aur h (dy hk);unfold DJ xC aH bI xG;dsimp only;rw[bz (by omega),aq,aK ⟨by omega,by omega⟩,aK (by omega)];simp only[bX];rw[Xl _ (by omega) (by omega),av];show ((kI c (jK c (cS 0 c.bh.aN)[k])).bind _)=_;rw[zJ h.p k2,av,cK (by omega)];cases ga c (jK c (cS 0 c.bh.aN)[k])<;>rfl
  have hfu:(Xn c).find? (ga c)=((cS 0 c.bh.aN).find? (λb=>ga c (jK c b))).map (jK c):=by
   unfold Xn;rw[List.find?_map];rfl
  unfold afX;rw[List.find?_append,hfu,auG];rcases Xk (λb=>ga c (jK c b)) (cS 0 c.bh.aN)with ⟨h1,h2⟩|⟨h1,h2⟩
  ·have e:=eG (step:=DJ) (cS 0 c.bh.aN).length (λk=>(((),(),(),(),(),((cS 0 c.bh.aN).length:Int),(k:Int),()),(c,((0:Int),(0:Int),(0:Int),(0:Int),()),cS 0 c.bh.aN,(fI c,(0:Int),(0:Int),(0:Int),()),()))) (.inr (.inl (((),(),(),(),()),(c,((0:Int),(0:Int),(0:Int),(0:Int),()),cS 0 c.bh.aN,(fI c,(0:Int),(0:Int),(0:Int),()),())))) bB (λk hk=>by
    have:=wm (p:=λb=>ga c (jK c b)) (q:=cS 0 c.bh.aN) (i:=k) (by omega) hk;rw[xP k hk,this];rfl) (by
    unfold DJ xC aH bI xG;dsimp only;rw[bK (by omega),au]) (cT (by omega))
   rw[cZ]at e
   refine(cA (λo=>Option.bind o _) e).trans ?_
   rw[av,h2];simp only[Sum.elim_inr,jf,Option.map_none,Option.none_or];obtain⟨i1,i2,i3⟩:=auF (λi=>wB c i&&ga c (mF c i)) c.pending.length;have Xq:∀ (k:Nat) (hk:k<c.pending.length),DK (((),(),(),(),c.pending,(c.pending.length:Int),(k:Int),()),(c,((0:Int),(0:Int),(0:Int),(0:Int),()),cS 0 c.bh.aN,(fI c,(0:Int),(0:Int),(0:Int),()),()))=some (bif wB c k&&ga c (mF c k)then .inr (.inl (((),(-1:Int),()),(((mF c k).kind,(mF c k).aE,(mF c k).row,(mF c k).cO,()),())))else .inl (((),(),(),(),c.pending,(c.pending.length:Int),((k+1:Nat):Int),()),(c,((0:Int),(0:Int),(0:Int),(0:Int),()),cS 0 c.bh.aN,(fI c,(0:Int),(0:Int),(0:Int),()),()))):=by
    intro k hk;obtain⟨ho,o1,o2,o3,o4⟩:=afT h hk;unfold DK aH bI xG xI;dsimp only;rw[bz (by omega),aq,aK ⟨by omega,by omega⟩,cK (by omega)];simp only[bX,afS,(Xc Eg.1 o1 o3),av,Int.toNat_zero,List.drop_zero];have ek:wB c k=(!zX c (qt c k).aE && !((c.pending.take k).any λa=>a.aE==(qt c k).aE)):=rfl;rw[ek];cases zX c (qt c k).aE with
    |true=>rfl
    | false=>
     rw[au,bu ⟨by omega,by omega,by omega⟩,WQ _ _ (by rw[lM];omega),av];cases (c.pending.take k).any λa=>a.aE==(qt c k).aE with
     |true=>rfl
     | false=>
      rw[au,Xl _ o1 o2,av];show ((kI c (mF c k)).bind _)=_;rw[zJ h.p (aus h hk),av];cases ga c (mF c k)<;>rfl
   by_cases bC:fN (λi=>wB c i&&ga c (mF c i)) (List.range c.pending.length)<c.pending.length
   ·rw[bu bC];generalize hN:fN (λi=>wB c i&&ga c (mF c i)) (List.range c.pending.length)=N at *
    have e2:=eG (step:=DK) N (λk=>(((),(),(),(),c.pending,(c.pending.length:Int),(k:Int),()),(c,((0:Int),(0:Int),(0:Int),(0:Int),()),cS 0 c.bh.aN,(fI c,(0:Int),(0:Int),(0:Int),()),()))) (.inl (((),(-1:Int),()),(((mF c N).kind,(mF c N).aE,(mF c N).row,(mF c N).cO,()),()))) bB (λk hk=>by
     rw[Xq k (by omega),i2 k hk];rfl) (by
     rw[Xq N bC,i3 bC];rfl) (cT (by omega))
    rw[cZ]at e2
    refine(cA (λo=>Option.bind o _) e2).trans ?_
    rfl
   ·rw[bJ bC];have e2:=eG (step:=DK) c.pending.length (λk=>(((),(),(),(),c.pending,(c.pending.length:Int),(k:Int),()),(c,((0:Int),(0:Int),(0:Int),(0:Int),()),cS 0 c.bh.aN,(fI c,(0:Int),(0:Int),(0:Int),()),()))) (.inr (.inl (((),(),(),(),()),(c,((0:Int),(0:Int),(0:Int),(0:Int),()),cS 0 c.bh.aN,(fI c,(0:Int),(0:Int),(0:Int),()),())))) bB (λk hk=>by
     rw[Xq k hk,i2 k (by omega)];rfl) (by
     unfold DK aH bI xG xI;dsimp only;rw[bK (by omega),au]) (cT (by omega))
    rw[cZ]at e2
    refine(cA (λo=>Option.bind o _) e2).trans ?_
    rw[av];simp only[Sum.elim_inr,jf];rw[atE h,av,auq h,av];cases decide ((LP c).2 >= 0)with
    |true=>rfl
    | false=>
     rw[au,au];show ((KE c (cS 0 c.bh.aN) (jJ c) ⟨fI c,0,0,0⟩).bind _)=_;rw[auE h,av]
  ·have e:=eG (step:=DJ) (fN (λb=>ga c (jK c b)) (cS 0 c.bh.aN)) (λk=>(((),(),(),(),(),((cS 0 c.bh.aN).length:Int),(k:Int),()),(c,((0:Int),(0:Int),(0:Int),(0:Int),()),cS 0 c.bh.aN,(fI c,(0:Int),(0:Int),(0:Int),()),()))) (.inl (((),(-1:Int),()),(((jK c (cS 0 c.bh.aN)[fN (λb=>ga c (jK c b)) (cS 0 c.bh.aN)]).kind,(jK c (cS 0 c.bh.aN)[fN (λb=>ga c (jK c b)) (cS 0 c.bh.aN)]).aE,(jK c (cS 0 c.bh.aN)[fN (λb=>ga c (jK c b)) (cS 0 c.bh.aN)]).row,(jK c (cS 0 c.bh.aN)[fN (λb=>ga c (jK c b)) (cS 0 c.bh.aN)]).cO,()),()))) bB (λk hk=>by
    have:=wm (p:=λb=>ga c (jK c b)) (q:=cS 0 c.bh.aN) (i:=k) hk (by omega);rw[xP k (by omega),this];rfl) (by
    have:=B1 (p:=λb=>ga c (jK c b)) (q:=cS 0 c.bh.aN) h1;rw[xP _ h1,this];rfl) (cT (by omega))
   rw[cZ]at e
   refine(cA (λo=>Option.bind o _) e).trans ?_
   rw[h2];rfl
theorem auI{r:dj}{x:aT}(hk:x.kind<=5):(iX r x).aX=r.aX:=by
 unfold iX;rw[mz (show ¬ x.kind=6 by omega),mz (show ¬ x.kind=8 by omega),mz (show ¬ x.kind=7 by omega),mz (show ¬ x.kind=9 by omega)];cases x.kind==1<;>cases x.kind==4<;>rfl
theorem jd.gn{c:ay}(p:jd c)(x:aT):jd (gn c x):=⟨p.dl,p.tl,p.gl,p.t,p.g,p.pd,p.u⟩
theorem Ck.gn{c:ay}(h:Ck c){x:aT}(ha:qm c.config.aD c.br x=true)(hk:x.kind<=5)(ht:c.trace.length<2000):Ck (gn c x):=by
 simp only[qm,aJ]at ha;exact⟨h.f1,h.f2,h.nw,aeS ha.1 ha.2.1 ha.2.2,afN _ h.rd,h.ar,h.sp,h.se,h.rf,((jd.of h.pa).gn x).ok,h.qu,h.sh,h.sl,h.dr,h.pw,h.ps.trans (auI hk).symm,h.si,h.s1,h.s2,h.s3,h.er,by simp[Proofs.YtcioagfjiccleaaGreat.gn];omega,h.rp⟩
theorem Ck.opn{c:ay}(h:Ck c){x:aT}(h1:0<=x.aE)(h2:x.aE<bf c.config.aD)(h3:0<=x.row)(h4:x.row<c.config.aD.rows):Ck (B9 c x):=by
 have hg:=(BY h.rk).1;have gb:=jw hg;have p:=jd.of h.pa;have LO:=p.tl;have hgl:=p.gl;have ht:x.aE.toNat<c.bx.length:=by omega
 have ha:fH c.config.aD 100000 (B4 c.config.aD c.config.gf c.array x.aE x.row):=WA hg c.config.gf (by decide) (fH.wu h.ar) h1 h2 h3 h4;have q1:∀a∈u7 c x,fe c.config.aD a=true/\a.cO=0:=λa ha=>p.pd a (List.mem_filter.1 ha).1
 have q2:(u7 c x).Pairwise (λx y=>x≠y):=p.u.filter _;have q:(∀ a∈(B9 c x).pending,fe c.config.aD a=true/\a.cO=0)/\(B9 c x).pending.Pairwise (λx y=>x≠y):=by
  show (∀a∈(bif (xK c x).2 then (oU c.config.aD.rows x.row).foldl (pP x.aE) (u7 c x)else u7 c x),fe c.config.aD a=true/\a.cO=0)/\(bif (xK c x).2 then (oU c.config.aD.rows x.row).foldl (pP x.aE) (u7 c x)else u7 c x).Pairwise (λx y=>x≠y);cases (xK c x).2 with
  |false=>exact⟨q1,q2⟩
  | true=>
   rw[aq]
   refine afH _ (λn hn=>?_) q1 q2
   have:=aeU h3 h4 n hn;exact xA hg h1 h2 this.1 this.2 (Int.le_refl 0) (by show (0:Int)<_;omega)
 have hp:jd (B9 c x):=⟨p.dl,by show ((c.bx.set x.aE.toNat (xK c x).1).length:Int)=_;rw[kM];exact p.tl,p.gl,GQ p.t (by unfold xK;rw[qp _ ht];exact at6 (p.t _ (dy ht)) _ _),p.g,q.1,q.2⟩
 exact⟨h.f1,h.f2,h.nw,h.rk,h.rd,zZ hg ha,h.sp,h.se,h.rf,hp.ok,h.qu,h.sh,h.sl,h.dr,h.pw,h.ps,h.si,h.s1,h.s2,h.s3,h.er,h.tr,h.rp⟩
theorem Ck.ref{c:ay}(h:Ck c)(hl:c.box.ck.weights.length<1073741823)(hk:aP c.config.kO 1 16=true){b:Int}(h1:0<=b)(h2:b<bf c.config.aD):Ck (QC c b):=by
 have hg:=(BY h.rk).1;have gb:=jw hg;have p:=jd.of h.pa;have Eg:=p.dl;have ha:fH c.config.aD 100000 (va c.config.aD c.config.gf c.array b c.config.aD.rows.toNat):=LJ hg c.config.gf (by decide) (fH.wu h.ar) h1 h2 _ (by omega);have hp:jd (QC c b):=⟨by show ((B8 c.bh b).aN.length:Int)=_;rw[afA];exact p.dl,by show ((c.bx.set b.toNat (xJ c.config.kO)).length:Int)=_;rw[kM];exact p.tl,by show ((c.guard.set b.toNat c.box.ck.fB).length:Int)=_;rw[kM];exact p.gl,GQ p.t (afI hk),GQ p.g (afJ hl h.f1),λa ha=>p.pd a (List.mem_filter.1 ha).1,p.u.filter _⟩
 exact⟨h.f1,h.f2,h.nw,h.rk,h.rd,zZ hg ha,h.sp,h.se,aue h.rf (by omega),hp.ok,h.qu,h.sh,h.sl,h.dr,h.pw,h.ps,h.si,h.s1,h.s2,h.s3,h.er,h.tr,h.rp⟩
theorem Xr{T:Type}{p:T->Prop}{l:af T}{x:T}(h:∀ y∈l,p y)(hx:p x):∀ k:Nat,∀ y∈(List.range k).foldl (λd b=>d.set b x) l,p y
 |0=>h
 | k+1=>by
  rw[Ca];exact GQ (Xr h hx k) hx
theorem afZ{r:eo}(h:gP r=true):∀ k:Nat,gP ⟨(List.range k).foldl (λd b=>d.set b 0) r.aN,r.wait,r.gL⟩=true
 |0=>h
 | k+1=>by
  rw[Ca];exact afR (afZ h k) k (by omega)
theorem Ck.WW{c:ay}(h:Ck c)(hl:c.box.ck.weights.length<1073741823)(hk:aP c.config.kO 1 16=true)(n:Nat)(hn:(n:Int)<=bf c.config.aD):Ck (ku c n []):=by
 have hg:=(BY h.rk).1;have p:=jd.of h.pa;have ha:=Qr hg c.config.gf (by decide) (fH.wu h.ar) n hn;have hp:jd (ku c n []):=⟨by show (((List.range n).foldl (λd b=>d.set b 0) c.bh.aN).length:Int)=_;rw[zN];exact p.dl,by show (((List.range n).foldl (λd b=>d.set b (xJ c.config.kO)) c.bx).length:Int)=_;rw[zN];exact p.tl,by show (((List.range n).foldl (λd b=>d.set b c.box.ck.fB) c.guard).length:Int)=_;rw[zN];exact p.gl,Xr p.t (afI hk) n,Xr p.g (afJ hl h.f1) n,λa ha=>(by cases ha),List.Pairwise.nil⟩
 exact⟨h.f1,h.f2,h.nw,h.rk,h.rd,zZ hg ha,h.sp,h.se,afZ h.rf n,hp.ok,h.qu,h.sh,h.sl,h.dr,h.pw,h.ps,h.si,h.s1,h.s2,h.s3,h.er,h.tr,h.rp⟩
theorem Ck.acc{c:ay}(h:Ck c){i:Nat}(hs:sK c i 100000)(hr:c.bR.length<400):Ck (zV c i):=by
 have hg:=(BY h.rk).1;have p:=jd.of h.pa;have hi:=hs.i;obtain⟨f1,f3,f4,f5,f6,f7,f8⟩:=hs.facts (dy hi);have hq:c.queue.getD i zS=c.queue[i]:=qp _ hi;have hd:=hs.d _ (dy hi);have auJ:=hs.shl;have Fw:lT (zU c.shares c.queue[i].bM)=true/\((zU c.shares c.queue[i].bM).length:Int)=4:=by
  obtain⟨y,t,e,hl,ho⟩:=auc ((List.replicate 4 false).set c.queue[i].bM.toNat true) (by omega) h.sh (by simp[auJ]);unfold zU;rw[e];exact⟨ho,by show (y.length:Int)=4;omega⟩
 have hqu:jI (fE (gK c.config.aD c.spare)) (c.queue.take i++c.queue.drop (i+1))=true:=((Qk.of h.qu).sub (afO _ _)).ok;have key:∀ (a:dK) (e:af cy) (x:eN),fH c.config.aD 100000 a->qk e=true->Ck (sJ c i a e x):=λa e x ha he=>
  ⟨h.f1,h.f2,h.nw,h.rk,h.rd,zZ hg ha,h.sp,h.se,h.rf,(show jd (sJ c i a e x)from ⟨p.dl,p.tl,p.gl,p.t,p.g,p.pd,p.u⟩).ok,hqu,by unfold sJ;rw[hq];exact Fw.1,by unfold sJ;rw[hq];exact Fw.2,h.dr,h.pw,h.ps,h.si,h.s1,h.s2,h.s3,he,h.tr,by simp[sJ];omega⟩
 unfold zV;rw[hq];dsimp only;cases c.queue[i].write with
 |true=>exact key _ _ _ (hs.a.D4 _ (c:=⟨_,false⟩) (W2 hd.1 hd.2).2.1) h.er
 | false=>
  have rz:=hs.a.syms _ (dy f4);rw[au,qp _ f4];refine key _ _ _ (hs.a.D4 _ (WZ rz)) ?_;have hec:=W8 rz;by_cases e:n5 c.array.cells[kK c.config.aD (iJ c c.queue[i].line)]=0
  ·rw[e];exact h.er
  ·rw[mS e,aq];exact afP h.er ⟨by omega,f5⟩ (by omega)
theorem Ck.QI{c:ay}(h:Ck c){x:aT}(ha:qm c.config.aD c.br x=true)(hk:6<=x.kind/\x.kind<=9)(ht:c.trace.length<2000):Ck (Ef (Proofs.YtcioagfjiccleaaGreat.gn c x) x.kind):=by
 simp only[qm,aJ]at ha;have hn:=bO.1 h.nw;obtain⟨e1,e2,e3⟩:=auf (r:=c.br) (p:=c.aX) (x:=x) h.pw h.ps h.si hn.2 hk ha.2.2;have p:=jd.of h.pa;exact⟨h.f1,h.f2,h.nw,aeS ha.1 ha.2.1 ha.2.2,afN _ h.rd,h.ar,h.sp,h.se,h.rf,(show jd (Ef (Proofs.YtcioagfjiccleaaGreat.gn c x) x.kind)from ⟨p.dl,p.tl,p.gl,p.t,p.g,p.pd,p.u⟩).ok,h.qu,h.sh,h.sl,h.dr,e1,e2,e3,h.s1,h.s2,h.s3,h.er,by simp[Ef,afy,Proofs.YtcioagfjiccleaaGreat.gn];omega,h.rp⟩
theorem Ck.iss{c:ay}(hz:dS c)(h:Ck c){x:aT}{i:Int}(hm:Cd c x i=true):Ck (zW c x i):=by
 have hq:=Pq.of hz h.ok;have hw:c.box.ck.weights.length<1073741823:=by
  have:=hz.1.1;unfold Lt at this;omega
 have htk:aP c.config.kO 1 16=true:=by
  have:=(GL hw h.f1).1;simp only[tS,aJ]at this;exact this.2.2.2.2.2.1
 obtain⟨hb,ha,hs,hr⟩:=afF hz hq hm;have oV:c.trace.length<2000:=by
  simp only[Cd,aJ,hD,oW]at hm;omega
 have hrp:x.kind=2\/x.kind=3->c.bR.length<400:=λhk=>by
  simp only[Cd,aJ]at hm;have e:(x.kind==2 ||x.kind==3)=true:=by rcases hk with q|q<;>rw[q]<;>rfl
  have hm:=hm.2.2.2;rw[e,aq]at hm;simp only[QE,aJ,iB]at hm;omega
 obtain⟨hg,hlen,hk,l6⟩:=Lr ha;have hc:gx c.config.aD x=true:=by
  simp only[qm,aJ]at ha;exact ha.2.1
 have LO:=(jd.of h.pa).tl;have fk:=hq.p.bl;unfold zW;rcases kinds hk with q|q|q|q|q|q|q|q|q<;>rw[q]<;>simp only[Int.reduceBEq,Int.reduceBNe,aq,au,Bool.or_true,Bool.or_false,Bool.true_or,Bool.false_or,Bool.or_self]
 ·obtain⟨l9,nI⟩:=l6 (by omega);obtain⟨r0,r1⟩:=Xa hc q;exact(h.gn ha (by omega) oV).opn l9 (by show x.aE<bf c.config.aD;omega) r0 r1
 ·exact(h.gn ha (by omega) oV).acc ((hs (.inl q)).1.gn x) (hrp (.inl q))
 ·exact(h.gn ha (by omega) oV).acc ((hs (.inr q)).1.gn x) (hrp (.inr q))
 ·exact h.gn ha (by omega) oV
 ·obtain⟨l9,nI⟩:=l6 (by omega);exact(h.gn ha (by omega) oV).ref hw htk l9 (by show x.aE<bf c.config.aD;omega)
 ·have:=h.QI ha (by omega) oV;rw[q]at this;exact this
 ·have:=h.QI ha (by omega) oV;rw[q]at this;exact this
 ·have:=h.QI ha (by omega) oV;rw[q]at this;exact this
 ·have:=h.QI ha (by omega) oV;rw[q]at this;exact this.WW hw htk _ (by show (c.bx.length:Int)<=bf c.config.aD;omega)
def Nx(c y:ay):Prop:=y.now=c.now/\y.config=c.config/\y.queue.Sublist c.queue/\(∀r∈y.bR,r∈c.bR\/∃q∈c.queue,r.id=q.id)/\(y.trace=c.trace\/∃x,y.trace=c.trace++[⟨c.now,x⟩])
theorem Nx.refl(c:ay):Nx c c:=⟨rfl,rfl,List.Sublist.refl _,λr hr=>.inl hr,.inl rfl⟩
theorem af0{c:ay}(x:aT){i:Nat}(hi:i<c.queue.length):Nx c (zV (gn c x) i):=by
 have key:∀ (a:dK) (e:af cy) (t:eN),t.id=c.queue[i].id->Nx c (sJ (gn c x) i a e t):=λa e t ht=>by
  refine⟨rfl,rfl,afO _ _,λr hr=>?_,.inr ⟨x,rfl⟩⟩
  rcases List.mem_append.1 hr with hr|hr
  ·exact .inl hr
  ·rw[List.mem_singleton.1 hr];exact .inr ⟨_,dy hi,ht⟩
 have hq:(gn c x).queue.getD i zS=c.queue[i]:=qp _ hi;unfold zV;rw[hq];dsimp only;cases c.queue[i].write with
 |true=>exact key _ _ _ rfl
 |false=>exact key _ _ _ rfl
theorem auK{c:ay}{x:aT}{i:Int}(hk:1<=x.kind/\x.kind<=9)(hs:x.kind=2\/x.kind=3->i.toNat<c.queue.length):Nx c (zW c x i):=by
 have tA:∀y:ay,y.now=c.now->y.config=c.config->y.queue=c.queue->y.bR=c.bR->y.trace=c.trace++[⟨c.now,x⟩]->Nx c y:=λy h1 h2 h3 h4 h5=>⟨h1,h2,by rw[h3];exact List.Sublist.refl _,λr hr=>by rw[h4]at hr;exact .inl hr,.inr ⟨x,h5⟩⟩
 unfold zW;rcases kinds hk with q|q|q|q|q|q|q|q|q<;>rw[q]<;>simp only[Int.reduceBEq,Int.reduceBNe,aq,au,Bool.or_true,Bool.or_false,Bool.true_or,Bool.false_or,Bool.or_self]
 ·exact tA _ rfl rfl rfl rfl rfl
 ·exact af0 x (hs (.inl q))
 ·exact af0 x (hs (.inr q))
 ·exact tA _ rfl rfl rfl rfl rfl
 ·exact tA _ rfl rfl rfl rfl rfl
 ·exact tA _ rfl rfl rfl rfl rfl
 ·exact tA _ rfl rfl rfl rfl rfl
 ·exact tA _ rfl rfl rfl rfl rfl
 ·exact tA _ rfl rfl rfl rfl rfl
theorem auL{c:ay}(hz:dS c)(x:aT)(i:Int):∃ y b,sy c x i=some (y,b)/\dS y/\(ff c=true->ff y=true)/\Nx c y:=by
 cases hk:ff c with
 | false=>
  refine⟨c,false,?_,hz,λh=>(by cases h),Nx.refl c⟩
  unfold sy xI;rw[GG c hz,av,D5 c hz,av,hk];rfl
 | true=>
  have h:=Pq.of hz hk;rw[at3 hz h];cases hm:Cd c x i with
  |false=>exact⟨c,false,rfl,hz,λ_=>hk,Nx.refl c⟩
  | true=>
   obtain⟨hb,ha,hs,hr⟩:=afF hz h hm
   refine⟨zW c x i,true,?_,atW hz hb hr ha hs,λ_=>(Ck.iss hz (Ck.of hk) hm).ok,auK (Lr ha).2.2.1 λq=>(hs q).1.i⟩
   rw[aq,atM hb ha hs];rfl
theorem auM{c:ay}(hz:dS c):∃ y,uT c=some y:=by
 unfold uT;rw[D5 c hz,av];cases hk:ff c with
 |false=>exact⟨_,rfl⟩
 | true=>
  have h:=Pq.of hz hk;rw[cm,au,auH h];cases decide ((c.trace.length:Int) >= 2000)with
  |true=>exact⟨_,rfl⟩
  |false=>exact⟨_,rfl⟩
def El(d:Int):Int:=if (5:Int)<W6 (d+1)then 5 else W6 (d+1)
theorem auN{r:eo}(h:gP r=true)(n:Int):∃ y,Oy r n=some y/\gP y=true/\y.aN.length=r.aN.length:=by
 have hl:=zK h;have hd:=WS h;have hw:1<=r.wait/\r.wait<=10000:=by
  simp only[gP,aJ,bO]at h;exact h.2.2
 have mk:∀ (l:af Int) (w:Int) (b:Bool),l.length=r.aN.length->(∀ x∈l,-2<=x/\x<=5)->1<=w/\w<=10000->gP ⟨l,w,b⟩=true:=λl w b h1 h2 h3=>by
  simp only[gP,aJ,c9,DX,bO];exact⟨h2,by omega,h3⟩
 unfold Oy zn cC;rw[gk (by simp;omega),aq,List.nil_append,av,Gv _ (by omega),av,h,cm,au,dw,av];cases hn:aP n 2 10000 with
 |false=>exact⟨r,rfl,h,rfl⟩
 |true=>
 have hb:=bO.1 hn;rw[cm,au];dsimp only;rw[bD (n:=r.wait-1) (by omega) (by omega)];by_cases hc:r.wait-1 > 0
 ·rw[bz hc,aq];exact⟨_,rfl,mk _ _ _ rfl hd (by omega),rfl⟩
 ·rw[bK hc,au];have e:=eG (step:=J7) r.aN.length (λi=>((n,(),(),(),(r.aN.length:Int),(i:Int),()),((r.aN,r.wait,r.gL,()),((),(0:Int),false,()),((),r.wait-1,r.gL,()),([]:af Int),upto El r.aN i,()))) (.inl ((n,(),(),(),()),((r.aN,r.wait,r.gL,()),((),(0:Int),false,()),((),r.wait-1,r.gL,()),([]:af Int),r.aN.map El,()))) bB (λi hi=>by
   have hlen:=PN El r.aN i;unfold J7 xC aH xG;dsimp only;rw[bz (by omega),aq,aK ⟨by omega,by omega⟩,aK (by omega),aK ⟨by omega,by omega⟩,aK (by omega),cK (by omega)];simp only[bX];rw[VR El r.aN i hi,<-VS El r.aN i hi];rfl) (by
   unfold J7 xC aH xG;dsimp only;rw[bK (by omega),au,VQ]) (cT (by omega))
  rw[cZ,VP]at e;have ht:∀ x∈r.aN.map El,-2<=x/\x<=5:=λx hx=>by
   obtain⟨d,hdm,rfl⟩:=List.mem_map.1 hx;have:=hd d hdm;unfold El;rw[bD (n:=d+1) (by omega) (by omega)];split<;>omega
  have tD:W6 (n.tdiv 2)=n / 2:=by rw[vf (by omega)];exact bD (by omega) (by omega)
  refine(cA (λo=>∃y,Option.bind o _=some y/\gP y=true/\y.aN.length=r.aN.length) e).mpr ?_
  rw[av];simp only[jf];cases r.gL with
  |true=>exact⟨_,rfl,mk _ _ _ (by simp) ht (by omega),by simp⟩
  |false=>exact⟨_,rfl,mk _ _ _ (by simp) ht (by omega),by simp⟩
theorem auO{g:aR}{a:dK}(h:pM g a=true):∃ y,J9 g a 1=some y/\pM g y=true:=by
 have hg:cY g=true:=(ae3 h).1;have ha:=fH.wu h
 refine⟨_,asi hg ha (by decide) (by decide) (by decide),zZ hg ⟨ha.cells,ha.syms,by rw[eV];exact ha.bU,ha.bL,λx hx=>?_,ha.nW⟩⟩
 obtain⟨y,hy,rfl⟩:=List.mem_map.1 hx;exact aev (ha.Gs y hy) (by decide)
theorem auP(q:af bk)(w:Bool)(hl:q.length<1073741824):∃ n,FZ q w=some n:=by
 unfold FZ cC;have e:=eG (step:=Ka) q.length (λi=>((w,(((q.take i).countP λr=>r.write==w:Nat):Int),q,(q.length:Int),(i:Int),()),())) (.inl (((((q.take q.length).countP λr=>r.write==w:Nat):Int),()),())) bB (λk hk=>by
  have hc:=List.countP_le_length (p:=λr:bk=>r.write==w) (l:=q.take k);rw[lM]at hc;unfold Ka aH xG xI;dsimp only;rw[bz (by omega),aq,aK ⟨by omega,by omega⟩,cK (by omega)];simp only[bX];rw[DS hk,List.countP_append,List.countP_singleton];cases q[k].write==w with
  |true=>rw[aq,cK (by omega)];rfl
  |false=>rw[au,cK (by omega)];rfl) (by
  unfold Ka aH xG xI;dsimp only;rw[bK (by omega),au]) (cT (by omega))
 rw[cZ]at e;exact⟨_,(cA (λo=>Option.bind o _) e).trans rfl⟩
theorem auQ{d:mJ}(h:rq d=true)(n:Int):∃ y,FY d n=some y/\rq y=true:=by
 unfold FY;rw[PX,av,h,cm,au];cases decide (n >= d.high)with
 |true=>exact⟨_,rfl,h⟩
 | false=>
  cases decide (n<=d.low)with
  |true=>exact⟨_,rfl,h⟩
  |false=>exact⟨_,rfl,h⟩
theorem auR{p:jh}(h:nY p=true)(w:Bool):∃ y,F0 p w=some y/\nY y=true/\y.state=p.state/\y.since=p.since:=by
 unfold F0;rw[PZ,av,h,cm,au];simp only[nY,aJ,bO]at h;cases w with
 |true=>exact⟨_,rfl,by simp only[nY,aJ,bO];omega,rfl,rfl⟩
 | false=>
  refine⟨_,rfl,?_,rfl,rfl⟩;rw[bD (n:=p.idle+1) (by omega) (by omega)];simp only[nY,aJ,bO];split<;>omega
theorem auS(b:kX)(h:Lv b)(x:Bool):∃ t,F2 b x=some (bif t then ⟨b.next,b.next,false⟩else b,t):=by
 have hn:b.next.weights.length<=1048576:=h.2
 unfold F2;rw[Wv b h,av];cases x with
 |false=>exact⟨false,rfl⟩
 | true=>
  cases b.waits with
  |false=>exact⟨false,rfl⟩
  | true=>
   refine⟨true,?_⟩;unfold uO;rw[pO _ (by omega)];rfl
theorem auT{c:gu}{p:eM}(hl:p.weights.length<1073741823)(h:ru c p=true):∃ l t,zg p.weights=some (l,t)/\lT l=true/\(l.length:Int)=4/\rq ⟨false,p.low,p.high⟩=true:=by
 obtain⟨_,f2⟩:=GL hl h;simp only[tT,aJ,iC]at f2;obtain⟨f3,f4,f5,f6,f7,f8,f9⟩:=f2;refine⟨p.weights.map nX,true,?_,f8,by rw[eV];exact f7,f6⟩;rw[V4 _ hl];unfold DW;rw[f8];rfl
theorem auU{s:rJ}{n:Int}(h1:aP s.every 1 100000=true)(h2:aP s.wait 1 s.every=true)(h3:aP s.next 0 (W6 (n-1))=true)(hn:1<=n/\n<=1000000):∃ y m,zo s n=some (y,m)/\aP y.every 1 100000=true/\aP y.wait 1 y.every=true/\aP y.next 0 (W6 (n-1))=true/\m<n:=by
 have b1:=bO.1 h1;have b2:=bO.1 h2;have hw:W6 (n-1)=n-1:=bD (by omega) (by omega);have b3:=bO.1 h3;rw[hw]at b3;unfold zo;rw[dw,av,h1,cm,au,dw,av,h2,cm,au,bK (by omega),au,dw,av,h3,cm,au,bD (n:=s.wait-1) (by omega) (by omega)];by_cases hc:s.wait-1 > 0
 ·rw[bz hc,aq];exact⟨_,_,rfl,h1,bO.2 ⟨by dsimp only;omega,by dsimp only;omega⟩,h3,by omega⟩
 ·rw[bK hc,au,bJ (by omega),bD (n:=s.next+1) (by omega) (by omega)];refine⟨_,_,rfl,h1,bO.2 ⟨b1.1,Int.le_refl _⟩,?_,by omega⟩;rw[hw,uc (by omega)];have e1:=Int.emod_nonneg (s.next+1) (show n≠0 by omega);have e2:=Int.emod_lt_of_pos (s.next+1) (show 0<n by omega);exact bO.2 ⟨e1,by dsimp only;omega⟩
def Kp(o:aj ay):Prop:=∃y,o=some y/\dS y/\ff y=true
def Kn(s:ay)(o:aj ay):Prop:=∃y,o=some y/\dS y/\ff y=true/\Nx s y
def Xs(c y:ay):Prop:=y.now=c.now+1/\y.config=c.config/\y.queue.Sublist c.queue/\(∀r∈y.bR,r∈c.bR\/∃q∈c.queue,r.id=q.id)/\(y.trace=c.trace\/∃x,y.trace=c.trace++[⟨c.now+1,x⟩])
def wC(c:ay)(b:kX)(a:dK)(r:eo)(s:af cI)(d:mJ)(p:jh)(u:rJ):ay:=⟨c.config,b,W6 (c.now+1),c.br,c.ready,a,c.spare,r,c.bx,c.guard,c.pending,c.queue,s,d,p,u,c.errors,c.trace,c.bR⟩
def QJ(x:ay):aj ay:=(uT x).bind λfX=>bif (fX.1.kind != (0:Int))then (sy x fX.1 fX.2).bind λcM=>some cM.1 else some x
def QK(x:ay)(n:Int):aj ay:=bif (decide (n >= (0:Int)))then (zz x n).bind λez=>(zq ez.2.1 n ez.1.2).bind λgw=>QJ gw.2.1 else QJ x
def stepT(c:ay)(r:eo)(a:dK):aj ay:=(FZ c.queue true).bind λy5=>(FY c.drain y5).bind λy6=>(Bw (wC c c.box a r c.shares y6 c.aX c.cB)).bind λy7=>(F0 c.aX y7).bind λy8=>(F2 c.box ((c.queue.length:Int)==(0:Int))).bind λy9=>bif y9.2 then (zg y9.1.ck.weights).bind λgX=>(rj c.config.aD).bind λfM=>(zo c.cB fM).bind λfW=>QK (wC c y9.1 a r gX.1 ⟨false,y9.1.ck.low,y9.1.ck.high⟩ y8 fW.1) fW.2 else (rj c.config.aD).bind λfM=>(zo c.cB fM).bind λfW=>QK (wC c y9.1 a r c.shares y6 y8 fW.1) fW.2
theorem Xt{x:ay}(hz:dS x)(h:ff x=true):Kn x (QJ x):=by
 obtain⟨y,e⟩:=auM hz;obtain⟨z,b,e2,xb,h2,h3⟩:=auL hz y.1 y.2;unfold QJ;rw[e,av];cases y.1.kind != (0:Int)with
 |false=>exact⟨x,rfl,hz,h,Nx.refl x⟩
 | true=>
  rw[aq,e2,av];exact⟨z,rfl,xb,h2 h,h3⟩
theorem af1{x:ay}(hz:dS x)(h:ff x=true){n:Int}(hn:n<fE x.config.aD):Kn x (QK x n):=by
 unfold QK;by_cases h0:n >= 0
 ·have hc:=Ck.of h;have ha:=fH.wu hc.ar;have hg:=(BY hc.rk).1;have hl:=ha.cells;have hb:=qj x.config.aD;obtain⟨j,rfl⟩:=iM h0;have hj:j<x.array.cells.length:=by omega
  have hs:=ha.syms _ (dy hj);have hec:=W8 hs;have QL:fH x.config.aD 100000 ⟨x.array.cells.set j (vb x.array.cells[j]),x.array.bU,x.array.bL⟩:=ha.D4 _ (WZ hs);have p:=jd.of hc.pa;have kf:=(Ek.of hc.er).l;rw[bz h0,aq,afs hj hs,av];dsimp only;rw[afw (c:=xM x j (vb x.array.cells[j])) hc.er ⟨by omega,by omega⟩ hec,av];dsimp only;obtain⟨z1,z2,z3,z5,z6,z7,z8,z9,bF,fm,gI,iH,fy,jq⟩:=hz;have Jn:dS (xM x j (vb x.array.cells[j])):=⟨z1,z2,z3,xO QL,z6,z7,z8,z9,bF,fm,gI,iH,fy,jq⟩
  have AZ:Ck (xM x j (vb x.array.cells[j])):=⟨hc.f1,hc.f2,hc.nw,hc.rk,hc.rd,zZ hg QL,hc.sp,hc.se,hc.rf,(show jd (xM x j (vb x.array.cells[j]))from ⟨p.dl,p.tl,p.gl,p.t,p.g,p.pd,p.u⟩).ok,hc.qu,hc.sh,hc.sl,hc.dr,hc.pw,hc.ps,hc.si,hc.s1,hc.s2,hc.s3,hc.er,hc.tr,hc.rp⟩
  unfold QB;by_cases e:n5 x.array.cells[j]=0
  ·rw[e];exact Xt Jn AZ.ok
  ·rw[mS e,aq];have he:=afP (l:=x.errors) hc.er (n:=(j:Int)) ⟨by omega,by omega⟩ (code:=n5 x.array.cells[j]) (by omega);have hle:=afC (l:=x.errors) (j:Int) (n5 x.array.cells[j]);exact Xt (x:=QA (xM x j (vb x.array.cells[j])) (wq x.errors (j:Int) (n5 x.array.cells[j]))) ⟨z1,z2,z3,xO QL,z6,z7,z8,z9,bF,fm,gI,by show (wq x.errors (j:Int) (n5 x.array.cells[j])).length<=_;omega,fy,jq⟩ (Ck.ok ⟨hc.f1,hc.f2,hc.nw,hc.rk,hc.rd,zZ hg QL,hc.sp,hc.se,hc.rf,(show jd (QA (xM x j (vb x.array.cells[j])) (wq x.errors (j:Int) (n5 x.array.cells[j])))from ⟨p.dl,p.tl,p.gl,p.t,p.g,p.pd,p.u⟩).ok,hc.qu,hc.sh,hc.sl,hc.dr,hc.pw,hc.ps,hc.si,hc.s1,hc.s2,hc.s3,he,hc.tr,hc.rp⟩)
 ·rw[bK h0,au];exact Xt hz h
theorem af2{c:ay}(hz:dS c)(h:Ck c)(hn:c.now≠1000000){r:eo}{a:dK}(hr:gP r=true)(wQ:r.aN.length=c.bh.aN.length)(ha:pM c.config.aD a=true):∃ y,stepT c r a=some y/\dS y/\ff y=true/\Xs c y:=by
 obtain⟨z1,z2,z3,z5,z6,z7,z8,z9,bF,fm,gI,iH,fy,jq⟩:=hz;have p:=jd.of h.pa;have hg:=(BY h.rk).1;have hnw:=bO.1 h.nw;have hb:=qj c.config.aD;have hLp:1<=fE c.config.aD:=by
  have:=bO.1 h.s3;rw[bD (n:=fE c.config.aD-1) (by omega) (by omega)]at this;omega
 have w1:c.box.ck.weights.length<=1048576:=z1.1;have w2:c.box.next.weights.length<=1048576:=z1.2
 obtain⟨n,e1⟩:=auP c.queue true (by omega);obtain⟨d,e2,hd⟩:=auQ h.dr n;have e3:Bw (wC c c.box a r c.shares d c.aX c.cB)=some (GJ (wC c c.box a r c.shares d c.aX c.cB)):=afg (c:=wC c c.box a r c.shares d c.aX c.cB) hr;obtain⟨pw,e4,UU,C7,hp3⟩:=auR h.pw (GJ (wC c c.box a r c.shares d c.aX c.cB));obtain⟨t,e5⟩:=auS c.box z1 ((c.queue.length:Int)==(0:Int));obtain⟨u,m,e6,EU,qO,hu3,hm⟩:=auU h.s1 h.s2 h.s3 ⟨hLp,by omega⟩;have QM:W6 (c.now+1)=c.now+1:=bD (by omega) (by omega);have key:∀ (b:kX) (s:af cI) (d:mJ),Lv b->ru c.config b.ck=true->ru c.config b.next=true->lT s=true->(s.length:Int)=4->rq d=true->dS (wC c b a r s d pw u)/\ff (wC c b a r s d pw u)=true:=λb s d nI fT hb3 sV Xu hd=>by
  refine⟨⟨nI,z2,z3,xO (fH.wu ha),z6,by have:=z7;unfold BZ at this ⊢;show r.aN.length<=_;omega,z8,z9,bF,fm,by show s.length<=_;omega,iH,fy,jq⟩,Ck.ok ⟨fT,hb3,?_,h.rk,h.rd,ha,h.sp,h.se,hr,(show jd (wC c b a r s d pw u)from ⟨by show (r.aN.length:Int)=_;rw[wQ];exact p.dl,p.tl,p.gl,p.t,p.g,p.pd,p.u⟩).ok,h.qu,sV,Xu,hd,UU,C7.trans h.ps,?_,EU,qO,hu3,h.er,h.tr,h.rp⟩⟩
  ·show aP (W6 (c.now+1)) 0 1000000=true;rw[QM];exact bO.2 ⟨by omega,by omega⟩
  ·show pw.since<=W6 (c.now+1);have:=h.si;rw[QM,hp3];omega
 have CO:∀ (b:kX) (s:af cI) (d:mJ) (o:aj ay),Kn (wC c b a r s d pw u) o->∃ y,o=some y/\dS y/\ff y=true/\Xs c y:=λb s d o ho=>by
  obtain⟨y,f1,f2,f3,f4,f5,f6,f7,f8⟩:=ho;refine⟨y,f1,f2,f3,f4.trans QM,f5,f6,f7,?_⟩;rcases f8 with f8|⟨x,f8⟩
  ·exact .inl f8
  ·refine .inr ⟨x,f8.trans ?_⟩;show c.trace++[⟨W6 (c.now+1),x⟩]=_;rw[QM]
 unfold stepT;rw[e1,av,e2,av,e3,av,e4,av,e5,av];dsimp only;cases t with
 | false=>
  rw[au,au,BS,av,e6,av];obtain⟨k1,k2⟩:=key c.box c.shares d z1 h.f1 h.f2 h.sh h.sl hd;exact CO _ _ _ _ (af1 k1 k2 hm)
 | true=>
  obtain⟨l,t2,e7,o9,gF,Qy⟩:=auT (p:=c.box.next) (by omega) h.f2;rw[aq,aq];dsimp only;rw[e7,av,BS,av,e6,av];obtain⟨k1,k2⟩:=key ⟨c.box.next,c.box.next,false⟩ l ⟨false,c.box.next.low,c.box.next.high⟩ ⟨z1.2,z1.2⟩ h.f2 h.f2 o9 gF Qy;exact CO _ _ _ _ (af1 k1 k2 hm)
theorem auV{c:ay}(hz:dS c)(hk:ff c=true):∃ y,KU c=some y/\dS y/\ff y=true/\(c.now≠1000000->Xs c y)/\(c.now=1000000->y=c):=by
 have h:=Ck.of hk;unfold KU;rw[GG c hz,av,D5 c hz,av,hk,cm,au];by_cases hn:c.now=1000000
 ·rw[hn];exact⟨c,rfl,hz,hk,λh=>absurd rfl h,λ_=>rfl⟩
 ·rw[mz hn,au];cases c.br.aX != (2:Int)with
  | true=>
   obtain⟨r,e1,hr,wQ⟩:=auN h.rf c.config.interval;obtain⟨a,e2,ha⟩:=auO h.ar;rw[aq,e1,av,e2,av];obtain⟨y,y1,y2,y3,y4⟩:=af2 hz h hn hr wQ ha;exact⟨y,y1,y2,y3,λ_=>y4,λe=>absurd e hn⟩
  | false=>
   rw[au];obtain⟨y,y1,y2,y3,y4⟩:=af2 hz h hn h.rf rfl h.ar;exact⟨y,y1,y2,y3,λ_=>y4,λe=>absurd e hn⟩
theorem auW{c:ay}(hz:dS c)(hk:ff c=true):Kp (KU c):=by
 obtain⟨y,y1,y2,y3,_⟩:=auV hz hk;exact⟨y,y1,y2,y3⟩
def QN(R:Nat)(M:Int)(m:af Int)(b j:Nat):Prop:=m.getD (b*R+j) 0=(j:Int)\/((R:Int)<=m.getD (b*R+j) 0/\m.getD (b*R+j) 0<=M/\∀k,k<j->m.getD (b*R+k) 0≠m.getD (b*R+j) 0)
theorem LU{m:af Int}{R b k:Nat}(hk:k<R)(hl:(b+1)*R<=m.length):(gJ m R b)[k]?=some (m.getD (b*R+k) 0):=by
 rw[je]at hl;rw[P3,List.getElem?_take_of_lt hk,List.getElem?_drop,bT (by omega),qp _ (by omega)]
theorem af3{R:Nat}{M:Int}{m:af Int}{b j:Nat}(hj:j<R)(hl:(b+1)*R<=m.length):DY (R:Int) M (gJ m R b) j=true ↔ QN R M m b j:=by
 unfold DY QN;rw[LU hj hl];simp only[eH,aJ,iC,bO,hD,mW];have key:(∀ x∈(gJ m R b).take j,¬ x=m.getD (b*R+j) 0) ↔ ∀ k,k<j->m.getD (b*R+k) 0≠m.getD (b*R+j) 0:=by
  have fk:=Gx hl;constructor
  ·intro h k hk;refine h _ ?_;rw[List.mem_iff_getElem?];exact⟨k,by rw[List.getElem?_take_of_lt hk,LU (by omega) hl]⟩
  ·intro h x hx;obtain⟨k,hk⟩:=List.mem_iff_getElem?.1 hx;have HY:k<j:=by
    have:=(dJ.1 hk).1;rw[lM]at this;omega
   rw[List.getElem?_take_of_lt HY,LU (by omega) hl]at hk;injection hk with hk;rw[<-hk];exact h k HY
 rw[key,and_assoc]
structure Sp (g:aR) (s:fF) (bn R:Nat):Prop where
 sb:pN g s.cg=true
 hb:bf g=(bn:Int)
 hR:g.rows-s.cg=(R:Int)
 hl:s.map.length=bn*R
 f:∀b,b<bn->∀j,j<R->QN R (g.rows-1) s.map b j
theorem Sp.of{g:aR}{s:fF}(h:oT g s=true):∃ bn R,Sp g s bn R:=by
 obtain⟨_,hg,_,_,h1,h2,h3,h4⟩:=Qm h;have v9:=iI g;simp only[oT,aJ,iC,c9,iA]at h;obtain⟨hs,hl,ha⟩:=h;obtain⟨R,hR⟩:=iM (show 0<=g.rows-s.cg by omega);obtain⟨bn,hn⟩:=iM v9.1;rw[hR,hn,bX,bX]at hl;have hl:s.map.length=bn*R:=by exact_mod_cast hl
 rw[hR,hn,bX,bX]at ha
 refine⟨bn,R,hs,hn,hR,hl,λb hb j hj=>?_⟩
 have hle:(b+1)*R<=s.map.length:=by rw[hl];exact kz R hb
 have fk:=Gx hle;have e:=aeJ (R:Int) (g.rows-1) (gJ s.map R b) (by rw[fk]);rw[fk]at e;have h1:(List.range R).all (uX (R:Int) (g.rows-1) (gJ s.map R b))=true:=c9.2 λj hj=>ha b hb j (iA.1 hj)
 rw[e]at h1;exact(af3 hj hle).1 (c9.1 h1 j (iA.2 hj))
theorem Sp.ok{g:aR}{s:fF}{bn R:Nat}(h:Sp g s bn R):oT g s=true:=by
 obtain⟨hs,hn,hR,hl,hf⟩:=h;simp only[oT,aJ,iC,c9,iA];rw[hR,hn,bX,bX]
 refine⟨hs,by exact_mod_cast hl,λb hb=>?_⟩
 have hle:(b+1)*R<=s.map.length:=by rw[hl];exact kz R hb
 have fk:=Gx hle;have e:=aeJ (R:Int) (g.rows-1) (gJ s.map R b) (by rw[fk]);rw[fk]at e;have h1:(List.range R).all (DY (R:Int) (g.rows-1) (gJ s.map R b))=true:=c9.2 λj hj=>(af3 (iA.1 hj) hle).2 (hf b hb j (iA.1 hj))
 rw[<-e]at h1;exact λj hj=>c9.1 h1 j (iA.2 hj)
theorem auX{R b c r j:Nat}(hr:r<R)(hj:j<R)(h:b*R+r=c*R+j):b=c/\r=j:=by
 have key:∀ {b c r j:Nat},r<R->b*R+r=c*R+j->¬ b<c:=λ{b c r j} hr h bC=>by
  have:=kz R (show b+1<=c from bC);rw[je]at this;omega
 have h1:=key (j:=j) hr h;have h2:=key (j:=r) hj h.symm;have e:b=c:=by omega
 subst e;exact⟨rfl,by omega⟩
theorem GX{m:af Int}{p:Nat}(hp:p<m.length)(i:Int)(q:Nat):(m.set p i).getD q 0=if q=p then i else m.getD q 0:=by
 rw[iz,List.getElem?_set,iz];by_cases e:q=p
 ·subst e;simp[hp]
 ·rw[bJ (λh=>e h.symm),bJ e]
theorem Sp.set{g:aR}{s:fF}{bn R:Nat}(h:Sp g s bn R){b r:Nat}(hb:b<bn)(hr:r<R){i:Int}(h1:(R:Int)<=i)(h2:i<=g.rows-1)(hn:∀ k,k<R->s.map.getD (b*R+k) 0≠i):Sp g ⟨s.cg,s.map.set (b*R+r) i⟩ bn R:=by
 have hp:b*R+r<s.map.length:=by
  have:=Gy (R:=R) hb (show r+1<=R from hr);rw[h.hl];omega
 refine⟨h.sb,h.hb,h.hR,by rw[kM];exact h.hl,λc hc j hj=>?_⟩
 have sW:=h.f c hc j hj;unfold QN at sW ⊢;dsimp only;by_cases e:c=b
 ·subst e;by_cases ej:j=r
  ·subst ej;refine .inr ?_;rw[GX hp,bu rfl]
   refine⟨h1,h2,λk hk=>?_⟩
   rw[GX hp,bJ (by omega)];exact hn k (by omega)
  ·rw[GX hp,bJ (by omega)];rcases sW with sW | ⟨o1,o2,o3⟩
   ·exact .inl sW
   ·refine .inr ⟨o1,o2,λk hk=>?_⟩
    rw[GX hp];by_cases ek:k=r
    ·rw[bu (by omega)];exact(hn j hj).symm
    ·rw[bJ (by omega)];exact o3 k hk
 ·have bg:∀ k,k<R->¬ c*R+k=b*R+r:=λk hk he=>e (auX hk hr he).1
  rw[GX hp,bJ (bg j hj)];rcases sW with sW|⟨o1,o2,o3⟩
  ·exact .inl sW
  ·refine .inr ⟨o1,o2,λk hk=>?_⟩
   rw[GX hp,bJ (bg k (by omega))];exact o3 k hk
theorem Sp.Cf{g:aR}{s:fF}{bn R:Nat}(h:Sp g s bn R):cY g=true/\cY (gK g s)=true/\gK g s=⟨g.cU,g.aI,(R:Int),g.aU⟩/\bf (gK g s)=(bn:Int)/\bn<=8/\R<=16/\2<=R/\1<=g.aU/\g.rows<=16/\0<=s.cg:=by
 obtain⟨e,hg,nG,eb,h1,h2,h3,h4⟩:=Qm h.ok;have v9:=iI g;have gb:=jw hg;have:=h.hb;have hR:=h.hR;rw[h.hR]at e;exact⟨hg,nG,e,by rw[eb];exact h.hb,by omega,by omega,by omega,by omega,h4,h1⟩
theorem Sp.bound{g:aR}{s:fF}{bn R:Nat}(h:Sp g s bn R){b r:Nat}(hb:b<bn)(hr:r<R):0<=s.map.getD (b*R+r) 0/\s.map.getD (b*R+r) 0<g.rows:=by
 have hR:=h.hR;have hs:=h.Cf.2.2.2.2.2.2.2.2.2;rcases h.f b hb r hr with e|⟨e1,e2,_⟩
 ·omega
 ·omega
theorem Xv(g:aR)(b r:Int):BE g b r=some (fe g ⟨b,r,0⟩):=by
 unfold BE;rw[DP,av]
theorem Sp.ex{g:aR}{s:fF}{bn R:Nat}(h:Sp g s bn R)(b r:Int):fe (gK g s) ⟨b,r,0⟩=true ↔ (0<=b/\b<(bn:Int))/\0<=r/\r<(R:Int):=by
 obtain⟨_,nG,e,eb,_,_,_,hc,_⟩:=h.Cf;have er:(gK g s).rows=(R:Int):=by rw[e]
 have ec:(gK g s).aU=g.aU:=by rw[e]
 constructor
 ·intro ha;obtain⟨_,a1,a2,a3,a4,_⟩:=uV ha;rw[eb]at a2;rw[er]at a4;exact⟨⟨a1,a2⟩,a3,a4⟩
 ·rintro⟨⟨a1,a2⟩,a3,a4⟩;exact xA nG a1 (by rw[eb];exact a2) a3 (by rw[er];exact a4) (Int.le_refl 0) (by rw[ec];show (0:Int)<_;omega)
theorem Sp.lens{g:aR}{s:fF}{bn R:Nat}(h:Sp g s bn R){b:Nat}(hb:b<bn):(b+1)*R<=s.map.length/\s.map.length<=128/\(gJ s.map R b).length=R/\Nat.ble (b*R) ((b+1)*R)=true/\Nat.ble ((b+1)*R) s.map.length=true:=by
 have hl:=h.hl;have h8:=h.Cf.2.2.2.2.1;have gC:=h.Cf.2.2.2.2.2.1;have hle:(b+1)*R<=s.map.length:=by rw[hl];exact kz R hb
 have hm:bn*R<=8*16:=Nat.mul_le_mul h8 gC;exact⟨hle,by omega,Gx hle,jV (by rw[je];omega),jV hle⟩
theorem auY{g:aR}{s:fF}{bn R:Nat}(h:Sp g s bn R){b:Nat}(hb:b<bn)(x:Int):Pj g s (b:Int) x=some (ko (λe=>e==x) (gJ s.map R b)):=by
 obtain⟨hle,af4,fk,n1,n2⟩:=h.lens hb;obtain⟨hg,nG,eg,eb,h8,gC,ki,hc,P5,_⟩:=h.Cf;have ht:((s.map.take ((b+1)*R)).drop (b*R))=gJ s.map R b:=rfl;unfold Pj cX;rw[DZ,av,Xv,av,(h.ex (b:Int) 0).2 ⟨⟨by omega,by omega⟩,by omega,by omega⟩,cm,au,P4 h.hR gC h8 hb h.hl,av];dsimp only;rw[n1,n2,dF,aq,ht];have e:=Gw (step:=KW) (gJ s.map R b) (λe=>e==x) (λi=>((x,gJ s.map R b,((gJ s.map R b).length:Int),(i:Int),()),())) (λi=>.inl (((i:Int),()),())) (.inr (.inl ((),()))) bB (λk hk=>by
  unfold KW aH bI xG xI;dsimp only;rw[bz (by omega),aq,aK ⟨by omega,by omega⟩];simp only[bX];rw[cK (by omega)];cases (gJ s.map R b)[k]==x<;>rfl) (by
  unfold KW aH bI xG xI;dsimp only;rw[bK (by omega),au]) (cT (by omega))
 rw[cZ]at e;rw[e];unfold ko;cases (gJ s.map R b).findIdx? (λe=>e==x)<;>rfl
theorem af5{g:aR}{s:fF}{bn R:Nat}(h:Sp g s bn R)(b r:Int):∃ y,DE g s b r=some y/\(fe (gK g s) ⟨b,r,0⟩=true->0<=y/\y<g.rows):=by
 unfold DE xI;rw[DZ,av,Xv,av];cases ha:fe (gK g s) ⟨b,r,0⟩with
 |false=>exact⟨-1,rfl,λh=>by cases h⟩
 | true=>
  obtain⟨⟨a1,a2⟩,a3,a4⟩:=(h.ex b r).1 ha;obtain⟨b,rfl⟩:=iM a1;obtain⟨r,rfl⟩:=iM a3;have hb:b<bn:=by omega
  have hr:r<R:=by omega
  obtain⟨hle,af4,fk,n1,n2⟩:=h.lens hb;obtain⟨hg,nG,eg,eb,h8,gC,ki,hc,P5,_⟩:=h.Cf;have ht:((s.map.take ((b+1)*R)).drop (b*R))=gJ s.map R b:=rfl;have WO:(gJ s.map R b)[r]'(by omega)=s.map.getD (b*R+r) 0:=by
   have:=bT (l:=gJ s.map R b) (i:=r) (by omega);rw[LU hr hle]at this;injection this with this;exact this.symm
  rw[cm,au,P4 h.hR gC h8 hb h.hl,av];dsimp only;rw[n1,n2,dF,aq,aK ⟨by omega,by rw[ht,fk,bX];exact hr⟩];simp only[bX,ht,WO];exact⟨_,rfl,λ_=>h.bound hb hr⟩
theorem auZ{g:aR}{s:fF}{bn R:Nat}(h:Sp g s bn R)(b r:Int):∃ y t,Pm g s b r=some (y,t)/\Sp g y bn R/\y.cg=s.cg/\(t=true->fe (gK g s) ⟨b,r,0⟩=true):=by
 obtain⟨hg,nG,eg,eb,h8,gC,ki,hc,P5,SY⟩:=h.Cf;have hm:s.map.length<=128:=by
  rw[h.hl];exact Nat.mul_le_mul h8 gC
 have hR:=h.hR;unfold Pm cX;rw[gk (by simp;omega),aq,List.nil_append,DZ,av,Xv,av];cases ha:fe (gK g s) ⟨b,r,0⟩with
 |false=>exact⟨s,false,rfl,h,rfl,λh=>by cases h⟩
 | true=>
  obtain⟨⟨a1,a2⟩,a3,a4⟩:=(h.ex b r).1 ha;obtain⟨b,rfl⟩:=iM a1;obtain⟨r,rfl⟩:=iM a3;have hb:b<bn:=by omega
  have hr:r<R:=by omega
  obtain⟨hle,af4,fk,n1,n2⟩:=h.lens hb;have hp:b*R+r<s.map.length:=by
   rw[je]at hle;omega
  have QO:W6 ((b:Int)*(R:Int))=((b*R:Nat):Int):=by rw[<-Int.natCast_mul];exact bD (by omega) (by omega)
  have tD:W6 (((b*R:Nat):Int)+(r:Int))=((b*R+r:Nat):Int):=by rw[<-Int.natCast_add];exact bD (by omega) (by omega)
  rw[cm,au,eg];dsimp only;obtain⟨n,hn⟩:=iM (show 0<=g.rows-(R:Int) by omega);obtain⟨z,e,hz⟩:=aee (step:=KZ) n (λk x=>x=(((b:Int),(r:Int),(),(),(),(),(),(R:Int)+(k:Int),()),((g.cU,g.aI,g.rows,g.aU,()),(s.cg,s.map,()),((0:Int),(),()),(s.cg,(),()),(g.cU,g.aI,(R:Int),g.aU,()),([]:af Int),s.map,())))
   (λz=>(∃i:Int,z = .inl (((),true,()),((s.cg,(),()),s.map.set (b*R+r) i,()))/\(R:Int)<=i/\i<=g.rows-1/\∀k,k<R->s.map.getD (b*R+k) 0≠i)\/z = .inr (.inl (((),(),()),(((0:Int),(),()),(s.cg,(),()),([]:af Int),s.map,())))) bB (x:=(((b:Int),(r:Int),(),(),(),(),(),(R:Int),()),((g.cU,g.aI,g.rows,g.aU,()),(s.cg,s.map,()),((0:Int),(),()),(s.cg,(),()),(g.cU,g.aI,(R:Int),g.aU,()),([]:af Int),s.map,()))) (by rw[cZ,Int.add_zero]) (by
   rintro k hk x rfl;unfold KZ xC aH bI xG;dsimp only;rw[tQ,bz (show (R:Int)+(k:Int)<g.rows by omega),aq];rw[show (⟨s.cg,s.map⟩:fF)=s from rfl,auY h hb,av];by_cases hf:ko (λe=>e==(R:Int)+(k:Int)) (gJ s.map R b)<0
   ·rw[bz hf,aq,QO,tD,aK ⟨by omega,by omega⟩,aK (by omega)]
    refine .inr ⟨_,rfl,.inl ⟨(R:Int)+(k:Int),?_,by omega,by omega,λj hj e=>?_⟩⟩
    ·simp only[bX]
    ·have h1:=(afn (λe=>e==(R:Int)+(k:Int)) (gJ s.map R b)).1;rw[bz hf]at h1;have h2:(gJ s.map R b).any (λe=>e==(R:Int)+(k:Int))=false:=by
      cases hq:(gJ s.map R b).any (λe=>e==(R:Int)+(k:Int))with
      |false=>rfl
      |true=>rw[hq]at h1;cases h1
     rw[mW]at h2;have uw:s.map.getD (b*R+j) 0∈gJ s.map R b:=List.mem_iff_getElem?.2 ⟨j,LU hj hle⟩;exact h2 _ uw (by rw[e];exact beq_self_eq_true _)
   ·rw[bK hf,au,bD (n:=(R:Int)+(k:Int)+1) (by omega) (by omega)];exact .inl ⟨_,rfl,by rw[Int.natCast_add,Int.natCast_one,Int.add_assoc]⟩) (by
   rintro x rfl;unfold KZ xC aH bI xG;dsimp only;rw[bK (show ¬ (R:Int)+(n:Int)<g.rows by omega),au];exact⟨_,rfl,.inr rfl⟩) (cT (by omega))
  rw[e,av];rcases hz with ⟨i,rfl,i1,i2,i3⟩|rfl
  ·exact⟨_,true,rfl,h.set hb hr i1 i2 i3,rfl,λ_=>rfl⟩
  ·exact⟨_,false,rfl,h,rfl,λh=>by cases h⟩
theorem au0{c:ay}(hz:dS c)(hk:ff c=true)(b r:Int):∃ t y,Pn c b r=some (t,(y,()))/\dS y/\ff y=true/\(t=false->y=c):=by
 have h:=Ck.of hk;obtain⟨bn,R,hs⟩:=Sp.of h.sp;obtain⟨hg,nG,eg,eb,h8,gC,ki,hc,P5,SY⟩:=hs.Cf;obtain⟨f,e1,hf⟩:=af5 hs b r;obtain⟨y,t,e2,hy,m7,ht⟩:=auZ hs b r;unfold Pn xC cC;rw[e1,av,e2,av];cases t with
 |false=>exact⟨false,c,rfl,hz,hk,λ_=>rfl⟩
 | true=>
  have ha:=ht rfl;obtain⟨⟨a1,a2⟩,a3,a4⟩:=(hs.ex b r).1 ha;have fk:=(BY h.rk).2.1;have v9:=hs.hb;have hR:=hs.hR;obtain⟨f1,f2⟩:=hf ha;have egy:gK c.config.aD y=gK c.config.aD c.spare:=by
   unfold gK;rw[hy.ok,h.sp,m7]
  obtain⟨q,e3,hq⟩:=af5 hy b r;have hq:=hq (by rw[egy];exact ha);rw[cm,au,aK ⟨a1,by omega⟩,aK (by omega)];dsimp only;cases c.br.aI[b.toNat].open_ with
  |true=>exact⟨false,c,rfl,hz,hk,λ_=>rfl⟩
  | false=>
   rw[au,e3,av];obtain⟨n,hn⟩:=iM (show 0<=c.config.aD.aU by omega);have gb:=jw hg;have Qg:∀(row:Int) (k:Nat),0<=row->row<c.config.aD.rows->k<n->fe c.config.aD ⟨b,row,(k:Int)⟩=true:=λrow k r1 r2 hk=>xA hg a1 (by rw[v9];exact a2) r1 r2 (by dsimp only;omega) (by dsimp only;omega)
   obtain⟨z,e,xb⟩:=aed (step:=Gl) n (λk x=>∃ a:dK,fH c.config.aD 100000 a/\x=(((),b,(),f,(),q,(k:Int),()),(fh c a,(c.config.aD.cU,c.config.aD.aI,c.config.aD.rows,c.config.aD.aU,()),(y.cg,(),()),y.map,())))
    (λz=>∃a:dK,fH c.config.aD 100000 a/\z = .inl (((),(),()),(fh c a,(y.cg,(),()),y.map,()))) bB (x:=(((),b,(),f,(),q,(0:Int),()),(c,(c.config.aD.cU,c.config.aD.aI,c.config.aD.rows,c.config.aD.aU,()),(y.cg,(),()),y.map,()))) ⟨c.array,fH.wu h.ar,rfl⟩ (by
    rintro k hk x ⟨a,vS,rfl⟩;have at1:=Qg q k hq.1 hq.2 hk;have at2:=Qg f k f1 f2 hk;obtain⟨i1,_⟩:=Lu at1;obtain⟨i2,_⟩:=Lu at2;have l1:=vS.lt at1;have l2:=vS.lt at2;have rz:=vS.syms _ (dy l2);have st:Gl (((),b,(),f,(),q,(k:Int),()),(fh c a,(c.config.aD.cU,c.config.aD.aI,c.config.aD.rows,c.config.aD.aU,()),(y.cg,(),()),y.map,()))=some (.inl (((),b,(),f,(),q,((k+1:Nat):Int),()),(fh c ⟨a.cells.set (kK c.config.aD ⟨b,q,(k:Int)⟩) a.cells[kK c.config.aD ⟨b,f,(k:Int)⟩],a.bU,a.bL⟩,(c.config.aD.cU,c.config.aD.aI,c.config.aD.rows,c.config.aD.aU,()),(y.cg,(),()),y.map,()))):=by
     unfold Gl xC aH xG;dsimp only;rw[tQ,bz (show (k:Int)<c.config.aD.aU by omega),aq,Gr,av,Gr,av,i1,i2];have c1:0<=(kK c.config.aD ⟨b,f,(k:Int)⟩:Int)/\(kK c.config.aD ⟨b,f,(k:Int)⟩:Int).toNat<(fh c a).array.cells.length:=⟨by omega,by simpa [fh]using l2⟩
     have c2:0<=(kK c.config.aD ⟨b,q,(k:Int)⟩:Int)/\(kK c.config.aD ⟨b,q,(k:Int)⟩)<(fh c a).array.cells.length:=⟨by omega,by simpa [fh]using l1⟩
     rw[aK c1,aK c1.2,aK c1.2];simp only[bX];rw[aeq _ (by simp only[fh];rw[rz.1];omega),av,aK c2,aK c2.2,cK (by omega)];rfl
    exact⟨_,st,_,vS.D4 _ rz,rfl⟩) (by
    rintro x ⟨a,vS,rfl⟩;unfold Gl xC aH xG;dsimp only;rw[bK (show ¬ (n:Int)<c.config.aD.aU by omega),au];exact⟨_,rfl,a,vS,rfl⟩) (cT (by omega))
   rw[e,av];obtain⟨a,vS,rfl⟩:=xb;have p:=jd.of h.pa;obtain⟨z1,z2,z3,z5,z6,z7,z8,z9,bF,fm,gI,iH,fy,jq⟩:=hz;have hml:y.map.length<=128:=by
    rw[hy.hl];exact Nat.mul_le_mul h8 gC
   refine⟨true,⟨c.config,c.box,c.now,c.br,c.ready,a,y,c.bh,c.bx,c.guard,c.pending,c.queue,c.shares,c.drain,c.aX,c.cB,c.errors,c.trace,c.bR⟩,rfl,⟨z1,z2,z3,xO vS,by show y.map.length<=1048576;omega,z7,z8,z9,bF,fm,gI,iH,fy,jq⟩,Ck.ok ⟨h.f1,h.f2,h.nw,h.rk,h.rd,zZ hg vS,hy.ok,m7.trans h.se,h.rf,(show jd ⟨c.config,c.box,c.now,c.br,c.ready,a,y,c.bh,c.bx,c.guard,c.pending,c.queue,c.shares,c.drain,c.aX,c.cB,c.errors,c.trace,c.bR⟩from ⟨p.dl,p.tl,p.gl,p.t,p.g,p.pd,p.u⟩).ok,?_,h.sh,h.sl,h.dr,h.pw,h.ps,h.si,h.s1,h.s2,h.s3,h.er,h.tr,h.rp⟩,λh=>by cases h⟩
   show jI (fE (gK c.config.aD y)) c.queue=true;rw[egy];exact h.qu
def QS:dm:=⟨List.replicate 16 (-1),List.replicate 16 0,0⟩
theorem au1:Gk 16=some (QS,true):=by kernel_rfl
theorem au2:BO 0=some (List.replicate 11 0):=by kernel_rfl
def Xw:cq:=⟨List.replicate 11 0,false⟩
def QT(g:aR):dK:=⟨List.replicate (fE g).toNat Xw,List.replicate (jc g).toNat 0,List.replicate (jc g).toNat 0⟩
theorem au3{g:aR}(hg:cY g=true):Pr g=some (QT g):=by
 have b1:=qj g;have b2:=vY g;have er:bf g*g.rows=jc g:=by simp[jc,hg]
 obtain⟨n,hn⟩:=iM b1.1;unfold Pr cC;rw[uU,av,hg,cm,au,mA,av,er,bD (n:=jc g) (by omega) (by omega),bu ⟨by omega,by omega,by omega⟩,bu ⟨by omega,by omega,by omega⟩];generalize hA:List.replicate (jc g).toNat (0:Int)=A;have e:=eG (step:=K1) n (λi=>(((),(),(),(i:Int),()),((g.cU,g.aI,g.rows,g.aU,()),((),(),(),()),((),(),(),()),([]:af cq),([]:af Int),([]:af Int),List.replicate i Xw,A,A,())))
  (.inl (((),(),()),(((),(),(),()),((),(),(),()),([]:af cq),([]:af Int),([]:af Int),List.replicate n Xw,A,A,()))) bB (λk h=>by
  unfold K1 aH xG;dsimp only;rw[tQ,BS,av,hn,bz (by omega),aq,au2,av,gk (by simp;omega),aq,cK (by omega),List.replicate_succ' (n:=k)];rfl) (by
  unfold K1 aH xG;dsimp only;rw[tQ,BS,av,hn,bK (by omega),au]) (cT (by omega))
 rw[cZ,List.replicate_zero]at e;rw[e,av];unfold QT;rw[hn,hA,bX];rfl
def kW(c:gu)(p:eM):ay:=⟨c,⟨p,p,false⟩,0,P6 c.aD,Qa c.aD,QT c.aD,(xF c.aD c.cg).1,⟨List.replicate (bf c.aD).toNat 0,c.interval,false⟩,List.replicate (bf c.aD).toNat QS,List.replicate (bf c.aD).toNat p.fB,[],[],p.weights.map nX,⟨false,p.low,p.high⟩,⟨0,0,0⟩,⟨0,10,10⟩,[],[],[]⟩
theorem GY{p:eM}(h:zG p):tT p=true/\lT (p.weights.map nX)=true/\p.weights.length=4:=by
 obtain⟨⟨⟨h1,h2⟩,⟨h3,h4⟩,⟨h5,h6⟩,⟨h7,h8⟩,⟨i,w,hi,QO,tD,hw⟩,⟨h9,fJ⟩,gT,jz⟩,gU,js⟩:=h;have hl:p.weights.length=4:=by rw[hw,kM];rfl
 have hs:lT (p.weights.map nX)=true:=by
  rw[hw];rcases(by omega:i=0\/i=1\/i=2\/i=3)with rfl|rfl|rfl|rfl<;>rcases(by omega:w=1\/w=2\/w=3\/w=4)with rfl|rfl|rfl|rfl<;>rfl
 refine⟨?_,hs,hl⟩;unfold tT rq Gu;rw[hs,hl];simp only[aP,aJ,iB,iC];refine⟨⟨h1,h2⟩,⟨h3,by omega⟩,⟨by omega,by omega⟩,⟨h5,h7,by omega⟩,rfl,trivial,⟨by omega,by omega⟩,by omega,by omega⟩
theorem au4{n:Int}(h1:8<=n)(h2:n<=17):FI n=some (2*n+2):=by
 unfold FI;rw[dw,av,bO.2 ⟨by omega,by omega⟩,cm,au,bD (n:=2*n) (by omega) (by omega),bD (by omega) (by omega)]
theorem QU{g:aR}(h:Qe g):cY g=true:=by
 obtain⟨⟨h1,h2⟩,⟨h3,h4⟩,⟨h5,h6⟩,h7,h8⟩:=h;simp only[cY,aP,aJ,iB];omega
theorem au5:∀ r∈[(1:Int),2,3,4],∀ w∈[(4:Int),5,6,7,8],oQ (Wq r w)=true/\decide (Lj (Wq r w)<=200)=true:=by
 intro r hr w hw;simp only[iL,List.not_mem_nil,or_false]at hr hw;rcases hr with rfl|rfl|rfl|rfl<;>rcases hw with rfl|rfl|rfl|rfl|rfl<;>exact⟨by kernel_rfl,by kernel_rfl⟩
theorem au6{c:gu}(h:xH c):tS c=true:=by
 obtain⟨hg,⟨r,w,Cl,Cn,QO,tD,ht⟩,⟨I6,Bd⟩,⟨sV,Xu⟩,⟨hi1,vn⟩,oV,hl⟩:=h;have hgo:=QU hg;obtain⟨t1,t2⟩:=au5 r (by simp;omega) w (by simp;omega);have t2:=of_decide_eq_true t2;obtain⟨⟨h1,h2⟩,⟨h3,h4⟩,⟨h5,h6⟩,h7,h8⟩:=hg;unfold tS pN;rw[hgo,ht,t1,hl,oV];dsimp only;rw[bD (n:=6*c.interval) (by omega) (by omega)];simp only[aP,aJ,iB,true_and];omega
theorem af6{c:gu}{p:eM}(hc:xH c)(hp:zG p):uM c p=some true:=by
 have h1:=au6 hc;obtain⟨h2,_,h3⟩:=GY hp;obtain⟨hg,⟨r,w,Cl,Cn,QO,tD,ht⟩,⟨I6,Bd⟩,⟨sV,Xu⟩,⟨hi1,vn⟩,oV,hl⟩:=hc;obtain⟨_,p1,p2⟩:=hp;have e1:c.bV.kB=7:=by rw[ht];rfl
 have e2:c.bV.rp=3:=by rw[ht];rfl
 unfold uM;rw[V3,av,h1,aq,Lk _ (by omega),av,h2,aq,au4 p1 p2,av,hl,oV,e1,e2,bD (n:=2*p.fB+2+2) (by omega) (by omega)];dsimp only;rw[bz (by omega),aq,bD (n:=7+3) (by omega) (by omega),bJ (by omega),bD (n:=5*c.interval) (by omega) (by omega),vf (by omega),bD (n:=16+1) (by omega) (by omega),bD (n:=(16+1)*p.fB) (by omega) (by omega),bD (n:=5*c.interval / (7+3)) (by omega) (by omega),bD (by omega) (by omega),bz (by omega)]
theorem au7{p:eM}(h:p.weights.length=4):uO p=some p:=by
 unfold uO;rw[gk (by simp[h]),aq,List.nil_append]
theorem au8{p:eM}(hp:zG p):Pu p=some (⟨p,p,false⟩,true):=by
 obtain⟨h2,_,h3⟩:=GY hp;unfold Pu;rw[Lk _ (by omega),av,h2,cm,au,au7 h3,av,av]
def grow(x:ay)(l:Int)(i:Nat):ay:=⟨x.config,x.box,x.now,x.br,x.ready,x.array,x.spare,x.bh,x.bx++List.replicate i QS,x.guard++List.replicate i l,x.pending,x.queue,x.shares,x.drain,x.aX,x.cB,x.errors,x.trace,x.bR⟩
theorem au9(Z cu:ay)(c:gu)(p:eM)(n:Nat)(hn:bf c.aD=(n:Int))(h8:n<=8)(oV:c.kO=16)(h1:cu.bx=[])(h2:cu.guard=[]):
  iter Gm bB (((),(),(),(),(),(0:Int),()),(Z,cu,c,(p.fS,p.cap,p.fB,p.low,p.high,p.weights,p.eE.down,p.eE.sleep,()),(c.aD.cU,c.aD.aI,c.aD.rows,c.aD.aU,()),()))=some (.inl (((),(),()),(Z,grow cu p.fB n,()))):=by
 have e:=eG (step:=Gm) n (λi=>(((),(),(),(),(),(i:Int),()),(Z,grow cu p.fB i,c,(p.fS,p.cap,p.fB,p.low,p.high,p.weights,p.eE.down,p.eE.sleep,()),(c.aD.cU,c.aD.aI,c.aD.rows,c.aD.aU,()),()))) (.inl (((),(),()),(Z,grow cu p.fB n,()))) bB (λk h=>by
  unfold Gm grow aH xG;dsimp only;rw[tQ,mA,av,hn,bz (by omega),aq,oV,au1,av,h1,h2,gk (by simp;omega),aq,gk (by simp;omega),aq,cK (by omega),List.replicate_succ' (n:=k),List.replicate_succ' (n:=k),List.append_assoc,List.append_assoc]) (by
  unfold Gm aH xG;dsimp only;rw[tQ,mA,av,hn,bK (by omega),au]) (cT (by omega))
 have e0:grow cu p.fB 0=cu:=by
  unfold grow;simp only[List.replicate_zero,List.append_nil]
 rw[cZ,e0]at e;exact e
theorem ava{c:gu}{p:eM}(hc:xH c)(hp:zG p):Pw c p=some (kW c p,true):=by
 have hg:=QU hc.1;have hb:=iI c.aD;have T2:=PO hg;obtain⟨h2,hs,h3⟩:=GY hp;obtain⟨n,hn⟩:=iM hb.1;have oV:c.kO=16:=hc.2.2.2.2.2.1;have hiv:200<=c.interval/\c.interval<=259:=hc.2.2.2.2.1;have hrf:Pv (bf c.aD) c.interval=some (⟨List.replicate (bf c.aD).toNat 0,c.interval,false⟩,true):=by
  unfold Pv;rw[dw,av,bO.2 ⟨by omega,by omega⟩,cm,au,dw,av,bO.2 ⟨by omega,by omega⟩,cm,au,bu ⟨by omega,by omega,by omega⟩]
 have hsc:VM 10=some (⟨0,10,10⟩,true):=rfl;have hsn:DW p.weights=(p.weights.map nX,true):=by unfold DW;rw[hs,aq]
 unfold Pw cC;rw[af6 hc hp,av,cm,au,arU,av,asa hg,av,au3 hg,av,au8 hp,av,V2,av,mA,av,hrf,av,V4 _ (by omega),av,hsc,av,hsn];dsimp only;rw[au9 _ _ c p n hn (by omega) oV rfl rfl,av];unfold kW grow;rw[hn];rfl
def Xx(g:aR)(sp:Int):aR:=⟨g.cU,g.aI,g.rows-sp,g.aU⟩
def QV(g:aR)(sp:Int):Bool:=oR g (P6 g)&&(oS g (Qa g)&&(pM g (QT g)&&(oT g (xF g sp).1&&((xF g sp).1.cg==sp&&(cY (Xx g sp)&&(decide (0<fE (Xx g sp))&&(W6 (W6 ((fE g).tdiv g.rows)*W6 (g.rows-sp))==fE (Xx g sp)&&(decide (1<=fE g)&&decide ((xF g sp).1.map.length<=1048576)))))))))
theorem avb:(([1,2]:af Int).all λG=>([1,2]:af Int).all λB=>([4,5,6]:af Int).all λR=>([1,2]:af Int).all λC=>([0,1,2]:af Int).all λsp=>QV ⟨G,B,R,C⟩ sp)=true:=by kernel_rfl
theorem af7{g:aR}{sp:Int}(h:Qe g)(h1:0<=sp)(h2:sp<=2):QV g sp=true:=by
 obtain⟨⟨a1,a2⟩,⟨b1,b2⟩,⟨c1,c2⟩,d1,d2⟩:=h;have e:=avb;simp only[c9]at e;exact e g.cU (by simp;omega) g.aI (by simp;omega) g.rows (by simp;omega) g.aU (by simp;omega) sp (by simp;omega)
theorem avc:mC QS=true:=by kernel_rfl
theorem af8{c:gu}{p:eM}(hc:xH c)(hp:zG p):dS (kW c p):=by
 have hb:=iI c.aD;have hl:=qj c.aD;have hr:=vY c.aD;obtain⟨_,_,h3⟩:=GY hp;have hg:=af7 hc.1 hc.2.2.2.1.1 hc.2.2.2.1.2;simp only[QV,aJ,iB]at hg
 refine⟨⟨?_,?_⟩,?_,⟨?_,?_⟩,⟨⟨?_,λy hy=>?_⟩,?_,?_⟩,hg.2.2.2.2.2.2.2.2.2,?_,⟨?_,λy hy=>?_⟩,?_,?_,?_,?_,?_,?_,?_⟩
 ·show p.weights.length<=_;omega
 ·show p.weights.length<=_;omega
 ·show (List.replicate _ _).length<=_;rw[nv];omega
 ·show (List.replicate _ _).length<=_;rw[nv];omega
 ·exact Nat.zero_le _
 ·show (List.replicate _ _).length<=_;rw[nv];omega
 ·obtain rfl:=List.eq_of_mem_replicate hy;exact cH rfl
 ·show (List.replicate _ _).length<=_;rw[nv];omega
 ·show (List.replicate _ _).length<=_;rw[nv];omega
 ·show (List.replicate _ _).length<=_;rw[nv];omega
 ·show (List.replicate _ _).length<=_;rw[nv];omega
 ·obtain rfl:=List.eq_of_mem_replicate hy;exact⟨cH rfl,cH rfl⟩
 ·show (List.replicate _ _).length<=_;rw[nv];omega
 ·exact Nat.zero_le _
 ·exact Nat.zero_le _
 ·show (p.weights.map nX).length<=_;rw[eV];omega
 ·exact Nat.zero_le _
 ·exact Nat.zero_le _
 ·exact Nat.zero_le _
theorem af9{c:gu}{p:eM}(hc:xH c)(hp:zG p):ff (kW c p)=true:=by
 have hb:=iI c.aD;have T2:=PO (QU hc.1);have hl:=qj c.aD;obtain⟨_,hs,h3⟩:=GY hp;have hg:=af7 hc.1 hc.2.2.2.1.1 hc.2.2.2.1.2;simp only[QV,aJ,iB]at hg;obtain⟨g1,g2,g3,g4,g5,g6,g7,g8,g9,g10⟩:=hg;have hf:ru c p=true:=by unfold ru;rw[af6 hc hp];rfl
 have hiv:200<=c.interval/\c.interval<=259:=hc.2.2.2.2.1;obtain⟨⟨_,_,⟨l1,l2⟩,⟨l3,l4⟩,_⟩,p1,p2⟩:=hp;have e1:gP (kW c p).bh=true:=by
  unfold gP;simp only[kW,nv,aP,aJ,iB,List.all_replicate];refine⟨?_,by omega,bz (by omega),bz (by omega)⟩;split<;>rfl
 have e2:uY (kW c p)=true:=by
  unfold uY;simp only[kW,nv,aJ,iC,List.length_nil,List.range_zero,List.all_nil];refine⟨by omega,by omega,by omega,rfl,?_,trivial⟩;rw[c9];intro i hi;have hi:i<(bf c.aD).toNat:=iA.1 hi;unfold partAt;simp only[List.getElem?_replicate,hi,if_true,avc,dF];exact bO.2 ⟨by omega,by omega⟩
 have e3:rq (kW c p).drain=true:=by
  unfold rq;simp only[kW,aJ];exact⟨bz l1,bz l3,bz (by omega)⟩
 have e4:aP 0 0 (W6 (fE c.aD-1))=true:=by
  rw[bD (by omega) (by omega)];exact bO.2 ⟨by omega,by omega⟩
 have e5:((p.weights.map nX).length:Int)==4:=by rw[eV,h3];rfl
 unfold ff;simp only[aJ];exact⟨hf,hf,rfl,g1,g2,g3,g4,g5,⟨e1,e2⟩,rfl,hs,e5,e3,rfl,rfl,rfl,rfl,rfl,e4,rfl,rfl,rfl⟩
theorem avd{g:aR}{a:dK}(h:pM g a=true)(t:aV)(ch n:Int):∃ y,BR g a t ch n=some y/\pM g y=true/\((fe g t&&(aP ch 0 10&&aP n 0 15))=false->y=a):=by
 have hg:cY g=true:=(ae3 h).1;have ha:=fH.wu h;by_cases hc:(fe g t&&(aP ch 0 10&&aP n 0 15))=true
 ·simp only[aJ]at hc;obtain⟨c1,c2,c3⟩:=hc;have b2:=bO.1 c2;have b3:=bO.1 c3;obtain⟨k,rfl⟩:=iM b2.1;have hl:=ha.lt c1;have hs:=ha.syms _ (dy hl);have hk:k<a.cells[kK g t].symbols.length:=by rw[hs.1];omega
  have hx:=VY (hs.get hk) b3
  refine⟨_,ase ha (Int.le_refl _) c1 hl (by omega) hk b3,zZ hg (ha.D4 _ (c:=⟨_,_⟩) (hs.set ⟨hx.1,hx.2.1⟩)),λhe=>?_⟩
  rw[c1,c2,c3]at he;cases he
 ·refine⟨a,?_,h,λ_=>rfl⟩
  unfold BR uN xC;rw[ha.copy,av,ha.ok hg (Int.le_refl _),av,aq,DP,av];cases e1:fe g t with
  |false=>rfl
  | true=>
   rw[aq,dw,av];cases e2:aP ch 0 10 with
   |false=>rfl
   | true=>
    rw[aq,dw,av,av];cases e3:aP n 0 15 with
    |false=>rfl
    |true=>exact absurd (by rw[e1,e2,e3];rfl) hc
theorem ave{r:eo}(h:gP r=true)(x:Bool):∃ y,Pg r x=some y/\gP y=true/\y.aN.length=r.aN.length:=by
 have hl:=zK h;have h0:=h;simp only[gP,aJ,bO]at h;have mk:∀ (w:Int) (b:Bool),1<=w/\w<=10000->gP ⟨r.aN,w,b⟩=true:=λw b hw=>by
  simp only[gP,aJ,bO];exact⟨h.1,h.2.1,hw⟩
 have e1:W6 ((W6 (r.wait+1)).tdiv 2)=(r.wait+1) / 2:=by
  rw[bD (n:=r.wait+1) (by omega) (by omega),vf (by omega)];exact bD (by omega) (by omega)
 have e2:W6 (W6 (2*r.wait)-1)=2*r.wait-1:=by
  rw[bD (n:=2*r.wait) (by omega) (by omega)];exact bD (by omega) (by omega)
 unfold Pg zn;rw[gk (by simp;omega),aq,List.nil_append,av,Gv _ (by omega),av,h0,cm,au];dsimp only;rw[e1,e2];cases x with
 | true=>
  cases r.gL with
  |false=>exact⟨_,rfl,mk _ _ (by omega),rfl⟩
  |true=>exact⟨_,rfl,mk _ _ h.2.2,rfl⟩
 | false=>
  cases r.gL with
  |false=>exact⟨_,rfl,mk _ _ h.2.2,rfl⟩
  |true=>exact⟨_,rfl,mk _ _ (by split<;>omega),rfl⟩
theorem avf(b:kX)(hz:Lv b)(p:eM)(hp:p.weights.length<=1048576):Ph b p=some (bif tT p then ⟨b.ck,p,true⟩else b,tT p):=by
 unfold Ph;rw[Wv b hz,av,Lk _ (by omega),av];cases tT p with
 |false=>rfl
 | true=>
  unfold uO;rw[cm,au,pO _ (by omega),aq,List.nil_append];rfl
theorem avg{c:ay}(hk:ff c=true)(r:bk):ff (B2 c r).1=true/\((B2 c r).2=false->(B2 c r).1=c):=by
 have h:=Ck.of hk;have p:=jd.of h.pa;unfold B2;cases hb:((!ff c) ||((!(uZ c r).2) ||(c.bR.any λx=>x.id==r.id)))with
 |true=>exact⟨hk,λ_=>rfl⟩
 | false=>
  refine⟨?_,λh=>by cases h⟩
  rw[au];simp only[oX,Bool.not_eq_false']at hb;have hq:jI (fE (gK c.config.aD c.spare)) (uZ c r).1=true:=by
   have h2:=hb.2.1;unfold uZ Lz at h2 ⊢;cases hx:(jI (fE (gK c.config.aD c.spare)) c.queue&&jI (fE (gK c.config.aD c.spare)) (mD (λx=>gY (LA c r) x) c.queue (LA c r)))with
   |false=>rw[hx]at h2;cases h2
   | true=>
    rw[aJ]at hx;exact hx.2
  exact Ck.ok ⟨h.f1,h.f2,h.nw,h.rk,h.rd,h.ar,h.sp,h.se,h.rf,(show jd { c with queue:=(uZ c r).1 } from ⟨p.dl,p.tl,p.gl,p.t,p.g,p.pd,p.u⟩).ok,hq,h.sh,h.sl,h.dr,h.pw,h.ps,h.si,h.s1,h.s2,h.s3,h.er,h.tr,h.rp⟩
theorem avh{c:ay}(hz:dS c)(hk:ff c=true){n:Int}(hn:aP n 0 500=true):Kp (Pf c n):=by
 have hb:=bO.1 hn;obtain⟨m,rfl⟩:=iM hb.1;have h5:aP (m:Int) 0 5000=true:=bO.2 ⟨by omega,by omega⟩;unfold Pf cC;rw[GG c hz,av];generalize (⟨⟨⟨(0:Int),(0:Int),(0:Int),(0:Int)⟩,⟨(0:Int),(0:Int),(0:Int),(0:Int),(0:Int),(0:Int),(0:Int),(0:Int),(0:Int),(0:Int),(0:Int),(0:Int),(0:Int),(0:Int),(0:Int),(0:Int),(0:Int)⟩,⟨(0:Int),false⟩,(0:Int),(0:Int),(0:Int),⟨(0:Int),(0:Int)⟩⟩,⟨⟨(0:Int),(0:Int),(0:Int),(0:Int),(0:Int),([]:af Int),⟨(0:Int),(0:Int)⟩⟩,⟨(0:Int),(0:Int),(0:Int),(0:Int),(0:Int),([]:af Int),⟨(0:Int),(0:Int)⟩⟩,false⟩,(0:Int),⟨([]:af gy),(0:Int)⟩,⟨([]:af Int),([]:af Int)⟩,⟨([]:af cq),([]:af Int),([]:af Int)⟩,⟨(0:Int),([]:af Int)⟩,⟨([]:af Int),(0:Int),false⟩,([]:af dm),([]:af Int),([]:af aV),([]:af bk),([]:af cI),⟨false,(0:Int),(0:Int)⟩,⟨(0:Int),(0:Int),(0:Int)⟩,⟨(0:Int),(0:Int),(0:Int)⟩,([]:af cy),([]:af fo),([]:af eN)⟩:ay)=Z;obtain⟨z,e,y,rfl,SW,hy2⟩:=aed (step:=KV) m (λk x=>∃ y:ay,x=(((m:Int),(),(),(k:Int),()),(Z,y,()))/\dS y/\ff y=true) (λz=>∃ y:ay,z = .inl (((),(),()),(Z,y,()))/\dS y/\ff y=true) bB (x:=(((m:Int),(),(),(0:Int),()),(Z,c,()))) ⟨c,rfl,hz,hk⟩ (by
  rintro k hk x ⟨y,rfl,y1,y2⟩;obtain⟨y',e',y1',y2'⟩:=auW y1 y2;unfold KV aH xG;dsimp only;rw[bz (show (k:Int)<(m:Int) by omega),aq,dw,av,h5,aq,e',av,cK (by omega)];exact⟨_,rfl,y',rfl,y1',y2'⟩) (by
  rintro x ⟨y,rfl,y1,y2⟩;unfold KV aH xG;dsimp only;rw[bK (show ¬ (m:Int)<(m:Int) by omega),au];exact⟨_,rfl,y,rfl,y1,y2⟩) (cT (by omega))
 rw[e,av];exact⟨y,rfl,SW,hy2⟩
theorem avi{c:ay}(hz:dS c)(hk:ff c=true)(a:iO)(hw:a.hJ.weights.length<=1048576):∃ y t,DO c a=some (y,t)/\dS y/\ff y=true/\(t=false->y=c):=by
 have h:=Ck.of hk;have p:=jd.of h.pa;have uC:=hz;obtain⟨z1,z2,z3,z5,z6,z7,z8,z9,bF,fm,gI,iH,fy,jq⟩:=hz;have no:∀t:Bool,t=false->∃y t',some (c,t)=some (y,t')/\dS y/\ff y=true/\(t'=false->y=c):=λt ht=>⟨c,t,rfl,uC,hk,λ_=>rfl⟩
 unfold DO;rw[GG c uC,av,D5 c uC,av,hk,cm,au];cases a.kind==(1:Int)with
 | true=>
  obtain⟨q1,q2⟩:=avg hk a.request;rw[aq,asK c a.request uC,av];exact⟨_,_,rfl,asN c a.request uC,q1,q2⟩
 |false=>
 rw[au];cases a.kind==(2:Int)with
 | true=>
  rw[aq,dw,av];cases hn:aP a.n 0 500 with
  |false=>exact no _ rfl
  | true=>
   obtain⟨y,e,y1,y2⟩:=avh uC hk hn;rw[aq,e,av];exact⟨y,true,rfl,y1,y2,λh=>by cases h⟩
 |false=>
 rw[au];cases a.kind==(3:Int)with
 | true=>
  obtain⟨x,e,hx,Xy⟩:=avd h.ar a.addr a.xT a.n;have Xz:dS (fh c x):=⟨z1,z2,z3,xO (fH.wu hx),z6,z7,z8,z9,bF,fm,gI,iH,fy,jq⟩
  have XA:ff (fh c x)=true:=Ck.ok ⟨h.f1,h.f2,h.nw,h.rk,h.rd,hx,h.sp,h.se,h.rf,(show jd (fh c x)from ⟨p.dl,p.tl,p.gl,p.t,p.g,p.pd,p.u⟩).ok,h.qu,h.sh,h.sl,h.dr,h.pw,h.ps,h.si,h.s1,h.s2,h.s3,h.er,h.tr,h.rp⟩;rw[aq,DP,av];cases e1:fe c.config.aD a.addr with
  | false=>
   rw[au,e,av]
   refine⟨fh c x,false,rfl,Xz,XA,λ_=>?_⟩
   rw[Xy (by rw[e1];rfl)];rfl
  | true=>
   rw[aq,dw,av];cases e2:aP a.xT 0 10 with
   | false=>
    rw[au,e,av]
    refine⟨fh c x,false,rfl,Xz,XA,λ_=>?_⟩
    rw[Xy (by rw[e1,e2];rfl)];rfl
   | true=>
    unfold uN;rw[aq,dw,av,av,e,av]
    refine⟨fh c x,aP a.n 0 15,rfl,Xz,XA,λh3=>?_⟩
    rw[Xy (by rw[e1,e2,h3];rfl)];rfl
 |false=>
 rw[au];cases a.kind==(4:Int)with
 | true=>
  rw[aq,dw,av];cases hn:aP a.n 0 1 with
  |false=>exact no _ rfl
  | true=>
   obtain⟨y,e,y1,y2⟩:=ave h.rf (a.n==(1:Int));rw[aq,e,av]
   refine⟨W9 c y,true,rfl,⟨z1,z2,z3,z5,z6,by unfold BZ at z7 ⊢;show y.aN.length<=_;omega,z8,z9,bF,fm,gI,iH,fy,jq⟩,Ck.ok ⟨h.f1,h.f2,h.nw,h.rk,h.rd,h.ar,h.sp,h.se,y1,(show jd (W9 c y)from ⟨by show (y.aN.length:Int)=_;rw[y2];exact p.dl,p.tl,p.gl,p.t,p.g,p.pd,p.u⟩).ok,h.qu,h.sh,h.sl,h.dr,h.pw,h.ps,h.si,h.s1,h.s2,h.s3,h.er,h.tr,h.rp⟩,λh=>by cases h⟩
 |false=>
 rw[au];cases a.kind==(5:Int)with
 | true=>
  rw[aq,Lw _ _ (by omega),av];cases hf:ru c.config a.hJ with
  |false=>exact no _ rfl
  | true=>
   have hp:=(GL (by omega) hf).2;rw[aq,avf c.box z1 a.hJ hw,av,hp,aq]
   refine⟨⟨c.config,⟨c.box.ck,a.hJ,true⟩,c.now,c.br,c.ready,c.array,c.spare,c.bh,c.bx,c.guard,c.pending,c.queue,c.shares,c.drain,c.aX,c.cB,c.errors,c.trace,c.bR⟩,true,rfl,⟨⟨z1.1,hw⟩,z2,z3,z5,z6,z7,z8,z9,bF,fm,gI,iH,fy,jq⟩,Ck.ok ⟨h.f1,hf,h.nw,h.rk,h.rd,h.ar,h.sp,h.se,h.rf,(show jd ⟨c.config,⟨c.box.ck,a.hJ,true⟩,c.now,c.br,c.ready,c.array,c.spare,c.bh,c.bx,c.guard,c.pending,c.queue,c.shares,c.drain,c.aX,c.cB,c.errors,c.trace,c.bR⟩from ⟨p.dl,p.tl,p.gl,p.t,p.g,p.pd,p.u⟩).ok,h.qu,h.sh,h.sl,h.dr,h.pw,h.ps,h.si,h.s1,h.s2,h.s3,h.er,h.tr,h.rp⟩,λh=>by cases h⟩
 |false=>
 rw[au];cases a.kind==(6:Int)with
 | true=>
  obtain⟨t,y,e,y1,y2,y3⟩:=au0 uC hk a.addr.aE a.addr.row;rw[aq,e,av];exact⟨y,t,rfl,y1,y2,y3⟩
 |false=>exact no _ rfl
def ve(c:ay)(a:iO):ay×Bool:=(DO c a).getD (c,false)
def n7(s:ay×Int)(a:iO):ay×Int:=((ve s.1 a).1,bif (ve s.1 a).2 then s.2+1 else s.2)
def Em(s:ay×Int)(n:Nat):Prop:=dS s.1/\ff s.1=true/\0<=s.2/\s.2<=(n:Int)
theorem XB{c:ay}(hz:dS c)(hk:ff c=true){a:iO}(hw:a.hJ.weights.length<=1048576):DO c a=some (ve c a)/\dS (ve c a).1/\ff (ve c a).1=true/\((ve c a).2=false->(ve c a).1=c):=by
 obtain⟨y,t,e,h1,h2,h3⟩:=avi hz hk a hw;have:ve c a=(y,t):=by unfold ve;rw[e];rfl
 rw[this];exact⟨e,h1,h2,h3⟩
theorem Em.step{s:ay×Int}{n:Nat}(h:Em s n){a:iO}(hw:a.hJ.weights.length<=1048576):Em (n7 s a) (n+1):=by
 obtain⟨h1,h2,h3,h4⟩:=h;obtain⟨_,k1,k2,_⟩:=XB h1 h2 hw;unfold n7;refine⟨k1,k2,?_⟩;cases (ve s.1 a).2 with
 |true=>dsimp only;rw[aq];omega
 |false=>dsimp only;rw[au];omega
theorem QW{s:ay×Int}{aY:af iO}(hw:∀ a∈aY,a.hJ.weights.length<=1048576){n:Nat}(h:Em s n):∀ k,k<=aY.length->Em ((aY.take k).foldl n7 s) (n+k)
 |0,_=>h
 | k+1,hk=>by
  rw[Qp n7 aY s hk];exact(QW hw h k (by omega)).step (hw _ (dy hk))
theorem aga{c:gu}{p:eM}(hc:xH c)(hp:zG p){aY:af iO}(hw:∀ a∈aY,a.hJ.weights.length<=1048576)(hl:aY.length<=60):K3 c p aY=some (aY.foldl n7 (kW c p,0)):=by
 have h0:Em (kW c p,0) 0:=⟨af8 hc hp,af9 hc hp,Int.le_refl _,Int.le_refl _⟩
 unfold K3 cC;rw[ava hc hp,av];dsimp only;rw[cm,au,bK (show ¬ (aY.length:Int) > 60 by omega),au];generalize (⟨⟨⟨(0:Int),(0:Int),(0:Int),(0:Int)⟩,⟨(0:Int),(0:Int),(0:Int),(0:Int),(0:Int),(0:Int),(0:Int),(0:Int),(0:Int),(0:Int),(0:Int),(0:Int),(0:Int),(0:Int),(0:Int),(0:Int),(0:Int)⟩,⟨(0:Int),false⟩,(0:Int),(0:Int),(0:Int),⟨(0:Int),(0:Int)⟩⟩,⟨⟨(0:Int),(0:Int),(0:Int),(0:Int),(0:Int),([]:af Int),⟨(0:Int),(0:Int)⟩⟩,⟨(0:Int),(0:Int),(0:Int),(0:Int),(0:Int),([]:af Int),⟨(0:Int),(0:Int)⟩⟩,false⟩,(0:Int),⟨([]:af gy),(0:Int)⟩,⟨([]:af Int),([]:af Int)⟩,⟨([]:af cq),([]:af Int),([]:af Int)⟩,⟨(0:Int),([]:af Int)⟩,⟨([]:af Int),(0:Int),false⟩,([]:af dm),([]:af Int),([]:af aV),([]:af bk),([]:af cI),⟨false,(0:Int),(0:Int)⟩,⟨(0:Int),(0:Int),(0:Int)⟩,⟨(0:Int),(0:Int),(0:Int)⟩,([]:af cy),([]:af fo),([]:af eN)⟩:ay)=Z;have e:=eG (step:=K2) aY.length (λi=>(((),(),((aY.take i).foldl n7 (kW c p,0)).2,aY,(aY.length:Int),(i:Int),()),(Z,((aY.take i).foldl n7 (kW c p,0)).1,()))) (.inl (((),(),(aY.foldl n7 (kW c p,0)).2,()),(Z,(aY.foldl n7 (kW c p,0)).1,()))) bB (λk hk=>by
  have hr:=QW hw h0 k (by omega);have hf:=Qp n7 aY (kW c p,0) hk;rw[hf];generalize (aY.take k).foldl n7 (kW c p,0)=s at hr ⊢;obtain⟨r1,r2,r3,r4⟩:=hr;obtain⟨k0,k1,k2,k3⟩:=XB r1 r2 (hw _ (dy hk));unfold K2 aH xG xI;dsimp only;rw[bz (show (k:Int)<(aY.length:Int) by omega),aq,aK ⟨by omega,by omega⟩];simp only[bX];rw[k0,av,cK (by omega)];unfold n7;cases hd:(ve s.1 aY[k]).2 with
  | true=>
   rw[aq,aq,bD (n:=s.2+1) (by omega) (by omega)]
  | false=>
   rw[au,au,k3 hd]) (by
  rw[List.take_length];unfold K2 aH xG xI;dsimp only;rw[bK (show ¬ (aY.length:Int)<(aY.length:Int) by omega),au]) (cT (by omega))
 rw[cZ]at e
 refine(cA (λo=>Option.bind o _) e).trans ?_
 rfl
theorem avj{b:af Int}{c:bG}(hc:lS b c):Dr b (N4 c) λ_=>True:=by
 unfold N4;rw[hc.eq]
 refine(fZ hc 4).bind λx c1 hx AZ=>?_
 dsimp only;rw[AZ.eta];cases hb:(x==(0:Int))with
 | true=>
  rw[aq]
  refine(PS AZ _ (by decide)).bind λy c2 _ jt=>?_
  dsimp only;rw[jt.eta];exact Dr.pure jt trivial
 | false=>
  rw[au];cases nI:(x==(1:Int))with
  | true=>
   rw[aq]
   refine(fZ AZ 200).bind λy c2 _ jt=>?_
   dsimp only;rw[jt.eta];exact Dr.pure jt trivial
  | false=>
   rw[au]
   refine(fZ AZ 65536).bind λy c2 _ jt=>?_
   dsimp only;rw[jt.eta]
   refine(fZ jt 65536).bind λy c3 _ hc3=>?_
   dsimp only;rw[hc3.eta];exact Dr.pure hc3 trivial
theorem avk(l:af aV)(h:l.length<=1048576):PD l l=some true:=by
 have e:=eG (step:=K8) l.length (λi=>((l,l,(i:Int),()),())) (.inr (.inl ((),()))) bB (λi hi=>by
  unfold K8 aH bI xG xI;simp (disch:=omega) [hi,cK]) (by unfold K8 aH bI xG xI;simp) (cT (by omega))
 rw[cZ]at e;unfold PD cX;simp[e]
theorem avl(l:af bk)(h:l.length<=1048576):PE l l=some true:=by
 have e:=eG (step:=K9) l.length (λi=>((l,l,(i:Int),()),())) (.inr (.inl ((),()))) bB (λi hi=>by
  unfold K9 aH bI xG xI;simp (disch:=omega) [hi,cK]) (by unfold K9 aH bI xG xI;simp) (cT (by omega))
 rw[cZ]at e;unfold PE cX;simp[e]
theorem avm(l:af cI)(h:l.length<=1048576):PF l l=some true:=by
 have e:=eG (step:=La) l.length (λi=>((l,l,(i:Int),()),())) (.inr (.inl ((),()))) bB (λi hi=>by
  unfold La aH bI xG xI;simp (disch:=omega) [hi,cK]) (by unfold La aH bI xG xI;simp) (cT (by omega))
 rw[cZ]at e;unfold PF cX;simp[e]
theorem avn(l:af cy)(h:l.length<=1048576):PG l l=some true:=by
 have e:=eG (step:=Lb) l.length (λi=>((l,l,(i:Int),()),())) (.inr (.inl ((),()))) bB (λi hi=>by
  unfold Lb aH bI xG xI;simp (disch:=omega) [hi,cK]) (by unfold Lb aH bI xG xI;simp) (cT (by omega))
 rw[cZ]at e;unfold PG cX;simp[e]
theorem avo(l:af fo)(h:l.length<=1048576):PI l l=some true:=by
 have e:=eG (step:=Lc) l.length (λi=>((l,l,(i:Int),()),())) (.inr (.inl ((),()))) bB (λi hi=>by
  unfold Lc aH bI xG xI;simp (disch:=omega) [hi,cK]) (by unfold Lc aH bI xG xI;simp) (cT (by omega))
 rw[cZ]at e;unfold PI cX;simp[e]
theorem avp(l:af eN)(h:l.length<=1048576):PJ l l=some true:=by
 have e:=eG (step:=Ld) l.length (λi=>((l,l,(i:Int),()),())) (.inr (.inl ((),()))) bB (λi hi=>by
  unfold Ld aH bI xG xI;simp (disch:=omega) [hi,cK]) (by unfold Ld aH bI xG xI;simp) (cT (by omega))
 rw[cZ]at e;unfold PJ cX;simp[e]
theorem avq(l:af dm)(h:l.length<=1048576/\∀ y∈l,nq y):PC l l=some true:=by
 have e:=eG (step:=K7) l.length (λi=>((l,l,(i:Int),()),())) (.inr (.inl ((),()))) bB (λi hi=>by
  have hz:=h.2 _ (dy hi);unfold nq at hz;unfold K7 aH bI xG xI;simp (disch:=omega) [hi,cK,v5 _ (show l[i].rows.length<1073741823 by omega),v5 _ (show l[i].counts.length<1073741823 by omega)]) (by unfold K7 aH bI xG xI;simp) (cT (by omega))
 rw[cZ]at e;unfold PC cX;simp[e]
theorem agb(p:eM)(h:p.weights.length<=1048576):K5 p p=some true:=by
 unfold K5;simp[v5 _ (show p.weights.length<1073741823 by omega)]
theorem avr{c:ay}(hz:dS c):PL c c=some true:=by
 obtain⟨⟨z1,z1'⟩,z2,⟨z3,z3'⟩,⟨⟨z5,z5'⟩,z5a,z5b⟩,z6,z7,z8,z9,bF,fm,gI,iH,fy,jq⟩:=hz;unfold Lt at z1 z1';unfold Wp at z2;unfold ae2 at z6;unfold BZ at z7;have rz:∀ x∈c.array.cells,x.symbols.length<1073741823:=λx hx=>by
  have:=z5' x hx;unfold Qc at this;omega
 have hrk:Py c.br c.br=some true:=by
  unfold Py;simp[aq6 _ (show c.br.aI.length<1073741823 by omega)]
 unfold PL;simp only[beq_self_eq_true,bne_self_eq_false,Bool.and_self,cm,au,aq,av,agb _ z1,agb _ z1',hrk,v5 _ (show c.ready.last.length<1073741823 by omega),v5 _ (show c.ready.aY.length<1073741823 by omega),atx _ (show c.array.cells.length<1073741823 by omega) (show c.array.bU.length<1073741823 by omega) (show c.array.bL.length<1073741823 by omega) rz,v5 _ (show c.spare.map.length<1073741823 by omega),v5 _ (show c.bh.aN.length<1073741823 by omega),avq _ z8,v5 _ (show c.guard.length<1073741823 by omega),avk _ bF,avl _ fm,avm _ gI,avn _ iH,avo _ fy,avp _ jq]
theorem avs{b:af Int}{c:bG}(hc:lS b c)(n:Int):Dr b (N5 c n) λ_=>True:=by
 unfold N5;rw[hc.eq]
 refine(fZ hc 60).bind λx1 k1 h1 eO=>?_
 dsimp only;rw[eO.eta]
 refine(fZ eO 3).bind λx2 k2 h2 fV=>?_
 dsimp only;rw[fV.eta]
 refine(fZ fV n).bind λx3 k3 h3 ni=>?_
 dsimp only;rw[ni.eta]
 refine(fZ ni 50).bind λx4 k4 h4 tJ=>?_
 dsimp only;rw[tJ.eta]
 refine(PT tJ 2).bind λx5 k5 h5 oG=>?_
 dsimp only;rw[oG.eta];cases x5 with
 | true=>
  rw[aq]
  refine(avj oG).bind λx6 k6 h6 wj=>?_
  dsimp only;rw[wj.eta];exact Dr.pure wj trivial
 |false=>exact Dr.pure oG trivial
def GZ(a:iO):Prop:=a.hJ.weights.length<=1048576
theorem avt{b:af Int}{c:bG}(hc:lS b c){x:gu}(hx:xH x)(i:Int):Dr b (N6 c x i) GZ:=by
 have hg:=QU hx.1;have gb:=jw hg;unfold N6;rw[aq2,av,bJ (by omega),hc.eq];dsimp only
 refine(fZ hc 12).bind λy2 k2 h2 fV=>?_
 dsimp only;rw[fV.eta];have hA:∀ l:af Int,0<l.length->Dr b ((Bo k2 l).bind λy4=>some ((⟨(2:Int),⟨(0:Int),(0:Int),(0:Int),false,(0:Int),(0:Int)⟩,y4.1,(0:Int),⟨(0:Int),(0:Int),(0:Int)⟩,⟨(0:Int),(0:Int),(0:Int),(0:Int),(0:Int),[],⟨(0:Int),(0:Int)⟩⟩⟩:iO),((⟨b,y4.2.1.i,y4.2.1.h⟩:bG),()))) GZ:=λl hl=>by
  refine(PS fV l hl).bind λy k hy hk=>?_
  dsimp only;rw[hk.eta];exact Dr.pure hk (by show (0:Nat)<=1048576;omega)
 cases h0:y2==(0:Int)with
 | true=>
  rw[aq,aq];exact hA _ (by simp)
 |false=>
 rw[au];cases h1:y2==(1:Int)with
 | true=>
  rw[aq];exact hA _ (by simp)
 |false=>
 rw[au];cases y2==(2:Int)with
 | true=>
  rw[aq]
  refine(aro fV hg).bind λy5 k5 h5 oG=>?_
  dsimp only;rw[oG.eta]
  refine(fZ oG 11).bind λy6 k6 h6 wj=>?_
  dsimp only;rw[wj.eta]
  refine(fZ wj 16).bind λy7 k7 h7 B0=>?_
  dsimp only;rw[B0.eta];exact Dr.pure B0 (by show (0:Nat)<=1048576;omega)
 |false=>
 rw[au];cases y2==(3:Int)with
 | true=>
  rw[aq]
  refine(PS fV _ (by simp)).bind λy8 k8 h8 Lx=>?_
  dsimp only;rw[Lx.eta]
  refine(fZ Lx 2).bind λy9 k9 h9 Ly=>?_
  rw[VT,av];dsimp only;rw[Ly.eta]
  refine(fZ Ly _).bind λfM Vt gT agc=>?_
  dsimp only;rw[agc.eta]
  refine(fZ agc _).bind λfW Bz jz agd=>?_
  dsimp only;rw[agd.eta]
  refine(ae5 agd).bind λez F7 gU agf=>?_
  dsimp only;rw[agf.eta];have hl:=(GY gU).2.2;exact Dr.pure agf (by show ez.weights.length<=1048576;omega)
 |false=>
 rw[au]
 refine(avs fV _).bind λgw Vs js agh=>?_
 dsimp only;rw[agh.eta]
 refine(PT agh 2).bind λfX Vr jA XC=>?_
 dsimp only;rw[XC.eta];cases fX with
 | true=>
  rw[aq]
  refine(fZ XC 3).bind λcM zu gC agi=>?_
  dsimp only;rw[agi.eta];exact Dr.pure agi (by show (0:Nat)<=1048576;omega)
 |false=>exact Dr.pure XC (by show (0:Nat)<=1048576;omega)
theorem avu{b:af Int}{c:bG}(hc:lS b c){x:gu}(hx:xH x):Dr b (Ob c x 30) λl=>l.length<=31/\∀ a∈l,GZ a:=by
 unfold Ob cC;rw[hc.eq];obtain⟨z,e,cur,aY,Cg,hl,hw,rfl⟩:=aee (step:=JC) 31 (λk s=>∃ (cur:bG) (aY:af iO),lS b cur/\aY.length=k/\(∀ a∈aY,GZ a)/\s=(((),(30:Int),(),(),(k:Int),()),(((),cur.i,cur.h,()),x,aY,b,())))
  (λz=>∃(cur:bG) (aY:af iO),lS b cur/\aY.length<=31/\(∀a∈aY,GZ a)/\z = .inl (((),()),(aY,((),cur.i,cur.h,()),b,()))) bB (x:=(((),(30:Int),(),(),(0:Int),()),(((),c.i,c.h,()),x,([]:af iO),b,()))) ⟨c,[],hc,rfl,λa ha=>(by cases ha),rfl⟩ (by
  rintro k hk s ⟨cur,aY,Cg,hl,hw,rfl⟩;unfold JC aH xG;dsimp only;rw[Cg.eta,bD (n:=(30:Int)+1) (by omega) (by omega)];obtain⟨y1,k1,e1,eO,h1⟩:=fZ Cg (30+1);rw[e1,av];dsimp only;by_cases bC:(k:Int)<y1
  ·obtain⟨y2,k2,e2,fV,h2⟩:=avt eO hx (W6 ((k:Int)+1));rw[bz bC,aq,eO.eta,e2,av];dsimp only;rw[gk (by rw[rF];omega),aq,cK (by omega)]
   refine .inl ⟨_,rfl,k2,aY++[y2],fV,by rw[List.length_append,rF,hl],λa ha=>?_,rfl⟩
   rcases List.mem_append.1 ha with ha|ha
   ·exact hw a ha
   ·rw[List.mem_singleton.1 ha];exact h2
  ·rw[bK bC,au];exact .inr ⟨_,rfl,k1,aY,eO,by omega,hw,rfl⟩) (by
  rintro s ⟨cur,aY,Cg,hl,hw,rfl⟩;unfold JC aH xG;dsimp only;rw[Cg.eta,bD (n:=(30:Int)+1) (by omega) (by omega)];obtain⟨y1,k1,e1,eO,h1⟩:=fZ Cg (30+1);have Yy:=h1.2.2 (by omega);rw[e1,av];dsimp only;rw[bK (by omega),au];exact⟨_,rfl,k1,aY,eO,by omega,hw,rfl⟩) (cT (by omega))
 rw[e,av];simp only[jf];rw[Cg.eta];exact Dr.pure Cg ⟨hl,hw⟩
theorem avv(l:af Int)(h:l.length<=1073741823):∃ c p aY,Oc l=some (c,p,aY)/\xH c/\zG p/\aY.length<=31/\∀ a∈aY,GZ a:=by
 unfold Oc;obtain⟨h0,e0⟩:=aei l h;obtain⟨x,k,e1,hk,hx⟩:=asv (aej l h0 h);obtain⟨p,k2,e2,fV,hp⟩:=ae5 hk;obtain⟨aY,k3,e3,ni,ha,hw⟩:=avu fV hx;refine⟨x,p,aY,?_,hx,hp,ha,hw⟩;rw[e0,av,e1,av];dsimp only;rw[hk.eta,e2,av];dsimp only;rw[fV.eta,e3];rfl
theorem avw(l:af Int)(h:l.length<=maxLen):VN l=some true:=by
 unfold VN UX xC cC;rw[av];by_cases agj:(l.length:Int) > 1048576
 ·rw[bz agj];rfl
 ·rw[bK agj,au];obtain⟨c,p,aY,e1,hc,hp,hl,hw⟩:=avv l (by omega);obtain⟨q,e2,pX,qM⟩:=aq3 l (by omega);have Sm:=qM _ (dy (show 0<q.length by omega));rw[e1,av,e2,av,aK ⟨by decide,by simp;omega⟩,aK (by simp;omega)];dsimp only;rw[bD (n:=(aY.length:Int)+1) (by omega) (by omega),bJ (by omega)];obtain⟨k,hk⟩:∃ k:Nat,(q[(0:Int).toNat]'(by simp;omega)).tmod ((aY.length:Int)+1)=(k:Int)/\k<=aY.length:=by
   have h0:0<=q[(0:Int).toNat]'(by simp;omega):=Sm.1;rw[uc h0];have a1:=Int.emod_nonneg (q[(0:Int).toNat]'(by simp;omega)) (show (aY.length:Int)+1≠0 by omega);have a2:=Int.emod_lt_of_pos (q[(0:Int).toNat]'(by simp;omega)) (show 0<(aY.length:Int)+1 by omega);obtain⟨k,hk⟩:=iM a1;exact⟨k,hk,by omega⟩
  obtain⟨hk,hkl⟩:=hk;rw[hk,bu ⟨by decide,by omega,by omega⟩];simp only[bX,Int.toNat_zero,List.drop_zero];have h0:Em (kW c p,0) 0:=⟨af8 hc hp,af9 hc hp,Int.le_refl _,Int.le_refl _⟩
  have LV:∀a∈aY,a.hJ.weights.length<=1048576:=hw;rw[aga hc hp (aY:=aY.take k) (λa ha=>LV a (List.mem_of_mem_take ha)) (by rw[lM];omega),av];obtain⟨n,hn⟩:∃n,k+n=aY.length:=⟨aY.length-k,by omega⟩
  have e:=eG (step:=Le) n (λi=>(((),(),(),(),((aY.take (k+i)).foldl n7 (kW c p,0)).2,((k+i:Nat):Int),()),(((aY.take (k+i)).foldl n7 (kW c p,0)).1,c,(p.fS,p.cap,p.fB,p.low,p.high,(),p.eE.down,p.eE.sleep,()),aY,p.weights,()))) (.inl (((),(),(),(),(aY.foldl n7 (kW c p,0)).2,()),((aY.foldl n7 (kW c p,0)).1,c,(p.fS,p.cap,p.fB,p.low,p.high,(),p.eE.down,p.eE.sleep,()),aY,p.weights,()))) bB (λi hi=>by
   have bC:k+i<aY.length:=by omega
   have hr:=QW LV h0 (k+i) (by omega);have hf:=Qp n7 aY (kW c p,0) bC;rw[show k+(i+1)=k+i+1 from rfl,hf];generalize (aY.take (k+i)).foldl n7 (kW c p,0)=s at hr ⊢;obtain⟨r1,r2,r3,r4⟩:=hr;obtain⟨k0,k1,k2,k3⟩:=XB r1 r2 (LV _ (dy bC));unfold Le xC aH xG;dsimp only;rw[bz (show ((k+i:Nat):Int)<(aY.length:Int) by omega),aq,aK ⟨by omega,by omega⟩,aK (by omega),aK (by omega)];simp only[bX];rw[show (⟨aY[k+i].kind,aY[k+i].request,aY[k+i].n,aY[k+i].xT,aY[k+i].addr,⟨aY[k+i].hJ.fS,aY[k+i].hJ.cap,aY[k+i].hJ.fB,aY[k+i].hJ.low,aY[k+i].hJ.high,aY[k+i].hJ.weights,aY[k+i].hJ.eE⟩⟩:iO)=aY[k+i]from rfl,k0,av,cK (by omega)];unfold n7;cases hd:(ve s.1 aY[k+i]).2 with
   |true=>rw[aq,aq,bD (n:=s.2+1) (by omega) (by omega)]
   |false=>rw[au,au]) (by
   rw[hn,List.take_length];unfold Le xC aH xG;dsimp only;rw[bK (show ¬ (aY.length:Int)<(aY.length:Int) by omega),au]) (cT (by omega))
  rw[Nat.add_zero]at e
  refine(cA (λo=>Option.bind o _) e).trans ?_
  rw[av];simp only[jf];rw[show (⟨p.fS,p.cap,p.fB,p.low,p.high,p.weights,⟨p.eE.down,p.eE.sleep⟩⟩:eM)=p from rfl,aga hc hp LV (by omega),av,beq_self_eq_true,aq];have hr:=QW LV h0 aY.length (gZ _);rw[List.take_length]at hr;rw[avr hr.1,av,aq,D5 _ hr.1,av,hr.2.1]
theorem avx(v0:Value)(w:World)(r0:RdL .u8 (λx:Int=>0<=x/\x<=255) w v0):Calls Tryz.prog 3 #[v0] w λe w'=>e = .returned (.bool true)/\Below w.heap.size w w':=by
 obtain⟨l,hl,_,h0⟩:=r0;exact ak3 aq0 (ak4 (ai:=[(false,.sl .u8)]) (x:=(l,())) (by kernel_rfl) (avw l hl)) (ak5 h0)
end Go.Proofs.YtcioagfjiccleaaGreat
