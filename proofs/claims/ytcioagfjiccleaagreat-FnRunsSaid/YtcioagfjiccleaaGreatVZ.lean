/-
  Running the program over pure contents, and that it follows (part Z). Nothing here is a claim.
-/
import Derived.Test.YtcioagfjiccleaaGreatV5
set_option linter.unusedSimpArgs false
namespace Go.Proofs.YtcioagfjiccleaaGreat
open Go.RowKit
set_option linter.unusedVariables false
def sr:Nat:=1000000000
def stays(n:Nat):Bool:=Nat.ble 20000 (n % sr)
theorem akV:60000<=sr:=cH rfl
def su(n:Nat):Nat:=bif stays n then n else n+sr
def Bl(n:Nat):aj Nat:=bif stays n then some n else bif Nat.ble sr n && !stays (n-sr)then some (n-sr)else none
def nS:af Nat->af Nat
 |[]=>[]
 |[r]=>[su r]
 |x::y::k=>x::nS (y::k)
def Lf.up:Lf->Lf
 |.v x=>.v x
 |.own k=>.own (nS k)
 |.dead=>.dead
def A.up:A->A
 |.undef=>.undef
 |.skip=>.skip
 |.lf x=>.lf x.up
 |.agg cs=>.agg (cs.map Lf.up)
 |.cP xs=>.cP (xs.map λp=>(p.1,p.2.map Lf.up))
 |.ptr k=>.ptr (nS k)
 |.aG r j=>.aG (su r) j
 |.jB cs=>.jB cs
 |.mK f cs=>.mK f cs
 |.pk r n=>.pk (su r) n
 |.view k s i j=>.view (nS k) s i j
 |.fn f cap=>.fn f (cap.map λp=>(su p.1,p.2))
def aW.up:aW->aW
 |.ax cs=>.ax (cs.map Lf.up)
 |.sl y=>.sl y
 |.mp l=>.mp l
 |.gh xs=>.gh (xs.map A.up)
def S.up(σ:S):S:=⟨λk=>(σ.t k).up,λn=>match Bl n with
 |some r=>(σ.m r).map aW.up
 |none=>none⟩
def upI(c:vH):vH:=⟨λX N σ xs k=>c.run X N σ.up (xs.map A.up) λaz y=>k az.up y.up⟩
section
variable {P:Program} {w w':World} {w0:Wd} {B N:Nat} {ah aC:bE} {ρ ρ':Nat->Loc} {σ:S} {a:Act} {X:Type}
theorem akW(r:Nat):Bl (su r)=some r:=by
 unfold Bl su;cases h:stays r with
 |true=>simp only[aq,h]
 | false=>
  have h2:stays (r+sr)=false:=by
   unfold stays at h ⊢;rw[Nat.add_mod_right];exact h
  have h3:Nat.ble sr (r+sr)=true:=jV (Nat.le_add_left _ _);have h4:r+sr-sr=r:=Nat.add_sub_cancel r sr;rw[au,h2,au,h3,h4,h];rfl
theorem akX{n r:Nat}(h:Bl n=some r):n=su r:=by
 unfold Bl at h;cases hs:stays n with
 | true=>
  rw[hs,aq]at h;injection h with h;subst h;simp[su,hs]
 | false=>
  rw[hs,au]at h;cases hc:(Nat.ble sr n && !stays (n-sr))with
  |false=>rw[hc]at h;cases h
  | true=>
   rw[hc,aq]at h;have h:=Option.some.inj h;rw[aJ]at hc;have h1:=cH hc.1;have h2:stays r=false:=by rw[<-h];simpa using hc.2
   simp only[su,h2,au];omega
def oH(ah:bE):bE:=λb=>(ah b).map nS
def xq(ρ:Nat->Loc):Nat->Loc:=λn=>match Bl n with
 |some r=>ρ r
 |none=>ρ n
theorem Df(r:Nat):xq ρ (su r)=ρ r:=by unfold xq;rw[akW]
theorem akY{k:af Nat}(h:k≠[]):nS k≠[]:=by
 match k with
 |[]=>exact absurd rfl h
 |[r]=>simp[nS]
 |x::y::k=>simp[nS]
theorem Dg{x:Nat}{k:af Nat}(h:k≠[]):nS (x :: k)=x :: nS k:=by
 match k with
 |[]=>exact absurd rfl h
 |y::k=>rfl
theorem abn(x y:Nat)(k:af Nat):∃ y' k',nS (x :: y :: k)=x :: y' :: k':=by
 rw[Dg (by simp)]
 match k with
 |[]=>exact⟨_,_,rfl⟩
 |z::k=>exact⟨y,_,rfl⟩
theorem UO:∀ (k:af Nat) (ad:Addr),addrAt w ah ρ k=some ad->addrAt w (oH ah) (xq ρ) (nS k)=some ad
 |[],_,h=>by simp[addrAt]at h
 |[_],_,h=>by simp[addrAt]at h
 |[_,_],_,h=>by simp[addrAt]at h
 |[_,_,_],_,h=>by simp[addrAt]at h
 | [j,i,s,r],ad,h=>by
  simp only[addrAt]at h;simp only[nS,addrAt,Df];split at h
  ·rename_i b n c hr;split at h
   next hl=>rw[bu (by simp[oH,hl,nS])];exact h
   ·cases h
  ·cases h
 | j :: i :: s :: x :: y :: q,ad,h=>by
  simp only[addrAt]at h;split at h
  ·rename_i b n c hr;split at h
   ·rename_i hl;cases ha:addrAt w ah ρ (x :: y :: q)with
    |none=>rw[ha]at hr;cases hr
    | some qC=>
     have ih:=UO (x::y::q) qC ha;have e:oH ah b=some (nS (x::y::q)):=by simp[oH,hl]
     rw[Dg (by simp),Dg (by simp),Dg (by simp)];rw[ha]at hr;obtain⟨y',q',hk⟩:=abn x y q;rw[hk]at ih e ⊢;simp only[addrAt,ih,hr,e,if_true];exact h
   ·cases h
  ·cases h
theorem abo{k:af Nat}{u:Value}(h:cE w ah ρ k=some u):cE w (oH ah) (xq ρ) (nS k)=some u:=by
 match k with
 |[]=>simp[cE,addrAt]at h
 | [r]=>
  simp only[cE]at h;simp only[nS,cE,Df];exact h
 | x :: y :: k=>
  simp only[cE]at h;cases ha:addrAt w ah ρ (x::y::k)with
  |none=>rw[ha]at h;cases h
  | some ad=>
   have:=UO _ _ ha;obtain⟨y',q',hk⟩:=abn x y k;rw[hk]at this ⊢;simp only[cE,this];rw[ha]at h;exact h
theorem UP{b:Nat}(h:ah b=none):oH ah b=none:=by simp[oH,h]
theorem RV.up(bg:∀ b k,ah b=some k->k≠[]){k:af Nat}{x:V}{v:Value}(h:RV w B ah k x v):RV w B (oH ah) (nS k) x v:=by
 induction h with
 |int=>exact .int _ _ _
 |bool=>exact .bool _ _
 |str=>exact .str _ _
 |nil=>exact .nil _
 |dc=>exact .dc _ _ _
 |dg q t o A c ho=>exact .dg _ _ _ _ _ ho
 |dz q t o A c ho=>exact .dz _ _ _ _ _ ho
 | aA q t o qn l b off cap u ho hl hb h1 ey hc hr ih=>
  exact .aA _ _ _ _ _ _ _ _ u ho (UP hl) hb h1 ey hc ih
 | own q t o qn l b cap cs u hl hh hs hn hm hc hr ih=>
  have hq:=bg b q hl
  refine .own _ _ _ _ _ _ _ cs u (by simp[oH,hl]) hh hs hn hm hc λi h j x hx=>?_
  have:=ih i h j x hx;rw[Dg (by simp),Dg (by simp),Dg hq]at this;exact this
theorem dN.up(bg:∀ b k,ah b=some k->k≠[]){x:Lf}{u:Value}(h:dN w B ah ρ x u):dN w B (oH ah) (xq ρ) x.up u:=by
 cases x with
 |v x=>exact⟨h.1,RV.up bg h.2⟩
 |own k=>exact⟨h.1,abo h.2⟩
 |dead=>trivial
theorem eB.up(bg:∀ b k,ah b=some k->k≠[]){cs:af Lf}{us:Array Value}(h:eB w B ah ρ cs us):eB w B (oH ah) (xq ρ) (cs.map Lf.up) us:=by
 refine⟨by rw[eV];exact h.1,λj x hx=>?_⟩
 rw[dH]at hx;cases hz:cs[j]? with
 |none=>rw[hz]at hx;cases hx
 | some z=>
  rw[hz]at hx;injection hx with hx;subst hx;obtain⟨u,h1,h2⟩:=h.2 j z hz;exact⟨u,h1,h2.up bg⟩
theorem RP.up(bg:∀ b k,ah b=some k->k≠[]){p:Bool×af Lf}{u:Value}(h:RP w B ah ρ p u):RP w B (oH ah) (xq ρ) (p.1,p.2.map Lf.up) u:=by
 obtain⟨b,cs⟩:=p;cases b with
 | true=>
  obtain⟨us,rfl,h⟩:=h;exact⟨us,rfl,eB.up bg h⟩
 |false=>exact eB.up bg h
theorem RA.up(bg:∀ b k,ah b=some k->k≠[]){x:A}{u:Value}(h:RA w B ah ρ x u):RA w B (oH ah) (xq ρ) x.up u:=by
 cases x with
 |undef=>trivial
 |skip=>exact h
 |lf x=>exact dN.up bg h
 |agg cs=>exact RP.up bg (p:=(true,cs)) h
 | cP xs=>
  obtain⟨us,rfl,h1,h2⟩:=h
  refine⟨us,rfl,by rw[eV];exact h1,λj p hp=>?_⟩
  rw[dH]at hp;cases hz:xs[j]? with
  |none=>rw[hz]at hp;cases hp
  | some z=>
   rw[hz]at hp;injection hp with hp;subst hp;obtain⟨v,h3,h4⟩:=h2 j z hz;exact⟨v,h3,h4.up bg⟩
 | ptr k=>
  obtain⟨ad,rfl,h⟩:=h;exact⟨ad,rfl,UO _ _ h⟩
 | aG r j=>
  obtain⟨b,off,h1,h2⟩:=h;exact⟨b,off,(Df r).trans h1,h2⟩
 | jB cs=>
  obtain⟨b,off,g1,g2,g3,g4⟩:=h
  refine⟨b,off,g1,g2,UP g3,λj x hx=>?_⟩
  obtain⟨f1,v,f2,f3⟩:=g4 j x hx;exact⟨f1,v,f2,RV.up bg f3⟩
 | mK f cs=>
  obtain⟨pv,e0,h⟩:=h;refine⟨pv,e0,?_⟩;obtain⟨b,off,g1,g2,g3,g4⟩:=h
  refine⟨b,off,g1,g2,UP g3,λj x hx=>?_⟩
  obtain⟨f1,v,f2,f3⟩:=g4 j x hx;exact⟨f1,v,f2,RV.up bg f3⟩
 | pk r n=>
  obtain⟨b,h1,h2⟩:=h;exact⟨b,(Df r).trans h1,h2⟩
 | view k s i j=>
  obtain⟨A,n,c,h1,h2⟩:=h;exact⟨A,n,c,abo h1,h2⟩
 | fn f cap=>
  obtain⟨vs,rfl,h1,h2⟩:=h
  refine⟨vs,rfl,by rw[eV];exact h1,λj p hp=>?_⟩
  rw[dH]at hp;cases hz:cap[j]? with
  |none=>rw[hz]at hp;cases hp
  | some z=>
   rw[hz]at hp;injection hp with hp;subst hp;obtain⟨b,off,h3,h4⟩:=h2 j z hz;exact⟨b,off,(Df _).trans h3,h4⟩
theorem fj.up(bg:∀ b k,ah b=some k->k≠[]){r:Nat}{x:aW}(h:fj w B ah ρ r x):fj w B (oH ah) (xq ρ) (su r) x.up:=by
 have aM:=Df (ρ:=ρ) r;have hl:∀{b},ah b=some [r]->oH ah b=some [su r]:=λh=>by simp[oH,h,nS]
 cases h with
 | ax b off cells e cs us h1 h2 hh hs hc=>
  refine .ax b off cells e _ us (aM.trans h1) (hl h2) hh (by rw[eV];exact hs) λj x hx=>?_
  rw[dH]at hx;cases hz:cs[j]? with
  |none=>rw[hz]at hx;cases hx
  | some z=>
   rw[hz]at hx;injection hx with hx;subst hx;exact⟨(hc j z hz).1,(hc j z hz).2.up bg⟩
 |sl v y h1 h2=>exact .sl v y (aM.trans h1) (RV.up bg h2)
 |mp b c es l h1 h2 hh he=>exact .mp b c es l (aM.trans h1) (hl h2) hh he
 | gh us xs h1 hx=>
  refine .gh us _ (aM.trans h1) λj x hj=>?_
  rw[dH]at hj;cases hz:xs[j]? with
  |none=>rw[hz]at hj;cases hj
  | some z=>
   rw[hz]at hj;injection hj with hj;subst hj;exact RA.up bg (hx j z hz)
theorem Rl.up(h:Rl w0 N ah ρ σ a w):Rl w0 N (oH ah) (xq ρ) σ.up a w:=by
 have bg:∀b k,ah b=some k->k≠[]:=λb k hk=>(h.dn b k hk).2.2
 refine⟨h.below,λb k hk=>?_,λn x hx=>?_,λk=>RA.up bg (h.tmp k),h.size,h.defers,λr l hr=>?_,h.dQ⟩
 ·unfold oH at hk;cases hl:ah b with
  |none=>rw[hl]at hk;cases hk
  | some q=>
   rw[hl]at hk;injection hk with hk;obtain⟨h1,h2,h3⟩:=h.dn b q hl;exact⟨h1,h2,by rw[<-hk];exact akY h3⟩
 ·have hx:(match Bl n with | some r=>(σ.m r).map aW.up | none=>none)=some x:=hx;cases hd:Bl n with
  |none=>rw[hd]at hx;cases hx
  | some r=>
   rw[hd]at hx;have hx:(σ.m r).map aW.up=some x:=hx;cases hm:σ.m r with
   |none=>rw[hm]at hx;cases hx
   | some y=>
    rw[hm]at hx;injection hx with hx;subst hx;rw[akX hd];exact(h.root r y hm).up bg
 ·have hs:stays r=true:=by
   have h1:20000<=r:=Nat.le_of_not_lt λbC=>by rw[w0.low r bC]at hr;cases hr
   have h2:r<60000:=Nat.lt_of_not_le λhle=>by rw[h.dQ r (.inr hle)]at hr;cases hr
   unfold stays;rw[Nat.mod_eq_of_lt (mG h2 akV)];exact jV h1
  have hu:su r=r:=by simp[su,hs]
  have:=Df (ρ:=ρ) r;rw[hu]at this;rw[this];exact h.fix r l hr
theorem akZ{f:Nat}{c:vH}(h:r9 P f c):r9 P f (upI c):=by
 intro hi X N σ xs k r hr;obtain⟨az,y,h1,h2,h3⟩:=h X N σ.up (xs.map A.up) _ r hr
 refine⟨az.up,y.up,h1,λX' k'=>h2 X' _,λw0 ah ρ a w bQ hR hs hv=>?_⟩
 have bg:∀b k,ah b=some k->k≠[]:=λb k hk=>(hR.dn b k hk).2.2
 refine(h3 w0 _ _ a w bQ hR.up (by rw[eV];exact hs) λi=>?_).mono λe w' hp=>?_
 ·rw[dH];have:=hv i;cases hx:xs[i]? with
  |none=>trivial
  | some x=>
   rw[hx]at this;exact RA.up bg this
 ·obtain⟨v,aC,ρ',he,aO,hy⟩:=hp;exact⟨v,_,_,he,aO.up,RA.up (λb k hk=>(aO.dn b k hk).2.2) hy⟩
end
end Go.Proofs.YtcioagfjiccleaaGreat
namespace Go.Proofs.YtcioagfjiccleaaGreat
open Go.RowKit
set_option linter.unusedVariables false
def bB:Nat:=4611686018427387904
def Bm(c:Code)(id:Nat):Code:=match (occs c).lookup id with
 |some (.loop b)=>b
 |_=>.skip
def bN(fn:Func):Code:=fn.body.getD .skip
def q8(l:af (Nat×sg)):eS:=λf=>l.lookup f
def Dh(P:Program):af (Nat×sg)->Prop
 |[]=>True
 |(f,c)::l=>(enters P f/\Ty P f c)/\Dh P l
theorem zd{P:Program}:∀ (l:af (Nat×sg)),Dh P l->ig P (q8 l)
 |[],_=>λf c h=>by cases h
 | (f',c') :: l,⟨h1,h2⟩=>λf c h=>by
  have h':List.lookup f ((f',c')::l)=some c:=h;clear h;rw[List.lookup_cons]at h';split at h'
  ·rename_i he;have he:f=f':=by simpa using he
   subst he;injection h' with h';subst h';exact h1
  ·exact zd l h2 f c h'
def nT(l:af (Nat×uE)):oD:=λid=>l.lookup id
def UQ(P:Program)(N:Nat)(code:Code):af (Nat×uE)->Prop
 |[]=>True
 |(id,b)::l=>(∃c,(occs code).lookup id=some c/\C3 P N (.block id c) b)/\UQ P N code l
def ids(l:af (Nat×Code)):Bool:=(l.map (·.1)).all λi=>Nat.beq ((l.filter λp=>Nat.beq p.1 i).length) 1
theorem abp:∀ (l:af (Nat×Code)) (p:Nat×Code),(∀ q∈l,q.1=p.1->q=p)->p∈l->l.lookup p.1=some p.2
 |[],p,_,h=>by cases h
 | q :: l,p,hu,h=>by
  rw[List.lookup_cons];by_cases he:p.1=q.1
  ·have:q=p:=hu q (.head _) he.symm;subst this;simp
  ·have hb:(p.1==q.1)=false:=by simpa using he
   rw[hb];rcases iL.1 h with rfl|h
   ·exact absurd rfl he
   ·exact abp l p (λq hq=>hu q (.tail _ hq)) h
theorem ak0{l:af (Nat×Code)}(h:ids l=true){p q:Nat×Code}(hp:p∈l)(hq:q∈l)(he:q.1=p.1):q=p:=by
 have h1:=c9.1 h p.1 (List.mem_map_of_mem hp);have h1:=cz h1;have My:p∈l.filter λr=>Nat.beq r.1 p.1:=List.mem_filter.2 ⟨hp,by simp⟩
 have m0:q∈l.filter λr=>Nat.beq r.1 p.1:=List.mem_filter.2 ⟨hq,by simp[he]⟩
 obtain⟨z,hz⟩:=List.length_eq_one_iff.1 h1;rw[hz]at My m0;rw[List.mem_singleton.1 My,List.mem_singleton.1 m0]
theorem UR{P:Program}{N:Nat}{code:Code}(hi:ids (occs code)=true):∀ (l:af (Nat×uE)),UQ P N code l->qY P N (nT l) (occs code)
 |[],_=>λp hp b h=>by cases h
 | (id,b') :: l,⟨⟨c,hc,h1⟩,h2⟩=>λp hp b h=>by
  have h':List.lookup p.1 ((id,b')::l)=some b:=h;clear h;rw[List.lookup_cons]at h';split at h'
  ·rename_i he;have he:p.1=id:=by simpa using he
   injection h' with h';subst h';have:=abp (occs code) p (λq hq e=>ak0 hi hp hq e) hp;rw[he,hc]at this;injection this with this;rw[he,<-this];exact h1
  ·exact UR hi l h2 p hp b h'
theorem vT{P:Program}{N:Nat}{l:af (Nat×Code)}:qY P N (nT []) l:=λp hp b h=>by cases h
def ci(P:Program)(fn:Func)(ze:Nat)(l:af (Nat×sg)):vH:=abl P fn.ntmps (59000+ze) (q8 l) (bN fn) fn.results
theorem Jy{P:Program}{f:Nat}{fn:Func}(ze:Nat)(l:af (Nat×sg))(hf:P.funcs[f]?=some fn)(hl:Dh P l)(hb:fn.body=some (bN fn):=by kernel_rfl)(hN:Nat.ble fn.ntmps 20000=true:=by kernel_rfl)(hv:Nat.ble ze 900=true:=by kernel_rfl)(kV:(fn.name == "runtime.NumGoroutine")=false:=by kernel_rfl):enters P f/\r9 P f (ci P fn ze l):=
 akT hf hb rfl (cH hN) kV ⟨by omega,by have:=cH hv;omega⟩ (zd l hl)
def cj(P:Program)(fn:Func)(ze:Nat)(l:af (Nat×sg)):vH:=upI (ci P fn ze l)
theorem NV{P:Program}{f:Nat}{fn:Func}{ze:Nat}{l:af (Nat×sg)}(h:enters P f/\r9 P f (ci P fn ze l)):enters P f/\r9 P f (cj P fn ze l):=⟨h.1,akZ h.2⟩
theorem fnP{P:Program}{f:Nat}{fn:Func}{ai:af (Bool×TC)}{ro:af (Bool×TC×Nat)}{F:pL ai->aj (mg ro)}(N:Nat)(l:af (Nat×sg))(b:af (Nat×uE))(hf:P.funcs[f]?=some fn)(hl:Dh P l)(iV:qY P N (nT b) (occs (bN fn)))(hF:∀x,uJ P N (q8 l) (nT b) (bN fn) fn.results (jo ai x) (pF ro)=F x)(hb:fn.body=some (bN fn):=by kernel_rfl)(hN:fn.ntmps=N:=by kernel_rfl)(kV:(fn.name == "runtime.NumGoroutine")=false:=by kernel_rfl)(nR:Nat.ble ai.length N=true:=by kernel_rfl)(cQ:q7 ro=true:=by kernel_rfl):enters P f/\lD P f (aZ ai ro F):=akH hf hb hN kV nR cQ (zd l hl) iV hF
theorem Di{P:Program}{f:Nat}{fn:Func}{t:TC}{g:Nat}{F:af (T t)->aj (af (T t))}(N:Nat)(l:af (Nat×sg))(b:af (Nat×uE))(hf:P.funcs[f]?=some fn)(hl:Dh P l)(iV:qY P N (nT b) (occs (bN fn)))(hF:∀ x:af (T t),uJ P N (q8 l) (nT b) (bN fn) fn.results [(false,[.sl t 0 false x])] (pF [(false,.sl t,g)])=F x)
  (h0:uJ P N (q8 l) (nT b) (bN fn) fn.results [(false,[.nil])] (pF [(false,.sl t,g)])=some ([]:af (T t)):=by kernel_rfl) (h1:uJ P N (q8 l) (nT b) (bN fn) fn.results [(false,[.sl t 0 true []])] (pF [(false,.sl t,g)])=some ([]:af (T t)):=by kernel_rfl)
  (hb:fn.body=some (bN fn):=by kernel_rfl) (hN:fn.ntmps=N:=by kernel_rfl) (kV:(fn.name == "runtime.NumGoroutine")=false:=by kernel_rfl) (nR:Nat.ble 1 N=true:=by kernel_rfl) (cQ:q7 [(false,.sl t,g)]=true:=by kernel_rfl):enters P f/\lD P f (aZ [(false,.sl t)] [(false,.sl t,g)] λx=>bif kT x.1 then some ([]:af (T t))else F x.1):=akI hf hb hN kV nR cQ (zd l hl) iV hF h0 h1
theorem abq{P:Program}{id:Nat}{body:Code}{τ:cG}{kF:af (Nat×cG)}{F:τ.St->aj (τ.St⊕vQ kF)}{fuel:τ.St->Nat}(N:Nat)(l:af (Nat×sg))(b:af (Nat×uE))(hl:Dh P l)(iV:qY P N (nT b) (occs body))(hF:∀x,Fu P N (q8 l) (nT b) body τ kF x=F x):C3 P N (.block id (.loop body)) (NL id τ kF F fuel):=akE (zd l hl) iV hF
end Go.Proofs.YtcioagfjiccleaaGreat
namespace Go.Proofs.YtcioagfjiccleaaGreat
open Go.RowKit
set_option linter.unusedVariables false
abbrev W6 (x:Int):Int:=IntKind.i64.wrap x
/-! Words for what printed functions say often. -/
def xI{α β:Type}(l:af α)(i:Int)(k:α->aj β):aj β:=if h:0<=i/\i.toNat<l.length then (let e:=l[i.toNat]'h.2;k e)else none
def xC{α β:Type}(l:af α)(i:Int)(k:aj β):aj β:=if h:0<=i/\i.toNat<l.length then k else none
def cC{S A C:Type}(L:S->aj (S⊕(A⊕Empty)))(s:S)(f:A->aj C):aj C:=(iter L bB s).bind (Sum.elim f (λz=>nomatch z))
def cX{S A B C:Type}(L:S->aj (S⊕(A⊕(B⊕Empty))))(s:S)(f:A->aj C)(g:B->aj C):aj C:=(iter L bB s).bind (Sum.elim f (Sum.elim g (λz=>nomatch z)))
def xG{S E:Type}(s:S):aj (S⊕E):=some (.inl s)
def aH{S A E:Type}(v:A):aj (S⊕(A⊕E)):=some (.inr (.inl v))
def bI{S A B E:Type}(v:B):aj (S⊕(A⊕(B⊕E))):=some (.inr (.inr (.inl v)))
abbrev tI:Tm:=.lf (.int .i64)
abbrev tB:Tm:=.lf (.bool)
structure KC (P:Program) where
 f:Nat
 c:sg
 ok:enters P f/\Ty P f c
def KL{P:Program}(l:af (KC P)):af (Nat×sg):=l.map λk=>(k.f,k.c)
theorem Dj{P:Program}:∀ l:af (KC P),Dh P (KL l)
 |[]=>trivial
 |k::l=>⟨k.ok,Dj l⟩
structure BK (P:Program) (N:Nat) (code:Code) where
 id:Nat
 b:uE
 ok:C3 P N (.block id (.loop (Bm code id))) b
section
variable {P:Program} {f N:Nat} {fn:Func} {code:Code}
def BL(l:af (BK P N code)):af (Nat×uE):=l.map λk=>(k.id,k.b)
def BC(l:af (BK P N code)):af (aj Code):=l.map λk=>(occs code).lookup k.id
def BD(l:af (BK P N code)):af (aj Code):=l.map λk=>some (.loop (Bm code k.id))
theorem abr:∀ l:af (BK P N code),BC l=BD l->UQ P N code (BL l)
 |[],_=>trivial
 | k :: l,h=>by
  unfold BC BD at h;rw[kN,kN]at h;injection h with h1 h2;exact⟨⟨_,h1,k.ok⟩,abr l h2⟩
theorem BT(l:af (BK P N code))(hc:BC l=BD l)(hi:ids (occs code)=true):qY P N (nT (BL l)) (occs code):=UR hi _ (abr l hc)
def lB(id:Nat)(τ:cG)(kF:af (Nat×cG))(F:τ.St->aj (τ.St⊕vQ kF)):uE:=NL id τ kF F λ_=>bB
theorem lp{body:Code}{id:Nat}{τ:cG}{kF:af (Nat×cG)}{F:τ.St->aj (τ.St⊕vQ kF)}(l:af (KC P))(hF:∀x,Fu P N (q8 (KL l)) (nT []) body τ kF x=F x:=by intro x;kernel_rfl):C3 P N (.block id (.loop body)) (lB id τ kF F):=abq N (KL l) [] (Dj l) vT hF
theorem lq{id:Nat}{τ:cG}{kF:af (Nat×cG)}{F:τ.St->aj (τ.St⊕vQ kF)}(l:af (KC P))(b:af (BK P N code))(hc:BC b=BD b:=by kernel_rfl)(hi:ids (occs code)=true:=by kernel_rfl)(hF:∀x,Fu P N (q8 (KL l)) (nT (BL b)) code τ kF x=F x:=by intro x;kernel_rfl):C3 P N (.block id (.loop code)) (lB id τ kF F):=abq N (KL l) (BL b) (Dj l) (BT b hc hi) hF
theorem kp{ai:af (Bool×TC)}{ro:af (Bool×TC×Nat)}{F:pL ai->aj (mg ro)}(N:Nat)(l:af (KC P))(hf:P.funcs[f]?=some fn)(hF:∀x,uJ P N (q8 (KL l)) (nT []) (bN fn) fn.results (jo ai x) (pF ro)=F x:=by intro x;kernel_rfl)(hb:fn.body=some (bN fn):=by kernel_rfl)(hN:fn.ntmps=N:=by kernel_rfl)(kV:(fn.name == "runtime.NumGoroutine")=false:=by kernel_rfl)(nR:Nat.ble ai.length N=true:=by kernel_rfl)(cQ:q7 ro=true:=by kernel_rfl):enters P f/\lD P f (aZ ai ro F):=fnP N (KL l) [] hf (Dj l) vT hF hb hN kV nR cQ
theorem kq{ai:af (Bool×TC)}{ro:af (Bool×TC×Nat)}{F:pL ai->aj (mg ro)}(N:Nat)(l:af (KC P))(b:af (BK P N (bN fn)))(hf:P.funcs[f]?=some fn)(hc:BC b=BD b:=by kernel_rfl)(hi:ids (occs (bN fn))=true:=by kernel_rfl)(hF:∀x,uJ P N (q8 (KL l)) (nT (BL b)) (bN fn) fn.results (jo ai x) (pF ro)=F x:=by intro x;kernel_rfl)(hb:fn.body=some (bN fn):=by kernel_rfl)(hN:fn.ntmps=N:=by kernel_rfl)(kV:(fn.name == "runtime.NumGoroutine")=false:=by kernel_rfl)(nR:Nat.ble ai.length N=true:=by kernel_rfl)(cQ:q7 ro=true:=by kernel_rfl):enters P f/\lD P f (aZ ai ro F):=fnP N (KL l) (BL b) hf (Dj l) (BT b hc hi) hF hb hN kV nR cQ
theorem km{ps:af PK}{ro:af (Bool×TC×Nat)}{F:nL ps->aj (mg ro×vB (fC ps))}(N:Nat)(l:af (KC P))(hf:P.funcs[f]?=some fn)(hF:∀x,Jr P N (q8 (KL l)) (nT []) (bN fn) fn.results (qR ps x) (m8 ps 0 x) (NS (fC ps) ro)=F x:=by intro x;kernel_rfl)(hb:fn.body=some (bN fn):=by kernel_rfl)(hN:fn.ntmps=N:=by kernel_rfl)(kV:(fn.name == "runtime.NumGoroutine")=false:=by kernel_rfl)(nR:Nat.ble ps.length N=true:=by kernel_rfl)(uK:Nat.ble N 20000=true:=by kernel_rfl)(cQ:q7 ro=true:=by kernel_rfl):enters P f/\wX P f ⟨ps,ro,F⟩:=abc hf hb hN kV nR uK cQ (zd _ (Dj l)) vT hF
theorem kn{ps:af PK}{ro:af (Bool×TC×Nat)}{F:nL ps->aj (mg ro×vB (fC ps))}(N:Nat)(l:af (KC P))(b:af (BK P N (bN fn)))(hf:P.funcs[f]?=some fn)(hc:BC b=BD b:=by kernel_rfl)(hi:ids (occs (bN fn))=true:=by kernel_rfl)(hF:∀x,Jr P N (q8 (KL l)) (nT (BL b)) (bN fn) fn.results (qR ps x) (m8 ps 0 x) (NS (fC ps) ro)=F x:=by intro x;kernel_rfl)(hb:fn.body=some (bN fn):=by kernel_rfl)(hN:fn.ntmps=N:=by kernel_rfl)(kV:(fn.name == "runtime.NumGoroutine")=false:=by kernel_rfl)(nR:Nat.ble ps.length N=true:=by kernel_rfl)(uK:Nat.ble N 20000=true:=by kernel_rfl)(cQ:q7 ro=true:=by kernel_rfl):enters P f/\wX P f ⟨ps,ro,F⟩:=abc hf hb hN kV nR uK cQ (zd _ (Dj l)) (BT b hc hi) hF
end
end Go.Proofs.YtcioagfjiccleaaGreat
