/-
  Running the program over pure contents, and that it follows (part Z). Nothing here is a claim.
-/
import Derived.Test.YtecofnkoloihpaaGreatV5
set_option linter.unusedSimpArgs false
namespace Go.Proofs.YtecofnkoloihpaaGreat
open Go.RowKit
set_option linter.unusedVariables false
def rF:Nat:=1000000000
def stays(n:Nat):Bool:=Nat.ble 20000 (n % rF)
theorem anY:60000<=rF:=cT rfl
def rG(n:Nat):Nat:=bif stays n then n else n+rF
def As(n:Nat):ak Nat:=bif stays n then some n else bif Nat.ble rF n && !stays (n-rF)then some (n-rF)else none
def nK:af Nat->af Nat
 |[]=>[]
 |[r]=>[rG r]
 |x::y::k=>x::nK (y::k)
def Lf.up:Lf->Lf
 |.v x=>.v x
 |.own k=>.own (nK k)
 |.dead=>.dead
def A.up:A->A
 |.undef=>.undef
 |.skip=>.skip
 |.lf x=>.lf x.up
 |.agg cs=>.agg (cs.map Lf.up)
 |.cU xs=>.cU (xs.map λp=>(p.1,p.2.map Lf.up))
 |.ptr k=>.ptr (nK k)
 |.aK r j=>.aK (rG r) j
 |.je cs=>.je cs
 |.mm f cs=>.mm f cs
 |.pk r n=>.pk (rG r) n
 |.view k s i j=>.view (nK k) s i j
 |.fn f cap=>.fn f (cap.map λp=>(rG p.1,p.2))
def bg.up:bg->bg
 |.aC cs=>.aC (cs.map Lf.up)
 |.sl y=>.sl y
 |.mp l=>.mp l
 |.gh xs=>.gh (xs.map A.up)
def S.up(σ:S):S:=⟨λk=>(σ.t k).up,λn=>match As n with
 |some r=>(σ.m r).map bg.up
 |none=>none⟩
def upI(c:uJ):uJ:=⟨λX N σ xs k=>c.run X N σ.up (xs.map A.up) λaA y=>k aA.up y.up⟩
section
variable {P:Program} {w w':World} {w0:Wd} {B N:Nat} {aj aD:bM} {ρ ρ':Nat->Loc} {σ:S} {a:Act} {X:Type}
theorem anZ(r:Nat):As (rG r)=some r:=by
 unfold As rG;cases h:stays r with
 |true=>simp only[aq,h]
 | false=>
  have h2:stays (r+rF)=false:=by
   unfold stays at h ⊢;rw[Nat.add_mod_right];exact h
  have h3:Nat.ble rF (r+rF)=true:=mJ (Nat.le_add_left _ _);have h4:r+rF-rF=r:=Nat.add_sub_cancel r rF;rw[au,h2,au,h3,h4,h];rfl
theorem an0{n r:Nat}(h:As n=some r):n=rG r:=by
 unfold As at h;cases hs:stays n with
 | true=>
  rw[hs,aq]at h;injection h with h;subst h;simp[rG,hs]
 | false=>
  rw[hs,au]at h;cases hc:(Nat.ble rF n && !stays (n-rF))with
  |false=>rw[hc]at h;cases h
  | true=>
   rw[hc,aq]at h;have h:=Option.some.inj h;rw[bx]at hc;have h1:=cT hc.1;have h2:stays r=false:=by rw[<-h];simpa using hc.2
   simp only[rG,h2,au];omega
def oa(aj:bM):bM:=λb=>(aj b).map nK
def wo(ρ:Nat->Loc):Nat->Loc:=λn=>match As n with
 |some r=>ρ r
 |none=>ρ n
theorem Cn(r:Nat):wo ρ (rG r)=ρ r:=by unfold wo;rw[anZ]
theorem an1{k:af Nat}(h:k≠[]):nK k≠[]:=by
 match k with
 |[]=>exact absurd rfl h
 |[r]=>simp[nK]
 |x::y::k=>simp[nK]
theorem Co{x:Nat}{k:af Nat}(h:k≠[]):nK (x :: k)=x :: nK k:=by
 match k with
 |[]=>exact absurd rfl h
 |y::k=>rfl
theorem acC(x y:Nat)(k:af Nat):∃ y' k',nK (x :: y :: k)=x :: y' :: k':=by
 rw[Co (by simp)]
 match k with
 |[]=>exact⟨_,_,rfl⟩
 |z::k=>exact⟨y,_,rfl⟩
theorem Vp:∀ (k:af Nat) (ad:Addr),addrAt w aj ρ k=some ad->addrAt w (oa aj) (wo ρ) (nK k)=some ad
 |[],_,h=>by simp[addrAt]at h
 |[_],_,h=>by simp[addrAt]at h
 |[_,_],_,h=>by simp[addrAt]at h
 |[_,_,_],_,h=>by simp[addrAt]at h
 | [j,i,s,r],ad,h=>by
  simp only[addrAt]at h;simp only[nK,addrAt,Cn];split at h
  ·rename_i b n c hr;split at h
   next hl=>rw[bB (by simp[oa,hl,nK])];exact h
   ·cases h
  ·cases h
 | j :: i :: s :: x :: y :: q,ad,h=>by
  simp only[addrAt]at h;split at h
  ·rename_i b n c hr;split at h
   ·rename_i hl;cases ha:addrAt w aj ρ (x :: y :: q)with
    |none=>rw[ha]at hr;cases hr
    | some p5=>
     have ih:=Vp (x::y::q) p5 ha;have e:oa aj b=some (nK (x::y::q)):=by simp[oa,hl]
     rw[Co (by simp),Co (by simp),Co (by simp)];rw[ha]at hr;obtain⟨y',q',hk⟩:=acC x y q;rw[hk]at ih e ⊢;simp only[addrAt,ih,hr,e,if_true];exact h
   ·cases h
  ·cases h
theorem acD{k:af Nat}{u:Value}(h:cJ w aj ρ k=some u):cJ w (oa aj) (wo ρ) (nK k)=some u:=by
 match k with
 |[]=>simp[cJ,addrAt]at h
 | [r]=>
  simp only[cJ]at h;simp only[nK,cJ,Cn];exact h
 | x :: y :: k=>
  simp only[cJ]at h;cases ha:addrAt w aj ρ (x::y::k)with
  |none=>rw[ha]at h;cases h
  | some ad=>
   have:=Vp _ _ ha;obtain⟨y',q',hk⟩:=acC x y k;rw[hk]at this ⊢;simp only[cJ,this];rw[ha]at h;exact h
theorem Vq{b:Nat}(h:aj b=none):oa aj b=none:=by simp[oa,h]
theorem RV.up(br:∀ b k,aj b=some k->k≠[]){k:af Nat}{x:V}{v:Value}(h:RV w B aj k x v):RV w B (oa aj) (nK k) x v:=by
 induction h with
 |int=>exact .int _ _ _
 |bool=>exact .bool _ _
 |str=>exact .str _ _
 |nil=>exact .nil _
 |c9=>exact .c9 _ _ _
 |dm q t o A c ho=>exact .dm _ _ _ _ _ ho
 |dD q t o A c ho=>exact .dD _ _ _ _ _ ho
 | az q t o qn l b off cap u ho hl hb h1 eA hc hr ih=>
  exact .az _ _ _ _ _ _ _ _ u ho (Vq hl) hb h1 eA hc ih
 | own q t o qn l b cap cs u hl hh hs hn hm hc hr ih=>
  have hq:=br b q hl
  refine .own _ _ _ _ _ _ _ cs u (by simp[oa,hl]) hh hs hn hm hc λi h j x hx=>?_
  have:=ih i h j x hx;rw[Co (by simp),Co (by simp),Co hq]at this;exact this
theorem dY.up(br:∀ b k,aj b=some k->k≠[]){x:Lf}{u:Value}(h:dY w B aj ρ x u):dY w B (oa aj) (wo ρ) x.up u:=by
 cases x with
 |v x=>exact⟨h.1,RV.up br h.2⟩
 |own k=>exact⟨h.1,acD h.2⟩
 |dead=>trivial
theorem eG.up(br:∀ b k,aj b=some k->k≠[]){cs:af Lf}{us:Array Value}(h:eG w B aj ρ cs us):eG w B (oa aj) (wo ρ) (cs.map Lf.up) us:=by
 refine⟨by rw[gB];exact h.1,λj x hx=>?_⟩
 rw[dP]at hx;cases hz:cs[j]? with
 |none=>rw[hz]at hx;cases hx
 | some z=>
  rw[hz]at hx;injection hx with hx;subst hx;obtain⟨u,h1,h2⟩:=h.2 j z hz;exact⟨u,h1,h2.up br⟩
theorem RP.up(br:∀ b k,aj b=some k->k≠[]){p:Bool×af Lf}{u:Value}(h:RP w B aj ρ p u):RP w B (oa aj) (wo ρ) (p.1,p.2.map Lf.up) u:=by
 obtain⟨b,cs⟩:=p;cases b with
 | true=>
  obtain⟨us,rfl,h⟩:=h;exact⟨us,rfl,eG.up br h⟩
 |false=>exact eG.up br h
theorem RA.up(br:∀ b k,aj b=some k->k≠[]){x:A}{u:Value}(h:RA w B aj ρ x u):RA w B (oa aj) (wo ρ) x.up u:=by
 cases x with
 |undef=>trivial
 |skip=>exact h
 |lf x=>exact dY.up br h
 |agg cs=>exact RP.up br (p:=(true,cs)) h
 | cU xs=>
  obtain⟨us,rfl,h1,h2⟩:=h
  refine⟨us,rfl,by rw[gB];exact h1,λj p hp=>?_⟩
  rw[dP]at hp;cases hz:xs[j]? with
  |none=>rw[hz]at hp;cases hp
  | some z=>
   rw[hz]at hp;injection hp with hp;subst hp;obtain⟨v,h3,h4⟩:=h2 j z hz;exact⟨v,h3,h4.up br⟩
 | ptr k=>
  obtain⟨ad,rfl,h⟩:=h;exact⟨ad,rfl,Vp _ _ h⟩
 | aK r j=>
  obtain⟨b,off,h1,h2⟩:=h;exact⟨b,off,(Cn r).trans h1,h2⟩
 | je cs=>
  obtain⟨b,off,g1,g2,g3,g4⟩:=h
  refine⟨b,off,g1,g2,Vq g3,λj x hx=>?_⟩
  obtain⟨f1,v,f2,f3⟩:=g4 j x hx;exact⟨f1,v,f2,RV.up br f3⟩
 | mm f cs=>
  obtain⟨pv,e0,h⟩:=h;refine⟨pv,e0,?_⟩;obtain⟨b,off,g1,g2,g3,g4⟩:=h
  refine⟨b,off,g1,g2,Vq g3,λj x hx=>?_⟩
  obtain⟨f1,v,f2,f3⟩:=g4 j x hx;exact⟨f1,v,f2,RV.up br f3⟩
 | pk r n=>
  obtain⟨b,h1,h2⟩:=h;exact⟨b,(Cn r).trans h1,h2⟩
 | view k s i j=>
  obtain⟨A,n,c,h1,h2⟩:=h;exact⟨A,n,c,acD h1,h2⟩
 | fn f cap=>
  obtain⟨vs,rfl,h1,h2⟩:=h
  refine⟨vs,rfl,by rw[gB];exact h1,λj p hp=>?_⟩
  rw[dP]at hp;cases hz:cap[j]? with
  |none=>rw[hz]at hp;cases hp
  | some z=>
   rw[hz]at hp;injection hp with hp;subst hp;obtain⟨b,off,h3,h4⟩:=h2 j z hz;exact⟨b,off,(Cn _).trans h3,h4⟩
theorem fz.up(br:∀ b k,aj b=some k->k≠[]){r:Nat}{x:bg}(h:fz w B aj ρ r x):fz w B (oa aj) (wo ρ) (rG r) x.up:=by
 have aO:=Cn (ρ:=ρ) r;have hl:∀{b},aj b=some [r]->oa aj b=some [rG r]:=λh=>by simp[oa,h,nK]
 cases h with
 | aC b off cells e cs us h1 h2 hh hs hc=>
  refine .aC b off cells e _ us (aO.trans h1) (hl h2) hh (by rw[gB];exact hs) λj x hx=>?_
  rw[dP]at hx;cases hz:cs[j]? with
  |none=>rw[hz]at hx;cases hx
  | some z=>
   rw[hz]at hx;injection hx with hx;subst hx;exact⟨(hc j z hz).1,(hc j z hz).2.up br⟩
 |sl v y h1 h2=>exact .sl v y (aO.trans h1) (RV.up br h2)
 |mp b c es l h1 h2 hh he=>exact .mp b c es l (aO.trans h1) (hl h2) hh he
 | gh us xs h1 hx=>
  refine .gh us _ (aO.trans h1) λj x hj=>?_
  rw[dP]at hj;cases hz:xs[j]? with
  |none=>rw[hz]at hj;cases hj
  | some z=>
   rw[hz]at hj;injection hj with hj;subst hj;exact RA.up br (hx j z hz)
theorem Rl.up(h:Rl w0 N aj ρ σ a w):Rl w0 N (oa aj) (wo ρ) σ.up a w:=by
 have br:∀b k,aj b=some k->k≠[]:=λb k hk=>(h.dF b k hk).2.2
 refine⟨h.below,λb k hk=>?_,λn x hx=>?_,λk=>RA.up br (h.tmp k),h.size,h.defers,λr l hr=>?_,h.ef⟩
 ·unfold oa at hk;cases hl:aj b with
  |none=>rw[hl]at hk;cases hk
  | some q=>
   rw[hl]at hk;injection hk with hk;obtain⟨h1,h2,h3⟩:=h.dF b q hl;exact⟨h1,h2,by rw[<-hk];exact an1 h3⟩
 ·have hx:(match As n with | some r=>(σ.m r).map bg.up | none=>none)=some x:=hx;cases hd:As n with
  |none=>rw[hd]at hx;cases hx
  | some r=>
   rw[hd]at hx;have hx:(σ.m r).map bg.up=some x:=hx;cases hm:σ.m r with
   |none=>rw[hm]at hx;cases hx
   | some y=>
    rw[hm]at hx;injection hx with hx;subst hx;rw[an0 hd];exact(h.root r y hm).up br
 ·have hs:stays r=true:=by
   have h1:20000<=r:=Nat.le_of_not_lt λbW=>by rw[w0.low r bW]at hr;cases hr
   have h2:r<60000:=Nat.lt_of_not_le λhle=>by rw[h.ef r (.inr hle)]at hr;cases hr
   unfold stays;rw[Nat.mod_eq_of_lt (mg h2 anY)];exact mJ h1
  have hu:rG r=r:=by simp[rG,hs]
  have:=Cn (ρ:=ρ) r;rw[hu]at this;rw[this];exact h.fix r l hr
theorem an2{f:Nat}{c:uJ}(h:mB P f c):mB P f (upI c):=by
 intro hi X N σ xs k r hr;obtain⟨aA,y,h1,h2,h3⟩:=h X N σ.up (xs.map A.up) _ r hr
 refine⟨aA.up,y.up,h1,λX' k'=>h2 X' _,λw0 aj ρ a w cq hR hs hv=>?_⟩
 have br:∀b k,aj b=some k->k≠[]:=λb k hk=>(hR.dF b k hk).2.2
 refine(h3 w0 _ _ a w cq hR.up (by rw[gB];exact hs) λi=>?_).mono λe w' hp=>?_
 ·rw[dP];have:=hv i;cases hx:xs[i]? with
  |none=>trivial
  | some x=>
   rw[hx]at this;exact RA.up br this
 ·obtain⟨v,aD,ρ',he,aV,hy⟩:=hp;exact⟨v,_,_,he,aV.up,RA.up (λb k hk=>(aV.dF b k hk).2.2) hy⟩
end
end Go.Proofs.YtecofnkoloihpaaGreat
namespace Go.Proofs.YtecofnkoloihpaaGreat
open Go.RowKit
set_option linter.unusedVariables false
def bA:Nat:=4611686018427387904
def uT(c:Code)(id:Nat):Code:=match (occs c).lookup id with
 |some (.loop b)=>b
 |_=>.skip
def bz(fn:Func):Code:=fn.body.getD .skip
def rH(l:af (Nat×ru)):fo:=λf=>l.lookup f
def Cp(P:Program):af (Nat×ru)->Prop
 |[]=>True
 |(f,c)::l=>(enters P f/\Uc P f c)/\Cp P l
theorem At{P:Program}:∀ (l:af (Nat×ru)),Cp P l->ir P (rH l)
 |[],_=>λf c h=>by cases h
 | (f',c') :: l,⟨h1,h2⟩=>λf c h=>by
  have h':List.lookup f ((f',c')::l)=some c:=h;clear h;rw[List.lookup_cons]at h';split at h'
  ·rename_i he;have he:f=f':=by simpa using he
   subst he;injection h' with h';subst h';exact h1
  ·exact At l h2 f c h'
def oc(l:af (Nat×tL)):oQ:=λid=>l.lookup id
def Vr(P:Program)(N:Nat)(code:Code):af (Nat×tL)->Prop
 |[]=>True
 |(id,b)::l=>(∃c,(occs code).lookup id=some c/\Ca P N (.block id c) b)/\Vr P N code l
def ids(l:af (Nat×Code)):Bool:=(l.map (·.1)).all λi=>Nat.beq ((l.filter λp=>Nat.beq p.1 i).length) 1
theorem acE:∀ (l:af (Nat×Code)) (p:Nat×Code),(∀ q∈l,q.1=p.1->q=p)->p∈l->l.lookup p.1=some p.2
 |[],p,_,h=>by cases h
 | q :: l,p,hu,h=>by
  rw[List.lookup_cons];by_cases he:p.1=q.1
  ·have:q=p:=hu q (.head _) he.symm;subst this;simp
  ·have hb:(p.1==q.1)=false:=by simpa using he
   rw[hb];rcases jq.1 h with rfl|h
   ·exact absurd rfl he
   ·exact acE l p (λq hq=>hu q (.tail _ hq)) h
theorem an3{l:af (Nat×Code)}(h:ids l=true){p q:Nat×Code}(hp:p∈l)(hq:q∈l)(he:q.1=p.1):q=p:=by
 have h1:=dQ.1 h p.1 (List.mem_map_of_mem hp);have h1:=cr h1;have MB:p∈l.filter λr=>Nat.beq r.1 p.1:=List.mem_filter.2 ⟨hp,by simp⟩
 have mQ:q∈l.filter λr=>Nat.beq r.1 p.1:=List.mem_filter.2 ⟨hq,by simp[he]⟩
 obtain⟨z,hz⟩:=List.length_eq_one_iff.1 h1;rw[hz]at MB mQ;rw[List.mem_singleton.1 MB,List.mem_singleton.1 mQ]
theorem acF{P:Program}{N:Nat}{code:Code}(hi:ids (occs code)=true):∀ (l:af (Nat×tL)),Vr P N code l->rz P N (oc l) (occs code)
 |[],_=>λp hp b h=>by cases h
 | (id,b') :: l,⟨⟨c,hc,h1⟩,h2⟩=>λp hp b h=>by
  have h':List.lookup p.1 ((id,b')::l)=some b:=h;clear h;rw[List.lookup_cons]at h';split at h'
  ·rename_i he;have he:p.1=id:=by simpa using he
   injection h' with h';subst h';have:=acE (occs code) p (λq hq e=>an3 hi hp hq e) hp;rw[he,hc]at this;injection this with this;rw[he,<-this];exact h1
  ·exact acF hi l h2 p hp b h'
theorem uU{P:Program}{N:Nat}{l:af (Nat×Code)}:rz P N (oc []) l:=λp hp b h=>by cases h
def ci(P:Program)(fn:Func)(yb:Nat)(l:af (Nat×ru)):uJ:=acA P fn.ntmps (59000+yb) (rH l) (bz fn) fn.results
theorem tO{P:Program}{f:Nat}{fn:Func}(yb:Nat)(l:af (Nat×ru))(hf:P.funcs[f]?=some fn)(hl:Cp P l)(hb:fn.body=some (bz fn):=by kernel_rfl)(hN:Nat.ble fn.ntmps 20000=true:=by kernel_rfl)(hv:Nat.ble yb 900=true:=by kernel_rfl)(lG:(fn.name == "runtime.NumGoroutine")=false:=by kernel_rfl):enters P f/\mB P f (ci P fn yb l):=
 anW hf hb rfl (cT hN) lG ⟨by omega,by have:=cT hv;omega⟩ (At l hl)
def cj(P:Program)(fn:Func)(yb:Nat)(l:af (Nat×ru)):uJ:=upI (ci P fn yb l)
theorem uV{P:Program}{f:Nat}{fn:Func}{yb:Nat}{l:af (Nat×ru)}(h:enters P f/\mB P f (ci P fn yb l)):enters P f/\mB P f (cj P fn yb l):=⟨h.1,an2 h.2⟩
theorem fnP{P:Program}{f:Nat}{fn:Func}{ai:af (Bool×TC)}{ro:af (Bool×TC×Nat)}{F:oV ai->ak (lR ro)}(N:Nat)(l:af (Nat×ru))(b:af (Nat×tL))(hf:P.funcs[f]?=some fn)(hl:Cp P l)(iS:rz P N (oc b) (occs (bz fn)))(hF:∀x,tN P N (rH l) (oc b) (bz fn) fn.results (iT ai x) (oK ro)=F x)(hb:fn.body=some (bz fn):=by kernel_rfl)(hN:fn.ntmps=N:=by kernel_rfl)(lG:(fn.name == "runtime.NumGoroutine")=false:=by kernel_rfl)(nJ:Nat.ble ai.length N=true:=by kernel_rfl)(cZ:qy ro=true:=by kernel_rfl):enters P f/\kz P f (aE ai ro F):=anL hf hb hN lG nJ cZ (At l hl) iS hF
theorem Cq{P:Program}{f:Nat}{fn:Func}{t:TC}{g:Nat}{F:af (T t)->ak (af (T t))}(N:Nat)(l:af (Nat×ru))(b:af (Nat×tL))(hf:P.funcs[f]?=some fn)(hl:Cp P l)(iS:rz P N (oc b) (occs (bz fn)))(hF:∀ x:af (T t),tN P N (rH l) (oc b) (bz fn) fn.results [(false,[.sl t 0 false x])] (oK [(false,.sl t,g)])=F x)
  (h0:tN P N (rH l) (oc b) (bz fn) fn.results [(false,[.nil])] (oK [(false,.sl t,g)])=some ([]:af (T t)):=by kernel_rfl) (h1:tN P N (rH l) (oc b) (bz fn) fn.results [(false,[.sl t 0 true []])] (oK [(false,.sl t,g)])=some ([]:af (T t)):=by kernel_rfl)
  (hb:fn.body=some (bz fn):=by kernel_rfl) (hN:fn.ntmps=N:=by kernel_rfl) (lG:(fn.name == "runtime.NumGoroutine")=false:=by kernel_rfl) (nJ:Nat.ble 1 N=true:=by kernel_rfl) (cZ:qy [(false,.sl t,g)]=true:=by kernel_rfl):enters P f/\kz P f (aE [(false,.sl t)] [(false,.sl t,g)] λx=>bif ku x.1 then some ([]:af (T t))else F x.1):=anM hf hb hN lG nJ cZ (At l hl) iS hF h0 h1
def kD{α β:Type}(a:α)(f:α->β):β:=f a
theorem acG{P:Program}{id:Nat}{body:Code}{τ:dJ}{jU:af (Nat×dJ)}{F:τ.St->ak (τ.St⊕uR jU)}{fuel:τ.St->Nat}(N:Nat)(l:af (Nat×ru))(b:af (Nat×tL))(hl:Cp P l)(iS:rz P N (oc b) (occs body))(hF:∀x,EE P N (rH l) (oc b) body τ jU x=F x):Ca P N (.block id (.loop body)) (NH id τ jU F fuel):=anI (At l hl) iS hF
end Go.Proofs.YtecofnkoloihpaaGreat
namespace Go.Proofs.YtecofnkoloihpaaGreat
open Go.RowKit
set_option linter.unusedVariables false
abbrev W6 (x:Int):Int:=IntKind.i64.wrap x
/-! Words for what printed functions say often. -/
def xI{α β:Type}(l:af α)(i:Int)(k:α->ak β):ak β:=if h:0<=i/\i.toNat<l.length then (let e:=l[i.toNat]'h.2;k e)else none
def xC{α β:Type}(l:af α)(i:Int)(k:ak β):ak β:=if h:0<=i/\i.toNat<l.length then k else none
def bQ{S A C:Type}(L:S->ak (S⊕(A⊕Empty)))(s:S)(f:A->ak C):ak C:=(iter L bA s).bind (Sum.elim f (λz=>nomatch z))
def bR{S A B C:Type}(L:S->ak (S⊕(A⊕(B⊕Empty))))(s:S)(f:A->ak C)(g:B->ak C):ak C:=(iter L bA s).bind (Sum.elim f (Sum.elim g (λz=>nomatch z)))
def xG{S E:Type}(s:S):ak (S⊕E):=some (.inl s)
def ax{S A E:Type}(v:A):ak (S⊕(A⊕E)):=some (.inr (.inl v))
def bu{S A B E:Type}(v:B):ak (S⊕(A⊕(B⊕E))):=some (.inr (.inr (.inl v)))
abbrev tI:Tm:=.lf (.int .i64)
abbrev tB:Tm:=.lf (.bool)
structure KC (P:Program) where
 f:Nat
 c:ru
 ok:enters P f/\Uc P f c
def KL{P:Program}(l:af (KC P)):af (Nat×ru):=l.map λk=>(k.f,k.c)
theorem Cr{P:Program}:∀ l:af (KC P),Cp P (KL l)
 |[]=>trivial
 |k::l=>⟨k.ok,Cr l⟩
structure BK (P:Program) (N:Nat) (code:Code) where
 id:Nat
 b:tL
 ok:Ca P N (.block id (.loop (uT code id))) b
section
variable {P:Program} {f N:Nat} {fn:Func} {code:Code}
def BL(l:af (BK P N code)):af (Nat×tL):=l.map λk=>(k.id,k.b)
def BC(l:af (BK P N code)):af (ak Code):=l.map λk=>(occs code).lookup k.id
def BD(l:af (BK P N code)):af (ak Code):=l.map λk=>some (.loop (uT code k.id))
theorem acH:∀ l:af (BK P N code),BC l=BD l->Vr P N code (BL l)
 |[],_=>trivial
 | k :: l,h=>by
  unfold BC BD at h;rw[lK,lK]at h;injection h with h1 h2;exact⟨⟨_,h1,k.ok⟩,acH l h2⟩
theorem BT(l:af (BK P N code))(hc:BC l=BD l)(hi:ids (occs code)=true):rz P N (oc (BL l)) (occs code):=acF hi _ (acH l hc)
def lB(id:Nat)(τ:dJ)(jU:af (Nat×dJ))(F:τ.St->ak (τ.St⊕uR jU)):tL:=NH id τ jU F λ_=>bA
theorem lp{body:Code}{id:Nat}{τ:dJ}{jU:af (Nat×dJ)}{F:τ.St->ak (τ.St⊕uR jU)}(l:af (KC P))(hF:∀x,EE P N (rH (KL l)) (oc []) body τ jU x=F x:=by intro x;kernel_rfl):Ca P N (.block id (.loop body)) (lB id τ jU F):=acG N (KL l) [] (Cr l) uU hF
theorem lq{id:Nat}{τ:dJ}{jU:af (Nat×dJ)}{F:τ.St->ak (τ.St⊕uR jU)}(l:af (KC P))(b:af (BK P N code))(hc:BC b=BD b:=by kernel_rfl)(hi:ids (occs code)=true:=by kernel_rfl)(hF:∀x,EE P N (rH (KL l)) (oc (BL b)) code τ jU x=F x:=by intro x;kernel_rfl):Ca P N (.block id (.loop code)) (lB id τ jU F):=acG N (KL l) (BL b) (Cr l) (BT b hc hi) hF
theorem kp{ai:af (Bool×TC)}{ro:af (Bool×TC×Nat)}{F:oV ai->ak (lR ro)}(N:Nat)(l:af (KC P))(hf:P.funcs[f]?=some fn)(hF:∀x,tN P N (rH (KL l)) (oc []) (bz fn) fn.results (iT ai x) (oK ro)=F x:=by intro x;kernel_rfl)(hb:fn.body=some (bz fn):=by kernel_rfl)(hN:fn.ntmps=N:=by kernel_rfl)(lG:(fn.name == "runtime.NumGoroutine")=false:=by kernel_rfl)(nJ:Nat.ble ai.length N=true:=by kernel_rfl)(cZ:qy ro=true:=by kernel_rfl):enters P f/\kz P f (aE ai ro F):=fnP N (KL l) [] hf (Cr l) uU hF hb hN lG nJ cZ
theorem kq{ai:af (Bool×TC)}{ro:af (Bool×TC×Nat)}{F:oV ai->ak (lR ro)}(N:Nat)(l:af (KC P))(b:af (BK P N (bz fn)))(hf:P.funcs[f]?=some fn)(hc:BC b=BD b:=by kernel_rfl)(hi:ids (occs (bz fn))=true:=by kernel_rfl)(hF:∀x,tN P N (rH (KL l)) (oc (BL b)) (bz fn) fn.results (iT ai x) (oK ro)=F x:=by intro x;kernel_rfl)(hb:fn.body=some (bz fn):=by kernel_rfl)(hN:fn.ntmps=N:=by kernel_rfl)(lG:(fn.name == "runtime.NumGoroutine")=false:=by kernel_rfl)(nJ:Nat.ble ai.length N=true:=by kernel_rfl)(cZ:qy ro=true:=by kernel_rfl):enters P f/\kz P f (aE ai ro F):=fnP N (KL l) (BL b) hf (Cr l) (BT b hc hi) hF hb hN lG nJ cZ
theorem km{ps:af PK}{ro:af (Bool×TC×Nat)}{F:oL ps->ak (lR ro×vX (gq ps))}(N:Nat)(l:af (KC P))(hf:P.funcs[f]?=some fn)(hF:∀x,Io P N (rH (KL l)) (oc []) (bz fn) fn.results (qj ps x) (mU ps 0 x) (NO (gq ps) ro)=F x:=by intro x;kernel_rfl)(hb:fn.body=some (bz fn):=by kernel_rfl)(hN:fn.ntmps=N:=by kernel_rfl)(lG:(fn.name == "runtime.NumGoroutine")=false:=by kernel_rfl)(nJ:Nat.ble ps.length N=true:=by kernel_rfl)(xZ:Nat.ble N 20000=true:=by kernel_rfl)(cZ:qy ro=true:=by kernel_rfl):enters P f/\uE P f ⟨ps,ro,F⟩:=acq hf hb hN lG nJ xZ cZ (At _ (Cr l)) uU hF
theorem kn{ps:af PK}{ro:af (Bool×TC×Nat)}{F:oL ps->ak (lR ro×vX (gq ps))}(N:Nat)(l:af (KC P))(b:af (BK P N (bz fn)))(hf:P.funcs[f]?=some fn)(hc:BC b=BD b:=by kernel_rfl)(hi:ids (occs (bz fn))=true:=by kernel_rfl)(hF:∀x,Io P N (rH (KL l)) (oc (BL b)) (bz fn) fn.results (qj ps x) (mU ps 0 x) (NO (gq ps) ro)=F x:=by intro x;kernel_rfl)(hb:fn.body=some (bz fn):=by kernel_rfl)(hN:fn.ntmps=N:=by kernel_rfl)(lG:(fn.name == "runtime.NumGoroutine")=false:=by kernel_rfl)(nJ:Nat.ble ps.length N=true:=by kernel_rfl)(xZ:Nat.ble N 20000=true:=by kernel_rfl)(cZ:qy ro=true:=by kernel_rfl):enters P f/\uE P f ⟨ps,ro,F⟩:=acq hf hb hN lG nJ xZ cZ (At _ (Cr l)) (BT b hc hi) hF
end
end Go.Proofs.YtecofnkoloihpaaGreat
