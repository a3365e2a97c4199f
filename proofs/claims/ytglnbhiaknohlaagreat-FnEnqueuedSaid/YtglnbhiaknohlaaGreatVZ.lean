/-
  Running the program over pure contents, and that it follows (part Z). Nothing here is a claim.
-/
import Derived.Test.YtglnbhiaknohlaaGreatV5
set_option linter.unusedSimpArgs false
namespace Go.Proofs.YtglnbhiaknohlaaGreat
open Go.RowKit
set_option linter.unusedVariables false
def pJ:Nat:=1000000000
def stays(n:Nat):Bool:=Nat.ble 20000 (n % pJ)
theorem alC:60000<=pJ:=cB rfl
def pK(n:Nat):Nat:=bif stays n then n else n+pJ
def yf(n:Nat):aj Nat:=bif stays n then some n else bif Nat.ble pJ n && !stays (n-pJ)then some (n-pJ)else none
def lN:aa Nat->aa Nat
 |[]=>[]
 |[r]=>[pK r]
 |x::y::k=>x::lN (y::k)
def Lf.up:Lf->Lf
 |.v x=>.v x
 |.own k=>.own (lN k)
 |.dead=>.dead
def A.up:A->A
 |.undef=>.undef
 |.skip=>.skip
 |.lf x=>.lf x.up
 |.agg cs=>.agg (cs.map Lf.up)
 |.ct xs=>.ct (xs.map λp=>(p.1,p.2.map Lf.up))
 |.ptr k=>.ptr (lN k)
 |.aH r j=>.aH (pK r) j
 |.gG cs=>.gG cs
 |.ko f cs=>.ko f cs
 |.pk r n=>.pk (pK r) n
 |.view k s i j=>.view (lN k) s i j
 |.fn f cap=>.fn f (cap.map λp=>(pK p.1,p.2))
def aP.up:aP->aP
 |.ax cs=>.ax (cs.map Lf.up)
 |.sl y=>.sl y
 |.mp l=>.mp l
 |.gh xs=>.gh (xs.map A.up)
def S.up(σ:S):S:=⟨λk=>(σ.t k).up,λn=>match yf n with
 |some r=>(σ.m r).map aP.up
 |none=>none⟩
def upI(c:sr):sr:=⟨λX N σ xs k=>c.run X N σ.up (xs.map A.up) λC y=>k C.up y.up⟩
section
variable {P:Program} {w w':World} {w0:Wd} {B N:Nat} {ah aD:bA} {ρ ρ':Nat->Loc} {σ:S} {a:Act} {X:Type}
theorem alD(r:Nat):yf (pK r)=some r:=by
 unfold yf pK;cases h:stays r with
 |true=>simp only[ak,h]
 | false=>
  have C:stays (r+pJ)=false:=by
   unfold stays at h ⊢;rw[Nat.add_mod_right];exact h
  have D:Nat.ble pJ (r+pJ)=true:=iE (Nat.le_add_left _ _);have E:r+pJ-pJ=r:=Nat.add_sub_cancel r pJ;rw[aq,C,aq,D,E,h];rfl
theorem alE{n r:Nat}(h:yf n=some r):n=pK r:=by
 unfold yf at h;cases D:stays n with
 | true=>
  rw[D,ak]at h;injection h with h;subst h;simp[pK,D]
 | false=>
  rw[D,aq]at h;cases C:(Nat.ble pJ n && !stays (n-pJ))with
  |false=>rw[C]at h;cases h
  | true=>
   rw[C,ak]at h;have h:=Option.some.inj h;rw[aK]at C;have I:=cB C.1;have E:stays r=false:=by rw[<-h];simpa using C.2
   simp only[pK,E,aq];omega
def mB(ah:bA):bA:=λb=>(ah b).map lN
def tT(ρ:Nat->Loc):Nat->Loc:=λn=>match yf n with
 |some r=>ρ r
 |none=>ρ n
theorem Aw(r:Nat):tT ρ (pK r)=ρ r:=by unfold tT;rw[alD]
theorem alF{k:aa Nat}(h:k≠[]):lN k≠[]:=by
 match k with
 |[]=>exact absurd rfl h
 |[r]=>simp[lN]
 |x::y::k=>simp[lN]
theorem Ax{x:Nat}{k:aa Nat}(h:k≠[]):lN (x :: k)=x :: lN k:=by
 match k with
 |[]=>exact absurd rfl h
 |y::k=>rfl
theorem aab(x y:Nat)(k:aa Nat):∃ C D,lN (x :: y :: k)=x :: C :: D:=by
 rw[Ax (by simp)]
 match k with
 |[]=>exact⟨_,_,rfl⟩
 |z::k=>exact⟨y,_,rfl⟩
theorem Tt:∀ (k:aa Nat) (ad:Addr),addrAt w ah ρ k=some ad->addrAt w (mB ah) (tT ρ) (lN k)=some ad
 |[],_,h=>by simp[addrAt]at h
 |[_],_,h=>by simp[addrAt]at h
 |[_,_],_,h=>by simp[addrAt]at h
 |[_,_,_],_,h=>by simp[addrAt]at h
 | [j,i,s,r],ad,h=>by
  simp only[addrAt]at h;simp only[lN,addrAt,Aw];split at h
  ·rename_i b n c C;split at h
   next hl=>rw[bk (by simp[mB,hl,lN])];exact h
   ·cases h
  ·cases h
 | j :: i :: s :: x :: y :: q,ad,h=>by
  simp only[addrAt]at h;split at h
  ·rename_i b n c C;split at h
   ·rename_i hl;cases D:addrAt w ah ρ (x :: y :: q)with
    |none=>rw[D]at C;cases C
    | some I=>
     have E:=Tt (x::y::q) I D;have e:mB ah b=some (lN (x::y::q)):=by simp[mB,hl]
     rw[Ax (by simp),Ax (by simp),Ax (by simp)];rw[D]at C;obtain⟨L,O,J⟩:=aab x y q;rw[J]at E e ⊢;simp only[addrAt,E,C,e,if_true];exact h
   ·cases h
  ·cases h
theorem aac{k:aa Nat}{u:Value}(h:cm w ah ρ k=some u):cm w (mB ah) (tT ρ) (lN k)=some u:=by
 match k with
 |[]=>simp[cm,addrAt]at h
 | [r]=>
  simp only[cm]at h;simp only[lN,cm,Aw];exact h
 | x :: y :: k=>
  simp only[cm]at h;cases C:addrAt w ah ρ (x::y::k)with
  |none=>rw[C]at h;cases h
  | some ad=>
   have:=Tt _ _ C;obtain⟨E,I,D⟩:=aab x y k;rw[D]at this ⊢;simp only[cm,this];rw[C]at h;exact h
theorem Tu{b:Nat}(h:ah b=none):mB ah b=none:=by simp[mB,h]
theorem RV.up(I:∀ b k,ah b=some k->k≠[]){k:aa Nat}{x:V}{v:Value}(h:RV w B ah k x v):RV w B (mB ah) (lN k) x v:=by
 induction h with
 |int=>exact .int _ _ _
 |bool=>exact .bool _ _
 |str=>exact .str _ _
 |nil=>exact .nil _
 |cG=>exact .cG _ _ _
 |cL q t o A c C=>exact .cL _ _ _ _ _ C
 |cV q t o A c C=>exact .cV _ _ _ _ _ C
 | aA q t o J l b off cap u C hl hb L O D Q E=>
  exact .aA _ _ _ _ _ _ _ _ u C (Tu hl) hb L O D E
 | own q t o J l b cap cs u hl T U Y Z D Q E=>
  have hq:=I b q hl
  refine .own _ _ _ _ _ _ _ cs u (by simp[mB,hl]) T U Y Z D λi h j x hx=>?_
  have:=E i h j x hx;rw[Ax (by simp),Ax (by simp),Ax hq]at this;exact this
theorem cQ.up(C:∀ b k,ah b=some k->k≠[]){x:Lf}{u:Value}(h:cQ w B ah ρ x u):cQ w B (mB ah) (tT ρ) x.up u:=by
 cases x with
 |v x=>exact⟨h.1,RV.up C h.2⟩
 |own k=>exact⟨h.1,aac h.2⟩
 |dead=>trivial
theorem dg.up(E:∀ b k,ah b=some k->k≠[]){cs:aa Lf}{us:Array Value}(h:dg w B ah ρ cs us):dg w B (mB ah) (tT ρ) (cs.map Lf.up) us:=by
 refine⟨by rw[cZ];exact h.1,λj x C=>?_⟩
 rw[cO]at C;cases D:cs[j]? with
 |none=>rw[D]at C;cases C
 | some z=>
  rw[D]at C;injection C with C;subst C;obtain⟨u,I,J⟩:=h.2 j z D;exact⟨u,I,J.up E⟩
theorem RP.up(C:∀ b k,ah b=some k->k≠[]){p:Bool×aa Lf}{u:Value}(h:RP w B ah ρ p u):RP w B (mB ah) (tT ρ) (p.1,p.2.map Lf.up) u:=by
 obtain⟨b,cs⟩:=p;cases b with
 | true=>
  obtain⟨us,rfl,h⟩:=h;exact⟨us,rfl,dg.up C h⟩
 |false=>exact dg.up C h
theorem RA.up(J:∀ b k,ah b=some k->k≠[]){x:A}{u:Value}(h:RA w B ah ρ x u):RA w B (mB ah) (tT ρ) x.up u:=by
 cases x with
 |undef=>trivial
 |skip=>exact h
 |lf x=>exact cQ.up J h
 |agg cs=>exact RP.up J (p:=(true,cs)) h
 | ct xs=>
  obtain⟨us,rfl,D,E⟩:=h
  refine⟨us,rfl,by rw[cZ];exact D,λj p C=>?_⟩
  rw[cO]at C;cases I:xs[j]? with
  |none=>rw[I]at C;cases C
  | some z=>
   rw[I]at C;injection C with C;subst C;obtain⟨v,L,O⟩:=E j z I;exact⟨v,L,O.up J⟩
 | ptr k=>
  obtain⟨ad,rfl,h⟩:=h;exact⟨ad,rfl,Tt _ _ h⟩
 | aH r j=>
  obtain⟨b,off,D,E⟩:=h;exact⟨b,off,(Aw r).trans D,E⟩
 | gG cs=>
  obtain⟨b,off,Q,T,U,Y⟩:=h
  refine⟨b,off,Q,T,Tu U,λj x Z=>?_⟩
  obtain⟨f1,v,f2,f3⟩:=Y j x Z;exact⟨f1,v,f2,RV.up J f3⟩
 | ko f cs=>
  obtain⟨pv,e0,h⟩:=h;refine⟨pv,e0,?_⟩;obtain⟨b,off,Q,T,U,Y⟩:=h
  refine⟨b,off,Q,T,Tu U,λj x Z=>?_⟩
  obtain⟨f1,v,f2,f3⟩:=Y j x Z;exact⟨f1,v,f2,RV.up J f3⟩
 | pk r n=>
  obtain⟨b,D,E⟩:=h;exact⟨b,(Aw r).trans D,E⟩
 | view k s i j=>
  obtain⟨A,n,c,D,E⟩:=h;exact⟨A,n,c,aac D,E⟩
 | fn f cap=>
  obtain⟨vs,rfl,D,E⟩:=h
  refine⟨vs,rfl,by rw[cZ];exact D,λj p C=>?_⟩
  rw[cO]at C;cases I:cap[j]? with
  |none=>rw[I]at C;cases C
  | some z=>
   rw[I]at C;injection C with C;subst C;obtain⟨b,off,L,O⟩:=E j z I;exact⟨b,off,(Aw _).trans L,O⟩
theorem dH.up(O:∀ b k,ah b=some k->k≠[]){r:Nat}{x:aP}(h:dH w B ah ρ r x):dH w B (mB ah) (tT ρ) (pK r) x.up:=by
 have L:=Aw (ρ:=ρ) r;have hl:∀{b},ah b=some [r]->mB ah b=some [pK r]:=λh=>by simp[mB,h,lN]
 cases h with
 | ax b off cells e cs us E J Q U T=>
  refine .ax b off cells e _ us (L.trans E) (hl J) Q (by rw[cZ];exact U) λj x C=>?_
  rw[cO]at C;cases D:cs[j]? with
  |none=>rw[D]at C;cases C
  | some z=>
   rw[D]at C;injection C with C;subst C;exact⟨(T j z D).1,(T j z D).2.up O⟩
 |sl v y E J=>exact .sl v y (L.trans E) (RV.up O J)
 |mp b c Y l E J Q Z=>exact .mp b c Y l (L.trans E) (hl J) Q Z
 | gh us xs E C=>
  refine .gh us _ (L.trans E) λj x I=>?_
  rw[cO]at I;cases D:xs[j]? with
  |none=>rw[D]at I;cases I
  | some z=>
   rw[D]at I;injection I with I;subst I;exact RA.up O (C j z D)
theorem Rl.up(h:Rl w0 N ah ρ σ a w):Rl w0 N (mB ah) (tT ρ) σ.up a w:=by
 have O:∀b k,ah b=some k->k≠[]:=λb k D=>(h.cH b k D).2.2
 refine⟨h.below,λb k D=>?_,λn x C=>?_,λk=>RA.up O (h.tmp k),h.size,h.defers,λr l E=>?_,h.dm⟩
 ·unfold mB at D;cases hl:ah b with
  |none=>rw[hl]at D;cases D
  | some q=>
   rw[hl]at D;injection D with D;obtain⟨I,J,Q⟩:=h.cH b q hl;exact⟨I,J,by rw[<-D];exact alF Q⟩
 ·have C:(match yf n with | some r=>(σ.m r).map aP.up | none=>none)=some x:=C;cases L:yf n with
  |none=>rw[L]at C;cases C
  | some r=>
   rw[L]at C;have C:(σ.m r).map aP.up=some x:=C;cases hm:σ.m r with
   |none=>rw[hm]at C;cases C
   | some y=>
    rw[hm]at C;injection C with C;subst C;rw[alE L];exact(h.root r y hm).up O
 ·have T:stays r=true:=by
   have I:20000<=r:=Nat.le_of_not_lt λU=>by rw[w0.low r U]at E;cases E
   have J:r<60000:=Nat.lt_of_not_le λY=>by rw[h.dm r (.inr Y)]at E;cases E
   unfold stays;rw[Nat.mod_eq_of_lt (jD J alC)];exact iE I
  have Z:pK r=r:=by simp[pK,T]
  have:=Aw (ρ:=ρ) r;rw[Z]at this;rw[this];exact h.fix r l E
theorem alG{f:Nat}{c:sr}(h:su P f c):su P f (upI c):=by
 intro hi X N σ xs k r E;obtain⟨I,y,J,L,O⟩:=h X N σ.up (xs.map A.up) _ r E
 refine⟨I.up,y.up,J,λQ k'=>L Q _,λw0 ah ρ a w bM hR T U=>?_⟩
 have Y:∀b k,ah b=some k->k≠[]:=λb k C=>(hR.cH b k C).2.2
 refine(O w0 _ _ a w bM hR.up (by rw[cZ];exact T) λi=>?_).mono λe w' Z=>?_
 ·rw[cO];have:=U i;cases hx:xs[i]? with
  |none=>trivial
  | some x=>
   rw[hx]at this;exact RA.up Y this
 ·obtain⟨v,aD,ρ',he,D,hy⟩:=Z;exact⟨v,_,_,he,D.up,RA.up (λb k C=>(D.cH b k C).2.2) hy⟩
end
def aZ:Nat:=4611686018427387904
def sD(c:Code)(id:Nat):Code:=match (occs c).lookup id with
 |some (.loop b)=>b
 |_=>.skip
def bE(fn:Func):Code:=fn.body.getD .skip
def oL(l:aa (Nat×pE)):dJ:=λf=>l.lookup f
def Ay(P:Program):aa (Nat×pE)->Prop
 |[]=>True
 |(f,c)::l=>(enters P f/\RX P f c)/\Ay P l
theorem vC{P:Program}:∀ (l:aa (Nat×pE)),Ay P l->fm P (oL l)
 |[],_=>λf c h=>by cases h
 | (E,I) :: l,⟨J,L⟩=>λf c h=>by
  have C:List.lookup f ((E,I)::l)=some c:=h;clear h;rw[List.lookup_cons]at C;split at C
  ·rename_i D;have D:f=E:=by simpa using D
   subst D;injection C with C;subst C;exact J
  ·exact vC l L f c C
def lO(l:aa (Nat×q5)):mq:=λid=>l.lookup id
def Tv(P:Program)(N:Nat)(code:Code):aa (Nat×q5)->Prop
 |[]=>True
 |(id,b)::l=>(∃c,(occs code).lookup id=some c/\Ad P N (.block id c) b)/\Tv P N code l
def ids(l:aa (Nat×Code)):Bool:=(l.map (·.1)).all λi=>Nat.beq ((l.filter λp=>Nat.beq p.1 i).length) 1
theorem aad:∀ (l:aa (Nat×Code)) (p:Nat×Code),(∀ q∈l,q.1=p.1->q=p)->p∈l->l.lookup p.1=some p.2
 |[],p,_,h=>by cases h
 | q :: l,p,D,h=>by
  rw[List.lookup_cons];by_cases C:p.1=q.1
  ·have:q=p:=D q (.head _) C.symm;subst this;simp
  ·have hb:(p.1==q.1)=false:=by simpa using C
   rw[hb];rcases fF.1 h with rfl|h
   ·exact absurd rfl C
   ·exact aad l p (λq E=>D q (.tail _ E)) h
theorem alH{l:aa (Nat×Code)}(h:ids l=true){p q:Nat×Code}(D:p∈l)(J:q∈l)(L:q.1=p.1):q=p:=by
 have C:=cv.1 h p.1 (List.mem_map_of_mem D);have C:=bQ C;have E:p∈l.filter λr=>Nat.beq r.1 p.1:=List.mem_filter.2 ⟨D,by simp⟩
 have I:q∈l.filter λr=>Nat.beq r.1 p.1:=List.mem_filter.2 ⟨J,by simp[L]⟩
 obtain⟨z,O⟩:=List.length_eq_one_iff.1 C;rw[O]at E I;rw[kY.1 E,kY.1 I]
theorem Tw{P:Program}{N:Nat}{code:Code}(hi:ids (occs code)=true):∀ (l:aa (Nat×q5)),Tv P N code l->oH P N (lO l) (occs code)
 |[],_=>λp D b h=>by cases h
 | (id,I) :: l,⟨⟨c,J,L⟩,O⟩=>λp D b h=>by
  have C:List.lookup p.1 ((id,I)::l)=some b:=h;clear h;rw[List.lookup_cons]at C;split at C
  ·rename_i E;have E:p.1=id:=by simpa using E
   injection C with C;subst C;have:=aad (occs code) p (λq Q e=>alH hi D Q e) D;rw[E,J]at this;injection this with this;rw[E,<-this];exact L
  ·exact Tw hi l O p D b C
theorem sE{P:Program}{N:Nat}{l:aa (Nat×Code)}:oH P N (lO []) l:=λp C b h=>by cases h
def ci(P:Program)(fn:Func)(C:Nat)(l:aa (Nat×pE)):sr:=Z9 P fn.ntmps (59000+C) (oL l) (bE fn) fn.results
theorem aae{P:Program}{f:Nat}{fn:Func}(C:Nat)(l:aa (Nat×pE))(D:P.funcs[f]?=some fn)(hl:Ay P l)(hb:fn.body=some (bE fn):=by kernel_rfl)(E:Nat.ble fn.ntmps 20000=true:=by kernel_rfl)(I:Nat.ble C 900=true:=by kernel_rfl)(J:(fn.name == "runtime.NumGoroutine")=false:=by kernel_rfl):enters P f/\su P f (ci P fn C l):=
 alA D hb rfl (cB E) J ⟨by omega,by have:=cB I;omega⟩ (vC l hl)
def cj(P:Program)(fn:Func)(C:Nat)(l:aa (Nat×pE)):sr:=upI (ci P fn C l)
theorem aaf{P:Program}{f:Nat}{fn:Func}{C:Nat}{l:aa (Nat×pE)}(h:enters P f/\su P f (ci P fn C l)):enters P f/\su P f (cj P fn C l):=⟨h.1,alG h.2⟩
theorem fnP{P:Program}{f:Nat}{fn:Func}{ai:aa (Bool×TC)}{ro:aa (Bool×TC×Nat)}{F:ng ai->aj (jQ ro)}(N:Nat)(l:aa (Nat×pE))(b:aa (Nat×q5))(C:P.funcs[f]?=some fn)(hl:Ay P l)(D:oH P N (lO b) (occs (bE fn)))(E:∀x,rm P N (oL l) (lO b) (bE fn) fn.results (gu ai x) (mY ro)=F x)(hb:fn.body=some (bE fn):=by kernel_rfl)(I:fn.ntmps=N:=by kernel_rfl)(J:(fn.name == "runtime.NumGoroutine")=false:=by kernel_rfl)(L:Nat.ble ai.length N=true:=by kernel_rfl)(O:oK ro=true:=by kernel_rfl):enters P f/\iJ P f (aR ai ro F):=aln C hb I J L O (vC l hl) D E
theorem Az{P:Program}{f:Nat}{fn:Func}{t:TC}{g:Nat}{F:aa (T t)->aj (aa (T t))}(N:Nat)(l:aa (Nat×pE))(b:aa (Nat×q5))(C:P.funcs[f]?=some fn)(hl:Ay P l)(D:oH P N (lO b) (occs (bE fn)))(E:∀ x:aa (T t),rm P N (oL l) (lO b) (bE fn) fn.results [(false,[.sl t 0 false x])] (mY [(false,.sl t,g)])=F x)
  (I:rm P N (oL l) (lO b) (bE fn) fn.results [(false,[.nil])] (mY [(false,.sl t,g)])=some ([]:aa (T t)):=by kernel_rfl) (J:rm P N (oL l) (lO b) (bE fn) fn.results [(false,[.sl t 0 true []])] (mY [(false,.sl t,g)])=some ([]:aa (T t)):=by kernel_rfl)
  (hb:fn.body=some (bE fn):=by kernel_rfl) (L:fn.ntmps=N:=by kernel_rfl) (O:(fn.name == "runtime.NumGoroutine")=false:=by kernel_rfl) (Q:Nat.ble 1 N=true:=by kernel_rfl) (U:oK [(false,.sl t,g)]=true:=by kernel_rfl):enters P f/\iJ P f (aR [(false,.sl t)] [(false,.sl t,g)] λx=>bif iR x.1 then some ([]:aa (T t))else F x.1):=alo C hb L O Q U (vC l hl) D E I J
def alI{α β:Type}(a:α)(f:α->β):β:=f a
theorem aag{P:Program}{id:Nat}{body:Code}{C:cN}{D:aa (Nat×cN)}{F:C.St->aj (C.St⊕sB D)}{fuel:C.St->Nat}(N:Nat)(l:aa (Nat×pE))(b:aa (Nat×q5))(hl:Ay P l)(E:oH P N (lO b) (occs body))(I:∀x,C1 P N (oL l) (lO b) body C D x=F x):Ad P N (.block id (.loop body)) (LW id C D F fuel):=alj (vC l hl) E I
abbrev W6 (x:Int):Int:=IntKind.i64.wrap x
/-! Words for what printed functions say often. -/
def xI{α β:Type}(l:aa α)(i:Int)(k:α->aj β):aj β:=if h:0<=i/\i.toNat<l.length then (let e:=l[i.toNat]'h.2;k e)else none
def xC{α β:Type}(l:aa α)(i:Int)(k:aj β):aj β:=if h:0<=i/\i.toNat<l.length then k else none
def xM{α β:Type}(l:aa α)(i:Int)(k:α->aj β):aj β:=if h:i.toNat<l.length then (let e:=l[i.toNat]'h;k e)else none
def xL{α β:Type}(l:aa α)(i:Int)(k:α->aj β):aj β:=if h:0<=i/\i.toNat<l.length then (if h:i.toNat<l.length then (let e:=l[i.toNat]'h;k e)else none)else none
def bw{S A C:Type}(L:S->aj (S⊕(A⊕Empty)))(s:S)(f:A->aj C):aj C:=(iter L aZ s).bind (Sum.elim f (λz=>nomatch z))
def cg{S A B C:Type}(L:S->aj (S⊕(A⊕(B⊕Empty))))(s:S)(f:A->aj C)(g:B->aj C):aj C:=(iter L aZ s).bind (Sum.elim f (Sum.elim g (λz=>nomatch z)))
def xG{S E:Type}(s:S):aj (S⊕E):=some (.inl s)
def aB{S A E:Type}(v:A):aj (S⊕(A⊕E)):=some (.inr (.inl v))
def bq{S A B E:Type}(v:B):aj (S⊕(A⊕(B⊕E))):=some (.inr (.inr (.inl v)))
abbrev tI:Tm:=.lf (.int .i64)
abbrev tB:Tm:=.lf (.bool)
structure KC (P:Program) where
 f:Nat
 c:pE
 ok:enters P f/\RX P f c
def KL{P:Program}(l:aa (KC P)):aa (Nat×pE):=l.map λk=>(k.f,k.c)
theorem AA{P:Program}:∀ l:aa (KC P),Ay P (KL l)
 |[]=>trivial
 |k::l=>⟨k.ok,AA l⟩
structure BK (P:Program) (N:Nat) (code:Code) where
 id:Nat
 b:q5
 ok:Ad P N (.block id (.loop (sD code id))) b
section
variable {P:Program} {f N:Nat} {fn:Func} {code:Code}
def BL(l:aa (BK P N code)):aa (Nat×q5):=l.map λk=>(k.id,k.b)
def BC(l:aa (BK P N code)):aa (aj Code):=l.map λk=>(occs code).lookup k.id
def BD(l:aa (BK P N code)):aa (aj Code):=l.map λk=>some (.loop (sD code k.id))
theorem aah:∀ l:aa (BK P N code),BC l=BD l->Tv P N code (BL l)
 |[],_=>trivial
 | k :: l,h=>by
  unfold BC BD at h;rw[ig,ig]at h;injection h with C D;exact⟨⟨_,C,k.ok⟩,aah l D⟩
theorem BT(l:aa (BK P N code))(C:BC l=BD l)(hi:ids (occs code)=true):oH P N (lO (BL l)) (occs code):=Tw hi _ (aah l C)
def lB(id:Nat)(C:cN)(D:aa (Nat×cN))(F:C.St->aj (C.St⊕sB D)):q5:=LW id C D F λ_=>aZ
theorem lp{body:Code}{id:Nat}{C:cN}{D:aa (Nat×cN)}{F:C.St->aj (C.St⊕sB D)}(l:aa (KC P))(E:∀x,C1 P N (oL (KL l)) (lO []) body C D x=F x:=by intro x;kernel_rfl):Ad P N (.block id (.loop body)) (lB id C D F):=aag N (KL l) [] (AA l) sE E
theorem lq{id:Nat}{C:cN}{D:aa (Nat×cN)}{F:C.St->aj (C.St⊕sB D)}(l:aa (KC P))(b:aa (BK P N code))(E:BC b=BD b:=by kernel_rfl)(hi:ids (occs code)=true:=by kernel_rfl)(I:∀x,C1 P N (oL (KL l)) (lO (BL b)) code C D x=F x:=by intro x;kernel_rfl):Ad P N (.block id (.loop code)) (lB id C D F):=aag N (KL l) (BL b) (AA l) (BT b E hi) I
theorem kp{ai:aa (Bool×TC)}{ro:aa (Bool×TC×Nat)}{F:ng ai->aj (jQ ro)}(N:Nat)(l:aa (KC P))(C:P.funcs[f]?=some fn)(D:∀x,rm P N (oL (KL l)) (lO []) (bE fn) fn.results (gu ai x) (mY ro)=F x:=by intro x;kernel_rfl)(hb:fn.body=some (bE fn):=by kernel_rfl)(E:fn.ntmps=N:=by kernel_rfl)(I:(fn.name == "runtime.NumGoroutine")=false:=by kernel_rfl)(J:Nat.ble ai.length N=true:=by kernel_rfl)(L:oK ro=true:=by kernel_rfl):enters P f/\iJ P f (aR ai ro F):=fnP N (KL l) [] C (AA l) sE D hb E I J L
theorem kq{ai:aa (Bool×TC)}{ro:aa (Bool×TC×Nat)}{F:ng ai->aj (jQ ro)}(N:Nat)(l:aa (KC P))(b:aa (BK P N (bE fn)))(C:P.funcs[f]?=some fn)(D:BC b=BD b:=by kernel_rfl)(hi:ids (occs (bE fn))=true:=by kernel_rfl)(E:∀x,rm P N (oL (KL l)) (lO (BL b)) (bE fn) fn.results (gu ai x) (mY ro)=F x:=by intro x;kernel_rfl)(hb:fn.body=some (bE fn):=by kernel_rfl)(I:fn.ntmps=N:=by kernel_rfl)(J:(fn.name == "runtime.NumGoroutine")=false:=by kernel_rfl)(L:Nat.ble ai.length N=true:=by kernel_rfl)(O:oK ro=true:=by kernel_rfl):enters P f/\iJ P f (aR ai ro F):=fnP N (KL l) (BL b) C (AA l) (BT b D hi) E hb I J L O
theorem km{ps:aa PK}{ro:aa (Bool×TC×Nat)}{F:lF ps->aj (jQ ro×sg (eE ps))}(N:Nat)(l:aa (KC P))(C:P.funcs[f]?=some fn)(D:∀x,Ge P N (oL (KL l)) (lO []) (bE fn) fn.results (oC ps x) (kP ps 0 x) (LZ (eE ps) ro)=F x:=by intro x;kernel_rfl)(hb:fn.body=some (bE fn):=by kernel_rfl)(E:fn.ntmps=N:=by kernel_rfl)(I:(fn.name == "runtime.NumGoroutine")=false:=by kernel_rfl)(J:Nat.ble ps.length N=true:=by kernel_rfl)(L:Nat.ble N 20000=true:=by kernel_rfl)(O:oK ro=true:=by kernel_rfl):enters P f/\tD P f ⟨ps,ro,F⟩:=ZY C hb E I J L O (vC _ (AA l)) sE D
theorem kn{ps:aa PK}{ro:aa (Bool×TC×Nat)}{F:lF ps->aj (jQ ro×sg (eE ps))}(N:Nat)(l:aa (KC P))(b:aa (BK P N (bE fn)))(C:P.funcs[f]?=some fn)(D:BC b=BD b:=by kernel_rfl)(hi:ids (occs (bE fn))=true:=by kernel_rfl)(E:∀x,Ge P N (oL (KL l)) (lO (BL b)) (bE fn) fn.results (oC ps x) (kP ps 0 x) (LZ (eE ps) ro)=F x:=by intro x;kernel_rfl)(hb:fn.body=some (bE fn):=by kernel_rfl)(I:fn.ntmps=N:=by kernel_rfl)(J:(fn.name == "runtime.NumGoroutine")=false:=by kernel_rfl)(L:Nat.ble ps.length N=true:=by kernel_rfl)(O:Nat.ble N 20000=true:=by kernel_rfl)(Q:oK ro=true:=by kernel_rfl):enters P f/\tD P f ⟨ps,ro,F⟩:=ZY C hb I J L O Q (vC _ (AA l)) (BT b D hi) E
def u0{A R:Type}(F:R)(_:A):R:=F
def u1{A Z R:Type}(F:A->R)(x:A×Z):R:=F x.1
def u2{A B Z R:Type}(F:A->B->R)(x:A×B×Z):R:=F x.1 x.2.1
def u3{A B C Z R:Type}(F:A->B->C->R)(x:A×B×C×Z):R:=F x.1 x.2.1 x.2.2.1
def u4{A B C D Z R:Type}(F:A->B->C->D->R)(x:A×B×C×D×Z):R:=F x.1 x.2.1 x.2.2.1 x.2.2.2.1
def u5{A B C D E Z R:Type}(F:A->B->C->D->E->R)(x:A×B×C×D×E×Z):R:=F x.1 x.2.1 x.2.2.1 x.2.2.2.1 x.2.2.2.2.1
def u6{A B C D E G Z R:Type}(F:A->B->C->D->E->G->R)(x:A×B×C×D×E×G×Z):R:=F x.1 x.2.1 x.2.2.1 x.2.2.2.1 x.2.2.2.2.1 x.2.2.2.2.2.1
def u7{A B C D E G H Z R:Type}(F:A->B->C->D->E->G->H->R)(x:A×B×C×D×E×G×H×Z):R:=F x.1 x.2.1 x.2.2.1 x.2.2.2.1 x.2.2.2.2.1 x.2.2.2.2.2.1 x.2.2.2.2.2.2.1
def u8{A B C D E G H I Z R:Type}(F:A->B->C->D->E->G->H->I->R)(x:A×B×C×D×E×G×H×I×Z):R:=F x.1 x.2.1 x.2.2.1 x.2.2.2.1 x.2.2.2.2.1 x.2.2.2.2.2.1 x.2.2.2.2.2.2.1 x.2.2.2.2.2.2.2.1
def u9{A B C D E G H I J Z R:Type}(F:A->B->C->D->E->G->H->I->J->R)(x:A×B×C×D×E×G×H×I×J×Z):R:=F x.1 x.2.1 x.2.2.1 x.2.2.2.1 x.2.2.2.2.1 x.2.2.2.2.2.1 x.2.2.2.2.2.2.1 x.2.2.2.2.2.2.2.1 x.2.2.2.2.2.2.2.2.1
end
end Go.Proofs.YtglnbhiaknohlaaGreat
