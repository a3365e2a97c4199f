/-
  Running the program over pure contents, and that it follows (part Z). Nothing here is a claim.
-/
import Derived.Test.YtglnbhiaknohlaaGreatV5
set_option linter.unusedSimpArgs false
namespace Go.Proofs.YtglnbhiaknohlaaGreat
set_option linter.defProp false
open Go.RowKit
set_option linter.unusedVariables false
def ug:Nat:=1000000000
def stays(n:Nat):Bool:=Nat.ble 20000 (n % ug)
def apJ:60000<=ug:=cI rfl
def qO(n:Nat):Nat:=bif stays n then n else n+ug
def zX(n:Nat):aj Nat:=bif stays n then some n else bif Nat.ble ug n && !stays (n-ug)then some (n-ug)else none
def mG:aa Nat->aa Nat
 |[]=>[]
 |[r]=>[qO r]
 |x::y::k=>x::mG (y::k)
def Lf.up:Lf->Lf
 |.v x=>.v x
 |.own k=>.own (mG k)
 |.dead=>.dead
def A.up:A->A
 |.undef=>.undef
 |.skip=>.skip
 |.lf x=>.lf x.up
 |.agg cs=>.agg (cs.map Lf.up)
 |.cQ xs=>.cQ (xs.map λp=>(p.1,p.2.map Lf.up))
 |.ptr k=>.ptr (mG k)
 |.aG r j=>.aG (qO r) j
 |.hJ cs=>.hJ cs
 |.kO f cs=>.kO f cs
 |.pk r n=>.pk (qO r) n
 |.view k s i j=>.view (mG k) s i j
 |.fn f cap=>.fn f (cap.map λp=>(qO p.1,p.2))
def aZ.up:aZ->aZ
 |.aB cs=>.aB (cs.map Lf.up)
 |.sl y=>.sl y
 |.mp l=>.mp l
 |.gh xs=>.gh (xs.map A.up)
def S.up(σ:S):S:=⟨λk=>(σ.t k).up,λn=>match zX n with
 |some r=>(σ.m r).map aZ.up
 |none=>none⟩
def upI(c:tX):tX:=⟨λX N σ xs k=>c.run X N σ.up (xs.map A.up) λC y=>k C.up y.up⟩
section
variable {P:Program} {w w':World} {w0:Wd} {B N:Nat} {ah aE:bG} {ρ ρ':Nat->Loc} {σ:S} {a:Act} {X:Type}
def apK(r:Nat):zX (qO r)=some r:=by
 unfold zX qO;cases h:stays r with
 |true=>simp_all
 | false=>
  have C:stays (r+ug)=false:=by
   unfold stays at h ⊢;simp_all
  have D:Nat.ble ug (r+ug)=true:=iP (Nat.le_add_left _ _);simp[*]
def apL{n r:Nat}(h:zX n=some r):n=qO r:=by
 unfold zX at h;cases D:stays n with
 | true=>
  rw[D]at h;injection h with h;subst h;simp[qO,D]
 | false=>
  rw[D,aq]at h;cases C:(Nat.ble ug n && !stays (n-ug))with
  |false=>simp_all
  | true=>
   rw[C]at h;have h:=Option.some.inj h;rw[aM]at C;have I:=cI C.1;have E:stays r=false:=by rw[<- h];simpa using C.2
   simp[qO,E,aq];omega
def m9(ah:bG):bG:=λb=>(ah b).map mG
def vA(ρ:Nat->Loc):Nat->Loc:=λn=>match zX n with
 |some r=>ρ r
 |none=>ρ n
def B5(r:Nat):vA ρ (qO r)=ρ r:=by unfold vA;rw[apK]
def apM{k:aa Nat}(h:k≠[]):mG k≠[]:=by
 match k with
 |[r]=>simp[mG]
 |x::y::k=>simp[mG]
def EC{x:Nat}{k:aa Nat}(h:k≠[]):mG (x :: k)=x :: mG k:=by
 match k with
 |[]=>exact absurd rfl h
 |y::k=>rfl
def adh(x y:Nat)(k:aa Nat):∃ C D,mG (x :: y :: k)=x :: C :: D:=by
 match k with
 |[]=>exact⟨_,_,rfl⟩
 |z::k=>exact⟨y,_,rfl⟩
def WN:∀ (k:aa Nat) (ad:Addr),addrAt w ah ρ k=some ad -> addrAt w (m9 ah) (vA ρ) (mG k)=some ad
 |[],_,h=>by simp[addrAt]at h
 | [j,i,s,r],ad,h=>by
  simp only[addrAt]at h;simp only[mG,addrAt,B5];split at h
  ·rename_i b n c C;split at h
   next hl=>rw[br (by simp[m9,hl,mG])];exact h
   ·cases h
  ·cases h
 | j :: i :: s :: x :: y :: q,ad,h=>by
  simp only[addrAt]at h;split at h
  ·rename_i b n c C;split at h
   ·rename_i hl;cases D:addrAt w ah ρ (x :: y :: q)with
    |none=>simp_all
    | some I=>
     have E:=WN (x::y::q) I D;have e:m9 ah b=some (mG (x::y::q)):=by simp[m9,hl]
     rw[EC (by simp),EC (by simp),EC (by simp)];rw[D]at C;obtain⟨L,O,J⟩:=adh x y q;rw[J]at E e ⊢;simp only[addrAt,E,C,e,if_true];exact h
   ·cases h
  ·cases h
def adi{k:aa Nat}{u:Value}(h:cH w ah ρ k=some u):cH w (m9 ah) (vA ρ) (mG k)=some u:=by
 match k with
 | [r]=>
  simp[mG,cH,B5];exact h
 | x :: y :: k=>
  simp[cH]at h;cases C:addrAt w ah ρ _ with
  |none=>rw[C]at h;cases h
  | some ad=>
   have:=WN _ _ C;obtain⟨E,I,D⟩:=adh x y k;rw[D]at this ⊢;simp[cH,this];simp_all
def WO{b:Nat}(h:ah b=none):m9 ah b=none:=by simp[m9,h]
def RV.up(I:∀ b k,ah b=some k->k≠[]){k:aa Nat}{x:V}{v:Value}(h:RV w B ah k x v):RV w B (m9 ah) (mG k) x v:=by
 induction h with
 |int=>exact .int _ _ _
 |bool=>exact .bool _ _
 |str=>exact .str _ _
 |nil=>exact .nil _
 |cS=>exact .cS _ _ _
 |cW q t o A c C=>exact .cW _ _ _ _ _ C
 |de q t o A c C=>exact .de _ _ _ _ _ C
 | aF q t o J l b off cap u C hl hb L O D Q E=>
  exact .aF _ _ _ _ _ _ _ _ u C (WO hl) hb L O D E
 | own q t o J l b cap cs u hl T U Y Z D Q E=>
  have hq:=I b q hl
  refine .own _ _ _ _ _ _ _ cs u (by simp[m9,hl]) T U Y Z D λi h j x hx=>?_
  have:=E i h j x hx;rw[EC (by simp),EC (by simp),EC hq]at this;exact this
def dy.up(C:∀ b k,ah b=some k->k≠[]){x:Lf}{u:Value}(h:dy w B ah ρ x u):dy w B (m9 ah) (vA ρ) x.up u:=by
 cases x with
 |v x=>exact⟨h.1,RV.up C h.2⟩
 |own k=>exact⟨h.1,adi h.2⟩
 |dead=>trivial
def dU.up(E:∀ b k,ah b=some k -> k≠[]){cs:aa Lf}{us:Array Value}(h:dU w B ah ρ cs us):dU w B (m9 ah) (vA ρ) (cs.map Lf.up) us:=by
 refine⟨by rw[dh];exact h.1,λj x C=>?_⟩
 rw[dw]at C;cases D:cs[j]? with
 |none=>simp_all
 | some z=>
  rw[D]at C;injection C with C;subst C;obtain⟨u,I,J⟩:=h.2 j z D;exact⟨u,I,J.up E⟩
def RP.up(C:∀ b k,ah b=some k->k≠[]){p:Bool×aa Lf}{u:Value}(h:RP w B ah ρ p u):RP w B (m9 ah) (vA ρ) (p.1,p.2.map Lf.up) u:=by
 obtain⟨b,cs⟩:=p;cases b with
 | true=>
  obtain⟨us,rfl,h⟩:=h;exact⟨us,rfl,dU.up C h⟩
 |false=>exact dU.up C h
def RA.up(I:∀ b k,ah b=some k -> k≠[]){x:A}{u:Value}(h:RA w B ah ρ x u):RA w B (m9 ah) (vA ρ) x.up u:=by
 cases x with
 |undef=>trivial
 |skip=>exact h
 |lf x=>exact dy.up I h
 |agg cs=>exact RP.up I (p:=(true,cs)) h
 | cQ xs=>
  obtain⟨us,rfl,D,E⟩:=h
  refine⟨us,rfl,by rw[dh];exact D,λj p C=>?_⟩
  rw[dw]at C;cases J:xs[j]? with
  |none=>simp_all
  | some z=>
   rw[J]at C;injection C with C;subst C;obtain⟨v,L,O⟩:=E j z J;exact⟨v,L,O.up I⟩
 | ptr k=>
  obtain⟨ad,rfl,h⟩:=h;exact⟨ad,rfl,WN _ _ h⟩
 | aG r j=>
  obtain⟨b,off,D,E⟩:=h;exact⟨b,off,(B5 r).trans D,E⟩
 | hJ cs=>
  obtain⟨b,off,Q,T,U,Y⟩:=h
  refine⟨b,off,Q,T,WO U,λj x Z=>?_⟩
  obtain⟨f1,v,f2,f3⟩:=Y j x Z;exact⟨f1,v,f2,RV.up I f3⟩
 | kO f cs=>
  obtain⟨pv,e0,h⟩:=h;refine⟨pv,e0,?_⟩;obtain⟨b,off,Q,T,U,Y⟩:=h
  refine⟨b,off,Q,T,WO U,λj x Z=>?_⟩
  obtain⟨f1,v,f2,f3⟩:=Y j x Z;exact⟨f1,v,f2,RV.up I f3⟩
 | pk r n=>
  obtain⟨b,D,E⟩:=h;exact⟨b,(B5 r).trans D,E⟩
 | view k s i j=>
  obtain⟨A,n,c,D,E⟩:=h;exact⟨A,n,c,adi D,E⟩
 | fn f cap=>
  obtain⟨vs,rfl,D,E⟩:=h
  refine⟨vs,rfl,by rw[dh];exact D,λj p C=>?_⟩
  rw[dw]at C;cases J:cap[j]? with
  |none=>simp_all
  | some z=>
   rw[J]at C;injection C with C;subst C;obtain⟨b,off,L,O⟩:=E j z J;exact⟨b,off,(B5 _).trans L,O⟩
def eM.up(O:∀ b k,ah b=some k -> k≠[]){r:Nat}{x:aZ}(h:eM w B ah ρ r x):eM w B (m9 ah) (vA ρ) (qO r) x.up:=by
 have L:=B5 (ρ:=ρ) r;have hl:∀{b},ah b=some [r] -> m9 ah b=some [qO r]:=λh=>by simp[m9,h,mG]
 cases h with
 | aB b off cells e cs us C I Q U T=>
  refine .aB b off cells e _ us (L.trans C) (hl I) Q (by rw[dh];exact U) λj x D=>?_
  rw[dw]at D;cases E:cs[j]? with
  |none=>simp_all
  | some z=>
   rw[E]at D;injection D with D;subst D;exact⟨(T j z E).1,(T j z E).2.up O⟩
 |sl v y C I=>exact .sl v y (L.trans C) (RV.up O I)
 |mp b c Y l C I Q Z=>exact .mp b c Y l (L.trans C) (hl I) Q Z
 | gh us xs C D=>
  refine .gh us _ (L.trans C) λj x J=>?_
  rw[dw]at J;cases E:xs[j]? with
  |none=>simp_all
  | some z=>
   rw[E]at J;injection J with J;subst J;exact RA.up O (D j z E)
def Rl.up(h:Rl w0 N ah ρ σ a w):Rl w0 N (m9 ah) (vA ρ) σ.up a w:=by
 have L:=λb k D=>(h.cX b k D).2.2
 refine⟨h.below,λb k D=>?_,λn x C=>?_,λk=>RA.up L (h.tmp k),h.size,h.defers,λr l E=>?_,h.di⟩
 ·unfold m9 at D;cases hl:ah b with
  |none=>simp_all
  | some q=>
   rw[hl]at D;injection D with D;obtain⟨I,J,Q⟩:=h.cX b q hl;exact⟨I,J,by rw[<- D];exact apM Q⟩
 ·have C:(match zX n with | some r=>(σ.m r).map _ | none=>none)=some x:=C;cases O:zX n with
  |none=>simp_all
  | some r=>
   rw[O]at C;have C:(σ.m r).map _=some x:=C;cases hm:σ.m r with
   |none=>simp_all
   | some y=>
    rw[hm]at C;injection C with C;subst C;rw[apL O];exact(h.root r y hm).up L
 ·have T:stays r=true:=by
   have I:20000 <= r:=Nat.le_of_not_lt λU=>by rw[w0.low r U]at E;cases E
   have J:r<60000:=Nat.lt_of_not_le λY=>by rw[h.di r (.inr Y)]at E;cases E
   unfold stays;rw[Nat.mod_eq_of_lt (kI J apJ)];exact iP I
  have Z:qO r=r:=by simp[qO,T]
  have:=B5 (ρ:=ρ) r;rw[Z]at this;rw[this];exact h.fix r l E
def apN{f:Nat}{c:tX}(h:qI P f c):qI P f (upI c):=by
 intro hi X N σ xs k r E;obtain⟨I,y,J,L,O⟩:=h X N σ.up _ _ r E
 refine⟨I.up,y.up,J,λQ k'=>L Q _,λw0 ah ρ a w bX hR T U=>?_⟩
 have Y:=λb k C=>(hR.cX b k C).2.2
 refine(O w0 _ _ a w bX hR.up (by rw[dh];exact T) λi=>?_).mono λe w' Z=>?_
 ·rw[dw];have:=U i;cases hx:xs[i]? with
  |none=>trivial
  | some x=>
   rw[hx]at this;exact RA.up Y this
 ·obtain⟨v,aE,ρ',he,D,hy⟩:=Z;exact⟨v,_,_,he,D.up,RA.up (λb k C=>(D.cX b k C).2.2) hy⟩
end
def aS:Nat:=4611686018427387904
def rZ(c:Code)(id:Nat):Code:=match (occs c).lookup id with
 |some (.loop b)=>b
 |_=>.skip
def bk(fn:Func):Code:=fn.body.getD .skip
def mH(l:aa (Nat×qJ)):eD:=λf=>l.lookup f
def B6(P:Program):aa (Nat×qJ)->Prop
 |[]=>True
 |(f,c)::l=>(enters P f/\Vq P f c)/\B6 P l
def uh{P:Program}:∀ (l:aa (Nat×qJ)),B6 P l -> fX P (mH l)
 |[],_=>λf c h=>by cases h
 | (E,I) :: l,⟨J,D⟩=>λf c h=>by
  have C:List.lookup f _=some c:=h;rw[List.lookup_cons]at C;split at C
  ·simp_all
  ·exact uh l D f c C
def jP(l:aa (Nat×sU)):m7:=λid=>l.lookup id
def WQ(P:Program)(N:Nat)(code:Code):aa (Nat×sU)->Prop
 |[]=>True
 |(id,b)::l=>(∃c,(occs code).lookup id=some c/\BP P N (.block id c) b)/\WQ P N code l
def ids(l:aa (Nat×Code)):Bool:=(l.map (·.1)).all λi=>Nat.beq ((l.filter λp=>Nat.beq p.1 i).length) 1
def adj:∀ (l:aa (Nat×Code)) (p:Nat×Code),(∀ q∈l,q.1=p.1 -> q=p) -> p∈l -> l.lookup p.1=some p.2
 |[],p,_,h=>by cases h
 | q :: l,p,C,h=>by
  rw[List.lookup_cons];by_cases D:p.1=q.1
  ·simp_all
  ·have hb:(p.1==q.1)=false:=by simpa using D
   rw[hb];rcases fQ.1 h with rfl|h
   ·simp_all
   ·exact adj l p (λq E=>C q (.tail _ E)) h
def apO{l:aa (Nat×Code)}(h:ids l=true){p q:Nat×Code}(D:p∈l)(E:q∈l)(I:q.1=p.1):q=p:=by
 have C:=cE.1 h p.1 (List.mem_map_of_mem D);have C:=ck C;have J:p∈l.filter λr=>Nat.beq r.1 p.1:=List.mem_filter.2 ⟨D,by simp⟩
 have L:q∈l.filter λr=>Nat.beq r.1 p.1:=List.mem_filter.2 ⟨E,by simp[I]⟩
 obtain⟨z,O⟩:=List.length_eq_one_iff.1 C
 grind
def WR{P:Program}{N:Nat}{code:Code}(hi:ids (occs code)=true):∀ (l:aa (Nat×sU)),WQ P N code l -> pW P N (jP l) (occs code)
 |[],_=>λp D b h=>by cases h
 | (id,L) :: l,⟨⟨c,O,Q⟩,I⟩=>λp D b h=>by
  have C:List.lookup p.1 _=some b:=h;rw[List.lookup_cons]at C;split at C
  ·rename_i E;have E:p.1=id:=by simpa using E
   injection C with C;subst C;have:=adj _ p (λq J e=>apO hi D J e) D;simp_all
  ·exact WR hi l I p D b C
def r3{P:Program}{N:Nat}{l:aa (Nat×Code)}:pW P N (jP []) l:=λp C b h=>by cases h
def ci(P:Program)(fn:Func)(C:Nat)(l:aa (Nat×qJ)):tX:=adf P fn.ntmps (59000+C) (mH l) (bk fn) fn.results
def ID{P:Program}{f:Nat}{fn:Func}(C:Nat)(l:aa (Nat×qJ))(D:P.funcs[f]?=some fn)(hl:B6 P l)(hb:fn.body=some (bk fn):=by kernel_rfl)(E:Nat.ble fn.ntmps 20000=true:=by kernel_rfl)(I:Nat.ble C 900=true:=by kernel_rfl)(J:(fn.name == "runtime.NumGoroutine")=false:=by kernel_rfl):enters P f/\qI P f (ci P fn C l):=
 apH D hb rfl (cI E) J ⟨by omega,by have:=cI I;omega⟩ (uh l hl)
def cj(P:Program)(fn:Func)(C:Nat)(l:aa (Nat×qJ)):tX:=upI (ci P fn C l)
def OC{P:Program}{f:Nat}{fn:Func}{C:Nat}{l:aa (Nat×qJ)}(h:enters P f/\qI P f (ci P fn C l)):enters P f/\qI P f (cj P fn C l):=⟨h.1,apN h.2⟩
def OD{P:Program}{f:Nat}{fn:Func}{ai:aa (Bool×TC)}{ro:aa (Bool×TC×Nat)}{F:mE ai->aj (ja ro)}(N:Nat)(l:aa (Nat×qJ))(b:aa (Nat×sU))(C:P.funcs[f]?=some fn)(hl:B6 P l)(D:pW P N (jP b) (occs (bk fn)))(E:∀x,qN P N (mH l) (jP b) (bk fn) fn.results (gC ai x) (mm ro)=F x)(hb:fn.body=some (bk fn):=by kernel_rfl)(I:fn.ntmps=N:=by kernel_rfl)(J:(fn.name == "runtime.NumGoroutine")=false:=by kernel_rfl)(L:Nat.ble ai.length N=true:=by kernel_rfl)(O:mF ro=true:=by kernel_rfl):enters P f/\iZ P f (gD ai ro F):=apv C hb I J L O (uh l hl) D E
def B7{P:Program}{f:Nat}{fn:Func}{t:TC}{g:Nat}{F:aa (T t)->aj (aa (T t))}(N:Nat)(l:aa (Nat×qJ))(b:aa (Nat×sU))(C:P.funcs[f]?=some fn)(hl:B6 P l)(D:pW P N (jP b) (occs (bk fn)))(E:∀ x:aa (T t),qN P N (mH l) (jP b) (bk fn) fn.results [(false,[.sl t 0 false x])] (mm [(false,.sl t,g)])=F x)
  (I:qN P N (mH l) (jP b) (bk fn) fn.results [(false,[.nil])] (mm [(false,.sl t,g)])=some ([]:aa (T t)):=by kernel_rfl) (J:qN P N (mH l) (jP b) (bk fn) fn.results [(false,[.sl t 0 true []])] (mm [(false,.sl t,g)])=some ([]:aa (T t)):=by kernel_rfl)
  (hb:fn.body=some (bk fn):=by kernel_rfl) (L:fn.ntmps=N:=by kernel_rfl) (O:(fn.name == "runtime.NumGoroutine")=false:=by kernel_rfl) (Q:Nat.ble 1 N=true:=by kernel_rfl) (U:mF [(false,.sl t,g)]=true:=by kernel_rfl):enters P f/\iZ P f (gD [(false,.sl t)] [(false,.sl t,g)] λx=>bif jn x.1 then some ([]:aa (T t))else F x.1):=apw C hb L O Q U (uh l hl) D E I J
def apP{α β:Type}(a:α)(f:α->β):β:=f a
def adk{P:Program}{id:Nat}{body:Code}{C:bJ}{D:aa (Nat×bJ)}{F:C.St->aj (C.St⊕ue D)}{fuel:C.St->Nat}(N:Nat)(l:aa (Nat×qJ))(b:aa (Nat×sU))(hl:B6 P l)(E:pW P N (jP b) (occs body))(I:∀x,Ey P N (mH l) (jP b) body C D x=F x):BP P N (.block id (.loop body)) (Ow id C D F fuel):=aps (uh l hl) E I
abbrev W6 (x:Int):Int:=IntKind.i64.wrap x
/-! Words for what printed functions say often. -/
def xI{α β:Type}(l:aa α)(i:Int)(k:α->aj β):aj β:=if h:0<=i/\i.toNat<l.length then (let e:=l[i.toNat]'h.2;k e)else none
def xC{α β:Type}(l:aa α)(i:Int)(k:aj β):aj β:=if h:0<=i/\i.toNat<l.length then k else none
def xM{α β:Type}(l:aa α)(i:Int)(k:α->aj β):aj β:=if h:i.toNat<l.length then (let e:=l[i.toNat]'h;k e)else none
def xL{α β:Type}(l:aa α)(i:Int)(k:α->aj β):aj β:=if h:0<=i/\i.toNat<l.length then (if h:i.toNat<l.length then (let e:=l[i.toNat]'h;k e)else none)else none
def xZ{α:Type}(l:aa α):Bool:=bD (([]:aa α).length+l.length)
def xA{α:Type}(l:aa α):aa α:=([]:aa α)++l
def bw{S A C:Type}(L:S->aj (S⊕(A⊕Empty)))(s:S)(f:A->aj C):aj C:=(iter L aS s).bind (Sum.elim f (λz=>nomatch z))
def cc{S A B C:Type}(L:S->aj (S⊕(A⊕(B⊕Empty))))(s:S)(f:A->aj C)(g:B->aj C):aj C:=(iter L aS s).bind (Sum.elim f (Sum.elim g (λz=>nomatch z)))
def xG{S E:Type}(s:S):aj (S⊕E):=some (.inl s)
def aA{S A E:Type}(v:A):aj (S⊕(A⊕E)):=some (.inr (.inl v))
def bq{S A B E:Type}(v:B):aj (S⊕(A⊕(B⊕E))):=some (.inr (.inr (.inl v)))
abbrev tI:Tm:=.lf (.int .i64)
abbrev tB:Tm:=.lf (.bool)
structure KC (P:Program) where
 f:Nat
 c:qJ
 ok:enters P f/\Vq P f c
def KL{P:Program}(l:aa (KC P)):aa (Nat×qJ):=l.map λk=>(k.f,k.c)
def uj{P:Program}:∀ l:aa (KC P),B6 P (KL l)
 |[]=>trivial
 |k::l=>⟨k.ok,uj l⟩
structure BK (P:Program) (N:Nat) (code:Code) where
 id:Nat
 b:sU
 ok:BP P N (.block id (.loop (rZ code id))) b
section
variable {P:Program} {f N:Nat} {fn:Func} {code:Code}
def BL(l:aa (BK P N code)):aa (Nat×sU):=l.map λk=>(k.id,k.b)
def BC(l:aa (BK P N code)):aa (aj Code):=l.map λk=>(occs code).lookup k.id
def BD(l:aa (BK P N code)):aa (aj Code):=l.map λk=>some (.loop (rZ code k.id))
def adl:∀ l:aa (BK P N code),BC l=BD l -> WQ P N code (BL l)
 |[],_=>trivial
 | k :: l,h=>by
  unfold BC BD at h;injection h with C D;exact⟨⟨_,C,k.ok⟩,adl l D⟩
def BT(l:aa (BK P N code))(C:BC l=BD l)(hi:ids (occs code)=true):pW P N (jP (BL l)) (occs code):=WR hi _ (adl l C)
def lB(id:Nat)(C:bJ)(D:aa (Nat×bJ))(F:C.St->aj (C.St⊕ue D)):sU:=Ow id C D F λ_=>aS
def lp{body:Code}{id:Nat}{C:bJ}{D:aa (Nat×bJ)}{F:C.St->aj (C.St⊕ue D)}(l:aa (KC P))(E:∀x,Ey P N (mH (KL l)) (jP []) body C D x=F x:=by intro x;kernel_rfl):BP P N (.block id (.loop body)) (lB id C D F):=adk N (KL l) [] (uj l) r3 E
def lq{id:Nat}{C:bJ}{D:aa (Nat×bJ)}{F:C.St->aj (C.St⊕ue D)}(l:aa (KC P))(b:aa (BK P N code))(E:BC b=BD b:=by kernel_rfl)(hi:ids (occs code)=true:=by kernel_rfl)(I:∀x,Ey P N (mH (KL l)) (jP (BL b)) code C D x=F x:=by intro x;kernel_rfl):BP P N (.block id (.loop code)) (lB id C D F):=adk N (KL l) (BL b) (uj l) (BT b E hi) I
def kp{ai:aa (Bool×TC)}{ro:aa (Bool×TC×Nat)}{F:mE ai->aj (ja ro)}(N:Nat)(l:aa (KC P))(C:P.funcs[f]?=some fn)(D:∀x,qN P N (mH (KL l)) (jP []) (bk fn) fn.results (gC ai x) (mm ro)=F x:=by intro x;kernel_rfl)(hb:fn.body=some (bk fn):=by kernel_rfl)(E:fn.ntmps=N:=by kernel_rfl)(I:(fn.name == "runtime.NumGoroutine")=false:=by kernel_rfl)(J:Nat.ble ai.length N=true:=by kernel_rfl)(L:mF ro=true:=by kernel_rfl):enters P f/\iZ P f (gD ai ro F):=OD N (KL l) [] C (uj l) r3 D hb E I J L
def kq{ai:aa (Bool×TC)}{ro:aa (Bool×TC×Nat)}{F:mE ai->aj (ja ro)}(N:Nat)(l:aa (KC P))(b:aa (BK P N (bk fn)))(C:P.funcs[f]?=some fn)(D:BC b=BD b:=by kernel_rfl)(hi:ids (occs (bk fn))=true:=by kernel_rfl)(E:∀x,qN P N (mH (KL l)) (jP (BL b)) (bk fn) fn.results (gC ai x) (mm ro)=F x:=by intro x;kernel_rfl)(hb:fn.body=some (bk fn):=by kernel_rfl)(I:fn.ntmps=N:=by kernel_rfl)(J:(fn.name == "runtime.NumGoroutine")=false:=by kernel_rfl)(L:Nat.ble ai.length N=true:=by kernel_rfl)(O:mF ro=true:=by kernel_rfl):enters P f/\iZ P f (gD ai ro F):=OD N (KL l) (BL b) C (uj l) (BT b D hi) E hb I J L O
def km{ps:aa PK}{ro:aa (Bool×TC×Nat)}{F:kP ps->aj (ja ro×rO (eO ps))}(N:Nat)(l:aa (KC P))(C:P.funcs[f]?=some fn)(D:∀x,B4 P N (mH (KL l)) (jP []) (bk fn) fn.results (nQ ps x) (kr ps 0 x) (EA (eO ps) ro)=F x:=by intro x;kernel_rfl)(hb:fn.body=some (bk fn):=by kernel_rfl)(E:fn.ntmps=N:=by kernel_rfl)(I:(fn.name == "runtime.NumGoroutine")=false:=by kernel_rfl)(J:Nat.ble ps.length N=true:=by kernel_rfl)(L:Nat.ble N 20000=true:=by kernel_rfl)(O:mF ro=true:=by kernel_rfl):enters P f/\vg P f ⟨ps,ro,F⟩:=Oz C hb E I J L O (uh _ (uj l)) r3 D
def kn{ps:aa PK}{ro:aa (Bool×TC×Nat)}{F:kP ps->aj (ja ro×rO (eO ps))}(N:Nat)(l:aa (KC P))(b:aa (BK P N (bk fn)))(C:P.funcs[f]?=some fn)(D:BC b=BD b:=by kernel_rfl)(hi:ids (occs (bk fn))=true:=by kernel_rfl)(E:∀x,B4 P N (mH (KL l)) (jP (BL b)) (bk fn) fn.results (nQ ps x) (kr ps 0 x) (EA (eO ps) ro)=F x:=by intro x;kernel_rfl)(hb:fn.body=some (bk fn):=by kernel_rfl)(I:fn.ntmps=N:=by kernel_rfl)(J:(fn.name == "runtime.NumGoroutine")=false:=by kernel_rfl)(L:Nat.ble ps.length N=true:=by kernel_rfl)(O:Nat.ble N 20000=true:=by kernel_rfl)(Q:mF ro=true:=by kernel_rfl):enters P f/\vg P f ⟨ps,ro,F⟩:=Oz C hb I J L O Q (uh _ (uj l)) (BT b D hi) E
def bA(ai:aa (Bool×TC))(ro:aa (Bool×TC×Nat))(F:mE ai->aj (ja ro))(N:Nat)(l:aa (KC P))(C:P.funcs[f]?=some fn)(D:∀x,qN P N (mH (KL l)) (jP []) (bk fn) fn.results (gC ai x) (mm ro)=F x:=by intro x;kernel_rfl)(hb:fn.body=some (bk fn):=by kernel_rfl)(E:fn.ntmps=N:=by kernel_rfl)(I:(fn.name == "runtime.NumGoroutine")=false:=by kernel_rfl)(J:Nat.ble ai.length N=true:=by kernel_rfl)(L:mF ro=true:=by kernel_rfl):KC P:=⟨f,.p (gD ai ro F),OD N (KL l) [] C (uj l) r3 D hb E I J L⟩
def cw(ai:aa (Bool×TC))(ro:aa (Bool×TC×Nat))(F:mE ai->aj (ja ro))(N:Nat)(l:aa (KC P))(b:aa (BK P N (bk fn)))(C:P.funcs[f]?=some fn)(D:BC b=BD b:=by kernel_rfl)(hi:ids (occs (bk fn))=true:=by kernel_rfl)(E:∀x,qN P N (mH (KL l)) (jP (BL b)) (bk fn) fn.results (gC ai x) (mm ro)=F x:=by intro x;kernel_rfl)(hb:fn.body=some (bk fn):=by kernel_rfl)(I:fn.ntmps=N:=by kernel_rfl)(J:(fn.name == "runtime.NumGoroutine")=false:=by kernel_rfl)(L:Nat.ble ai.length N=true:=by kernel_rfl)(O:mF ro=true:=by kernel_rfl):KC P:=⟨f,.p (gD ai ro F),OD N (KL l) (BL b) C (uj l) (BT b D hi) E hb I J L O⟩
def jQ(ps:aa PK)(ro:aa (Bool×TC×Nat))(F:kP ps->aj (ja ro×rO (eO ps)))(N:Nat)(l:aa (KC P))(C:P.funcs[f]?=some fn)(D:∀x,B4 P N (mH (KL l)) (jP []) (bk fn) fn.results (nQ ps x) (kr ps 0 x) (EA (eO ps) ro)=F x:=by intro x;kernel_rfl)(hb:fn.body=some (bk fn):=by kernel_rfl)(E:fn.ntmps=N:=by kernel_rfl)(I:(fn.name == "runtime.NumGoroutine")=false:=by kernel_rfl)(J:Nat.ble ps.length N=true:=by kernel_rfl)(L:Nat.ble N 20000=true:=by kernel_rfl)(O:mF ro=true:=by kernel_rfl):KC P:=⟨f,.m ⟨ps,ro,F⟩,Oz C hb E I J L O (uh _ (uj l)) r3 D⟩
def oH(ps:aa PK)(ro:aa (Bool×TC×Nat))(F:kP ps->aj (ja ro×rO (eO ps)))(N:Nat)(l:aa (KC P))(b:aa (BK P N (bk fn)))(C:P.funcs[f]?=some fn)(D:BC b=BD b:=by kernel_rfl)(hi:ids (occs (bk fn))=true:=by kernel_rfl)(E:∀x,B4 P N (mH (KL l)) (jP (BL b)) (bk fn) fn.results (nQ ps x) (kr ps 0 x) (EA (eO ps) ro)=F x:=by intro x;kernel_rfl)(hb:fn.body=some (bk fn):=by kernel_rfl)(I:fn.ntmps=N:=by kernel_rfl)(J:(fn.name == "runtime.NumGoroutine")=false:=by kernel_rfl)(L:Nat.ble ps.length N=true:=by kernel_rfl)(O:Nat.ble N 20000=true:=by kernel_rfl)(Q:mF ro=true:=by kernel_rfl):KC P:=⟨f,.m ⟨ps,ro,F⟩,Oz C hb I J L O Q (uh _ (uj l)) (BT b D hi) E⟩
def xU0{A R:Type}(F:R)(_:A):R:=F
def bS{A Z R:Type}(F:A->R)(x:A×Z):R:=F x.1
def bY{A B Z R:Type}(F:A->B->R)(x:A×B×Z):R:=F x.1 x.2.1
def fD{A B C Z R:Type}(F:A->B->C->R)(x:A×B×C×Z):R:=F x.1 x.2.1 x.2.2.1
def oI{A B C D Z R:Type}(F:A->B->C->D->R)(x:A×B×C×D×Z):R:=F x.1 x.2.1 x.2.2.1 x.2.2.2.1
def IE{A B C D E Z R:Type}(F:A->B->C->D->E->R)(x:A×B×C×D×E×Z):R:=F x.1 x.2.1 x.2.2.1 x.2.2.2.1 x.2.2.2.2.1
end
end Go.Proofs.YtglnbhiaknohlaaGreat
