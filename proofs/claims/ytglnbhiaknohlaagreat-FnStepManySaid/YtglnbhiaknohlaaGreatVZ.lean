/-
  Running the program over pure contents, and that it follows (part Z). Nothing here is a claim.
-/
import Derived.Test.YtglnbhiaknohlaaGreatV5
set_option linter.unusedSimpArgs false
namespace Go.Proofs.YtglnbhiaknohlaaGreat
set_option linter.defProp false
open Go.RowKit
set_option linter.unusedVariables false
def tR:Nat:=1000000000
def stays(n:Nat):Bool:=Nat.ble 20000 (n % tR)
def aqk:60000<=tR:=cL rfl
def qx(n:Nat):Nat:=bif stays n then n else n+tR
def zK(n:Nat):ah Nat:=bif stays n then some n else bif Nat.ble tR n && !stays (n-tR)then some (n-tR)else none
def mh:aa Nat->aa Nat
 |[]=>[]
 |[r]=>[qx r]
 |x::y::k=>x::mh (y::k)
def Lf.up:Lf->Lf
 |.v x=>.v x
 |.own k=>.own (mh k)
 |.dead=>.dead
def A.up:A->A
 |.undef=>.undef
 |.skip=>.skip
 |.lf x=>.lf x.up
 |.agg cs=>.agg (cs.map Lf.up)
 |.cR xs=>.cR (xs.map λp=>(p.1,p.2.map Lf.up))
 |.ptr k=>.ptr (mh k)
 |.aG r j=>.aG (qx r) j
 |.gW cs=>.gW cs
 |.kA f cs=>.kA f cs
 |.pk r n=>.pk (qx r) n
 |.view k s i j=>.view (mh k) s i j
 |.fn f cap=>.fn f (cap.map λp=>(qx p.1,p.2))
def aY.up:aY->aY
 |.aB cs=>.aB (cs.map Lf.up)
 |.sl y=>.sl y
 |.mp l=>.mp l
 |.gh xs=>.gh (xs.map A.up)
def S.up(σ:S):S:=⟨λk=>(σ.t k).up,λn=>match zK n with
 |some r=>(σ.m r).map aY.up
 |none=>none⟩
def upI(c:tJ):tJ:=⟨λX N σ xs k=>c.run X N σ.up (xs.map A.up) λC y=>k C.up y.up⟩
section
variable {P:Program} {w w':World} {w0:Wd} {B N:Nat} {aj aE:bG} {ρ ρ':Nat->Loc} {σ:S} {a:Act} {X:Type}
def aql(r:Nat):zK (qx r)=some r:=by
 unfold zK qx;cases h:stays r with
 |true=>simp_all
 | false=>
  have C:stays (r+tR)=false:=by
   unfold stays at h ⊢;simp_all
  have D:Nat.ble tR (r+tR)=true:=iD (Nat.le_add_left _ _);simp[*]
def aqm{n r:Nat}(h:zK n=some r):n=qx r:=by
 unfold zK at h;cases D:stays n with
 | true=>
  rw[D]at h;injection h with h;subst h;simp[qx,D]
 | false=>
  rw[D,au]at h;cases C:(Nat.ble tR n && !stays (n-tR))with
  |false=>simp_all
  | true=>
   rw[C]at h;have h:=Option.some.inj h;rw[aO]at C;have I:=cL C.1;have E:stays r=false:=by rw[<- h];simpa using C.2
   simp[qx,E,au];omega
def mU(aj:bG):bG:=λb=>(aj b).map mh
def vg(ρ:Nat->Loc):Nat->Loc:=λn=>match zK n with
 |some r=>ρ r
 |none=>ρ n
def BS(r:Nat):vg ρ (qx r)=ρ r:=by unfold vg;rw[aql]
def aqn{k:aa Nat}(h:k≠[]):mh k≠[]:=by
 match k with
 |[r]=>simp[mh]
 |x::y::k=>simp[mh]
def En{x:Nat}{k:aa Nat}(h:k≠[]):mh (x :: k)=x :: mh k:=by
 match k with
 |[]=>exact absurd rfl h
 |y::k=>rfl
def ady(x y:Nat)(k:aa Nat):∃ C D,mh (x :: y :: k)=x :: C :: D:=by
 match k with
 |[]=>exact⟨_,_,rfl⟩
 |z::k=>exact⟨y,_,rfl⟩
def W8:∀ (k:aa Nat) (ad:Addr),addrAt w aj ρ k=some ad -> addrAt w (mU aj) (vg ρ) (mh k)=some ad
 |[],_,h=>by simp[addrAt]at h
 | [j,i,s,r],ad,h=>by
  simp only[addrAt]at h;simp only[mh,addrAt,BS];split at h
  ·rename_i b n c C;split at h
   next hl=>rw[bA (by simp[mU,hl,mh])];exact h
   ·cases h
  ·cases h
 | j :: i :: s :: x :: y :: q,ad,h=>by
  simp only[addrAt]at h;split at h
  ·rename_i b n c C;split at h
   ·rename_i hl;cases D:addrAt w aj ρ (x :: y :: q)with
    |none=>simp_all
    | some I=>
     have E:=W8 (x::y::q) I D;have e:mU aj b=some (mh (x::y::q)):=by simp[mU,hl]
     rw[En (by simp),En (by simp),En (by simp)];rw[D]at C;obtain⟨L,O,J⟩:=ady x y q;rw[J]at E e ⊢;simp only[addrAt,E,C,e,if_true];exact h
   ·cases h
  ·cases h
def adz{k:aa Nat}{u:Value}(h:cN w aj ρ k=some u):cN w (mU aj) (vg ρ) (mh k)=some u:=by
 match k with
 | [r]=>
  simp[mh,cN,BS];exact h
 | x :: y :: k=>
  simp[cN]at h;cases C:addrAt w aj ρ _ with
  |none=>rw[C]at h;cases h
  | some ad=>
   have:=W8 _ _ C;obtain⟨E,I,D⟩:=ady x y k;rw[D]at this ⊢;simp[cN,this];simp_all
def W9{b:Nat}(h:aj b=none):mU aj b=none:=by simp[mU,h]
def RV.up(I:∀ b k,aj b=some k->k≠[]){k:aa Nat}{x:V}{v:Value}(h:RV w B aj k x v):RV w B (mU aj) (mh k) x v:=by
 induction h with
 |int=>exact .int _ _ _
 |bool=>exact .bool _ _
 |str=>exact .str _ _
 |nil=>exact .nil _
 |cS=>exact .cS _ _ _
 |cZ q t o A c C=>exact .cZ _ _ _ _ _ C
 |de q t o A c C=>exact .de _ _ _ _ _ C
 | aD q t o J l b off cap u C hl hb L O D Q E=>
  exact .aD _ _ _ _ _ _ _ _ u C (W9 hl) hb L O D E
 | own q t o J l b cap cs u hl T U Y Z D Q E=>
  have hq:=I b q hl
  refine .own _ _ _ _ _ _ _ cs u (by simp[mU,hl]) T U Y Z D λi h j x hx=>?_
  have:=E i h j x hx;rw[En (by simp),En (by simp),En hq]at this;exact this
def dA.up(C:∀ b k,aj b=some k->k≠[]){x:Lf}{u:Value}(h:dA w B aj ρ x u):dA w B (mU aj) (vg ρ) x.up u:=by
 cases x with
 |v x=>exact⟨h.1,RV.up C h.2⟩
 |own k=>exact⟨h.1,adz h.2⟩
 |dead=>trivial
def dQ.up(E:∀ b k,aj b=some k -> k≠[]){cs:aa Lf}{us:Array Value}(h:dQ w B aj ρ cs us):dQ w B (mU aj) (vg ρ) (cs.map Lf.up) us:=by
 refine⟨by rw[dB];exact h.1,λj x C=>?_⟩
 rw[dz]at C;cases D:cs[j]? with
 |none=>simp_all
 | some z=>
  rw[D]at C;injection C with C;subst C;obtain⟨u,I,J⟩:=h.2 j z D;exact⟨u,I,J.up E⟩
def RP.up(C:∀ b k,aj b=some k->k≠[]){p:Bool×aa Lf}{u:Value}(h:RP w B aj ρ p u):RP w B (mU aj) (vg ρ) (p.1,p.2.map Lf.up) u:=by
 obtain⟨b,cs⟩:=p;cases b with
 | true=>
  obtain⟨us,rfl,h⟩:=h;exact⟨us,rfl,dQ.up C h⟩
 |false=>exact dQ.up C h
def RA.up(I:∀ b k,aj b=some k -> k≠[]){x:A}{u:Value}(h:RA w B aj ρ x u):RA w B (mU aj) (vg ρ) x.up u:=by
 cases x with
 |undef=>trivial
 |skip=>exact h
 |lf x=>exact dA.up I h
 |agg cs=>exact RP.up I (p:=(true,cs)) h
 | cR xs=>
  obtain⟨us,rfl,D,E⟩:=h
  refine⟨us,rfl,by rw[dB];exact D,λj p C=>?_⟩
  rw[dz]at C;cases J:xs[j]? with
  |none=>simp_all
  | some z=>
   rw[J]at C;injection C with C;subst C;obtain⟨v,L,O⟩:=E j z J;exact⟨v,L,O.up I⟩
 | ptr k=>
  obtain⟨ad,rfl,h⟩:=h;exact⟨ad,rfl,W8 _ _ h⟩
 | aG r j=>
  obtain⟨b,off,D,E⟩:=h;exact⟨b,off,(BS r).trans D,E⟩
 | gW cs=>
  obtain⟨b,off,Q,T,U,Y⟩:=h
  refine⟨b,off,Q,T,W9 U,λj x Z=>?_⟩
  obtain⟨f1,v,f2,f3⟩:=Y j x Z;exact⟨f1,v,f2,RV.up I f3⟩
 | kA f cs=>
  obtain⟨pv,e0,h⟩:=h;refine⟨pv,e0,?_⟩;obtain⟨b,off,Q,T,U,Y⟩:=h
  refine⟨b,off,Q,T,W9 U,λj x Z=>?_⟩
  obtain⟨f1,v,f2,f3⟩:=Y j x Z;exact⟨f1,v,f2,RV.up I f3⟩
 | pk r n=>
  obtain⟨b,D,E⟩:=h;exact⟨b,(BS r).trans D,E⟩
 | view k s i j=>
  obtain⟨A,n,c,D,E⟩:=h;exact⟨A,n,c,adz D,E⟩
 | fn f cap=>
  obtain⟨vs,rfl,D,E⟩:=h
  refine⟨vs,rfl,by rw[dB];exact D,λj p C=>?_⟩
  rw[dz]at C;cases J:cap[j]? with
  |none=>simp_all
  | some z=>
   rw[J]at C;injection C with C;subst C;obtain⟨b,off,L,O⟩:=E j z J;exact⟨b,off,(BS _).trans L,O⟩
def eF.up(O:∀ b k,aj b=some k -> k≠[]){r:Nat}{x:aY}(h:eF w B aj ρ r x):eF w B (mU aj) (vg ρ) (qx r) x.up:=by
 have L:=BS (ρ:=ρ) r;have hl:∀{b},aj b=some [r] -> mU aj b=some [qx r]:=λh=>by simp[mU,h,mh]
 cases h with
 | aB b off cells e cs us C I Q U T=>
  refine .aB b off cells e _ us (L.trans C) (hl I) Q (by rw[dB];exact U) λj x D=>?_
  rw[dz]at D;cases E:cs[j]? with
  |none=>simp_all
  | some z=>
   rw[E]at D;injection D with D;subst D;exact⟨(T j z E).1,(T j z E).2.up O⟩
 |sl v y C I=>exact .sl v y (L.trans C) (RV.up O I)
 |mp b c Y l C I Q Z=>exact .mp b c Y l (L.trans C) (hl I) Q Z
 | gh us xs C D=>
  refine .gh us _ (L.trans C) λj x J=>?_
  rw[dz]at J;cases E:xs[j]? with
  |none=>simp_all
  | some z=>
   rw[E]at J;injection J with J;subst J;exact RA.up O (D j z E)
def Rl.up(h:Rl w0 N aj ρ σ a w):Rl w0 N (mU aj) (vg ρ) σ.up a w:=by
 have L:=λb k D=>(h.cX b k D).2.2
 refine⟨h.below,λb k D=>?_,λn x C=>?_,λk=>RA.up L (h.tmp k),h.size,h.defers,λr l E=>?_,h.dx⟩
 ·unfold mU at D;cases hl:aj b with
  |none=>simp_all
  | some q=>
   rw[hl]at D;injection D with D;obtain⟨I,J,Q⟩:=h.cX b q hl;exact⟨I,J,by rw[<- D];exact aqn Q⟩
 ·have C:(match zK n with | some r=>(σ.m r).map _ | none=>none)=some x:=C;cases O:zK n with
  |none=>simp_all
  | some r=>
   rw[O]at C;have C:(σ.m r).map _=some x:=C;cases hm:σ.m r with
   |none=>simp_all
   | some y=>
    rw[hm]at C;injection C with C;subst C;rw[aqm O];exact(h.root r y hm).up L
 ·have T:stays r=true:=by
   have I:20000 <= r:=Nat.le_of_not_lt λU=>by rw[w0.low r U]at E;cases E
   have J:r<60000:=Nat.lt_of_not_le λY=>by rw[h.dx r (.inr Y)]at E;cases E
   unfold stays;rw[Nat.mod_eq_of_lt (kO J aqk)];exact iD I
  have Z:qx r=r:=by simp[qx,T]
  have:=BS (ρ:=ρ) r;rw[Z]at this;rw[this];exact h.fix r l E
def aqo{f:Nat}{c:tJ}(h:qm P f c):qm P f (upI c):=by
 intro hi X N σ xs k r E;obtain⟨I,y,J,L,O⟩:=h X N σ.up _ _ r E
 refine⟨I.up,y.up,J,λQ k'=>L Q _,λw0 aj ρ a w cc hR T U=>?_⟩
 have Y:=λb k C=>(hR.cX b k C).2.2
 refine(O w0 _ _ a w cc hR.up (by rw[dB];exact T) λi=>?_).mono λe w' Z=>?_
 ·rw[dz];have:=U i;cases hx:xs[i]? with
  |none=>trivial
  | some x=>
   rw[hx]at this;exact RA.up Y this
 ·obtain⟨v,aE,ρ',he,D,hy⟩:=Z;exact⟨v,_,_,he,D.up,RA.up (λb k C=>(D.cX b k C).2.2) hy⟩
end
def aP:Nat:=4611686018427387904
def rK(c:Code)(id:Nat):Code:=match (occs c).lookup id with
 |some (.loop b)=>b
 |_=>.skip
def aZ(fn:Func):Code:=fn.body.getD .skip
def mj(l:aa (Nat×qp)):eo:=λf=>l.lookup f
def BU(P:Program):aa (Nat×qp)->Prop
 |[]=>True
 |(f,c)::l=>(enters P f/\VJ P f c)/\BU P l
def tS{P:Program}:∀ (l:aa (Nat×qp)),BU P l -> fQ P (mj l)
 |[],_=>λf c h=>by cases h
 | (E,I) :: l,⟨J,D⟩=>λf c h=>by
  have C:List.lookup f _=some c:=h;rw[List.lookup_cons]at C;split at C
  ·simp_all
  ·exact tS l D f c C
def jD(l:aa (Nat×sD)):mS:=λid=>l.lookup id
def Xa(P:Program)(N:Nat)(code:Code):aa (Nat×sD)->Prop
 |[]=>True
 |(id,b)::l=>(∃c,(occs code).lookup id=some c/\Bz P N (.block id c) b)/\Xa P N code l
def ids(l:aa (Nat×Code)):Bool:=(l.map (·.1)).all λi=>Nat.beq ((l.filter λp=>Nat.beq p.1 i).length) 1
def adA:∀ (l:aa (Nat×Code)) (p:Nat×Code),(∀ q∈l,q.1=p.1 -> q=p) -> p∈l -> l.lookup p.1=some p.2
 |[],p,_,h=>by cases h
 | q :: l,p,C,h=>by
  rw[List.lookup_cons];by_cases D:p.1=q.1
  ·simp_all
  ·have hb:(p.1==q.1)=false:=by simpa using D
   rw[hb];rcases gf.1 h with rfl|h
   ·simp_all
   ·exact adA l p (λq E=>C q (.tail _ E)) h
def aqp{l:aa (Nat×Code)}(h:ids l=true){p q:Nat×Code}(D:p∈l)(E:q∈l)(I:q.1=p.1):q=p:=by
 have C:=cI.1 h p.1 (List.mem_map_of_mem D);have C:=cD C;have J:p∈l.filter λr=>Nat.beq r.1 p.1:=List.mem_filter.2 ⟨D,by simp⟩
 have L:q∈l.filter λr=>Nat.beq r.1 p.1:=List.mem_filter.2 ⟨E,by simp[I]⟩
 obtain⟨z,O⟩:=List.length_eq_one_iff.1 C
 grind
def Xb{P:Program}{N:Nat}{code:Code}(hi:ids (occs code)=true):∀ (l:aa (Nat×sD)),Xa P N code l -> pF P N (jD l) (occs code)
 |[],_=>λp D b h=>by cases h
 | (id,L) :: l,⟨⟨c,O,Q⟩,I⟩=>λp D b h=>by
  have C:List.lookup p.1 _=some b:=h;rw[List.lookup_cons]at C;split at C
  ·rename_i E;have E:p.1=id:=by simpa using E
   injection C with C;subst C;have:=adA _ p (λq J e=>aqp hi D J e) D;simp_all
  ·exact Xb hi l I p D b C
def rL{P:Program}{N:Nat}{l:aa (Nat×Code)}:pF P N (jD []) l:=λp C b h=>by cases h
def ci(P:Program)(fn:Func)(C:Nat)(l:aa (Nat×qp)):tJ:=adw P fn.ntmps (59000+C) (mj l) (aZ fn) fn.results
def Iv{P:Program}{f:Nat}{fn:Func}(C:Nat)(l:aa (Nat×qp))(D:P.funcs[f]?=some fn)(hl:BU P l)(hb:fn.body=some (aZ fn):=by kernel_rfl)(E:Nat.ble fn.ntmps 20000=true:=by kernel_rfl)(I:Nat.ble C 900=true:=by kernel_rfl)(J:(fn.name == "runtime.NumGoroutine")=false:=by kernel_rfl):enters P f/\qm P f (ci P fn C l):=
 aqi D hb rfl (cL E) J ⟨by omega,by have:=cL I;omega⟩ (tS l hl)
def cj(P:Program)(fn:Func)(C:Nat)(l:aa (Nat×qp)):tJ:=upI (ci P fn C l)
def OD{P:Program}{f:Nat}{fn:Func}{C:Nat}{l:aa (Nat×qp)}(h:enters P f/\qm P f (ci P fn C l)):enters P f/\qm P f (cj P fn C l):=⟨h.1,aqo h.2⟩
def OE{P:Program}{f:Nat}{fn:Func}{ai:aa (Bool×TC)}{ro:aa (Bool×TC×Nat)}{F:me ai->ah (iQ ro)}(N:Nat)(l:aa (Nat×qp))(b:aa (Nat×sD))(C:P.funcs[f]?=some fn)(hl:BU P l)(D:pF P N (jD b) (occs (aZ fn)))(E:∀x,qw P N (mj l) (jD b) (aZ fn) fn.results (gn ai x) (l5 ro)=F x)(hb:fn.body=some (aZ fn):=by kernel_rfl)(I:fn.ntmps=N:=by kernel_rfl)(J:(fn.name == "runtime.NumGoroutine")=false:=by kernel_rfl)(L:Nat.ble ai.length N=true:=by kernel_rfl)(O:mg ro=true:=by kernel_rfl):enters P f/\iP P f (gp ai ro F):=ap6 C hb I J L O (tS l hl) D E
def BV{P:Program}{f:Nat}{fn:Func}{t:TC}{g:Nat}{F:aa (T t)->ah (aa (T t))}(N:Nat)(l:aa (Nat×qp))(b:aa (Nat×sD))(C:P.funcs[f]?=some fn)(hl:BU P l)(D:pF P N (jD b) (occs (aZ fn)))(E:∀ x:aa (T t),qw P N (mj l) (jD b) (aZ fn) fn.results [(false,[.sl t 0 false x])] (l5 [(false,.sl t,g)])=F x)
  (I:qw P N (mj l) (jD b) (aZ fn) fn.results [(false,[.nil])] (l5 [(false,.sl t,g)])=some ([]:aa (T t)):=by kernel_rfl) (J:qw P N (mj l) (jD b) (aZ fn) fn.results [(false,[.sl t 0 true []])] (l5 [(false,.sl t,g)])=some ([]:aa (T t)):=by kernel_rfl)
  (hb:fn.body=some (aZ fn):=by kernel_rfl) (L:fn.ntmps=N:=by kernel_rfl) (O:(fn.name == "runtime.NumGoroutine")=false:=by kernel_rfl) (Q:Nat.ble 1 N=true:=by kernel_rfl) (U:mg [(false,.sl t,g)]=true:=by kernel_rfl):enters P f/\iP P f (gp [(false,.sl t)] [(false,.sl t,g)] λx=>bif jc x.1 then some ([]:aa (T t))else F x.1):=ap7 C hb L O Q U (tS l hl) D E I J
def aqq{α β:Type}(a:α)(f:α->β):β:=f a
def adB{P:Program}{id:Nat}{body:Code}{C:bJ}{D:aa (Nat×bJ)}{F:C.St->ah (C.St⊕tP D)}{fuel:C.St->Nat}(N:Nat)(l:aa (Nat×qp))(b:aa (Nat×sD))(hl:BU P l)(E:pF P N (jD b) (occs body))(I:∀x,Ei P N (mj l) (jD b) body C D x=F x):Bz P N (.block id (.loop body)) (Ox id C D F fuel):=ap3 (tS l hl) E I
abbrev W6 (x:Int):Int:=IntKind.i64.wrap x
/-! Words for what printed functions say often. -/
def xI{α β:Type}(l:aa α)(i:Int)(k:α->ah β):ah β:=if h:0<=i/\i.toNat<l.length then (let e:=l[i.toNat]'h.2;k e)else none
def xC{α β:Type}(l:aa α)(i:Int)(k:ah β):ah β:=if h:0<=i/\i.toNat<l.length then k else none
def xM{α β:Type}(l:aa α)(i:Int)(k:α->ah β):ah β:=if h:i.toNat<l.length then (let e:=l[i.toNat]'h;k e)else none
def xL{α β:Type}(l:aa α)(i:Int)(k:α->ah β):ah β:=if h:0<=i/\i.toNat<l.length then (if h:i.toNat<l.length then (let e:=l[i.toNat]'h;k e)else none)else none
def xZ{α:Type}(l:aa α):Bool:=bC (([]:aa α).length+l.length)
def xA{α:Type}(l:aa α):aa α:=([]:aa α)++l
def bu{S A C:Type}(L:S->ah (S⊕(A⊕Empty)))(s:S)(f:A->ah C):ah C:=(iter L aP s).bind (Sum.elim f (λz=>nomatch z))
def bQ{S A B C:Type}(L:S->ah (S⊕(A⊕(B⊕Empty))))(s:S)(f:A->ah C)(g:B->ah C):ah C:=(iter L aP s).bind (Sum.elim f (Sum.elim g (λz=>nomatch z)))
def xG{S E:Type}(s:S):ah (S⊕E):=some (.inl s)
def ay{S A E:Type}(v:A):ah (S⊕(A⊕E)):=some (.inr (.inl v))
def aV{S A B E:Type}(v:B):ah (S⊕(A⊕(B⊕E))):=some (.inr (.inr (.inl v)))
abbrev tI:Tm:=.lf (.int .i64)
abbrev tB:Tm:=.lf (.bool)
structure KC (P:Program) where
 f:Nat
 c:qp
 ok:enters P f/\VJ P f c
def KL{P:Program}(l:aa (KC P)):aa (Nat×qp):=l.map λk=>(k.f,k.c)
def tT{P:Program}:∀ l:aa (KC P),BU P (KL l)
 |[]=>trivial
 |k::l=>⟨k.ok,tT l⟩
structure BK (P:Program) (N:Nat) (code:Code) where
 id:Nat
 b:sD
 ok:Bz P N (.block id (.loop (rK code id))) b
section
variable {P:Program} {f N:Nat} {fn:Func} {code:Code}
def BL(l:aa (BK P N code)):aa (Nat×sD):=l.map λk=>(k.id,k.b)
def BC(l:aa (BK P N code)):aa (ah Code):=l.map λk=>(occs code).lookup k.id
def BD(l:aa (BK P N code)):aa (ah Code):=l.map λk=>some (.loop (rK code k.id))
def adC:∀ l:aa (BK P N code),BC l=BD l -> Xa P N code (BL l)
 |[],_=>trivial
 | k :: l,h=>by
  unfold BC BD at h;injection h with C D;exact⟨⟨_,C,k.ok⟩,adC l D⟩
def BT(l:aa (BK P N code))(C:BC l=BD l)(hi:ids (occs code)=true):pF P N (jD (BL l)) (occs code):=Xb hi _ (adC l C)
def lB(id:Nat)(C:bJ)(D:aa (Nat×bJ))(F:C.St->ah (C.St⊕tP D)):sD:=Ox id C D F λ_=>aP
def lp{body:Code}{id:Nat}{C:bJ}{D:aa (Nat×bJ)}{F:C.St->ah (C.St⊕tP D)}(l:aa (KC P))(E:∀x,Ei P N (mj (KL l)) (jD []) body C D x=F x:=by intro x;kernel_rfl):Bz P N (.block id (.loop body)) (lB id C D F):=adB N (KL l) [] (tT l) rL E
def lq{id:Nat}{C:bJ}{D:aa (Nat×bJ)}{F:C.St->ah (C.St⊕tP D)}(l:aa (KC P))(b:aa (BK P N code))(E:BC b=BD b:=by kernel_rfl)(hi:ids (occs code)=true:=by kernel_rfl)(I:∀x,Ei P N (mj (KL l)) (jD (BL b)) code C D x=F x:=by intro x;kernel_rfl):Bz P N (.block id (.loop code)) (lB id C D F):=adB N (KL l) (BL b) (tT l) (BT b E hi) I
def kp{ai:aa (Bool×TC)}{ro:aa (Bool×TC×Nat)}{F:me ai->ah (iQ ro)}(N:Nat)(l:aa (KC P))(C:P.funcs[f]?=some fn)(D:∀x,qw P N (mj (KL l)) (jD []) (aZ fn) fn.results (gn ai x) (l5 ro)=F x:=by intro x;kernel_rfl)(hb:fn.body=some (aZ fn):=by kernel_rfl)(E:fn.ntmps=N:=by kernel_rfl)(I:(fn.name == "runtime.NumGoroutine")=false:=by kernel_rfl)(J:Nat.ble ai.length N=true:=by kernel_rfl)(L:mg ro=true:=by kernel_rfl):enters P f/\iP P f (gp ai ro F):=OE N (KL l) [] C (tT l) rL D hb E I J L
def kq{ai:aa (Bool×TC)}{ro:aa (Bool×TC×Nat)}{F:me ai->ah (iQ ro)}(N:Nat)(l:aa (KC P))(b:aa (BK P N (aZ fn)))(C:P.funcs[f]?=some fn)(D:BC b=BD b:=by kernel_rfl)(hi:ids (occs (aZ fn))=true:=by kernel_rfl)(E:∀x,qw P N (mj (KL l)) (jD (BL b)) (aZ fn) fn.results (gn ai x) (l5 ro)=F x:=by intro x;kernel_rfl)(hb:fn.body=some (aZ fn):=by kernel_rfl)(I:fn.ntmps=N:=by kernel_rfl)(J:(fn.name == "runtime.NumGoroutine")=false:=by kernel_rfl)(L:Nat.ble ai.length N=true:=by kernel_rfl)(O:mg ro=true:=by kernel_rfl):enters P f/\iP P f (gp ai ro F):=OE N (KL l) (BL b) C (tT l) (BT b D hi) E hb I J L O
def km{ps:aa PK}{ro:aa (Bool×TC×Nat)}{F:kB ps->ah (iQ ro×rz (eH ps))}(N:Nat)(l:aa (KC P))(C:P.funcs[f]?=some fn)(D:∀x,BR P N (mj (KL l)) (jD []) (aZ fn) fn.results (nL ps x) (jP ps 0 x) (El (eH ps) ro)=F x:=by intro x;kernel_rfl)(hb:fn.body=some (aZ fn):=by kernel_rfl)(E:fn.ntmps=N:=by kernel_rfl)(I:(fn.name == "runtime.NumGoroutine")=false:=by kernel_rfl)(J:Nat.ble ps.length N=true:=by kernel_rfl)(L:Nat.ble N 20000=true:=by kernel_rfl)(O:mg ro=true:=by kernel_rfl):enters P f/\uS P f ⟨ps,ro,F⟩:=OA C hb E I J L O (tS _ (tT l)) rL D
def kn{ps:aa PK}{ro:aa (Bool×TC×Nat)}{F:kB ps->ah (iQ ro×rz (eH ps))}(N:Nat)(l:aa (KC P))(b:aa (BK P N (aZ fn)))(C:P.funcs[f]?=some fn)(D:BC b=BD b:=by kernel_rfl)(hi:ids (occs (aZ fn))=true:=by kernel_rfl)(E:∀x,BR P N (mj (KL l)) (jD (BL b)) (aZ fn) fn.results (nL ps x) (jP ps 0 x) (El (eH ps) ro)=F x:=by intro x;kernel_rfl)(hb:fn.body=some (aZ fn):=by kernel_rfl)(I:fn.ntmps=N:=by kernel_rfl)(J:(fn.name == "runtime.NumGoroutine")=false:=by kernel_rfl)(L:Nat.ble ps.length N=true:=by kernel_rfl)(O:Nat.ble N 20000=true:=by kernel_rfl)(Q:mg ro=true:=by kernel_rfl):enters P f/\uS P f ⟨ps,ro,F⟩:=OA C hb I J L O Q (tS _ (tT l)) (BT b D hi) E
def bw(ai:aa (Bool×TC))(ro:aa (Bool×TC×Nat))(F:me ai->ah (iQ ro))(N:Nat)(l:aa (KC P))(C:P.funcs[f]?=some fn)(D:∀x,qw P N (mj (KL l)) (jD []) (aZ fn) fn.results (gn ai x) (l5 ro)=F x:=by intro x;kernel_rfl)(hb:fn.body=some (aZ fn):=by kernel_rfl)(E:fn.ntmps=N:=by kernel_rfl)(I:(fn.name == "runtime.NumGoroutine")=false:=by kernel_rfl)(J:Nat.ble ai.length N=true:=by kernel_rfl)(L:mg ro=true:=by kernel_rfl):KC P:=⟨f,.p (gp ai ro F),OE N (KL l) [] C (tT l) rL D hb E I J L⟩
def cg(ai:aa (Bool×TC))(ro:aa (Bool×TC×Nat))(F:me ai->ah (iQ ro))(N:Nat)(l:aa (KC P))(b:aa (BK P N (aZ fn)))(C:P.funcs[f]?=some fn)(D:BC b=BD b:=by kernel_rfl)(hi:ids (occs (aZ fn))=true:=by kernel_rfl)(E:∀x,qw P N (mj (KL l)) (jD (BL b)) (aZ fn) fn.results (gn ai x) (l5 ro)=F x:=by intro x;kernel_rfl)(hb:fn.body=some (aZ fn):=by kernel_rfl)(I:fn.ntmps=N:=by kernel_rfl)(J:(fn.name == "runtime.NumGoroutine")=false:=by kernel_rfl)(L:Nat.ble ai.length N=true:=by kernel_rfl)(O:mg ro=true:=by kernel_rfl):KC P:=⟨f,.p (gp ai ro F),OE N (KL l) (BL b) C (tT l) (BT b D hi) E hb I J L O⟩
def jE(ps:aa PK)(ro:aa (Bool×TC×Nat))(F:kB ps->ah (iQ ro×rz (eH ps)))(N:Nat)(l:aa (KC P))(C:P.funcs[f]?=some fn)(D:∀x,BR P N (mj (KL l)) (jD []) (aZ fn) fn.results (nL ps x) (jP ps 0 x) (El (eH ps) ro)=F x:=by intro x;kernel_rfl)(hb:fn.body=some (aZ fn):=by kernel_rfl)(E:fn.ntmps=N:=by kernel_rfl)(I:(fn.name == "runtime.NumGoroutine")=false:=by kernel_rfl)(J:Nat.ble ps.length N=true:=by kernel_rfl)(L:Nat.ble N 20000=true:=by kernel_rfl)(O:mg ro=true:=by kernel_rfl):KC P:=⟨f,.m ⟨ps,ro,F⟩,OA C hb E I J L O (tS _ (tT l)) rL D⟩
def oC(ps:aa PK)(ro:aa (Bool×TC×Nat))(F:kB ps->ah (iQ ro×rz (eH ps)))(N:Nat)(l:aa (KC P))(b:aa (BK P N (aZ fn)))(C:P.funcs[f]?=some fn)(D:BC b=BD b:=by kernel_rfl)(hi:ids (occs (aZ fn))=true:=by kernel_rfl)(E:∀x,BR P N (mj (KL l)) (jD (BL b)) (aZ fn) fn.results (nL ps x) (jP ps 0 x) (El (eH ps) ro)=F x:=by intro x;kernel_rfl)(hb:fn.body=some (aZ fn):=by kernel_rfl)(I:fn.ntmps=N:=by kernel_rfl)(J:(fn.name == "runtime.NumGoroutine")=false:=by kernel_rfl)(L:Nat.ble ps.length N=true:=by kernel_rfl)(O:Nat.ble N 20000=true:=by kernel_rfl)(Q:mg ro=true:=by kernel_rfl):KC P:=⟨f,.m ⟨ps,ro,F⟩,OA C hb I J L O Q (tS _ (tT l)) (BT b D hi) E⟩
def xU0{A R:Type}(F:R)(_:A):R:=F
def bR{A Z R:Type}(F:A->R)(x:A×Z):R:=F x.1
def bS{A B Z R:Type}(F:A->B->R)(x:A×B×Z):R:=F x.1 x.2.1
def fz{A B C Z R:Type}(F:A->B->C->R)(x:A×B×C×Z):R:=F x.1 x.2.1 x.2.2.1
def oD{A B C D Z R:Type}(F:A->B->C->D->R)(x:A×B×C×D×Z):R:=F x.1 x.2.1 x.2.2.1 x.2.2.2.1
def Iw{A B C D E Z R:Type}(F:A->B->C->D->E->R)(x:A×B×C×D×E×Z):R:=F x.1 x.2.1 x.2.2.1 x.2.2.2.1 x.2.2.2.2.1
end
end Go.Proofs.YtglnbhiaknohlaaGreat
