/-
  Running the program over pure contents, and that it follows (part 2). Nothing here is a claim.
-/
import Derived.Laws.StructEq
import Derived.Test.YtnilicojgkhpnaaGreatV1
set_option linter.unusedSimpArgs false
namespace Go.Proofs.YtnilicojgkhpnaaGreat
set_option linter.defProp false
open Go.RowKit
set_option linter.unusedVariables false
def aJF{X:Type}(N:Nat)(σ:S)(C:ah Tmp)(c x y:A)(k:S->ah X):ah X:=
 match c with
 |.lf (.v (.bool b))=>bif b then iy N σ C x k else iy N σ C y k
 |_=>none
def Ir{X:Type}(P:Program)(s:TypeId)(x:A)(f:Nat)(k:A->ah X):ah X:=
 match H7 P s f,x with
 | some C,.agg cs=>(match jC P C.type,Ey P C.type with
  |some n,some true=>if C.offset+n<=cs.length then k (.agg ((cs.drop C.offset).take n))else none
  | some _,some false=>(match cs[C.offset]? with
   |some y=>k (.lf y)
   |none=>none)
  |_,_=>none)
 |_,_=>none
def EI{X:Type}(C:Bool)(x y:A)(k:A->ah X):ah X:=
 match x,y with
 |.lf (.v (.int D a)),.lf (.v (.int _ b))=>k (.lf (.v (.int D (bif C then (if b > a then b else a)else (if b<a then b else a)))))
 |_,_=>none
def Is{X:Type}(P:Program)(t:TypeId)(x i:A)(k:A->ah X):ah X:=
 match x,i with
 | .lf (.v (.str s)),.lf (.v (.int _ iv))=>(match P.underlying t with
  |some .string=>if h:0<=iv/\iv.toNat<s.size then k (.lf (.v (.int .u8 ((s[iv.toNat]'h.2).toNat:Int))))else none
  |_=>none)
 |_,_=>none
def tG{X:Type}(x:ah A)(d:Int)(k:Int->ah X):ah X:=
 match x with
 |none=>k d
 |some (.lf (.v (.int _ n)))=>k n
 |_=>none
def xo{X:Type}(P:Program)(t:TypeId)(x:A)(lo hi:ah A)(k:A->ah X):ah X:=
 match x with
 | .lf (.v (.str s))=>(match P.underlying t with
  |some .string=>tG lo 0 λl=>tG hi (s.size:Int) λh=>if 0<=l/\l<=h/\h<=(s.size:Int)then k (.lf (.v (.str (s.extract l.toNat h.toNat))))else none
  |_=>none)
 | .lf (.v (.sl C g D l))=>(match qb P t with
  | some e=>(match jC P e with
   |some n=>if n=aE C then (bif Nat.blt g 2 then tG lo 0 λa=>tG hi (l.length:Int) λb=>if 0<=a/\a<=b/\b<=(l.length:Int)then k (.lf (.v (.sl C g false ((l.take b.toNat).drop a.toNat))))else none else none)else none
   |none=>none)
  |none=>none)
 |_=>none
def EJ(P:Program)(C D:TypeId):Bool:=
 match P.underlying C,P.underlying D with
 | some (.slice e),some .string=>(match P.underlying e with
  |some (.int .u8)=>true
  |_=>false)
 |_,_=>false
def OS{X:Type}(P:Program)(C D:TypeId)(z:V)(k:A->ah X):ah X:=
 match z with
 |.sl .u8 _ _ l=>bif EJ P C D then k (.lf (.v (.str (strOfNums l))))else none
 |.nil=>bif EJ P C D then k (.lf (.v (.str (strOfNums []))))else none
 |_=>none
def zy{X:Type}(P:Program)(σ:S)(C D:TypeId)(x:A)(k:A->ah X):ah X:=
 match x with
 | .lf (.v (.int _ n))=>(match P.underlying C,P.underlying D with
  |some _,some (.int E)=>k (.lf (.v (.int E (E.wrap n))))
  |_,_=>none)
 |.lf y=>pg σ y λz=>OS P C D z k
 |_=>none
section
variable {P:Program} {w w':World} {w0:Wd} {B N:Nat} {aj aD:bK} {ρ ρ':Nat->Loc} {σ:S} {a:Act} {X:Type} {d:Nat} {r:X} {o:Oper}
def aJG{α:Type}(f:α -> aa Value)(s:Nat)(C:∀ x,(f x).length=s)(l:aa α):(l.flatMap f).length=l.length*s:=by
 induction l with
 |nil=>simp
 |cons a l D=>grind
def ap4{α:Type}(f:α -> aa Value)(s:Nat)(D:∀ x,(f x).length=s):∀ (l:aa α) (k:Nat) (C:k<l.length) (j:Nat),j<s -> (l.flatMap f)[k*s+j]?=(f l[k])[j]?:=by
 intro l
 induction l with
 |nil=>simp_all
 | cons a l E=>
  intro k C j L;rw[List.flatMap_cons];cases k with
  |zero=>grind
  |succ k =>grind
def adu(z:Array Value)(s n:Nat)(C:z.size=s)(E:0<s):(madeCells z (n*s)).toList=(List.replicate n z.toList).flatten:=by
 have e:(List.replicate n z.toList).flatten=(List.replicate n ()).flatMap (λ_=>z.toList):=by
  rw[List.flatMap_def,List.map_replicate]
 rw[e];have hl:((List.replicate n ()).flatMap (λ_=>z.toList)).length=n*s:=by
  simp_all
 apply List.ext_getElem?;intro i;rcases Nat.lt_or_ge i _ with hi|hi
 ·have L:i / s<n:=Nat.div_lt_of_lt_mul (by rw[Nat.mul_comm];exact hi);have O:i % s<s:=Nat.mod_lt _ E;have T:i=i / s*s+i % s:=by rw[Nat.mul_comm];exact(Nat.div_add_mod i s).symm
  have D:=ap4 (λ_=>z.toList) s (λ_=>by simpa using C) (List.replicate n ()) (i / s) (by simpa using L) (i % s) O;rw[<- T]at D;rw[D];have U:i % s<z.size:=by omega
  simp only[madeCells,Array.toList_map,Array.toList_range,eR,List.getElem?_range hi,Option.map_some,C];simp[U]
 ·rw[List.getElem?_eq_none (by rw[lS,size_madeCells];exact hi),List.getElem?_eq_none (by rw[hl];exact hi)]
def ap5{t:TypeId}{len:Nat}{parts:Array (Nat×Operand)}{k:S -> ah X}(h:zx P N σ d t len parts.toList k=some r):∃ dn,k dn=some r /\ ∀ aj ρ a w,Rl w0 N aj ρ σ a w ->
  ∃w' aD ρ' v,(Instr.buildSlice t len (parts.map λ(i,x)=>(i,a.eval x))).run P w = .ok v w'/\Rl w0 N aD ρ' dn (a.put (some d) v) w':=by
 unfold zx at h;split at h
 ·rename_i e C pz;obtain⟨gv,ht,i,hi,Z,jW⟩:=zp pz;split at h
  ·rename_i z hz;cases U:(Nat.beq (full C) 0&&Nat.beq z.cells.size (aE C)&&Nat.blt (len*aE C) 16777217)with
   |false=>rw[U]at h;cases h
   | true=>
    rw[U,au]at h;simp only[aU]at U;have hf:=cK U.1.1;have nj:=cK U.1.2;have hsm:len*aE C<16777217:=by have:=cZ U.2;omega
    have pE:i.zero=some z:=by unfold zeroOf at hz;simpa [hi]using hz
    split at h
    ·rename_i cs gI;split at h
     ·rename_i vs kj;split at h
      ·rename_i l hl;obtain⟨hd,h⟩:=pq h
       refine⟨_,h,λaj ρ a w hR=>?_⟩
       obtain⟨EK,BJ,iR⟩:=Wj C 0 len vs l hl;have Wl:eO w w0.heap.size aj ρ (List.replicate len (z.cells.toList.map og)).flatten (madeCells z.cells (len*aE C)):=by
        have e1:(List.replicate len (z.cells.toList.map og)).flatten=((List.replicate len z.cells.toList).flatten).map og:=by
         rw[List.map_flatten,List.map_replicate]
        rw[e1,<- adu z.cells (aE C) len nj (oY C)]
        refine⟨by simp,λj x D=>?_⟩
        rw[eR]at D;cases L:(madeCells z.cells (len*aE C)).toList[j]? with
        |none=>rw[L]at D;cases D
        | some v=>
         rw[L]at D;injection D with D;subst D;exact⟨v,by simpa using L,OJ v⟩
       obtain⟨O,xq,dJ⟩:=OP (w:=w) (B:=w0.heap.size) (aj:=aj) (ρ:=ρ) _ _ _ (parts.toList.map λp=>(p.1,a.eval p.2)) cs gI Wl (by simp) (λj p q T hq=>by
        rw[eR]at T hq;cases D:parts.toList[j]? with
        |none=>rw[D]at T;cases T
        | some x=>
         rw[D]at T hq;injection T with T;injection hq with hq;subst T hq;exact⟨rfl,hR.aL x.2⟩)
       have adv:=OQ cs vs kj;have ap6:O.size=len*aE C:=by rw[dJ.1,adv,eS,BJ]
       have dP:(Instr.buildSlice t len (parts.map λ(i,x)=>(i,a.eval x))).run P w = .ok (.slice (some ⟨w.heap.size,0,none⟩) len len) (w.alloc (.cells O e)):=by
        have Iq:(parts.map λ(i,x)=>(i,a.eval x)).toList=parts.toList.map λp=>(p.1,a.eval p.2):=by simp
        by_cases h0:len*aE C=0
        ·have hm:madeCells z.cells (len*aE C) = #[]:=by rw[h0];simp[madeCells]
         rw[hm]at xq;have Wm:len*i.size=0:=by rw[Z];exact h0
         rw[<- Z]at xq;have e0:∀f:Nat -> Value,Array.map f (Array.range 0) = #[]:=λf=>by simp
         simp only[Instr.buildSlice,gq,ia gv,sizeOf,typeInfo];simp[hi,Wm];rw[e0,xq];simp[newRow]
        ·exact run_buildSlice (P:=P) w t e len _ O i z gv hi pE (by rw[Z];omega) (by rw[Z];exact h0) (by rw[Z,Iq];exact xq)
       refine⟨_,cg aj w.heap.size (some [d]),cg ρ d (.ep (.slice (some ⟨w.heap.size,0,none⟩) len len)),_,dP,(hR.ED (hR.dH d (.inl hd)) (λr hr=>cR _ _ _ hr) (.sl _ _ (cv _ _ _) ?_)).set ⟨rfl,by simp[di,cv]⟩ hd⟩
       have qc:∀ E (Y:E<l.length) j x,(enc C 0 l[E])[j]?=some x -> ∃ v,O[E*aE C+j]?=some v /\ ∀ (w':World) (B':Nat) (aD:bK) (q':aa Nat),RV w' B' aD q' x v:=by
        intro E Y j x D;obtain⟨y,hy,hw⟩:=iR E Y j x D;obtain⟨v,L,hr⟩:=dJ.2 (E*aE C+j) (.v y) (by rw[adv,eR,hy];rfl);exact⟨v,L,λw' B' aD q'=>(hr.2.wk hw).tw (zg C 0 l[E] hf x (hU D))⟩
       have:=RV.own (w:=w.alloc (.cells O e)) (B:=w0.heap.size) (aj:=cg aj w.heap.size (some [d])) [d] C 0 true l w.heap.size len O (λi j=>(O[i*aE C+j]?).getD undef)
        (cv _ _ _) (by rw[ht];exact heap_alloc_new w _) ap6 (by omega) ⟨by have:=Nat.le_mul_of_pos_right len (oY C);unfold maxLen;omega,λ_=>EK.symm⟩ (λE Y j x D=>?_) (λE Y j x D=>?_)
       ·rw[EK]at this;exact this
       ·obtain⟨v,L,_⟩:=qc E Y j x D;rw[L];rfl
       ·obtain⟨v,L,hr⟩:=qc E Y j x D;rw[L];exact hr _ _ _ _
      ·cases h
     ·cases h
    ·cases h
  ·cases h
 ·cases h
def adw{C:Bool}{x y:A}{k:A->ah X}(h:EI C x y k=some r):∃ z,k z=some r/\∀ (w:World) (B:Nat) (aj:bK) (ρ:Nat->Loc) (t ty:TypeId) (u v:Value),RA w B aj ρ x u->RA w B aj ρ y v->
  ∃D,((bif C then Builtin.max_ #[t,t] ty #[u,v]else Builtin.min_ #[t,t] ty #[u,v]):Sem Value).run P w = .ok D w/\RA w B aj ρ z D:=by
 unfold EI at h;split at h
 ·refine⟨_,h,λw B aj ρ t ty u v E L=>?_⟩
  obtain rfl:=E.2.iz;obtain rfl:=L.2.iz;cases C with
  |true=>exact⟨_,by simp[Builtin.max_,Builtin.max2],rfl,.int _ _ _⟩
  |false=>exact⟨_,by simp[Builtin.min_,Builtin.min2],rfl,.int _ _ _⟩
 ·cases h
def ap7{t:TypeId}{x i:A}{k:A->ah X}(h:Is P t x i k=some r):∃ z,k z=some r/\∀ (w:World) (B:Nat) (aj:bK) (ρ:Nat->Loc) (u v:Value),RA w B aj ρ x u->RA w B aj ρ i v->
  ∃C,(Instr.index t u v).run P w = .ok C w/\RA w B aj ρ z C:=by
 unfold Is at h;split at h
 ·rename_i s O iv;split at h
  ·rename_i D;split at h
   ·rename_i hb
    refine⟨_,h,λw B aj ρ u v E L=>?_⟩
    obtain rfl:=E.2.xg;obtain rfl:=L.2.iz;exact⟨_,by simp[Instr.index,asIntOf,ia D,hb.1,hb.2],rfl,.int _ _ _⟩
   ·cases h
  ·cases h
 ·cases h
def adx{C D:TypeId}(h:EJ P C D=true):∃ e,P.underlying C=some (.slice e)/\P.underlying D=some .string/\P.underlying e=some (.int .u8):=by
 unfold EJ at h
 grind
def ady(l:aa Int)(i:Nat)(hi:i<l.length):l.getD i 0=l[i]:=by rw[fz,bZ hi];rfl
def RV.toStr{L O e:TypeId}(Y:P.underlying L=some (.slice e))(Z:P.underlying O=some .string)(he:P.underlying e=some (.int .u8)){o:Nat}{qn:Bool}{l:aa (T .u8)}{q:aa Nat}{B:Nat}{u:Value}(h:RV w B aj q (.sl .u8 o qn l) u):
  (convert L O u).run P w = .ok (.string (strOfNums l)) w:=by
 generalize C:V.sl .u8 o qn l=y at h;cases h with
 |int=>cases C
 |bool=>cases C
 |str=>cases C
 |nil=>cases C
 | eI q t o'=>
  injection C with D e2 e3 E;subst D;obtain rfl:=eq_of_heq E;rw[run_convert_bytes_nil w L e Y he 0 0 O Z];rfl
 | fN q t o' A c ho=>
  injection C with D e2 e3 E;subst D;obtain rfl:=eq_of_heq E;have hl:=run_loadCells_list (P:=P) w A [] (λj v hj=>by simp at hj);rw[run_convert_bytes_string w L O e _ 0 c Y he Z];rfl
 | fW q t o' A c ho=>
  injection C with D e2 e3 E;subst D;obtain rfl:=eq_of_heq E;have hl:(loadCells A 0).run P w = .ok (([]:aa Int).map (Value.int .u8)).toArray w:=run_loadCells_list (P:=P) w A [] (λj v hj=>by simp at hj);rw[run_convert_bytes_string w L O e _ 0 c Y he Z,run_bytesToString w A 0 c [] hl];rfl
 | aF q t o' Wn l' b off cap uu ho hl hb h1 jA hc hr=>
  injection C with D e2 e3 E;subst D;obtain rfl:=eq_of_heq E
  refine run_convert_bytes_arg w L e Y he b off _ cap l rfl (λi hi=>?_) O Z
  have U:=hc i hi 0 (.int .u8 l[i]) rfl;have h3:=(hr i hi 0 (.int .u8 l[i]) rfl).iz;simp only[aE,Nat.mul_one,Nat.add_zero]at U;have hg:=ady (show aa Int from l) i hi;rw[U,h3];exact aZ (λz=>some (Value.int .u8 z)) hg.symm
 | own q t o' Wn l' b cap cs uu hl hh o8 hn hm hc hr=>
  injection C with D e2 e3 E;subst D;obtain rfl:=eq_of_heq E
  refine run_convert_bytes_arg w L e Y he b 0 _ cap l rfl (λi hi=>?_) O Z
  have U:=hc i hi 0 (.int .u8 l[i]) rfl;have h3:=(hr i hi 0 (.int .u8 l[i]) rfl).iz;simp only[aE,Nat.mul_one,Nat.add_zero]at U;have hg:=ady (show aa Int from l) i hi;rw[h3]at U;have h4:w.cell? ⟨b,0+i,none⟩=some (.int .u8 l[i]):=by simp[World.cell?,hh,U]
  rw[h4];exact aZ (λz=>some (Value.int .u8 z)) hg.symm
def ap8{E L:TypeId}{x:A}{k:A -> ah X}(h:zy P σ E L x k=some r):∃ z,k z=some r /\ ∀ aj ρ a w,Rl w0 N aj ρ σ a w -> ∀ u,RA w w0.heap.size aj ρ x u ->
  ∃t',(convert E L u).run P w = .ok t' w/\RA w w0.heap.size aj ρ z t':=by
 unfold zy at h;split at h
 ·rename_i kk n;split at h
  ·rename_i d1 kd hs hd
   refine⟨_,h,λaj ρ a w _ u C=>?_⟩
   obtain rfl:=C.2.iz;exact⟨_,by simp[convert,ia hs,ia hd,Conv.intToInt],rfl,.int _ _ _⟩
  ·cases h
 ·rename_i y _;have key:∃ z,(∀ aj ρ a w,Rl w0 N aj ρ σ a w -> ∀ u,dZ w w0.heap.size aj ρ y u -> ∃ q,RV w w0.heap.size aj q z u)/\OS P E L z k=some r:=by
   cases y with
   |v z=>exact⟨z,λaj ρ a w _ u C=>⟨[],C.2⟩,h⟩
   |dead=>cases h
   | own q=>
    obtain⟨z,T,h⟩:=sn q _ h
    refine⟨z,λaj ρ a w hR u C=>?_,h⟩
    obtain⟨v,hv,U⟩:=T.ok hR.root;have h3:=C.2
    grind
  obtain⟨z,T,D⟩:=key;clear h;unfold OS at D;split at D
  ·rename_i o qn l;cases O:EJ P E L with
   |false=>simp_all
   | true=>
    rw[O]at D;obtain⟨e,Y,Z,e3⟩:=adx O
    refine⟨_,D,λaj ρ a w hR u C=>?_⟩
    obtain⟨q,U⟩:=T aj ρ a w hR u C;exact⟨_,U.toStr Y Z e3,rfl,.str _ _⟩
  ·cases O:EJ P E L with
   |false=>simp_all
   | true=>
    rw[O,au]at D;obtain⟨e,Y,Z,e3⟩:=adx O
    refine⟨_,D,λaj ρ a w hR u C=>?_⟩
    obtain⟨q,U⟩:=T aj ρ a w hR u C;cases U;exact⟨_,by rw[run_convert_bytes_nil w E e Y e3 0 0 L Z];rfl,rfl,.str _ _⟩
  ·cases D
 ·cases h
def ap9{s:TypeId}{x:A}{f:Nat}{k:A -> ah X}(h:Ir P s x f k=some r):∃ z,k z=some r /\ ∀ (w:World) (B:Nat) (aj:bK) (ρ:Nat -> Loc) (u:Value),RA w B aj ρ x u ->
  ∃Z,(Instr.field s u f).run P w = .ok Z w/\RA w B aj ρ z Z:=by
 unfold Ir at h;split at h
 ·rename_i E cs L;have ko:∃ O,P.underlying s=some (.struct O)/\O[f]?=some E:=by
   unfold H7 at L;split at L
   ·simp_all
   ·cases L
  obtain⟨O,kQ,zz⟩:=ko;split at h
  ·rename_i n T C;split at h
   ·rename_i hle
    refine⟨_,h,λw B aj ρ u D=>?_⟩
    obtain⟨us,rfl,hR⟩:=D;have U:(isAgg E.type).run P w = .ok true w:=by
     unfold Ey at C;split at C
     next fs' D=>unfold isAgg;rw[gq,ia D];rfl
     next c e D=>unfold isAgg;rw[gq,ia D];rfl
     ·cases C
     ·cases C
    unfold jC at T;cases hi:P.info? E.type with
    |none=>simp_all
    | some i=>
     have BH:i.size=n:=by simpa [hi]using T
     refine⟨.agg (us.extract E.offset (E.offset+n)),by simp[Instr.field,ia kQ,zz,asAgg,part,gq,U,sizeOf,typeInfo,hi,BH],_,rfl,?_,λj y Y=>?_⟩
     ·have:=hR.1
      grind
     ·obtain⟨hj,It⟩:=OB _ _ _ _ _ Y;obtain⟨v,hv,hr⟩:=hR.2 _ y It
      grind
   ·cases h
  ·rename_i n T C;split at h
   ·rename_i y Y
    refine⟨_,h,λw B aj ρ u D=>?_⟩
    obtain⟨us,rfl,hR⟩:=D;obtain⟨v,hv,hr⟩:=hR.2 _ y Y;have U:(isAgg E.type).run P w = .ok false w:=by
     unfold Ey at C;split at C
     ·cases C
     ·cases C
     next d hs ha D=>unfold isAgg;rw[gq,ia D];simp_all
     ·cases C
    exact⟨v,by simp[Instr.field,ia kQ,zz,asAgg,part,gq,U,hv],hr⟩
   ·cases h
  ·cases h
 ·cases h
end
def V.val:V->Value
 |.int k n=>.int k n
 |.bool b=>.bool b
 |.str s=>.string s
 |_=>undef
def OT:TypeDesc->V->V->ah Bool
 |.int _,.int k a,.int C b=>if k=C then some (a==b)else none
 |.bool,.bool a,.bool b=>some (a==b)
 |.string,.str a,.str b=>some (a.toList==b.toList)
 |_,_,_=>none
def Iu(P:Program)(g:TypeId->aa V->aa V->ah Bool)(xs ys:aa V):aa Field->ah Bool
 |[]=>some true
 | f :: C=>bif f.name == "_" then Iu P g xs ys C else (match jC P f.type with
  | some n=>bif Nat.ble (f.offset+n) xs.length then (match g f.type ((xs.drop f.offset).take n) ((ys.drop f.offset).take n),Iu P g xs ys C with
   |some a,some b=>some (a&&b)
   |_,_=>none)else none
  |none=>none)
def zB(P:Program):Nat->TypeId->aa V->aa V->ah Bool
 |0,_,_,_=>none
 | n+1,t,xs,ys=>match P.underlying t with
  |some (.struct C)=>bif P.stoodInHeld t ||!Nat.beq xs.length ys.length then none else Iu P (zB P n) xs ys C.toList
  | some d=>(match xs,ys with
   |[x],[y]=>OT d x y
   |_,_=>none)
  |none=>none
def OU:BinOp->ah Bool
 |.eql=>some false
 |.neq=>some true
 |_=>none
def jN{α:Type}:aa α->Bool
 |[]=>true
 |_=>false
def isStr(P:Program)(t:TypeId):Bool:=match P.underlying t with
 |some (.struct _)=>true
 |_=>false
def zC{X:Type}(P:Program)(σ:S)(D:BinOp)(t:TypeId)(x y:A)(k:A->ah X):ah X:=
 match OU D,x,y with
 | some C,.agg cs,.agg E=>(match qY cs,qY E with
  | some xs,some ys=>bif P.eqGuardType P.depth t || !isStr P t then none else (match zB P 20 t xs ys with
   |some b=>k (.lf (.v (.bool (bif C then !b else b))))
   |none=>none)
  |_,_=>none)
 | some C,.lf l,.lf (.v .nil)=>(match qb P t with
  | some _=>pg σ l λz=>(match z with
   |.nil=>k (.lf (.v (.bool (bif C then false else true))))
   |.sl _ _ true _=>k (.lf (.v (.bool (bif C then true else false))))
   |.sl _ _ false l=>bif jN l then none else k (.lf (.v (.bool (bif C then true else false))))
   |_=>none)
  |none=>none)
 |_,_,_=>vK x λa=>vK y λb=>HY P t D a b λz=>k (.lf (.v z))
section
variable {P:Program} {w w':World} {w0:Wd} {B N:Nat} {aj aD:bK} {ρ ρ':Nat->Loc} {σ:S} {a:Act} {X:Type} {d:Nat} {r:X} {o:Oper}
def aqa{D:TypeDesc}{x y:V}{b:Bool}{t:TypeId}{n:Nat}(C:P.underlying t=some D)(h:OT D x y=some b):(Op.equalIn (n+1) t x.val y.val).run P w = .ok b w:=by
 unfold OT at h;split at h
 ·split at h
  next L _ a k O E=>subst E;injection h with h;subst h;exact run_equalIn_int w n t _ _ _ _ C
  ·cases h
 ·injection h with h;subst h;exact run_equalIn_bool' w n t _ _ C
 ·injection h with h;subst h;exact run_equalIn_string w n t _ _ C
 ·cases h
def tH(P:Program)(t:TypeId)(xs:aa V)(u:Value):Prop:=
 match P.underlying t with
 |some (.struct _)=>u = .agg (xs.map V.val).toArray
 |_=>∃x,xs=[x]/\u=x.val
def adz{t:TypeId}{n off:Nat}{xs:aa V}(O:jC P t=some n)(hle:off+n <= xs.length)(T:∃ d,P.underlying t=some d/\(∀ c e,d ≠ .array c e)/\((∀ C,d ≠ .struct C) -> n=1)):
  ∃u,(part t (xs.map V.val).toArray off).run P w = .ok u w/\tH P t ((xs.drop off).take n) u:=by
 obtain⟨d,D,U,Y⟩:=T;unfold jC at O;cases hi:P.info? t with
 |none=>grind
 | some i=>
  have Z:i.size=n:=by simpa [hi]using O
  by_cases E:∃C,d = .struct C
  ·obtain⟨C,rfl⟩:=E;have L:(isAgg t).run P w = .ok true w:=by
    unfold isAgg;rw[gq,ia D];rfl
   refine⟨.agg ((xs.map V.val).toArray.extract off (off+n)),by simp[part,gq,L,sizeOf,typeInfo,hi,Z],?_⟩;unfold tH;rw[D];simp only;congr 1;apply Array.ext';simp[List.map_drop,List.map_take]
  ·have L:(isAgg t).run P w = .ok false w:=by
    unfold isAgg;rw[gq,ia D w];cases d<;>first|rfl|(exfalso;exact E ⟨_,rfl⟩)|(exfalso;exact U _ _ rfl)
   have zD:n=1:=Y λC e=>E ⟨C,e⟩
   subst zD;have dI:off<xs.length:=by omega
   have qc:(xs.map V.val).toArray[off]?=some (xs[off]).val:=by simp[dI]
   refine⟨(xs[off]).val,by simp[part,gq,L,qc],?_⟩;have e1:(xs.drop off).take 1=[xs[off]]:=by
    rw[List.drop_eq_getElem_cons];rfl
   unfold tH;rw[D];split
   ·grind
   ·grind
def aqb{n:Nat}{t:TypeId}{xs ys:aa V}{b:Bool}(h:zB P n t xs ys=some b):∃ d,P.underlying t=some d/\(∀ c e,d ≠ .array c e)/\((∀ C,d ≠ .struct C) -> xs.length=1):=by
 cases n with
 |zero=>cases h
 | succ n=>
  unfold zB at h;split at h
  ·simp_all
  ·rename_i d L D;split at h
   next x y=>exact⟨d,D,(λc e E=>by subst E;simp[OT]at h),λ_=>rfl⟩
   ·cases h
  ·cases h
def Wo{n:Nat}{xs ys:aa V}(hlen:xs.length=ys.length)(L:∀ t xs ys b,zB P n t xs ys=some b -> ∀ u v,tH P t xs u -> tH P t ys v -> ∀ k,(Op.equalIn (k+n) t u v).run P w = .ok b w)(k:Nat):∀ (C:aa Field) (b:Bool),Iu P (zB P n) xs ys C=some b ->
  (Op.eqFields (k+n) (xs.map V.val).toArray (ys.map V.val).toArray C).run P w = .ok b w
 | [],b,h=>by
  injection h with h;subst h;simp[Op.eqFields]
 | f :: C,b,h=>by
  unfold Iu at h;cases D:f.name == "_" with
  | true=>
   rw[D]at h;have:f.name = "_":=by simpa using D
   simp[Op.eqFields,this,not_true];exact Wo hlen L k C b h
  | false=>
   rw[D,aq]at h;have dy:f.name ≠ "_":=by simpa using D
   split at h
   ·rename_i s O;cases E:Nat.ble (f.offset+s) xs.length with
    |false=>simp_all
    | true=>
     rw[E,au]at h;have E:=cZ E;split at h
     ·rename_i c e T h2;injection h with h;subst h;obtain⟨U,Y,Z,tJ⟩:=aqb T;have q5:((xs.drop f.offset).take s).length=s:=by simp;omega
      obtain⟨u,Wp,q8⟩:=adz (w:=w) O E ⟨U,Y,Z,λh=>q5.symm.trans (tJ h)⟩;obtain⟨v,Wq,xu⟩:=adz (w:=w) (xs:=ys) (off:=f.offset) O (by omega) ⟨U,Y,Z,λh=>q5.symm.trans (tJ h)⟩;have hr:=L _ _ _ c T u v q8 xu k;have vJ:=Wo hlen L k C e h2;simp only[Op.eqFields,dy,ne_eq,not_false_eq_true,if_true,gq,Wp,Wq,hr,mH];cases c
      ·simp
      ·simp_all
     ·cases h
   ·cases h
def adA:∀ (n:Nat) (t:TypeId) (xs ys:aa V) (b:Bool),zB P n t xs ys=some b -> ∀ u v,tH P t xs u -> tH P t ys v -> ∀ k,(Op.equalIn (k+n) t u v).run P w = .ok b w
 |0,t,xs,ys,b,h=>by cases h
 | n+1,t,xs,ys,b,h=>by
  intro u v C D k;unfold zB at h;split at h
  ·rename_i U L;cases E:(P.stoodInHeld t || !Nat.beq xs.length ys.length)with
   |true=>simp_all
   | false=>
    rw[E,aq]at h;rw[oW,Bool.not_eq_false']at E;have hlen:=cK E.2;unfold tH at C D;rw[L]at C D;simp only at C D;subst C D;have Y:P.fieldsOf t=U:=by simp[Program.fieldsOf,L]
    rw[<- Nat.add_assoc,run_equalIn_struct w (k+n) t _ _ (by rw[Y];exact L) E.1,Y];exact Wo hlen (adA n) k U.toList b h
  ·rename_i d HX Z;split at h
   ·rename_i x y;unfold tH at C D;rw[Z]at C D;split at C
    ·simp_all
    ·split at D
     ·simp_all
     ·obtain⟨x',O,rfl⟩:=C;obtain⟨y',T,rfl⟩:=D;injection O with O;injection T with T;subst O T;exact aqa Z h
   ·cases h
  ·cases h
def adB{cs:aa Lf}{xs:aa V}(h:qY cs=some xs){u:Value}(D:RA w B aj ρ (.agg cs) u):u = .agg (xs.map V.val).toArray:=by
 obtain⟨e,E⟩:=OC _ _ h;obtain⟨us,rfl,Y,L⟩:=D;congr 1;apply Array.ext';apply List.ext_getElem?;intro j;rw[ eR,Array.getElem?_toList];cases C:xs[j]? with
 |none =>simp_all
 | some x=>
  obtain⟨v,O,T⟩:=L j _ (by rw[e,eR,C];rfl);rw[O];have:=E x (hU C);have U:=T.2;cases U<;>first|rfl|cases this
def EL{C:BinOp}{D:Bool}(E:OU C=some D){t e:TypeId}(L:P.underlying t=some (.slice e))(O T:Operand)(A:ah Addr)(n c:Nat):
  (do eqGuard C t O T (.slice A n c) (.slice none 0 0);binOp C t (.slice A n c) (.slice none 0 0):Sem Value).run P w = .ok (.bool (bif D then !A.isNone else A.isNone)) w:=by
 have U:(Op.equal t (.slice A n c) (.slice none 0 0)).run P w = .ok A.isNone w:=by
  have h:∀ d,(Op.equalIn (d+1) t (.slice A n c) (.slice none 0 0)).run P w = .ok A.isNone w:=by
   intro d;cases A<;>simp[Op.equalIn,ia L]
  exact h 9999
 cases C<;>simp[OU]at E<;>subst E<;>simp[eqGuard,binOp,U]
def aqc{op:BinOp}{t:TypeId}{x y:A}{k:A -> ah X}(h:zC P σ op t x y k=some r):∃ z,k z=some r /\ ∀ aj ρ a w,Rl w0 N aj ρ σ a w -> ∀ C D u v,RA w w0.heap.size aj ρ x u -> RA w w0.heap.size aj ρ y v ->
  ∃t',(do eqGuard op t C D u v;binOp op t u v:Sem Value).run P w = .ok t' w/\RA w w0.heap.size aj ρ z t':=by
 unfold zC at h;split at h
 ·rename_i T cs ds O;split at h
  ·rename_i xs ys pn zE;cases hg:(P.eqGuardType P.depth t || !isStr P t)with
   |true=>simp_all
   | false=>
    rw[hg,aq]at h;rw[oW,Bool.not_eq_false']at hg;obtain⟨hg,ko⟩:=hg;split at h
    ·rename_i b hb
     refine⟨_,h,λaj ρ a w hR C D u v E L=>?_⟩
     have E:=adB pn E;have L:=adB zE L;subst E L;have hs:∃ fs,P.underlying t=some (.struct fs):=by
      unfold isStr at ko;split at ko
      ·simp_all
      ·cases ko
     obtain⟨fs,zz⟩:=hs;have Y:=adA (w:=w) 20 t xs ys b hb (.agg (xs.map V.val).toArray) (.agg (ys.map V.val).toArray) (by unfold tH;rw[zz]) (by unfold tH;rw[zz]) 9980;refine⟨.bool (bif T then !b else b),?_,rfl,.bool _ _⟩;rw[gq,run_eqGuard_agg w op t C D _ _ hg,mH];cases op<;>simp[OU]at O<;>subst O
     ·rw[run_eql_struct,Y];rfl
     ·rw[run_neq_struct,Y];rfl
    ·cases h
  ·cases h
 ·rename_i T l O;split at h
  ·rename_i e he;have Z:P.underlying t=some (.slice e):=by
    unfold qb at he;split at he
    ·simp_all
    ·cases he
   obtain⟨z,hz,U⟩:=Wg (w0:=w0) (N:=N) h;clear h;split at U
   ·refine⟨_,U,λaj ρ a w hR C D u v E L=>?_⟩
    obtain⟨q,hq⟩:=hz aj ρ a w hR u E;cases hq;cases L.2;exact⟨_,EL O Z C D none 0 0,rfl,by cases T<;>exact .bool _ _⟩
   ·refine⟨_,U,λaj ρ a w hR C D u v E L=>?_⟩
    obtain⟨q,hq⟩:=hz aj ρ a w hR u E;cases L.2;cases hq with
    |aF _ _ _ _ _ b off cap us ho hl hb h1 jA hc Y=>exact⟨_,EL O Z C D _ _ _,rfl,by cases T<;>exact .bool _ _⟩
    |own=>exact⟨_,EL O Z C D _ _ _,rfl,by cases T<;>exact .bool _ _⟩
    |fW=>exact⟨_,EL O Z C D _ _ _,rfl,by cases T<;>exact .bool _ _⟩
   ·rename_i t' o' l';cases hl:jN l' with
    |true=>simp_all
    | false=>
     rw[hl,aq]at U
     refine⟨_,U,λaj ρ a w hR C D u v E L=>?_⟩
     obtain⟨q,hq⟩:=hz aj ρ a w hR u E;cases L.2;cases hq with
     |eI=>cases hl
     |fN=>cases hl
     |aF _ _ _ _ _ b off cap us ho BW hb h1 jA hc Y=>exact⟨_,EL O Z C D _ _ _,rfl,by cases T<;>exact .bool _ _⟩
     |own=>exact⟨_,EL O Z C D _ _ _,rfl,by cases T<;>exact .bool _ _⟩
   ·cases U
  ·cases h
 ·obtain⟨u0,hx,h1⟩:=VX h;obtain⟨v0,hy,U⟩:=VX h1;obtain⟨z,h3,hp,hs⟩:=apF U;subst hx hy
  refine⟨_,h3,λaj ρ a w hR C D u v E L=>?_⟩
  obtain⟨t',dP,Y⟩:=hs w _ aj C D [] [] _ _ E.2 L.2;exact⟨t',dP,V.H6 hp,Y⟩
/-! Parts of slices that nobody writes. -/
def EM{x:ah A}{C:Int}{k:Int->ah X}(h:tG x C k=some r):∃ n,k n=some r/\(∀ (E:Type) (D:Int->ah E),tG x C D=D n)/\((x=none/\n=C)\/∃ L,x=some (.lf (.v (.int L n)))):=by
 unfold tG at h;split at h
 ·exact⟨_,h,λ_ _=>rfl,.inl ⟨rfl,rfl⟩⟩
 ·exact⟨_,h,λ_ _=>rfl,.inr ⟨_,rfl⟩⟩
 ·cases h
def aqd{t:TypeId}{x:A}{lo hi:ah A}{k:A -> ah X}(h:xo P t x lo hi k=some r):∃ y,k y=some r/\(∀ (O:Type) (L:A -> ah O),xo P t x lo hi L=L y) /\
  ((∃ (s:ByteArray) (l h:Int),x = .lf (.v (.str s))/\P.underlying t=some .string/\((lo=none/\l=0) \/ ∃ C,lo=some (.lf (.v (.int C l))))/\((hi=none/\h=s.size) \/ ∃ C,hi=some (.lf (.v (.int C h))))/\0 <= l/\l <= h/\h <= (s.size:Int)/\y = .lf (.v (.str (s.extract l.toNat h.toNat)))) \/
   ∃(E:TC) (g:Nat) (U:Bool) (xs:aa (T E)) (e:TypeId) (l h:Int),x = .lf (.v (.sl E g U xs))/\qb P t=some e/\jC P e=some (aE E)/\g<2/\((lo=none/\l=0) \/ ∃C,lo=some (.lf (.v (.int C l))))/\((hi=none/\h=xs.length) \/ ∃C,hi=some (.lf (.v (.int C h))))/\0 <= l/\l <= h/\h <= (xs.length:Int)/\y = .lf (.v (.sl E g false ((xs.take h.toNat).drop l.toNat)))):=by
 unfold xo at h;split at h
 ·rename_i s;split at h
  ·rename_i hu;obtain⟨l,Y,d1,Z⟩:=EM h;obtain⟨m,D,d2,e2⟩:=EM Y;split at D
   ·rename_i hb
    refine⟨_,D,λO L=>?_,.inl ⟨s,l,m,rfl,hu,Z,e2,hb.1,hb.2.1,hb.2.2,rfl⟩⟩
    simp[xo,hu];simp_all
   ·cases D
  ·cases h
 ·rename_i E g U xs;split at h
  ·rename_i e he;split at h
   ·rename_i n hn;split at h
    ·rename_i BO;subst BO;cases hg:Nat.blt g 2 with
     |false=>simp_all
     | true=>
      rw[hg,au]at h;obtain⟨l,Y,d1,Z⟩:=EM h;obtain⟨m,D,d2,e2⟩:=EM Y;split at D
      ·rename_i hb
       refine⟨_,D,λO L=>?_,.inr ⟨E,g,U,xs,e,l,m,rfl,he,hn,cZ hg,Z,e2,hb.1,hb.2.1,hb.2.2,rfl⟩⟩
       simp[xo,he,hn,if_true,hg,au];simp_all
      ·cases D
    ·cases h
   ·cases h
  ·cases h
 ·cases h
def aqe{t:TypeId}{x:A}{lo hi:ah A}{k:A->ah X}(h:xo P t x lo hi k=some r):∃ y,k y=some r/\(∀ (X':Type) (k':A->ah X'),xo P t x lo hi k'=k' y)/\
  ∀ (w:World) (B:Nat) (aj:bK) (ρ:Nat->Loc) (u:Value) (U C:ah Value),RA w B aj ρ x u->(∀ a,lo=some a->∃ v,U=some v/\RA w B aj ρ a v)->(lo=none->U=none)->(∀ a,hi=some a->∃ v,C=some v/\RA w B aj ρ a v)->(hi=none->C=none)->
   ∃t',(Instr.sliceAt t u U C none).run P w = .ok t' w/\RA w B aj ρ y t':=by
 obtain⟨y,h1,hd,hc⟩:=aqd h
 refine⟨y,h1,hd,λw B aj ρ u U C Z q5 lG OV OW=>?_⟩
 have bl:∀ {o:ah A} {E:ah Value} {n BX:Int},(∀ a,o=some a->∃ v,E=some v/\RA w B aj ρ a v)->(o=none->E=none)->((o=none/\n=BX)\/∃ L,o=some (.lf (.v (.int L n))))->(E=none/\n=BX)\/∃ L,E=some (.int L n):=by
  intro o E n BX g1 g2 g3;rcases g3 with ⟨e,e'⟩|⟨L,e⟩
  ·exact .inl ⟨g2 e,e'⟩
  ·obtain⟨v,C,hr⟩:=g1 _ e;exact .inr ⟨L,by rw[C,hr.2.iz]⟩
 rcases hc with ⟨s,l,m,rfl,O,e1,e2,b1,b2,b3,rfl⟩|⟨tc,g,qn,xs,e,l,m,rfl,D,hn,hg,e1,e2,b1,b2,b3,rfl⟩
 ·have h5:=bl q5 lG e1;have h6:=bl OV OW e2;obtain rfl:=Z.2.xg;have em:(m.toNat:Int)=m:=Int.toNat_of_nonneg (by omega);refine⟨.string (s.extract l.toNat m.toNat),?_,rfl,.str _ _⟩;rw[run_sliceAt_string w t _ _ _ _ O];have Wr:0<=m:=by omega
  rcases h5 with ⟨rfl,h7⟩|⟨kl,rfl⟩<;>rcases h6 with ⟨rfl,h8⟩|⟨kh,rfl⟩
  all_goals simp_all [Instr.slice,ia O,Instr.sliceBounds,run_sliceBound]
 ·have h5:=bl q5 lG e1;have h6:=bl OV OW e2;have O:P.underlying t=some (.slice e):=by
   unfold qb at D;split at D
   next e' vF=>injection D with D;rw[<-D];exact vF
   ·cases D
  have iR:P.elem t=e:=by simp[Program.elem,O]
  have T:P.underlying t=some (.slice (P.elem t)):=by rw[iR];exact O
  have Y:(sizeOf (P.elem t)).run P w = .ok (aE tc) w:=by
   unfold jC at hn;cases hi:P.info? e with
   |none=>simp[hi]at hn
   | some i=>
    have:i.size=aE tc:=by simpa [hi]using hn
    simp[sizeOf,typeInfo,iR,hi,this]
  have kQ:∃ A n c,u = .slice A n c:=by
   cases Z.2 with
   |eI=>exact⟨_,_,_,rfl⟩
   |fN=>exact⟨_,_,_,rfl⟩
   |fW=>exact⟨_,_,_,rfl⟩
   |aF=>exact⟨_,_,_,rfl⟩
   |own=>exact⟨_,_,_,rfl⟩
  obtain⟨A,n,c,rfl⟩:=kQ;obtain⟨hp,zD,Ws⟩:=Z.2.part (a:=l.toNat) (h:=m.toNat) hg (by omega) (by omega);refine⟨_,?_,by simp[V.aF,hg],hp⟩;rw[run_sliceAt_slice w t _ _ _ _ T];rcases h5 with ⟨rfl,rfl⟩|⟨kl,rfl⟩<;>rcases h6 with ⟨rfl,rfl⟩|⟨kh,rfl⟩
  ·rw[run_slice_all w t A n c T,Y,zD];simp
  ·rw[run_slice_h w t A n c T kh m (by omega) (by omega),Y];simp
  ·rw[run_slice_l w t A n c T kl l (by omega) (by omega),Y,zD];simp
  ·rw[run_slice_lh w t A n c T kl kh l m (by omega) (by omega) (by omega),Y];simp
/-! Parts of slices that are owned. -/
def EN{X:Type}(n:Nat)(q:aa Nat)(C:ah Nat)(lo hi:ah A)(y:V)(k:A->ah X):ah X:=
 match y with
 |.sl D _ _ l=>if n=aE D then tG lo 0 λa=>tG hi ((C.getD l.length:Nat):Int) λb=>if 0<=a/\a<=b/\b<=(l.length:Int)then k (.view q n a.toNat b.toNat)else none else none
 |_=>none
def BY{X:Type}(P:Program)(σ:S)(t:TypeId)(q:aa Nat)(C:ah Nat)(lo hi:ah A)(k:A->ah X):ah X:=
 match qb P t with
 | some e=>(match jC P e with
  |some n=>jt σ.m q λy=>EN n q C lo hi y k
  |none=>none)
 |none=>none
def zF{X:Type}(P:Program)(σ:S)(t:TypeId)(x:A)(lo hi:ah A)(k:A->ah X):ah X:=
 match x with
 |.lf (.own q)=>BY P σ t q none lo hi k
 |.view q _ 0 j=>BY P σ t q (some j) lo hi k
 |x=>xo P t x lo hi k
def aqf{n:Nat}{q:aa Nat}{D:ah Nat}{lo hi:ah A}{y:V}{k:A -> ah X}(h:EN n q D lo hi y k=some r):∃ (C:TC) (g:Nat) (E:Bool) (xs:aa (T C)) (l h:Int),y = .sl C g E xs/\n=aE C /\
  ((lo=none/\l=0) \/ ∃L,lo=some (.lf (.v (.int L l))))/\((hi=none/\h=((D.getD xs.length:Nat):Int)) \/ ∃L,hi=some (.lf (.v (.int L h))))/\0 <= l/\l <= h/\h <= (xs.length:Int)/\k (.view q n l.toNat h.toNat)=some r /\
  ∀(Y:Type) (O:A -> ah Y),EN n q D lo hi y O=O (.view q n l.toNat h.toNat):=by
 unfold EN at h;split at h
 ·rename_i C g E xs;split at h
  ·rename_i Z;obtain⟨l,h1,d1,e1⟩:=EM h;obtain⟨m,U,d2,e2⟩:=EM h1;split at U
   ·rename_i hb
    refine⟨C,g,E,xs,l,m,rfl,Z,e1,e2,hb.1,hb.2.1,hb.2.2,U,λY O=>?_⟩
    simp[EN,bI Z];simp_all
   ·cases U
  ·cases h
 ·cases h
def adC{t:TypeId}{q:aa Nat}{dh:ah Nat}{lo hi:ah A}{k:A -> ah X}(h:BY P σ t q dh lo hi k=some r):∃ y,k y=some r /\
  ∀ aj ρ a w,Rl w0 N aj ρ σ a w -> ∀ (D:ah Addr) (n c C:Nat) (U E:ah Value),di w aj ρ q=some (.slice D n c) -> C=dh.getD n -> C <= n -> (∀ a,lo=some a -> ∃ v,U=some v/\RA w w0.heap.size aj ρ a v) -> (lo=none -> U=none) -> (∀ a,hi=some a -> ∃ v,E=some v/\RA w w0.heap.size aj ρ a v) -> (hi=none -> E=none) ->
   ∃t',(Instr.sliceAt t (.slice D C c) U E none).run P w = .ok t' w/\RA w w0.heap.size aj ρ y t':=by
 unfold BY at h;split at h
 ·rename_i e he;split at h
  ·rename_i n hn;obtain⟨y0,Wt,h2⟩:=sn q _ h;obtain⟨tc,g,qn,xs,l,m,rfl,BO,e1,e2,b1,b2,b3,h3,_⟩:=aqf h2
   refine⟨_,h3,λaj ρ a w hR D n' c C U E kR Wu hle q5 lG OV OW=>?_⟩
   have bl:∀ {o:ah A} {L:ah Value} {n BX:Int},(∀ a,o=some a -> ∃ v,L=some v/\RA w w0.heap.size aj ρ a v) -> (o=none -> L=none) -> ((o=none/\n=BX) \/ ∃ O,o=some (.lf (.v (.int O n)))) -> (L=none/\n=BX) \/ ∃ O,L=some (.int O n):=by
    intro o L n BX g1 g2 g3;rcases g3 with ⟨e,e'⟩|⟨O,e⟩
    ·grind
    ·obtain⟨v,E,hr⟩:=g1 _ e;exact .inr ⟨O,by rw[E,hr.2.iz]⟩
   have h5:=bl q5 lG e1;have h6:=bl OV OW e2;have gv:P.underlying t=some (.slice e):=by
    unfold qb at he;split at he
    ·grind
    ·cases he
   have iR:P.elem t=e:=by simp[Program.elem,gv]
   have T:P.underlying t=some (.slice (P.elem t)):=by rw[iR];exact gv
   have Y:(sizeOf (P.elem t)).run P w = .ok n w:=by
    unfold jC at hn;cases hi:P.info? e with
    |none=>grind
    | some i=>
     have:i.size=n:=by simpa [hi]using hn
     simp[sizeOf,typeInfo,iR,hi,this]
   obtain⟨v0,Z,iS⟩:=Wt.ok hR.root;rw[kR]at Z;injection Z with Z;subst Z;have hf:RV w 0 (λ_=>none) [] (.sl tc 0 qn xs) (.slice D n' c):=iS.gH;obtain⟨hp,zD,Ws⟩:=hf.part (a:=l.toNat) (h:=m.toNat) (by omega) (by omega) (by omega);have aqg:((dh.getD xs.length:Nat):Int)=(C:Int):=by rw[Wu,zD]
   rw[aqg]at h6;refine⟨sliced D l.toNat m.toNat c n,?_,D,n',c,kR,by omega,by omega,rfl⟩;rw[run_sliceAt_slice w t _ _ _ _ T];rcases h5 with ⟨rfl,rfl⟩|⟨kl,rfl⟩<;>rcases h6 with ⟨rfl,rfl⟩|⟨kh,rfl⟩
   ·rw[run_slice_all w t D C c T,Y];simp
   ·rw[run_slice_h w t D C c T kh m (by omega) (by omega),Y];simp
   ·rw[run_slice_l w t D C c T kl l (by omega) (by omega),Y];simp
   ·rw[run_slice_lh w t D C c T kl kh l m (by omega) (by omega) (by omega),Y];simp
  ·cases h
 ·cases h
def aqh{t:TypeId}{x:A}{lo hi:ah A}{k:A -> ah X}(h:zF P σ t x lo hi k=some r):∃ y,k y=some r /\
  ∀ aj ρ a w,Rl w0 N aj ρ σ a w -> ∀ (u:Value) (C D:ah Value),RA w w0.heap.size aj ρ x u -> (∀ a,lo=some a -> ∃ v,C=some v/\RA w w0.heap.size aj ρ a v) -> (lo=none -> C=none) -> (∀ a,hi=some a -> ∃ v,D=some v/\RA w w0.heap.size aj ρ a v) -> (hi=none -> D=none) ->
   ∃t',(Instr.sliceAt t u C D none).run P w = .ok t' w/\RA w w0.heap.size aj ρ y t':=by
 unfold zF at h;split at h
 ·rename_i q;obtain⟨y,E,L⟩:=adC h
  refine⟨y,E,λaj ρ a w hR u C D O T U Y Z=>?_⟩
  have gu:∃ A n c,u = .slice A n c:=by
   have:=O.1;cases u<;>first|cases this;done|exact⟨_,_,_,rfl⟩
  obtain⟨A,n,c,rfl⟩:=gu;exact L aj ρ a w hR A n c n C D O.2 rfl (dQ _) T U Y Z
 ·rename_i q s j;obtain⟨y,E,L⟩:=adC h
  refine⟨y,E,λaj ρ a w hR u C D O T U Y Z=>?_⟩
  obtain⟨A,n,c,kR,_,a2,rfl⟩:=O;have e:sliced A 0 j c s = .slice A j c:=by cases A<;>simp[sliced,Addr.add]
  rw[e];exact L aj ρ a w hR A n c j C D kR rfl a2 T U Y Z
 ·obtain⟨y,E,_,L⟩:=aqe h;exact⟨y,E,λaj ρ a w _ u C D=>L w _ aj ρ u C D⟩
end
abbrev Pt:=Bool×aa V
def PV(w:World)(B:Nat)(aj:bK)(key:Nat->aa Nat)(p:Pt)(u:Value):Prop:=
 ∃us:Array Value,(match p.1 with|true=>u = .agg us|false=>us = #[u])/\us.size=p.2.length/\∀(j:Nat) x,p.2[j]?=some x->∃v,us[j]?=some v/\RV w B aj (key j) x v
def zG(w:World)(cs:aa V)(u:Value):Prop:=
 ∃b off,u = .pointer (some ⟨b,off,none⟩)/\b<w.heap.size/\∀(j:Nat) x,cs[j]?=some x->∃v,w.cell? ⟨b,off+j,none⟩=some v/\RV w w.heap.size (λ_=>none) [] x v
inductive PA (w:World):Pt->Value->Prop
 |v (p:Pt) (u:Value) (h:PV w w.heap.size (λ_=>none) (λ_=>[]) p u):PA w p u
 |p (c:V) (cs:List V) (u:Value) (h:zG w (c::cs) u):PA w (false,.bool true::c::cs) u
 |f (g:Nat) (c:V) (cs:List V) (u:Value) (h:zG w (c::cs) u):PA w (false,.bool false::.int .i64 (g:Int)::c::cs) (.func (.func g) #[] #[u])
def pH(w:World)(args:aa Pt)(cc:Array Value):Prop:=
 cc.size=args.length/\∀(i:Nat) p,args[i]?=some p->∃u,cc[i]?=some u/\PA w p u
def PA.pv{w:World}{x:V}{u:Value}(h:PA w (false,[x]) u):PV w w.heap.size (λ_=>none) (λ_=>[]) (false,[x]) u:=by
 cases h with
 |v _ _ h=>exact h
def PA.pvS{w:World}{xs:aa V}{u:Value}(h:PA w (true,xs) u):PV w w.heap.size (λ_=>none) (λ_=>[]) (true,xs) u:=by
 cases h with
 |v _ _ h=>exact h
inductive gj where
 |one (p:Pt)
 |fk (ps:List Pt)
def zH(t:TC):Nat->Bool
 |0=>false
 |1=>true
 |o+2=>Nat.ble (full t) o ||Nat.beq (o % 2) 1
def V.loc:V->Bool
 |.sl t o _ _=>zH t o
 |_=>true
def jO(w:World)(B:Nat)(aj:bK)(nm:Nat->Nat):Nat->aa Pt->aa Value->Prop
 |_,[],[]=>True
 |off,p::ps,v::C=>(p.2.all V.loc=true/\PV w B aj (λj=>[nm (off+j)]) p v)/\jO w B aj nm (off+p.2.length) ps C
 |_,_,_=>False
def qf(w:World)(B:Nat)(aj:bK)(nm:Nat->Nat):gj->Value->Prop
 |.one p,v=>jO w B aj nm 0 [p] [v]
 |.fk ps,v=>∃C:Array Value,v = .tuple C/\jO w B aj nm 0 ps C.toList
structure jb where
 run:(X:Type)->List Pt->(gj->Option X)->Option X
def iH(P:Program)(f:Nat)(c:jb):Prop:=
 (∀ args,cP λX k=>c.run X args k)/\∀ args C,c.run gj args some=some C->∀ (nm:Nat->Nat) (w:World) (cc:Array Value),pH w args cc->Hd w (λ_=>none)->
  Calls P f cc w λe w'=>∃v aD,e = .returned v/\Below w.heap.size w w'/\(∀b k,aD b=some k->w.heap.size<=b/\b<w'.heap.size/\k≠[])/\qf w' w.heap.size aD nm C v
def q9{X:Type}(σ:S):aa Lf->(aa V->ah X)->ah X
 |[],k=>k []
 |x::xs,k=>pg σ x λy=>q9 σ xs λys=>k (y.gH::ys)
def oh{X:Type}(σ:S)(x:A)(k:Pt->ah X):ah X:=
 match x with
 |.lf y=>q9 σ [y] λC=>k (false,C)
 |.agg ys=>q9 σ ys λC=>k (true,C)
 |.view q s i j=>vC σ q s i j λy=>k (false,[y])
 |.jr (c::cs)=>k (false,.bool true::c.gH::cs.map V.gH)
 |_=>none
def vL{X:Type}(σ:S)(x:A)(k:Pt->ah X):ah X:=
 match x with
 |.jr (c::cs)=>k (false,.bool true::c.gH::cs.map V.gH)
 |.nH f (c::cs)=>k (false,.bool false::.int .i64 (f:Int)::c.gH::cs.map V.gH)
 | .aH r j=>(match σ.m r with
  | some (.aB cs)=>q9 σ (cs.drop j) λC=>(match C with
   |c::cs=>k (false,.bool true::c::cs)
   |[]=>none)
  |_=>none)
 | .fn f [(r,j)]=>(match σ.m r with
  | some (.aB cs)=>q9 σ (cs.drop j) λC=>(match C with
   |c::cs=>k (false,.bool false::.int .i64 (f:Int)::c::cs)
   |[]=>none)
  |_=>none)
 |x=>oh σ x k
def vM{X:Type}(f:A->(Pt->ah X)->ah X)(σ:S):aa Operand->(aa Pt->ah X)->ah X
 |[],k=>k []
 |x::xs,k=>f (aL σ x) λp=>vM f σ xs λps=>k (p::ps)
def BZ{X:Type}(σ:S)(xs:aa Operand)(k:aa Pt->ah X):ah X:=vM (vL σ) σ xs k
def sv{X:Type}(σ:S)(xs:aa Operand)(k:aa Pt->ah X):ah X:=vM (oh σ) σ xs k
def om(c:Nat):aa V->aa Lf
 |[]=>[]
 |x::xs=>(bif x.aF then .v x else .own [c])::om (c+1) xs
def mL(c:Nat)(σ:S):aa V->S
 |[]=>σ
 |x::xs=>mL (c+1) (bif x.aF then σ else (σ.drop c).root c (.sl x)) xs
def sx(c:Nat):aa Pt->aa (Bool×aa Lf)
 |[]=>[]
 |p::ps=>(p.1,om c p.2)::sx (c+p.2.length) ps
def pI(c:Nat)(σ:S):aa Pt->S
 |[]=>σ
 |p::ps=>pI (c+p.2.length) (mL c σ p.2) ps
def oq{X:Type}(σ:S)(d:Nat)(C:gj)(k:S->ah X):ah X:=match C with
 | .one p=>(match zm (p.1,om (1000000000100000+1000*d) p.2)with
  |some y=>k ((mL (1000000000100000+1000*d) σ p.2).set d y)
  |none=>none)
 |.fk ps=>k ((pI (1000000000100000+1000*d) σ ps).set d (.fk (sx (1000000000100000+1000*d) ps)))
def sy{X:Type}(N:Nat)(σ:S)(d:Nat)(c:jb)(ev:(aa Pt->ah X)->ah X)(k:S->ah X):ah X:=
 bif Nat.blt d N then ev λps=>c.run X ps λC=>oq σ d C k else none
def aqi{X:Type}(N:Nat)(σ:S)(d:Nat)(c:jb)(args:aa Operand)(k:S->ah X):ah X:=sy N σ d c (BZ σ args) k
def aqj{X:Type}(N:Nat)(σ:S)(d:Nat)(c:jb)(args:aa Operand)(k:S->ah X):ah X:=sy N σ d c (sv σ args) k
section
variable {P:Program} {w w':World} {w0:Wd} {B N:Nat} {aj aD:bK} {ρ ρ':Nat->Loc} {σ:S} {a:Act} {X:Type} {d:Nat} {r:X} {o:Oper}
def Iv:∀ (xs:aa Lf) (k:aa V -> ah X),q9 σ xs k=some r -> ∃ C,k C=some r/\C.length=xs.length /\ ∀ aj ρ a w,Rl w0 N aj ρ σ a w -> ∀ (j:Nat) x y u,xs[j]?=some x -> C[j]?=some y -> dZ w w0.heap.size aj ρ x u -> RV w w.heap.size (λ_=>none) [] y u
 |[],k,h=>⟨[],h,rfl,λ_ _ _ _ _ j x y u L=>by simp at L⟩
 | x :: xs,k,h=>by
  obtain⟨y,O,T⟩:=Wg h;obtain⟨ys,U,hl,hr⟩:=Iv xs _ T
  refine⟨y.gH::ys,U,by simp[hl],λaj ρ a w hR j x' y' u D E Y=>?_⟩
  cases j with
  | zero=>
   simp at D E;subst D E;obtain⟨q,Z⟩:=O aj ρ a w hR u Y;exact Z.gH
  |succ j=>grind
def adD{D C:Nat}{cs:aa Lf}{E:aa V}(Y:σ.m D=some (.aB cs))(hl:E.length=(cs.drop C).length)
  (Z:∀aj ρ a w,Rl w0 N aj ρ σ a w->∀(j:Nat) x y u,(cs.drop C)[j]?=some x->E[j]?=some y->dZ w w0.heap.size aj ρ x u->RV w w.heap.size (λ_=>none) [] y u)
  {aj:bK} {ρ:Nat->Loc} {a:Act} {w:World} {u:Value} (hR:Rl w0 N aj ρ σ a w) (hu:RA w w0.heap.size aj ρ (.aH D C) u):zG w E u:=by
 obtain⟨b,off,e1,rfl⟩:=hu;cases hR.root D _ Y with
 | aB b' H8 cells e _ us L ot O hs hc=>
  rw[e1]at L;injection L with q1 q2;subst q1 q2
  refine⟨b,off+C,rfl,(iW.1 O).1,λj x T=>?_⟩
  have hj:j<(cs.drop C).length:=by rw[<-hl];exact(dV.1 T).1
  have U:=bZ hj;have aqk:cs[C+j]?=some (cs.drop C)[j]:=by rw[<-List.getElem?_drop];exact U
  obtain⟨k1,k2⟩:=hc _ _ aqk;refine⟨us (C+j),?_,Z aj ρ a w hR j _ x _ U T k2⟩;rw[Nat.add_assoc,cell_of_row w b _ cells _ _ O];exact k1
def Wv{cs:aa V}{u:Value}(E:RF w B aj cs u):zG w (cs.map V.gH) u:=by
 obtain⟨b,off,rfl,L,Y,O⟩:=E
 refine⟨b,off,rfl,L,λj x C=>?_⟩
 rw[eR]at C;cases D:cs[j]? with
 |none=>simp_all
 | some y=>
  rw[D]at C;injection C with C;subst C;obtain⟨_,v,T,U⟩:=O j y D;exact⟨v,T,U.gH⟩
def adE{x:A}{k:Pt -> ah X}(h:oh σ x k=some r):∃ p,k p=some r /\ ∀ aj ρ a w,Rl w0 N aj ρ σ a w -> ∀ u,RA w w0.heap.size aj ρ x u -> PA w p u:=by
 unfold oh at h;split at h
 ·rename_i y;obtain⟨U,E,hl,O⟩:=Iv (w0:=w0) (N:=N) _ _ h
  refine⟨_,E,λaj ρ a w hR u C=>.v _ _ ⟨#[u],rfl,by simp[hl],λj x D=>?_⟩⟩
  have L:j=0:=by
   grind
  subst L;exact⟨u,rfl,O aj ρ a w hR 0 y x u rfl D C⟩
 ·rename_i ys;obtain⟨U,E,hl,O⟩:=Iv (w0:=w0) (N:=N) _ _ h
  refine⟨_,E,λaj ρ a w hR u C=>?_⟩
  obtain⟨us,rfl,T⟩:=C
  refine .v _ _ ⟨us,rfl,by rw[hl];exact T.1,λj x D=>?_⟩
  have L:j<ys.length:=by rw[<- hl];exact(dV.1 D).1
  obtain⟨v,Z,fE⟩:=T.2 j _ (bZ L)
  grind
 ·obtain⟨z,E,_,Y⟩:=ac7 h
  refine⟨_,E,λaj ρ a w hR u C=>.v _ _ ⟨#[u],rfl,rfl,λj x D=>?_⟩⟩
  cases j with
  | zero=>
   simp at D;subst D;exact⟨u,rfl,Y _ _ _ _ _ _ hR u C _⟩
  |succ j=>simp at D
 next c cs=>exact⟨_,h,λaj ρ a w hR u C=>.p _ _ _ (Wv C)⟩
 ·cases h
def aql{x:A}{k:Pt -> ah X}(h:vL σ x k=some r):∃ p,k p=some r /\ ∀ aj ρ a w,Rl w0 N aj ρ σ a w -> ∀ u,RA w w0.heap.size aj ρ x u -> PA w p u:=by
 unfold vL at h;split at h
 ·rename_i c cs
  refine⟨_,h,λaj ρ a w hR u C=>?_⟩
  exact .p _ _ _ (Wv C)
 ·rename_i f c cs
  refine⟨_,h,λaj ρ a w hR u C=>?_⟩
  obtain⟨pv,rfl,E⟩:=C;exact .f _ _ _ _ (Wv E)
 ·rename_i U T;split at h
  ·rename_i cs L;obtain⟨Y,D,hl,O⟩:=Iv (w0:=w0) (N:=N) _ _ h;split at D
   ·rename_i c eM
    refine⟨_,D,λaj ρ a w hR u C=>?_⟩
    exact .p _ _ _ (adD L hl O hR C)
   ·cases D
  ·cases h
 ·rename_i f U T;split at h
  ·rename_i cs L;obtain⟨Y,D,hl,O⟩:=Iv (w0:=w0) (N:=N) _ _ h;split at D
   ·rename_i c eM
    refine⟨_,D,λaj ρ a w hR u C=>?_⟩
    obtain⟨ps,rfl,hs,E⟩:=C;obtain⟨b,off,Z,e2⟩:=E 0 _ rfl;have e:ps = #[.pointer (some ⟨b,off+T,none⟩)]:=by
     grind
    subst e;exact .f _ _ _ _ (adD L hl O hR ⟨b,off,Z,rfl⟩)
   ·cases D
  ·cases h
 ·exact adE h
def Ww{f:A->(Pt->ah X)->ah X}(E:∀ x k,f x k=some r->∃ p,k p=some r/\∀ aj ρ a w,Rl w0 N aj ρ σ a w->∀ u,RA w w0.heap.size aj ρ x u->PA w p u):
  ∀(xs:aa Operand) (k:aa Pt->ah X),vM f σ xs k=some r->∃ps,k ps=some r/\∀aj ρ a w,Rl w0 N aj ρ σ a w->pH w ps (xs.map a.eval).toArray
 |[],k,h=>⟨[],h,λ_ _ _ _ _=>⟨rfl,λi p C=>by simp at C⟩⟩
 | x :: xs,k,h=>by
  unfold vM at h;obtain⟨p,O,C⟩:=E _ _ h;obtain⟨ps,T,L⟩:=Ww E xs _ O
  refine⟨p::ps,T,λaj ρ a w hR=>⟨?_,λi q D=>?_⟩⟩
  ·have:=(L aj ρ a w hR).1;simp at this;simp[this]
  ·cases i with
   | zero=>
    simp at D;subst D;exact⟨_,rfl,C aj ρ a w hR _ (hR.aL x)⟩
   | succ i=>
    obtain⟨u,U,Y⟩:=(L aj ρ a w hR).2 i q (by simpa using D);exact⟨u,by simpa using U,Y⟩
def aqm(xs:aa Operand)(k:aa Pt->ah X)(h:BZ σ xs k=some r):∃ps,k ps=some r/\∀aj ρ a w,Rl w0 N aj ρ σ a w->pH w ps (xs.map a.eval).toArray:=Ww (λ_ _=>aql) xs k h
def adF(xs:aa Operand)(k:aa Pt->ah X)(h:sv σ xs k=some r):∃ps,k ps=some r/\∀aj ρ a w,Rl w0 N aj ρ σ a w->pH w ps (xs.map a.eval).toArray:=Ww (λ_ _=>adE) xs k h
def aqn{t:TC}{o:Nat}(h:zH t (o+2)=true)(x:T t):∀ y∈enc t o x,y.loc=true:=by
 intro y D;have L:=zh t o x y D;cases y with
 | sl E C q l=>
  have O:C=o:=by simpa [V.gr]using L
  subst O;have U:full E+2 <= full t:=cZ (Oq t C x _ D);show zH E C=true;simp only[zH,eG]at h;rcases h with h|h
  ·have h:=cZ h
   match C,h with
   |0,h=>omega
   |1,h=>rfl
   | n+2,h=>
    simp only[zH,eG];left;exact jn (by omega)
  ·have h:=cK h
   match C,h with
   |0,h=>omega
   |1,h=>rfl
   | n+2,h=>
    simp only[zH,eG];simp_all
 |_=>rfl
def RV.zI{q:aa Nat}{x:V}{v:Value}(h:RV w B aj q x v){B':Nat}(hB:B' <= B)(hl:∀ b,B <= b -> aD b=aj b)(Y:∀ b k,aj b=some k -> aD b=some k)(O:x.loc=true):RV w B' aD q x v:=by
 induction h with
 |int=>exact .int _ _ _
 |bool=>exact .bool _ _
 |str=>exact .str _ _
 |nil=>exact .nil _
 |eI=>exact .eI _ _ _
 |fN=>exact .fN _ _ _ _ _ (by first|assumption|omega)
 |fW=>exact .fW _ _ _ _ _ (by first|assumption|omega)
 | aF q t o Z l b off cap u T D hb h1 jA E hr L=>
  have B0:o=1:=by
   match o,T,O with
   |1,_,_=>rfl
  subst B0;have U:=h1 rfl
  refine .aF _ _ _ _ _ _ _ _ u T ((hl b U).trans D) hb (λ_=>Nat.le_trans hB U) jA E (λi h j x C=>L i h j x C ?_)
  have:=zh t 1 l[i] x (hU C);cases x with
  | sl t' o' q' l'=>
   have:o'=1:=by simpa [V.gr]using this
   subst this;rfl
  |_=>rfl
 | own q t o Z l b cap cs u D hh hs hn hm E hr L=>
  exact .own _ _ _ _ _ _ _ cs u (Y b q D) hh hs hn hm E (λi h j x C=>L i h j x C (aqn O l[i] x (hU C)))
def RV.home{q:aa Nat}{x:V}{v:Value}(h:RV w B aj q x v){B':Nat}(hB:B'<=B)(hl:∀ b,B<=b->aD b=aj b)(C:∀ b k,aj b=some k->B<=b)(D:x.loc=true):RV w B' aD q x v:=
 h.zI hB hl (λb k h=>(hl b (C b k h)).trans h) D
def Wx:∀ (xs:aa V) (c:Nat) (σ:S) (ρ:Nat -> Loc) (us:aa Value),60000 <= c -> Rl w0 N aj ρ σ a w -> us.length=xs.length -> (∀ (j:Nat) x u,xs[j]?=some x -> us[j]?=some u -> RV w w0.heap.size aj [c+j] x u) ->
  ∃ρ',Rl w0 N aj ρ' (mL c σ xs) a w/\(∀r,r<c -> ρ' r=ρ r) /\ ∀(j:Nat) x u,(om c xs)[j]?=some x -> us[j]?=some u -> dZ w w0.heap.size aj ρ' x u
 |[],c,σ,ρ,us,_,h,hl,E=>⟨ρ,h,λ_ _=>rfl,λj x u Z=>by simp[om]at Z⟩
 | x :: xs,c,σ,ρ,us,hc,h,hl,E=>by
  cases us with
  |nil=>simp at hl
  | cons u us=>
   have O:=E 0 x u rfl rfl;rw[Nat.add_zero]at O;have vJ:∀ (j:Nat) T U,xs[j]?=some T -> us[j]?=some U -> RV w w0.heap.size aj [c+1+j] T U:=λj T U Z hu=>by
    have:=E (j+1) T U (by simpa using Z) (by simpa using hu)
    grind
   cases C:x.aF with
   | true=>
    obtain⟨ρ',dJ,Y,xw⟩:=Wx xs (c+1) σ ρ us (by omega) h (by simpa using hl) vJ
    refine⟨ρ',?_,λr E=>Y r (by omega),λj y v D L=>?_⟩
    ·simp[mL,C];exact dJ
    ·simp only[om,C,au]at D;cases j with
     | zero=>
      simp at D L;subst D L;exact⟨C,O.key C⟩
     |succ j=>grind
   | false=>
    have gu:=O.VO C;obtain⟨ρ',dJ,Y,xw⟩:=Wx xs (c+1) _ _ us (by omega) (h.new (d:=c) (x:=.sl x) (.ep u) (.sl u x (cv _ _ _) O) (h.dH c (.inr hc))) (by simpa using hl) vJ
    refine⟨ρ',?_,λr E=>?_,λj y v D L=>?_⟩
    ·simp[mL,C];exact dJ
    ·rw[Y r (by omega)];exact cR _ _ _ (by omega)
    ·simp only[om,C,aq]at D;cases j with
     | zero=>
      simp at D L;subst D L;refine⟨gu,?_⟩;have:ρ' c = .ep u:=by rw[Y c (by omega)];exact cv _ _ _
      simp[di,this]
     |succ j=>grind
def aqo(xs:aa V):∀ c,(om c xs).length=xs.length:=by
 induction xs with
 |nil=>intro c;rfl
 |cons x xs C=>intro c;simp[om,C]
end
def enters(P:Program)(f:Nat):Prop:=∃fn,P.funcs[f]?=some fn/\(fn.name == "runtime.NumGoroutine")=false/\fn.body.isNone=false
/-! What a function gives back. -/
def OX:A->ah (Bool×aa Lf)
 |.lf x=>some (false,[x])
 |.agg xs=>some (true,xs)
 |_=>none
def sA{X:Type}(P:Program)(σ:S):aa ResultVar->(aa (Bool×aa Lf)->ah X)->ah X
 |[],k=>k []
 | .tmp t :: rest,k=>(match OX (σ.t t)with
  |some p=>sA P σ rest λps=>k (p::ps)
  |none=>none)
 | .cell p ty :: rest,k=>od P σ ty (σ.t p) λx=>(match OX x with
  |some p=>sA P σ rest λps=>k (p::ps)
  |none=>none)
def Wy(m:Nat->ah bh):Lf->ah (V×ah Nat)
 |.v x=>bif x.loc&&x.aF then some (x,none)else none
 | .own [r]=>match m r with
  |some (.sl y)=>bif y.loc then some (y,some r)else none
  |_=>none
 |_=>none
def Iw(m:Nat->ah bh)(off:Nat):aa Lf->ah (aa V×aa (Nat×Nat))
 |[]=>some ([],[])
 | x :: xs=>match Wy m x,Iw m (off+1) xs with
  |some (y,none),some (ys,rs)=>some (y::ys,rs)
  |some (y,some r),some (ys,rs)=>some (y::ys,(r,off)::rs)
  |_,_=>none
def EO(m:Nat->ah bh)(off:Nat):aa (Bool×aa Lf)->ah (aa Pt×aa (Nat×Nat))
 |[]=>some ([],[])
 | p :: ps=>match Iw m off p.2,EO m (off+p.2.length) ps with
  |some (C,rs),some (D,E)=>some ((p.1,C)::D,rs++E)
  |_,_=>none
def once(rs:aa (Nat×Nat)):Bool:=rs.all λp=>(rs.lookup p.1).any λn=>Nat.beq n p.2
def Ix{X:Type}(P:Program)(σ:S)(fn:Array ResultVar)(k:gj->ah X):ah X:=
 sA P σ fn.toList λps=>match EO σ.m 0 ps with
  | some (qs,rs)=>bif once rs then (match qs with
   |[p]=>k (.one p)
   |qs=>k (.fk qs))else none
  |none=>none
section
variable {P:Program} {w w':World} {w0:Wd} {B N:Nat} {aj aD:bK} {ρ ρ':Nat->Loc} {σ:S} {a:Act} {X:Type} {d:Nat} {r:X} {o:Oper}
def adG:∀ (xs:aa V) (c:Nat) (j:Nat) x u,(om c xs)[j]?=some x -> dZ w B aj ρ x u -> (∀ r,r<c+xs.length -> ρ' r=ρ r) -> dZ w B aj ρ' x u
 |[],c,j,x,u,D,_,_=>by simp[om]at D
 | y :: ys,c,j,x,u,D,C,E=>by
  cases j with
  | zero=>
   simp[om,List.getElem?_cons_zero,iO]at D;subst D;cases L:y.aF with
   |true=>rw[L]at C;simp;exact C
   | false=>
    rw[L]at C;refine⟨C.1,?_⟩;have:=C.2;simp[di,E c (by simp)]at this ⊢;exact this
  | succ j=>
   exact adG ys _ j x u D C (λr h=>E r (by simp;omega))
def PV.cells{key:Nat -> aa Nat}{p:Pt}{u:Value}(h:PV w B aj key p u):∃ us:aa Value,us.length=p.2.length/\(∀ (j:Nat) x v,p.2[j]?=some x -> us[j]?=some v -> RV w B aj (key j) x v) /\
  ∀(ρ:Nat -> Loc) (C:aa Lf),C.length=p.2.length -> (∀(j:Nat) x v,C[j]?=some x -> us[j]?=some v -> dZ w B aj ρ x v) -> RP w B aj ρ (p.1,C) u:=by
 obtain⟨us,D,E,Y⟩:=h;obtain⟨b,xs⟩:=p
 refine⟨us.toList,by simpa using E,λj x v L Z=>?_,λρ C hl U=>?_⟩
 ·grind
 ·have O:eO w B aj ρ C us:=⟨by rw[E,hl],λj x L=>by
   have T:j<us.size:=by rw[E,<- hl];exact(dV.1 L).1
   exact⟨us[j],Array.getElem?_eq_getElem T,U j x _ L (by rw[Array.getElem?_toList,Array.getElem?_eq_getElem T])⟩⟩
  cases b with
  |true=>exact⟨us,D,O⟩
  |false=>have D:=D;subst D;exact O
def Iy:∀ (ps:aa Pt) (c0 off:Nat) (σ:S) (ρ:Nat -> Loc) (C:aa Value),60000 <= c0 -> Rl w0 N aj ρ σ a w -> jO w w0.heap.size aj (λn=>c0+n) off ps C ->
  ∃ρ',Rl w0 N aj ρ' (pI (c0+off) σ ps) a w/\(∀r,r<c0+off -> ρ' r=ρ r)/\C.length=(sx (c0+off) ps).length /\ ∀(i:Nat) p v,(sx (c0+off) ps)[i]?=some p -> C[i]?=some v -> RP w w0.heap.size aj ρ' p v
 | [],c0,off,σ,ρ,C,_,h,D=>by
  cases C with
  |nil=>exact⟨ρ,h,λ_ _=>rfl,rfl,λi p v T=>by simp[sx]at T⟩
  |cons v C=>exact D.elim
 | p :: ps,c0,off,σ,ρ,C,hc,h,D=>by
  cases C with
  |nil=>exact D.elim
  | cons v C=>
   obtain⟨⟨_,T⟩,D⟩:=D;obtain⟨us,hl,ki,vN⟩:=T.cells;obtain⟨Iz,h1,Wz,xw⟩:=Wx p.2 (c0+off) σ ρ us (by omega) h hl (λj x u L E=>by
    have:RV w _ aj [c0+(off+j)] x u:=ki j x u L E;rw[<- Nat.add_assoc]at this;exact this)
   obtain⟨fm,Y,U,hlen,Z⟩:=Iy ps c0 (off+p.2.length) (mL (c0+off) σ p.2) Iz C hc h1 D;rw[<- Nat.add_assoc]at Y U hlen Z
   refine⟨fm,Y,λr D=>(U r (by omega)).trans (Wz r D),by simp[sx,hlen],λi q u O E=>?_⟩
   cases i with
   | zero=>
    simp[sx,List.getElem?_cons_zero,iO]at O E;subst O E
    refine vN fm _ (aqo _ _) (λj x u L E=>adG p.2 _ j x u L (xw j x u L E) U)
   | succ i=>
    simp[ List.getElem?_cons_succ]at O E;exact Z i q u O E
def jO.home{nm:Nat -> Nat}:∀ (ps:aa Pt) (off:Nat) (C:aa Value) {B':Nat},jO w B aj nm off ps C -> B' <= B -> (∀ b,B <= b -> aD b=aj b) -> (∀ b k,aj b=some k -> B <= b) -> jO w B' aD nm off ps C
 |[],_,[],_,h,_,_,_=>h
 | p :: ps,off,v :: C,B',h,hB,hl,D=>by
  obtain⟨⟨E,us,O,T,U⟩,Y⟩:=h
  refine⟨⟨E,us,O,T,λj x L=>?_⟩,jO.home ps _ C Y hB hl D⟩
  obtain⟨Z,tv,fE⟩:=U j x L;exact⟨Z,tv,fE.home hB hl D (cx.1 E x (hU L))⟩
def WA(w:World)(o:Oper)(a:Act)(f:Nat)(args:Array Operand)(D:Array TypeId)(E:o.op = .call { callee:=.value (.func f),args,argTypes:=D })(L:enters P f):(execOp a.eval o).run P w = .ok (.enter f (args.map a.eval)) w:=by
 obtain⟨fn,O,T,C⟩:=L;have U:¬ fn.name = "runtime.NumGoroutine":=by simpa using T
 have Y:¬ fn.body=none:=by intro e;rw[e]at C;cases C
 simp[execOp,E,resolve,Act.eval,Deferred.ofValue,invoke,callFunc,Sem.run,O,U,Y]
def aqp{f:Nat}{args:Array Operand}{nM:Array TypeId}{c:jb}{k:S->ah X}(ho:o.op = .call { callee:=.value (.func f),args,argTypes:=nM })(hd:o.dst=some d)(he:enters P f)(hc:iH P f c)(B1:d<N){ps:aa Pt}(me:∀ aj ρ a w,Rl w0 N aj ρ σ a w->pH w ps (args.toList.map a.eval).toArray)
  (h2:(c.run X ps λD=>oq σ d D k)=some r):∃dn,k dn=some r/\lZ P w0 N o σ dn:=by
 obtain⟨D,E,WB⟩:=(hc.1 ps).nK h2;have IA:=hc.2 ps D (WB _ _);unfold oq at E;have step:∀ a w K Q aj ρ,Rl w0 N aj ρ σ a w->(∀ v w' aD,Below w.heap.size w w'->Rl w0 N aD ρ σ a w'->qf w' w0.heap.size aD (λn=>1000000000100000+1000*d+n) D v->K (a.put o.dst v) w')->o.wp P a w K Q:=by
  intro a w K Q aj ρ hR T;unfold Oper.wp;rw[WA w o a f args nM ho he,Oper.upon_enter];have B2:(args.map a.eval)=(args.toList.map a.eval).toArray:=by apply Array.ext';rw[Array.toList_map]
  rw[B2]
  refine(IA (λn=>1000000000100000+1000*d+n) w _ (me aj ρ a w hR) (w0.on hR.below (λ_ _ h=>by cases h))).mono λe w' tK=>?_
  obtain⟨v,IB,rfl,U,Y,L⟩:=tK;have hB:=hR.below.size;let dN:bK:=λb=>if b<w.heap.size then aj b else IB b
  have e1:∀b,b<w.heap.size->dN b=aj b:=λb hb=>bI hb
  have Z:∀b,w.heap.size<=b->dN b=IB b:=λb hb=>bU
  refine T v w' dN U (hR.grow U e1 (λb k hb O=>?_)) ?_
  ·rw[Z b hb]at O;exact(Y b k O).2
  ·cases D with
   |one p=>exact jO.home [p] 0 [v] L hB Z (λb k O=>(Y b k O).1)
   | fk xx=>
    obtain⟨C,e,hv⟩:=L;exact⟨C,e,jO.home xx 0 C.toList hv hB Z (λb k O=>(Y b k O).1)⟩
 cases D with
 | one p=>
  simp only at E;split at E
  ·rename_i y hy
   refine⟨_,E,λa w K Q hR T=>?_⟩
   obtain⟨aj,ρ,hR⟩:=hR
   refine step a w K Q aj ρ hR λv w' aD U dJ L=>?_
   obtain⟨ρ',lI,_,_,ri⟩:=Iy [p] (1000000000100000+1000*d) 0 σ ρ [v] (by omega) dJ L;rw[hd];have WC:=ri 0 _ v rfl rfl;exact T _ _ ⟨aD,ρ',lI.set (V3 hy WC) B1⟩
  ·cases E
 | fk xx=>
  refine⟨_,E,λa w K Q hR T=>?_⟩
  obtain⟨aj,ρ,hR⟩:=hR
  refine step a w K Q aj ρ hR λv w' aD U dJ L=>?_
  obtain⟨C,rfl,hv⟩:=L;obtain⟨ρ',lI,_,hlen,ri⟩:=Iy xx (1000000000100000+1000*d) 0 σ ρ C.toList (by omega) dJ hv;rw[hd]
  refine T _ _ ⟨aD,ρ',lI.set ⟨C,rfl,by simpa using hlen,λj p hp=>?_⟩ B1⟩
  have hj:j<C.size:=by
   have:=(dV.1 hp).1;rw[Nat.add_zero]at hlen;rw[<-hlen]at this
   simpa using this
  exact⟨C[j],Array.getElem?_eq_getElem hj,ri j p _ hp (by rw[Array.getElem?_toList,Array.getElem?_eq_getElem hj])⟩
def adH{f:Nat}{args:Array Operand}{E:Array TypeId}{c:jb}{k:S->ah X}{ev:(aa Pt->ah X)->ah X}(L:o.op = .call { callee:=.value (.func f),args,argTypes:=E })(O:o.dst=some d)(T:enters P f)(U:iH P f c)
  (Y:∀k,ev k=some r->∃ps,k ps=some r/\∀aj ρ a w,Rl w0 N aj ρ σ a w->pH w ps (args.toList.map a.eval).toArray) (h:sy N σ d c ev k=some r):∃D,k D=some r/\lZ P w0 N o σ D:=by
 unfold sy at h;cases C:Nat.blt d N with
 |false=>rw[C]at h;cases h
 | true=>
  rw[C,au]at h;obtain⟨ps,Z,me⟩:=Y _ h;exact aqp L O T U (cZ C) me Z
end
def eJ(aj:bK)(rs:aa (Nat×Nat))(nm:Nat->Nat):bK:=λb=>
 match aj b with
 |none=>none
 | some k=>match k.getLast? with
  |none=>none
  |some r=>(rs.lookup r).map λn=>k.dropLast++[nm n]
section
variable {P:Program} {w w':World} {w0:Wd} {B N:Nat} {aj aD:bK} {ρ ρ':Nat->Loc} {σ:S} {a:Act} {X:Type} {d:Nat} {r:X} {rs:aa (Nat×Nat)} {nm:Nat->Nat}
def zJ{b:Nat}(h:aj b=none):eJ aj rs nm b=none:=by simp[eJ,h]
def RV.eJ{p:aa Nat}{r n:Nat}{x:V}{v:Value}(h:RV w B aj (p++[r]) x v)(D:rs.lookup r=some n):RV w B (eJ aj rs nm) (p++[nm n]) x v:=
 h.map (Q:=λq C=>∃ p,q=p++[r]/\C=p++[nm n]) (dQ _) (λb _ h=>⟨rfl,zJ h⟩) (λb q C _ hl e=>by
  obtain⟨p,rfl,rfl⟩:=e;exact⟨rfl,by simp[Proofs.YtnilicojgkhpnaaGreat.eJ,hl,D],λj i s=>⟨j::i::s::p,rfl,rfl⟩⟩) (.inr ⟨p,rfl,rfl⟩)
def WD{m:Nat -> ah bh}:∀ (xs:aa Lf) (off:Nat) (ys:aa V) (E:aa (Nat×Nat)),Iw m off xs=some (ys,E) -> ys.length=xs.length /\ ∀ (j:Nat) x,xs[j]?=some x -> ∃ y,ys[j]?=some y/\y.loc=true/\((x = .v y/\y.aF=true) \/ ∃ r,x = .own [r]/\m r=some (.sl y)/\(r,off+j)∈E)
 | [],off,ys,E,h=>by
  simp only[Iw,iO,Prod.mk.injEq]at h;obtain⟨rfl,rfl⟩:=h;exact⟨rfl,λj x C=>by simp at C⟩
 | x :: xs,off,ys,E,h=>by
  have Z:∀ y z,Wy m x=some (y,z) -> y.loc=true/\((z=none/\x = .v y/\y.aF=true) \/ ∃ r,z=some r/\x = .own [r]/\m r=some (.sl y)):=by
   intro y z D;unfold Wy at D
   grind
  unfold Iw at h;split at h
  ·rename_i y L O T U;simp only[iO,Prod.mk.injEq]at h;obtain⟨rfl,rfl⟩:=h;obtain⟨Y,h2⟩:=WD xs (off+1) L O U
   refine⟨by simp[Y],λj x' C=>?_⟩
   cases j with
   | zero=>
    simp at C;subst C;obtain⟨hl,D|⟨r,D,_⟩⟩:=Z y none T
    ·simp_all
    ·cases D
   |succ j =>grind
  ·rename_i y r L O T U;simp only[iO,Prod.mk.injEq]at h;obtain⟨rfl,rfl⟩:=h;obtain⟨Y,h2⟩:=WD xs (off+1) L O U
   refine⟨by simp[Y],λj x' C=>?_⟩
   cases j with
   | zero=>
    simp at C;subst C;obtain⟨hl,D|⟨r',D,e1,e2⟩⟩:=Z y (some r) T
    ·cases D.1
    ·simp_all
   |succ j =>grind
  ·cases h
def WE{m:Nat -> ah bh}(hm:∀ r x,m r=some x -> ez w B aj ρ r x):∀ (ps:aa (Bool×aa Lf)) (off:Nat) (L:aa Pt) (O:aa (Nat×Nat)) (C:aa Value),EO m off ps=some (L,O) -> (∀ p∈O,rs.lookup p.1=some p.2) -> C.length=ps.length ->
  (∀(i:Nat) p v,ps[i]?=some p -> C[i]?=some v -> RP w B aj ρ p v) -> jO w B (eJ aj rs nm) nm off L C
 | [],off,L,O,C,h,_,hl,_=>by
  have:C=[]:=List.eq_nil_of_length_eq_zero hl;subst this;simp only[EO,iO,Prod.mk.injEq]at h;obtain⟨rfl,rfl⟩:=h;trivial
 | p :: ps,off,L,O,C,h,jP,hl,hp=>by
  cases C with
  |nil=>simp at hl
  | cons v C=>
   unfold EO at h;split at h
   ·rename_i ys rs1 qs' B3 h1 h2;simp only[iO,Prod.mk.injEq]at h;obtain⟨rfl,rfl⟩:=h;obtain⟨hlen,On⟩:=WD _ _ _ _ h1;have vJ:=WE hm ps _ qs' B3 C h2 (λq hq=>jP q (List.mem_append_right _ hq)) (by simpa using hl) (λi q u hq hu=>hp (i+1) q u (by simpa using hq) (by simpa using hu));have zK:=hp 0 p v rfl rfl;have key:∀ us:Array Value,eO w B aj ρ p.2 us -> (us.size=ys.length /\ ∀ (j:Nat) x,ys[j]?=some x -> ∃ u,us[j]?=some u/\RV w B (eJ aj rs nm) [nm (off+j)] x u):=by
     intro us T
     refine⟨by rw[hlen];exact T.1,λj y U=>?_⟩
     have Y:j<p.2.length:=by rw[<- hlen];exact(dV.1 U).1
     obtain⟨y',E,EP,hz⟩:=On j _ (bZ Y);rw[U]at E;injection E with E;subst E;obtain⟨u,hu,Z⟩:=T.2 j _ (bZ Y);refine⟨u,hu,?_⟩;rcases hz with ⟨e,hf⟩|⟨r,e,hmr,zL⟩
     ·rw[e]at Z;exact(Z.2.Ot hf (λb=>zJ)).key hf
     ·rw[e]at Z;have eY:=hm r _ hmr;generalize D:bh.sl y=z at eY;cases eY with
      |aB=>cases D
      |mp=>cases D
      |gh=>cases D
      | sl v' y' cF ki=>
       injection D with D;subst D;have IC:v'=u:=by
        have h4:=Z.2;simp only[di,cF]at h4;simp_all
       subst IC;exact RV.eJ (p:=[]) ki (jP (r,off+j) (List.mem_append_left _ zL))
    refine⟨⟨?_,?_⟩,?_⟩
    ·rw[cx];intro y U;obtain⟨j,Y⟩:=List.mem_iff_getElem?.1 U;have BI:j<p.2.length:=by rw[<- hlen];exact(dV.1 Y).1
     obtain⟨y',E,EP,_⟩:=On j _ (bZ BI);simp_all
    ·obtain⟨b,xs⟩:=p;cases b with
     | true=>
      obtain⟨us,e,T⟩:=zK;obtain⟨k1,k2⟩:=key us T;exact⟨us,e,k1,k2⟩
     | false=>
      obtain⟨k1,k2⟩:=key #[v] zK;exact⟨#[v],rfl,k1,k2⟩
    ·grind
   ·cases h
def aqq{t:TypeId}{x:A}{k:A->ah X}(h:od P σ t x k=some r){u:Value}(C:RA w B aj ρ x u):∃ ad,u = .pointer (some ad):=by
 unfold od at h;split at h
 ·cases h
 ·split at h
  ·obtain⟨b,off,_,rfl⟩:=C;exact⟨_,rfl⟩
  ·obtain⟨b,off,rfl,_⟩:=C;exact⟨_,rfl⟩
  ·obtain⟨ad,rfl,_⟩:=C;exact⟨_,rfl⟩
  ·cases h
def adJ{x:A}{p:Bool×aa Lf}(h:OX x=some p){u:Value}(D:RA w B aj ρ x u):RP w B aj ρ p u:=by
 unfold OX at h;split at h
 ·injection h with h;subst h
  refine⟨rfl,λj y C=>?_⟩
  cases j with
  |zero=>simp at C;subst C;exact⟨u,rfl,D⟩
  |succ j=>simp at C
 ·injection h with h;subst h;exact D
 ·cases h
def tL(tmps:Array Value):ResultVar->Sem Value
 |.tmp t=>pure (tmps.getD t undef)
 |.cell a t=>do loadVar t (<-asAddr (tmps.getD a undef))
def ID:∀ (l:aa ResultVar) (k:aa (Bool×aa Lf) -> ah X),sA P σ l k=some r -> ∃ ps,k ps=some r /\ ∀ aj ρ a w,Rl w0 N aj ρ σ a w -> ∃ C,(l.mapM (tL a.tmps)).run P w = .ok C w/\C.length=ps.length /\ ∀ (i:Nat) p v,ps[i]?=some p -> C[i]?=some v -> RP w w0.heap.size aj ρ p v
 |[],k,h=>⟨[],h,λ_ _ _ _ _=>⟨[],rfl,rfl,λi p v D=>by simp at D⟩⟩
 | .tmp t :: rest,k,h=>by
  simp only[sA]at h;split at h
  ·rename_i p D;obtain⟨ps,T,U⟩:=ID rest _ h
   refine⟨p::ps,T,λaj ρ a w hR=>?_⟩
   obtain⟨C,Y,hl,hv⟩:=U aj ρ a w hR
   refine⟨a.tmps.getD t undef::C,?_,by simp[hl],λi q u E L=>?_⟩
   ·rw[List.mapM_cons];simp[tL,Sem.run_pure,mH,gq,Y]
   ·cases i with
    |zero=>simp only[List.getElem?_cons_zero,iO]at E L;subst E L;exact adJ D (hR.tmp t)
    |succ i=>grind
  ·cases h
 | .cell c ty :: rest,k,h=>by
  simp only[sA]at h;obtain⟨y,Z,hld⟩:=ac9 (w0:=w0) (N:=N) h;split at Z
  ·rename_i p D;obtain⟨ps,T,U⟩:=ID rest _ Z
   refine⟨p::ps,T,λaj ρ a w hR=>?_⟩
   obtain⟨C,Y,hl,hv⟩:=U aj ρ a w hR;obtain⟨v,O,xu⟩:=hld aj ρ a w hR _ (hR.tmp c);obtain⟨ad,o9⟩:=aqq h (hR.tmp c);rw[o9]at O;have O:(loadVar ty ad).run P w = .ok v w:=by
    simpa [Instr.loadAt,Instr.sureAddr]using O
   refine⟨v::C,?_,by simp[hl],λi q u E L=>?_⟩
   ·rw[List.mapM_cons];simp[tL,o9,asAddr,Sem.run_pure,mH,gq,Y,O]
   ·cases i with
    |zero=>simp at E L;subst E L;exact adJ D xu
    |succ i=>grind
  ·cases Z
def aqr{fn:Func}{k:gj -> ah X}(h:Ix P σ fn.results k=some r):∃ res,k res=some r /\ ∀ aj ρ a w,Rl w0 N aj ρ σ a w -> ∀ nm,∃ v aD,(results fn a.tmps).run P w = .ok v w/\(∀ b k,aD b=some k -> (w0.heap.size <= b \/ w0.L b≠none)/\b<w.heap.size/\k≠[])/\qf w w0.heap.size aD nm res v:=by
 unfold Ix at h;obtain⟨ps,O,ri⟩:=ID (w0:=w0) (N:=N) _ _ h;clear h;split at O
 ·rename_i U rs WG;cases ho:once rs with
  |false=>grind
  | true=>
   rw[ho,au]at O;have jP:∀ p∈rs,rs.lookup p.1=some p.2:=by
    intro p hp;have:=cx.1 ho p hp;obtain⟨n,hn,he⟩:=(Option.any_eq_true _ _).1 this;simp_all
   have core:∀ aj ρ a w,Rl w0 N aj ρ σ a w -> ∀ nm:Nat -> Nat,∃ C:aa Value,(fn.results.mapM (tL a.tmps)).run P w = .ok C.toArray w/\(∀ b k,eJ aj rs nm b=some k -> (w0.heap.size <= b \/ w0.L b≠none)/\b<w.heap.size/\k≠[])/\jO w w0.heap.size (eJ aj rs nm) nm 0 U C:=by
    intro aj ρ a w hR nm;obtain⟨C,T,hl,hv⟩:=ri aj ρ a w hR
    refine⟨C,?_,λb k E=>?_,WE hR.root ps 0 U rs C WG jP hl hv⟩
    ·rw[Array.mapM_eq_mapM_toList];simp[T]
    ·unfold eJ at E;split at E
     ·cases E
     ·rename_i k' pF;have:=hR.dw b k' pF;split at E
      ·cases E
      ·cases tM:rs.lookup _ with
       |none=>rw[tM]at E;cases E
       | some n=>
        rw[tM]at E;injection E with E;subst E;simp_all
   have mg:∀ (tmps:Array Value),results fn tmps=(do let C <- fn.results.mapM (tL tmps);pure (if h:C.size=1 then C[0]else .tuple C)):=λtmps=>by
    unfold results;congr 1
   split at O
   ·rename_i p
    refine⟨_,O,λaj ρ a w hR nm=>?_⟩
    obtain⟨C,T,Y,D⟩:=core aj ρ a w hR nm
    match C,D with
    |[v],D=>exact⟨v,_,by rw[mg,gq,T];rfl,Y,D⟩
    |[],D=>exact D.elim
    |_::_::_,D=>exact D.2.elim
   ·rename_i Z
    refine⟨_,O,λaj ρ a w hR nm=>?_⟩
    obtain⟨C,T,Y,D⟩:=core aj ρ a w hR nm;have iL:C.toArray.size≠1:=by
     intro e
     match U,C,D,Z with
     |[q],[v],_,Z=>exact Z q rfl
     |[],[v],D,_=>exact D.elim
     |_::_::_,[v],D,_=>exact D.2.elim
    refine⟨.tuple C.toArray,_,?_,Y,C.toArray,rfl,D⟩;rw[mg,gq,T,mH];simp only[iL,dif_neg,not_false_eq_true,Sem.run_pure]
 ·cases O
end
inductive In where
 |aB (cs:List V)
 |sl (y:V)
def nF(i:Nat):Nat:=20000+1000*i
def nC(i j:Nat)(x:V):Nat:=bif x.aF then 20001+1000*i+j else 60000+1000*i+j
def zM(i j:Nat)(x:V):Lf:=bif x.plain then .v x else .own [nC i j x]
def zN(i:Nat):Nat->aa V->aa Lf
 |_,[]=>[]
 |j,x::xs=>zM i j x::zN i (j+1) xs
def WH(i:Nat):Nat->aa V->(Nat->ah bh)->(Nat->ah bh)
 |_,[],m=>m
 |j,x::xs,m=>WH i (j+1) xs (bif x.plain then m else cg m (nC i j x) (some (.sl x)))
def OY:Nat->aa In->(Nat->ah bh)->(Nat->ah bh)
 |_,[],m=>m
 |i,.aB cs::r,m=>OY (i+1) r (WH i 0 cs (cg m (nF i) (some (.aB (zN i 0 cs)))))
 |i,.sl y::r,m=>OY (i+1) r (cg m (nF i) (some (.sl y)))
inductive Ar where
 |pt (p:Pt)
 |mut (i off:Nat)
def WI(C:aa In):Ar->A
 |.pt (false,[x])=>.lf (.v x)
 |.pt (true,xs)=>.agg (xs.map .v)
 |.pt (false,.bool false::.int .i64 g::c::cs)=>.nH g.toNat (c::cs)
 |.pt _=>.undef
 | .mut i off=>match C[i]? with
  |some (.aB _)=>.aH (nF i) off
  |some (.sl _)=>.lf (.own [nF i])
  |none=>.undef
def B4(C:aa In)(args:aa Ar):S:=⟨λk=>match args[k]? with
 |some x=>WI C x
 |none=>.undef,OY 0 C (λ_=>none)⟩
def rj(w w':World)(aD:bK)(ρ:Nat->Loc)(nm:Nat->Nat):Nat->Nat->aa In->aa In->Prop
 |_,_,[],[]=>True
 | i,D,.aB cs :: r,.aB eM :: L=>(∃ b off cells O e U,ρ (nF i) = .aB b off/\w.heap[b]?=some (.cells cells e (0,0))/\w'.heap[b]?=some (.cells O U (0,0))/\aD b=some [nm D]/\off+eM.length<=O.size/\eM.length=cs.length/\
   ∀(j:Nat) C,eM[j]?=some C->∃u,O[off+j]?=some u/\((C.plain=true/\∀(w:World) (B:Nat) (aj:bK) (q:aa Nat),RV w B aj q C u)\/(C = .nil/\u = .slice none 0 0/\∃E,cs[j]?=some E/\E.aF=false)\/(C.plain=false/\C.aF=true/\C.kg=true/\(∃E,cs[j]?=some E/\Wk E C)/\cells[off+j]?=some u)\/(C.aF=false/\RV w' w.heap.size aD [nm (D+1+j)] C u)))/\
   rj w w' aD ρ nm (i+1) (D+1+cs.length) r L
 |i,D,.sl y::r,.sl T::L=>(T = .nil\/∃v,ρ (nF i) = .ep v/\RV w' w.heap.size aD [nm D] T v)/\rj w w' aD ρ nm (i+1) (D+1) r L
 |_,_,_,_=>False
def IE(w w':World)(aD:bK)(ρ:Nat->Loc)(nm:Nat->Nat):Nat->Nat->aa In->aa In->Prop
 |_,_,[],[]=>True
 | i,D,.aB cs :: r,.aB eM :: E=>(∃ b off cells L e T,ρ (nF i) = .aB b off/\w.heap[b]?=some (.cells cells e (0,0))/\w'.heap[b]?=some (.cells L T (0,0))/\aD b=some [nm D]/\off+eM.length<=L.size/\eM.length=cs.length/\
   ∀(j:Nat) C,eM[j]?=some C->∃u,L[off+j]?=some u/\((C.plain=true/\∀(w:World) (B:Nat) (aj:bK) (q:aa Nat),RV w B aj q C u)\/(C.plain=false/\C.aF=true/\cells[off+j]?=some u)\/(C.aF=false/\RV w' w.heap.size aD [nm (D+1+j)] C u)))/\
   IE w w' aD ρ nm (i+1) (D+1+cs.length) r E
 |i,D,.sl y::r,.sl O::E=>(O = .nil\/∃v,ρ (nF i) = .ep v/\RV w' w.heap.size aD [nm D] O v)/\IE w w' aD ρ nm (i+1) (D+1) r E
 |_,_,_,_=>False
def gj.len:gj->Nat
 |.one p=>p.2.length
 |.fk ps=>(ps.map λp=>p.2.length).sum
def pJ(w:World)(B:Nat)(aj:bK)(ρ:Nat->Loc):Nat->aa In->Prop
 |_,[]=>True
 |i,.aB cs::r=>ez w B aj ρ (nF i) (.aB (zN i 0 cs))/\(∀(j:Nat) x,cs[j]?=some x->x.plain=false->ez w B aj ρ (nC i j x) (.sl x))/\pJ w B aj ρ (i+1) r
 |i,.sl y::r=>ez w B aj ρ (nF i) (.sl y)/\pJ w B aj ρ (i+1) r
/-! The end: what is given back,and what the written parameters hold. -/
def WJ(m:Nat->ah bh)(i j:Nat)(C:V):Lf->ah (V×ah Nat)
 |.v x=>bif x.plain then some (x,none)else (bif !x.kg && !C.aF then some (.nil,none)else none)
 | .own [r]=>match m r with
  |some (.sl y)=>bif y.aF then (bif !C.plain&&(C.aF&&C.kg)&&Nat.beq r (20001+1000*i+j)&&Nat.blt r 60000 then some (C,none)else none)else (bif y.loc then some (y,some r)else none)
  |_=>none
 |_=>none
def B5(m:Nat->ah bh)(i C:Nat):Nat->aa V->aa Lf->ah (aa V×aa (Nat×Nat))
 |_,[],[]=>some ([],[])
 | j,D :: xs,l :: E=>match WJ m i j D l,B5 m i C (j+1) xs E with
  |some (y,none),some (ys,rs)=>some (y::ys,rs)
  |some (y,some r),some (ys,rs)=>some (y::ys,(r,C+1+j)::rs)
  |_,_=>none
 |_,_,_=>none
def V.gone:V->Bool
 |.sl _ o _ _=>Nat.ble 1000000 o
 |_=>false
def zO(m:Nat->ah bh):Nat->Nat->aa In->ah (aa In×aa (Nat×Nat))
 |_,_,[]=>some ([],[])
 | i,C,.aB cs :: r=>match bif Nat.blt (nF i) 60000 then m (nF i)else none with
  | some (.aB L)=>match B5 m i C 0 cs L,zO m (i+1) (C+1+cs.length) r with
   |some (eM,rs),some (os,D)=>some (.aB eM::os,(nF i,C)::(rs++D))
   |_,_=>none
  |_=>none
 | i,C,.sl O :: r=>bif O.gone then (match zO m (i+1) (C+1) r with
   |some (os,D)=>some (.sl .nil::os,D)
   |none=>none)else match bif Nat.blt (nF i) 60000 then m (nF i)else none with
  | some (.sl E)=>bif E.loc && !E.aF then (match zO m (i+1) (C+1) r with
   |some (os,D)=>some (.sl E::os,(nF i,C)::D)
   |none=>none)else none
  |_=>none
def IF{X:Type}(P:Program)(σ:S)(fn:Array ResultVar)(C:aa In)(k:aa In->gj->ah X):ah X:=
 sA P σ fn.toList λps=>match EO σ.m 0 ps with
  | some (qs,rs)=>match zO σ.m 0 (qs.map λp=>p.2.length).sum C with
   | some (os,D)=>bif once (rs++D)then (match qs with
    |[p]=>k os (.one p)
    |qs=>k os (.fk qs))else none
   |none=>none
  |none=>none
/-! Types of parameters and results. -/
def iT:aa (Bool×TC×Nat)->Type
 |[]=>af
 |[(_,t,_)]=>T t
 |(_,t,_)::r=>T t×iT r
def tN:(l:aa (Bool×TC×Nat))->iT l->aa Pt
 |[],_=>[]
 |[(b,t,g)],x=>[(b,enc t g x)]
 |(b,t,g)::q::r,x=>(b,enc t g x.1)::tN (q::r) x.2
def qg:(l:aa (Bool×TC×Nat))->aa Pt->ah (iT l)
 |[],[]=>some ()
 |[(b,t,g)],[(C,D)]=>bif b==C then dec t g D else none
 | (b,t,g) :: q :: r,(C,D) :: ps=>bif b==C then (match dec t g D,qg (q :: r) ps with
  |some x,some xs=>some (x,xs)
  |_,_=>none)else none
 |_,_=>none
def mh(l:aa (Bool×TC×Nat)):gj->ah (iT l)
 |.one p=>qg l [p]
 |.fk ps=>bif Nat.beq ps.length 1 then none else qg l ps
def fF(l:aa (Bool×TC×Nat))(x:iT l):gj:=
 match tN l x with
 |[p]=>.one p
 |ps=>.fk ps
inductive PK where
 |v (b:Bool) (t:TC)
 |p (t:TC) (g off:Nat)
 |s (t:TC) (g:Nat)
def mM:aa PK->Type
 |[]=>af
 |.v _ t::r=>T t×mM r
 |.p t _ _::r=>T t×mM r
 |.s t _::r=>aa (T t)×mM r
def sB:aa (Bool×TC×Nat)->Type
 |[]=>af
 |(true,t,_)::r=>T t×sB r
 |(false,t,_)::r=>aa (T t)×sB r
def lJ:(l:aa (Bool×TC×Nat))->sB l->aa In
 |[],_=>[]
 |(true,t,g)::r,x=>.aB (enc t g x.1)::lJ r x.2
 |(false,t,g)::r,x=>.sl (bif Nat.ble 1000000 g then .nil else .sl t (g+2) false x.1)::lJ r x.2
def fC:aa PK->aa (Bool×TC×Nat)
 |[]=>[]
 |.v _ _::r=>fC r
 |.p t g _::r=>(true,t,g)::fC r
 |.s t g::r=>(false,t,g)::fC r
def nN:(l:aa PK)->mM l->aa In
 |[],_=>[]
 |.v _ _::r,x=>nN r x.2
 |.p t g _::r,x=>.aB (enc t g x.1)::nN r x.2
 |.s t g::r,x=>.sl (.sl t (g+2) false x.1)::nN r x.2
def kr:(l:aa PK)->Nat->mM l->aa Ar
 |[],_,_=>[]
 |.v b t::r,i,x=>.pt (b,enc t 0 x.1)::kr r i x.2
 |.p _ _ off::r,i,x=>.mut i off::kr r (i+1) x.2
 |.s _ _::r,i,x=>.mut i 0::kr r (i+1) x.2
structure ou where
 ps:List PK
 ro:List (Bool×TC×Nat)
 F:mM ps->Option (iT ro×sB (fC ps))
def tO(P:Program)(f:Nat)(c:ou):Prop:=
 ∀ x y,c.F x=some y->∀ (nm:Nat->Nat) (w:World) (aj:bK) (ρ:Nat->Loc) (cc:Array Value),pJ w w.heap.size aj ρ 0 (nN c.ps x)->(∀ b k,aj b=some k->b<w.heap.size/\k≠[])->
     cc.size=c.ps.length->(∀i,RA w w.heap.size aj ρ ((B4 (nN c.ps x) (kr c.ps 0 x)).t i) (cc.getD i undef))->∀C:Hd w aj,
     Calls P f cc w λe w'=>∃v aD,e = .returned v/\js ⟨w,aj,λ_=>none,C,λ_ _=>rfl⟩ w w'/\(∀b k,aD b=some k->(w.heap.size<=b\/aj b≠none)/\b<w'.heap.size/\k≠[])/\qf w' w.heap.size aD nm (fF c.ro y.1) v/\IE w w' aD ρ nm 0 (fF c.ro y.1).len (nN c.ps x) (lJ (fC c.ps) y.2)
def IG(w:World)(ρ:Nat->Loc):Nat->aa In->Prop
 |_,[]=>True
 |i,.aB cs::r=>(∃b off cells e,ρ (nF i) = .aB b off/\w.heap[b]?=some (.cells cells e (0,0))/\∀(j:Nat) x,cs[j]?=some x->x.plain=false->x.aF=true->∃u,cells[off+j]?=some u/\ρ (20001+1000*i+j) = .ep u)/\IG w ρ (i+1) r
 |i,.sl y::r=>(∃v,ρ (nF i) = .ep v)/\IG w ρ (i+1) r
section
variable {P:Program} {w w':World} {w0:Wd} {B N:Nat} {aj aD:bK} {ρ ρ':Nat->Loc} {σ:S} {a:Act} {X:Type} {d:Nat} {r:X} {rs:aa (Nat×Nat)} {nm:Nat->Nat}
def WK{m:Nat -> ah bh}{i pos:Nat}:∀ (xs:aa V) (T:aa Lf) (D:Nat) (ys:aa V) (U:aa (Nat×Nat)),B5 m i pos D xs T=some (ys,U) -> ys.length=xs.length/\T.length=xs.length /\
  ∀(j:Nat) y,ys[j]?=some y -> ∃l x0,T[j]?=some l/\xs[j]?=some x0/\((l = .v y/\y.plain=true) \/ (l = .v .nil/\y = .nil/\x0.aF=false) \/ (l = .own [20001+1000*i+(D+j)]/\y=x0/\y.plain=false/\(y.aF&&y.kg)=true/\20001+1000*i+(D+j)<60000) \/ (∃q,l = .own [q]/\m q=some (.sl y)/\y.aF=false/\(q,pos+1+(D+j))∈U))
 | [],[],D,ys,U,h=>by
  simp only[B5,iO,Prod.mk.injEq]at h;obtain⟨rfl,rfl⟩:=h;exact⟨rfl,rfl,λj y Z=>by simp at Z⟩
 |[],_::_,D,ys,U,h=>by simp[B5]at h
 |_::_,[],D,ys,U,h=>by simp[B5]at h
 | x0 :: xs,l :: T,D,ys,U,h=>by
  have hc:∀ y z,WJ m i D x0 l=some (y,z) -> (z=none/\l = .v y/\y.plain=true) \/ (z=none/\l = .v .nil/\y = .nil/\x0.aF=false) \/ (z=none/\l = .own [20001+1000*i+D]/\y=x0/\y.plain=false/\(y.aF&&y.kg)=true/\20001+1000*i+D<60000) \/ (∃ q,z=some q/\l = .own [q]/\m q=some (.sl y)/\y.aF=false):=by
   intro y z C;unfold WJ at C;split at C
   ·rename_i x;cases hp:x.plain with
    | false=>
     rw[hp,aq]at C;cases hb:(!x.kg && !x0.aF)with
     |false=>rw[hb]at C;cases C
     | true=>
      rw[hb,au]at C;simp only[iO,Prod.mk.injEq]at C;obtain⟨rfl,rfl⟩:=C;rw[aU,gV,gV]at hb;have hx:x = .nil:=by
       cases x<;>first|rfl|(exact absurd hb.1 (by simp[V.kg]))
      subst hx;exact .inr (.inl ⟨rfl,rfl,rfl,hb.2⟩)
    |true =>grind
   ·rename_i q;split at C
    ·rename_i y1 hy1;cases hf:y1.aF with
     | true=>
      rw[hf,au]at C;cases hb:(!x0.plain&&(x0.aF&&x0.kg)&&Nat.beq q (20001+1000*i+D)&&Nat.blt q 60000)with
      |false=>rw[hb]at C;cases C
      | true=>
       rw[hb,au]at C;simp only[iO,Prod.mk.injEq]at C;obtain⟨rfl,rfl⟩:=C;rw[aU,aU,aU,gV]at hb;obtain⟨⟨⟨b1,b2⟩,b3⟩,b4⟩:=hb;obtain rfl:=cK b3;exact .inr (.inr (.inl ⟨rfl,rfl,rfl,b1,b2,by have:=cZ b4;omega⟩))
     | false=>
      rw[hf,aq]at C;cases hl:y1.loc with
      |false=>rw[hl]at C;cases C
      |true =>grind
    ·cases C
   ·cases C
  unfold B5 at h;split at h
  ·rename_i y WL WM Z zE;simp only[iO,Prod.mk.injEq]at h;obtain⟨rfl,rfl⟩:=h;obtain⟨h1,h2,h3⟩:=WK xs T (D+1) WL WM zE
   refine⟨by simp[h1],by simp[h2],λj y' E=>?_⟩
   cases j with
   | zero=>
    simp at E;subst E;refine⟨l,x0,rfl,rfl,?_⟩;rcases hc y none Z with ⟨_,L,O⟩|⟨_,L,O,Y⟩|⟨_,L,O,Y,e4,e5⟩|⟨q,hq,_⟩
    ·simp[*]
    ·simp[*]
    ·exact .inr (.inr (.inl ⟨L,O,Y,e4,e5⟩))
    ·cases hq
   | succ j=>
    obtain⟨l',x',g1,g2,g3⟩:=h3 j y' (by simpa using E);rw[show D+1+j=D+(j+1) by omega]at g3;exact⟨l',x',by simpa using g1,by simpa using g2,g3⟩
  ·rename_i y q WL WM Z zE;simp only[iO,Prod.mk.injEq]at h;obtain⟨rfl,rfl⟩:=h;obtain⟨h1,h2,h3⟩:=WK xs T (D+1) WL WM zE
   refine⟨by simp[h1],by simp[h2],λj y' E=>?_⟩
   cases j with
   | zero=>
    simp at E;subst E;refine⟨l,x0,rfl,rfl,?_⟩;rcases hc y (some q) Z with ⟨e0,_⟩|⟨e0,_⟩|⟨e0,_⟩|⟨q',hq,L,O,Y⟩
    ·cases e0
    ·cases e0
    ·cases e0
    ·injection hq with hq;subst hq;exact .inr (.inr (.inr ⟨q,L,O,Y,.head _⟩))
   | succ j=>
    obtain⟨l',x',g1,g2,g3⟩:=h3 j y' (by simpa using E);rw[show D+1+j=D+(j+1) by omega]at g3;exact⟨l',x',by simpa using g1,by simpa using g2,g3.imp id (λg=>g.imp id (λg=>g.imp id λ⟨q',L,O,Y,e4⟩=>⟨q',L,O,Y,.tail _ e4⟩))⟩
  ·cases h
def OZ{w1:World}{WN:Nat -> Loc}{m:Nat -> ah bh}(T:∀ r,20000 <= r -> r<60000 -> ρ r=WN r)(U:∀ r x,m r=some x -> ez w w1.heap.size aj ρ r x):
  ∀(ins:aa In) (i Z:Nat) (outs:aa In) (II:aa (Nat×Nat)),zO m i Z ins=some (outs,II) -> (∀p∈II,rs.lookup p.1=some p.2) -> IG w1 WN i ins -> rj w1 w (eJ aj rs nm) WN nm i Z ins outs
 | [],i,Z,outs,II,h,L,he=>by
  simp only[zO,iO,Prod.mk.injEq]at h;obtain⟨rfl,rfl⟩:=h;trivial
 | .aB cs :: r,i,Z,outs,II,h,L,he=>by
  unfold zO at h;cases hi:Nat.blt (nF i) 60000 with
  |false=>grind
  | true=>
   rw[hi,au]at h;have hi:=cZ hi;split at h
   ·rename_i ls WO;split at h
    ·rename_i eM rs1 os B3 h1 h2;simp only[iO,Prod.mk.injEq]at h;obtain⟨rfl,rfl⟩:=h;obtain⟨⟨b,off,cells,e,adK,Wu,xy⟩,IJ⟩:=he;obtain⟨k1,k2,k3⟩:=WK _ _ _ _ _ h1
     refine⟨?_,OZ T U r (i+1) _ os B3 h2 (λp D=>L p (.tail _ (List.mem_append_right _ D))) IJ⟩
     have O:=U _ _ WO;have WQ:=T (nF i) (by unfold nF;omega) (by omega);generalize C:bh.aB ls=x at O;cases O with
     |sl=>cases C
     |mp=>cases C
     |gh=>cases C
     | aB b' H8 xz e' ls' us E hl hh hs hc=>
      injection C with C;subst C;rw[WQ,adK]at E;injection E with e1 e2;subst e1 e2
      refine⟨b,off,cells,xz,e,e',adK,Wu,hh,?_,by rw[k1,<- k2];exact hs,k1,λj y hy=>?_⟩
      ·have:=L _ (List.Mem.head _);simp[eJ,hl,this]
      ·obtain⟨l,x0,g1,g2,g3⟩:=k3 j y hy;obtain⟨c1,c2⟩:=hc j l g1;refine⟨_,c1,?_⟩;rw[fD]at g3;rcases g3 with ⟨rfl,D⟩ | ⟨rfl,rfl,OO⟩ | ⟨rfl,rfl,D,zz,dI⟩ | ⟨q,rfl,hq,hf,zL⟩
       ·exact .inl ⟨D,λ_ _ _ _=>c2.2.tw D⟩
       ·exact .inr (.inl ⟨rfl,by have h9:=c2.2;generalize us j=u9 at h9 ⊢;cases h9;rfl,x0,g2,OO⟩)
       ·rw[aU]at zz;obtain⟨hf,O0⟩:=zz;obtain⟨u,hu,aqs⟩:=xy j y g2 D hf;refine .inr (.inr (.inl ⟨D,hf,O0,⟨y,g2,.same _⟩,?_⟩));have Y:=c2.2;have WR:=T (20001+1000*i+j) (by omega) dI;simp only[di,WR,aqs]at Y;simp_all
       ·refine .inr (.inr (.inr ⟨hf,?_⟩));have O:=U _ _ hq;generalize C:bh.sl y=x at O;cases O with
        |aB=>cases C
        |mp=>cases C
        |gh=>cases C
        | sl v y' E hr=>
         injection C with C;subst C;have Y:=c2.2;simp only[di,E]at Y;injection Y with Y;rw[<- Y];exact RV.eJ (p:=[]) hr (L _ (.tail _ (List.mem_append_left _ zL)))
    ·cases h
   ·cases h
 | .sl y :: r,i,Z,outs,II,h,L,he=>by
  unfold zO at h;cases hg:y.gone with
  | true=>
   rw[hg,au]at h;split at h
   next os B3 h2=>simp at h;obtain⟨rfl,rfl⟩:=h;exact⟨.inl rfl,OZ T U r _ _ os B3 h2 L he.2⟩
   ·cases h
  |false=>
  rw[hg,aq]at h;cases hi:Nat.blt (nF i) 60000 with
  |false=>grind
  | true=>
   rw[hi,au]at h;have hi:=cZ hi;split at h
   ·rename_i y' It;cases hl:(y'.loc && !y'.aF)with
    |false=>grind
    | true=>
     rw[hl,au]at h;split at h
     ·rename_i os B3 h2;simp only[iO,Prod.mk.injEq]at h;obtain⟨rfl,rfl⟩:=h;obtain⟨⟨v,hv⟩,IJ⟩:=he
      refine⟨.inr ⟨v,hv,?_⟩,OZ T U r (i+1) _ os B3 h2 (λp D=>L p (.tail _ D)) IJ⟩
      have WQ:=T (nF i) (by unfold nF;omega) (by omega);have O:=U _ _ It;generalize C:bh.sl y'=x at O;cases O with
      |aB=>cases C
      |mp=>cases C
      |gh=>cases C
      | sl v' y'' E hr=>
       injection C with C;subst C;rw[WQ,hv]at E;injection E with E;subst E;exact RV.eJ (p:=[]) hr (L _ (.head _))
     ·cases h
   ·cases h
def aqt{w1:World}{Y:Nat -> Loc}{fn:Func}{T:aa In}{k:aa In -> gj -> ah X}(hw:w0.w=w1)(hF:∀ r,20000 <= r -> r<60000 -> w0.F r=some (Y r))(he:IG w1 Y 0 T)(h:IF P σ fn.results T k=some r):
  ∃outs res,k outs res=some r /\ ∀aj ρ a w,Rl w0 N aj ρ σ a w -> ∀nm,∃v aD,(results fn a.tmps).run P w = .ok v w/\(∀b k,aD b=some k -> (w0.heap.size <= b \/ w0.L b≠none)/\b<w.heap.size/\k≠[])/\qf w w0.heap.size aD nm res v/\rj w1 w aD Y nm 0 res.len T outs:=by
 unfold IF at h;obtain⟨ps,E,ri⟩:=ID (w0:=w0) (N:=N) _ _ h;clear h;split at E
 ·rename_i qs WS WG;split at E
  ·rename_i os WT hos;cases ho:once (WS++WT)with
   |false=>rw[ho]at E;cases E
   | true=>
    rw[ho,au]at E;generalize adL:WS++WT=rs at ho;have jP:∀ p∈rs,rs.lookup p.1=some p.2:=by
     intro p Z;have:=cx.1 ho p Z;obtain⟨n,hn,he⟩:=(Option.any_eq_true _ _).1 this;simp_all
    have core:∀ aj ρ a w,Rl w0 N aj ρ σ a w -> ∀ nm:Nat -> Nat,∃ C:aa Value,(fn.results.mapM (tL a.tmps)).run P w = .ok C.toArray w/\(∀ b k,eJ aj rs nm b=some k -> (w0.heap.size <= b \/ w0.L b≠none)/\b<w.heap.size/\k≠[])/\jO w w0.heap.size (eJ aj rs nm) nm 0 qs C /\
      rj w1 w (eJ aj rs nm) Y nm 0 (qs.map λp=>p.2.length).sum T os:=by
     intro aj ρ a w hR nm;obtain⟨C,dP,hl,hv⟩:=ri aj ρ a w hR
     refine⟨C,?_,λb k O=>?_,WE hR.root ps 0 qs WS C WG (λp Z=>jP p (by rw[<- adL];exact List.mem_append_left _ Z)) hl hv,
      OZ (λr h1 E=>hR.fix r _ (hF r h1 E)) (by rw[<- hw];exact hR.root) T 0 _ os WT hos (λp Z=>jP p (by rw[<- adL];exact List.mem_append_right _ Z)) he⟩
     ·rw[Array.mapM_eq_mapM_toList];simp[dP]
     ·unfold eJ at O;split at O
      ·cases O
      ·rename_i k' pF;have:=hR.dw b k' pF;split at O
       ·cases O
       ·cases tM:rs.lookup _ with
        |none=>rw[tM]at O;cases O
        | some n=>
         rw[tM]at O;injection O with O;subst O;simp_all
    have mg:∀ (tmps:Array Value),results fn tmps=(do let C <- fn.results.mapM (tL tmps);pure (if h:C.size=1 then C[0]else .tuple C)):=λtmps=>by
     unfold results;congr 1
    split at E
    ·rename_i p
     refine⟨_,_,E,λaj ρ a w hR nm=>?_⟩
     obtain⟨C,dP,ot,D,U⟩:=core aj ρ a w hR nm;have U:rj w1 w (eJ aj rs nm) Y nm 0 (gj.one p).len T os:=by simpa [gj.len]using U
     match C,D with
     |[v],D=>exact⟨v,_,by rw[mg,gq,dP];rfl,ot,D,U⟩
     |[],D=>exact D.elim
     |_::_::_,D=>exact D.2.elim
    ·rename_i dy
     refine⟨_,_,E,λaj ρ a w hR nm=>?_⟩
     obtain⟨C,dP,ot,D,U⟩:=core aj ρ a w hR nm;have iL:C.toArray.size≠1:=by
      intro e;clear U;have e:C.length=1:=by simpa using e
      match qs,C,D,dy,e with
      |[q],[v],_,dy,_=>exact dy q rfl
      |[],[v],D,_,_=>exact D.elim
      |_::_::_,[v],D,_,_=>exact D.2.elim
     refine⟨.tuple C.toArray,_,?_,ot,⟨C.toArray,rfl,D⟩,U⟩;rw[mg,gq,dP,mH];simp only[iL,dif_neg,not_false_eq_true,Sem.run_pure]
  ·cases E
 ·cases E
def adM{i:Nat}:∀ (cs:aa V) (D:Nat) (m:Nat -> ah bh) (r:Nat) (x:bh),WH i D cs m r=some x -> m r=some x \/ ∃ j y,cs[j]?=some y/\y.plain=false/\r=nC i (D+j) y/\x = .sl y
 |[],D,m,r,x,h=>.inl h
 | c :: cs,D,m,r,x,h=>by
  rcases adM cs _ _ r x h with C|⟨j,y,C,O,T,U⟩
  ·cases E:c.plain with
   |true=>simp_all
   | false=>
    rw[E,aq]at C;by_cases L:r=nC i D c
    ·subst L;rw[cv]at C;injection C with C;exact .inr ⟨0,c,rfl,E,rfl,C.symm⟩
    ·rw[cR _ _ _ L]at C;simp_all
  ·exact .inr ⟨j+1,y,by simpa using C,O,by rw[T];congr 1;omega,U⟩
def pJ.roots:∀ (C:aa In) (i:Nat) (m:Nat -> ah bh),pJ w B aj ρ i C -> (∀ r x,m r=some x -> ez w B aj ρ r x) -> ∀ r x,OY i C m r=some x -> ez w B aj ρ r x
 |[],i,m,_,L,r,x,h=>L r x h
 | .aB cs :: C,i,m,O,L,r,x,h=>by
  obtain⟨Y,Z,T⟩:=O
  refine pJ.roots C _ _ T (λr x E=>?_) r x h
  rcases adM cs 0 _ r x E with U|⟨j,y,g1,g2,g3,g4⟩
  ·by_cases D:r=nF i
   ·subst D;rw[cv]at U;simp_all
   ·rw[cR _ _ _ D]at U;simp_all
  ·simp_all
 | .sl y :: C,i,m,O,L,r,x,h=>by
  obtain⟨Y,T⟩:=O
  refine pJ.roots C _ _ T (λr x E=>?_) r x h
  by_cases D:r=nF i
  ·subst D;rw[cv]at E;simp_all
  ·rw[cR _ _ _ D]at E;simp_all
def WU{i:Nat}:∀ (cs:aa V) (C j:Nat) x,cs[j]?=some x->(zN i C cs)[j]?=some (zM i (C+j) x)
 |[],C,j,x,h=>by simp at h
 |c::cs,C,0,x,h=>by simp at h;subst h;rfl
 | c :: cs,C,j+1,x,h=>by
  simp only[zN,List.getElem?_cons_succ];rw[WU cs (C+1) j x (by simpa using h)];congr 2;omega
def pJ.WV:∀ (C:aa In) (i:Nat),pJ w B aj ρ i C -> IG w ρ i C
 |[],_,_=>trivial
 | .aB cs :: C,i,L=>by
  obtain⟨E,_,O⟩:=L;refine⟨?_,pJ.WV C (i+1) O⟩;generalize D:bh.aB (zN i 0 cs)=x at E;cases E with
  |sl=>cases D
  |mp=>cases D
  |gh=>cases D
  | aB b off cells e ls us Y hl Z hs hc=>
   injection D with D;subst D
   refine⟨b,off,cells,e,Y,Z,λj x hj hp hf=>?_⟩
   obtain⟨c1,T⟩:=hc j _ (WU cs 0 j x hj);rw[fD]at T;refine⟨_,c1,?_⟩;have e1:zM i j x = .own [20001+1000*i+j]:=by simp[zM,hp,nC,hf]
   rw[e1]at T;have U:=T.2;simp only[di]at U;split at U
   ·simp_all
   ·cases U
 | .sl y :: C,i,L=>by
  obtain⟨E,O⟩:=L;refine⟨?_,pJ.WV C (i+1) O⟩;cases E with
  |sl v y' Y hr=>simp_all
end
def dK(n:Nat):aa Nat->Bool
 |[]=>false
 |m::l=>Nat.beq n m ||dK n l
def xB{n:Nat}:∀ {l:aa Nat},dK n l=true ↔ n∈l
 |[]=>by simp[dK]
 | m :: l=>by
  simp only[dK,eG,iw,xB];simp_all
def adN{n:Nat}{l:aa Nat}(h:dK n l=false):n ∉ l:=λk=>by rw[xB.2 k]at h;cases h
def gJ(k l:aa Nat):Bool:=match k.getLast? with
 |some r=>dK r l
 |none=>false
def ER(ns cn:aa Nat):nI:=⟨λk=>gJ k cn ||(gJ k ns && !(Nat.beq k.length 1)),λk=>gJ k cn ||gJ k ns,λr=>dK r cn⟩
def Lf.fo(ns cn:aa Nat):Lf->Lf:=Lf.cL (ER ns cn).l
def A.fo(ns cn:aa Nat):A->A:=A.cL (ER ns cn)
def bh.fo(ns cn:aa Nat):bh->bh:=bh.cL (ER ns cn)
def S.fo(σ:S)(ns cn:aa Nat)(nr:aa (Nat×bh)):S:=⟨λk=>(σ.t k).fo ns cn,λr=>match nr.lookup r with
 |some x=>some x
 |none=>bif dK r ns ||dK r cn then none else (σ.m r).map (bh.fo ns cn)⟩
structure tP (w w':World) (aj dN:bK) (ρ fm:Nat->Loc) (ns cn:List Nat):Prop where
 size:w.heap.size<=w'.heap.size
 same:∀b,b<w.heap.size->(∀k,aj b=some k->gJ k ns=false)->w'.heap[b]?=w.heap[b]?/\dN b=aj b
 fl:∀r,dK r cn=false->fm r=ρ r
 aj:∀b k,aj b=some k->b<w.heap.size/\k≠[]
section
variable {P:Program} {w w':World} {w0:Wd} {B N:Nat} {aj dN aD:bK} {ρ fm:Nat->Loc} {σ:S} {a:Act} {X:Type} {d:Nat} {r:X} {ns cn:aa Nat}
def adO{j i s:Nat}{q l:aa Nat}(h:q≠[]):gJ (j :: i :: s :: q) l=gJ q l:=by
 cases q with
 |nil=>simp_all
 |cons x q=>simp[gJ]
def tP.tr(C:tP w w' aj dN ρ fm ns cn):Tr w w' aj dN ρ fm (λk=>gJ k ns) (λr=>dK r cn):=
 ⟨C.size,λb hb hl=>let e:=C.same b hb (λk D=>by rw[hl]at D;cases D);⟨e.1,e.2.trans hl⟩,λb k hl D=>let e:=C.same b (C.aj b k hl).1 (λL E=>by rw[hl]at E;injection E with E;subst E;exact D);⟨e.1,e.2.trans hl⟩,C.fl,λj i s x q=>adO (by simp),λb hb=>absurd rfl (C.aj b [] hb).2⟩
def WW:(ER ns cn).OK (λk=>gJ k ns) (λr=>dK r cn):=by
 refine⟨λk D=>?_,λk D=>?_,λ_ h=>h⟩
 ·obtain⟨E,C⟩:=oW.1 D;refine⟨?_,E⟩;cases L:gJ k ns with
  |false=>exact .inr rfl
  | true=>
   rw[L,cw,Bool.not_eq_false']at C;exact .inl (cK C)
 ·obtain⟨E,C⟩:=oW.1 D;exact⟨C,E⟩
def RV.tQ(C:tP w w' aj dN ρ fm ns cn){q:aa Nat}{x:V}{v:Value}(h:RV w B aj q x v)(D:gJ q ns=false\/x.aF=true):RV w' B dN q x v:=h.tr C.tr D.symm
def RA.tQ(C:tP w w' aj dN ρ fm ns cn){x:A}{u:Value}(h:RA w B aj ρ x u):RA w' B dN fm (x.fo ns cn) u:=h.tr C.tr WW
def dZ.tQ(C:tP w w' aj dN ρ fm ns cn){x:Lf}{u:Value}(h:dZ w B aj ρ x u):dZ w' B dN fm (x.fo ns cn) u:=h.tr C.tr WW
def ez.tQ(C:tP w w' aj dN ρ fm ns cn){n:Nat}{x:bh}(h:ez w B aj ρ n x)(D:dK n ns=false)(E:dK n cn=false):ez w' B dN fm n (x.fo ns cn):=h.tr C.tr WW D E
def Rl.tQ(h:Rl w0 N aj ρ σ a w)(D:tP w w' aj dN ρ fm ns cn)(hb:js w0 w w')(hl:∀ b k,dN b=some k -> (w0.heap.size <= b \/ w0.L b≠none)/\b<w'.heap.size/\k≠[])(U:∀ r,dK r cn=true -> w0.F r=none){nr:aa (Nat×bh)}
  (Y:∀r x,nr.lookup r=some x -> ez w' w0.heap.size dN fm r x):Rl w0 N dN fm (σ.fo ns cn nr) a w':=by
 refine⟨h.below.trans hb,hl,λr x C=>?_,λk=>(h.tmp k).tQ D,h.size,h.defers,λr l O=>?_,h.dH⟩
 ·simp only[S.fo]at C;split at C
  ·simp_all
  ·cases hm:(dK r ns || dK r cn)with
   |true=>simp_all
   | false=>
    rw[hm]at C;rw[oW]at hm;cases E:σ.m r with
    |none=>simp_all
    | some y=>
     rw[E]at C;injection C with C;subst C;exact(h.root r y E).tQ D hm.1 hm.2
 ·have T:dK r cn=false:=by
   grind
  exact(D.fl r T).trans (h.fix r l O)
end
inductive Mu where
 |aB (r:Nat) (cs:List Lf) (vs:List (V×Option Nat))
 |sl (q:Nat) (y:V)
def Mu.root:Mu->Nat
 |.aB r _ _=>r
 |.sl q _=>q
def zP(m:Nat->ah bh):Lf->ah (V×ah Nat)
 |.v x=>some (x.gH,none)
 | .own [q]=>match m q with
  |some (.sl y)=>bif y.aF then some (y.gH,none)else some (y,some q)
  |_=>none
 |_=>none
def tR(m:Nat->ah bh):aa Lf->ah (aa (V×ah Nat))
 |[]=>some []
 | l :: C=>match zP m l,tR m C with
  |some v,some D=>some (v::D)
  |_,_=>none
def B6(σ:S):PK->A->ah (ah Mu)
 |.v _ _,_=>some none
 | .p _ _ off,.aH r j=>(match (bif Nat.beq j off then σ.m r else none)with
  | some (.aB cs)=>(match tR σ.m cs with
   |some C=>bif Nat.blt cs.length 999 then some (some (.aB r cs C))else none
   |none=>none)
  |_=>none)
 | .s _ _,.lf (.own [q])=>(match σ.m q with
  |some (.sl y)=>bif y.aF then none else some (some (.sl q y))
  |_=>none)
 |_,_=>none
def nO(σ:S):aa PK->aa Operand->ah (aa Mu)
 |[],[]=>some []
 | p :: ps,x :: xs=>(match B6 σ p (aL σ x),nO σ ps xs with
  |some (some D),some C=>some (D::C)
  |some none,some C=>some C
  |_,_=>none)
 |_,_=>none
def IK(i:Nat):Nat->aa (V×ah Nat)->aa (Nat×Nat)
 |_,[]=>[]
 |j,(_,some q)::C=>(q,60000+1000*i+j)::IK i (j+1) C
 |j,(_,none)::C=>IK i (j+1) C
def ov:Nat->aa Mu->aa (Nat×Nat)
 |_,[]=>[]
 |i,.aB r _ D::C=>(r,nF i)::(IK i 0 D++ov (i+1) C)
 |i,.sl q _::C=>(q,nF i)::ov (i+1) C
def WX(ns:aa Nat):Lf->Bool
 |.own k=>!gJ k ns
 |_=>true
def xD{X:Type}(σ:S)(ns:aa Nat):aa Lf->(aa V->ah X)->ah X
 |[],k=>k []
 |x::xs,k=>bif WX ns x then pg σ x λy=>xD σ ns xs λys=>k (y.gH::ys)else none
def vO{X:Type}(σ:S)(ns:aa Nat)(x:A)(k:Pt->ah X):ah X:=
 match x with
 |.lf y=>xD σ ns [y] λC=>k (false,C)
 |.agg ys=>xD σ ns ys λC=>k (true,C)
 |.nH f (c::cs)=>k (false,.bool false::.int .i64 (f:Int)::c.gH::cs.map V.gH)
 | .fn f [(r,j)]=>bif dK r ns then none else (match σ.m r with
  | some (.aB cs)=>(match qY (cs.drop j)with
   |some (c::C)=>k (false,.bool false::.int .i64 (f:Int)::c::C)
   |_=>none)
  |_=>none)
 |_=>none
def ow{X:Type}(σ:S)(ns:aa Nat):(ps:aa PK)->aa Operand->aa Mu->(mM ps->ah X)->ah X
 |[],[],[],k=>k ()
 | .v b t :: ps,x :: xs,C,k=>vO σ ns (aL σ x) λp=>bif p.1==b then (match dec t 0 p.2 with
  |some y=>ow σ ns ps xs C λys=>k (y,ys)
  |none=>none)else none
 | .p t g _ :: ps,_ :: xs,.aB _ _ D :: C,k=>(match (bif Nat.beq (g % 2) 0 then dec t g (D.map (·.1))else none)with
  |some y=>ow σ ns ps xs C λys=>k (y,ys)
  |none=>none)
 | .s t g :: ps,_ :: xs,.sl _ y :: C,k=>(match (bif Nat.beq (g % 2) 0 then y.fB t (g+2)else none)with
  |some z=>ow σ ns ps xs C λys=>k (z,ys)
  |none=>none)
 |_,_,_,_=>none
def xE(w:World)(ρ:Nat->Loc)(rs:aa Nat):Nat->Loc:=λn=>
 if n<60000 then (if (n-20000) % 1000=0 then ρ (rs.getD ((n-20000) / 1000) 0)else (match ρ (rs.getD ((n-20000) / 1000) 0)with
  |.aB b off=>.ep ((w.cell? ⟨b,off+((n-20000) % 1000-1),none⟩).getD undef)
  |.ep v=>.ep v
  |.cc us=>.cc us))
 else (match ρ (rs.getD ((n-60000) / 1000) 0)with
  |.aB b off=>.ep ((w.cell? ⟨b,off+(n-60000) % 1000,none⟩).getD undef)
  |.ep v=>.ep v
  |.cc us=>.cc us)
def IL{w:World}{ρ:Nat -> Loc}{rs:aa Nat}{i r:Nat}(h:rs[i]?=some r)(hi:i<40):xE w ρ rs (nF i)=ρ r:=by
 have C:nF i<60000:=by unfold nF;omega
 have D:(nF i-20000) % 1000=0:=by unfold nF;omega
 have E:(nF i-20000) / 1000=i:=by unfold nF;omega
 have L:rs.getD i 0=r:=by rw[fz,h];rfl
 unfold xE;simp_all
def aqu{w:World}{ρ:Nat -> Loc}{rs:aa Nat}{i j r b off:Nat}{u:Value}{x:V}(h:rs[i]?=some r)(hi:i<40)(C:j<999)(D:ρ r = .aB b off)(E:w.cell? ⟨b,off+j,none⟩=some u):xE w ρ rs (nC i j x) = .ep u:=by
 have L:rs.getD i 0=r:=by rw[fz,h];rfl
 unfold xE nC;cases x.aF with
 |true =>grind
 |false =>grind
def V.O1:V->Bool
 |.sl _ o _ _=>Nat.beq (o % 2) 0
 |_=>true
section
variable {P:Program} {w w':World} {w0:Wd} {B N:Nat} {aj dN aD:bK} {ρ fm:Nat->Loc} {σ:S} {a:Act} {X:Type} {d:Nat} {r:X} {ns cn:aa Nat}
def RV.reB{B':Nat}{q:aa Nat}{x:V}{v:Value}(h:RV w B aj q x v)(D:x.O1=true):RV w B' aj q x v:=by
 induction h with
 |int=>exact .int _ _ _
 |bool=>exact .bool _ _
 |str=>exact .str _ _
 |nil=>exact .nil _
 |eI=>exact .eI _ _ _
 |fN=>exact .fN _ _ _ _ _ (by first|assumption|omega)
 |fW=>exact .fW _ _ _ _ _ (by first|assumption|omega)
 | aF q t o T l b off cap u U hl hb h1 Y E Z L=>
  have D:=cK D;have ho0:o=0:=by omega
  subst ho0
  refine .aF _ _ _ _ _ _ _ _ u U hl hb (by omega) Y E (λi h j x C=>L i h j x C ?_)
  have:=zh t 0 l[i] x (hU C);cases x with
  | sl t' O q' l'=>
   have:O=0:=by simpa [V.gr]using this
   subst this;rfl
  |_=>rfl
 | own q t o T l b cap cs u hl hh hs hn hm E Z L=>
  have D:=cK D
  refine .own _ _ _ _ _ _ _ cs u hl hh hs hn hm E (λi h j x C=>L i h j x C ?_)
  have:=zh t o l[i] x (hU C);cases x with
  | sl t' O q' l'=>
   have:O=o:=by simpa [V.gr]using this
   show Nat.beq _ 0=true;simp_all
  |_=>rfl
def RV.out{q L:aa Nat}{x:V}{v:Value}(h:RV w B aj q x v)(Y:∀ b,aj b=none -> aD b=none)(Z:∀ b k,aj b=some k -> k≠[]/\(gJ k ns=false -> aD b=none))(hq:x.aF=true \/ gJ q ns=false){B':Nat}:RV w B' aD L x.gH v:=by
 induction h generalizing L with
 |int=>exact .int _ _ _
 |bool=>exact .bool _ _
 |str=>exact .str _ _
 |nil=>exact .nil _
 |eI=>exact .eI _ _ _
 |fN=>exact .fN _ _ _ _ _ (by first|assumption|omega)
 |fW=>exact .fW _ _ _ _ _ (by first|assumption|omega)
 | aF q t o qn l b off cap u ho hl hb VN jA O hr E=>
  refine .aF _ _ _ _ _ _ _ _ u (by omega) (Y b hl) hb (by omega) jA (λi h j x C=>?_) (λi h j x C=>?_)
  ·obtain⟨y,D,_⟩:=w8 t o l[i] j x C;simp_all
  ·obtain⟨y,D,rfl⟩:=w8 t o l[i] j x C;exact E i h j y D (.inl (sj t o l[i] ho j y D))
 | own q t o qn l b cap cs u hl T hs hn hm O hr E=>
  have U:gJ q ns=false:=by
   rcases hq with hq|hq
   ·simp[V.aF]at hq;omega
   ·exact hq
  obtain⟨dy,qd⟩:=Z b q hl
  refine .aF _ _ _ _ _ _ _ _ u (by omega) (qd U) (iW.1 T).1 (by omega) hn (λi h j x C=>?_) (λi h j x C=>?_)
  ·obtain⟨y,D,_⟩:=w8 t o l[i] j x C;have:=O i h j y D;rw[fD,cell_of_row w b _ cs _ _ T];exact this
  ·obtain⟨y,D,rfl⟩:=w8 t o l[i] j x C;exact E i h j y D (.inr (by rw[adO dy];exact U))
def aqv{x:Lf}{k:V -> ah X}(h:pg σ x k=some r):∃ y,k y=some r /\ ∀ aj ρ a w,Rl w0 N aj ρ σ a w -> ∀ u,dZ w w0.heap.size aj ρ x u -> ∃ q,(x = .own q \/ y.aF=true)/\RV w w0.heap.size aj q y u:=by
 cases x with
 |v y=>exact⟨y,h,λaj ρ a w hR u C=>⟨[],.inr C.1,C.2⟩⟩
 |dead=>cases h
 | own q=>
  obtain⟨y,D,E⟩:=sn q k h
  refine⟨y,E,λaj ρ a w hR u C=>⟨q,.inl rfl,?_⟩⟩
  obtain⟨v,L,O⟩:=D.ok hR.root;have:v=u:=by
   have T:=C.2;simp_all
  simp_all
structure B7 (ns:List Nat) (aj aD:bK):Prop where
 none:∀b,aj b=none->aD b=none
 rest:∀b k,aj b=some k->k≠[]/\(gJ k ns=false->aD b=Option.none)
def WY:∀ (xs:aa Lf) (k:aa V -> ah X),xD σ ns xs k=some r -> ∃ C,k C=some r/\C.length=xs.length /\ ∀ aj ρ a w aD,Rl w0 N aj ρ σ a w -> B7 ns aj aD -> ∀ (j:Nat) x y u,xs[j]?=some x -> C[j]?=some y -> dZ w w0.heap.size aj ρ x u -> RV w w.heap.size aD [] y u
 |[],k,h=>⟨[],h,rfl,λ_ _ _ _ _ _ _ j x y u T=>by simp at T⟩
 | x :: xs,k,h=>by
  unfold xD at h;cases D:WX ns x with
  |false=>simp_all
  | true=>
   rw[D,au]at h;obtain⟨y,U,Y⟩:=aqv (w0:=w0) (N:=N) h;obtain⟨ys,Z,hl,hr⟩:=WY xs _ U
   refine⟨y.gH::ys,Z,by simp[hl],λaj ρ a w aD hR E j x' y' u L O hu=>?_⟩
   cases j with
   | zero=>
    simp at L O;subst L O;obtain⟨q,hq,ki⟩:=Y aj ρ a w hR u hu;refine ki.out E.none E.rest ?_;rcases hq with rfl|hq
    ·exact .inr (by simpa [WX]using D)
    ·simp_all
   |succ j=>grind
inductive PM (w:World) (aD:bK):Pt->Value->Prop
 |v (p:Pt) (u:Value) (h:PV w w.heap.size aD (λ_=>[]) p u):PM w aD p u
 |f (g:Nat) (c:V) (cs:List V) (u:Value) (h:RF w w.heap.size aD (c::cs) u):PM w aD (false,.bool false::.int .i64 (g:Int)::c::cs) (.func (.func g) #[] #[u])
def aqw{g:Nat}{c:V}{cs ys:aa V}(hl:(V.bool false :: .int .i64 (g:Int) :: c :: cs).length=ys.length)(h:∀ (j:Nat) x z,(V.bool false :: .int .i64 (g:Int) :: c :: cs)[j]?=some x -> ys[j]?=some z -> Wk x z):∃ C eM,ys = .bool false :: .int .i64 (g:Int) :: C :: eM/\lF (c :: cs) (C :: eM):=by
 match ys,hl,h with
 | a :: b :: C :: eM,hl,h=>
  have D:=h 0 _ a rfl rfl;have E:=h 1 _ b rfl rfl;cases D;cases E;exact⟨C,eM,rfl,by simpa using hl,λj x z L O=>h (j+2) x z (by simpa using L) (by simpa using O)⟩
def RF.tS{cs C:aa V}{u:Value}(h:RF w B aj cs u)(E:lF cs C)(O:∀ (j:Nat) z,C[j]?=some z->z.aF=true):RF w B aj C u:=by
 obtain⟨b,off,rfl,hb,hl,T⟩:=h
 refine⟨b,off,rfl,hb,hl,λj x D=>?_⟩
 have L:j<cs.length:=by rw[E.1];exact(dV.1 D).1
 obtain⟨_,v,U,Y⟩:=T j _ (bZ L);exact⟨O j x D,v,U,Y.wk (E.2 j _ x (bZ L) D)⟩
def RF.gH{cs:aa V}{u:Value}(h:RF w B aj cs u)(D:∀ b,aj b=none -> aD b=none)(L:∀ b k,aj b=some k -> k≠[]/\(gJ k ns=false -> aD b=none)){B':Nat}:RF w B' aD (cs.map V.gH) u:=by
 obtain⟨b,off,rfl,hb,hl,O⟩:=h
 refine⟨b,off,rfl,hb,D b hl,λj x C=>?_⟩
 rw[eR]at C;cases E:cs[j]? with
 |none=>simp_all
 | some y=>
  rw[E]at C;injection C with C;subst C;obtain⟨T,v,U,Y⟩:=O j y E;exact⟨V.apy y,v,U,Y.out D L (.inl T)⟩
def aqx{x:A}{k:Pt -> ah X}(h:vO σ ns x k=some r):∃ p,k p=some r /\ ∀ aj ρ a w aD,Rl w0 N aj ρ σ a w -> B7 ns aj aD -> ∀ u,RA w w0.heap.size aj ρ x u -> PM w aD p u:=by
 unfold vO at h;split at h
 ·rename_i y;obtain⟨Y,O,hl,T⟩:=WY (w0:=w0) (N:=N) _ _ h
  refine⟨_,O,λaj ρ a w aD hR C u D=>.v _ _ ⟨#[u],rfl,by simp[hl],λj x E=>?_⟩⟩
  have L:j=0:=by
   grind
  subst L;exact⟨u,rfl,T aj ρ a w aD hR C 0 y x u rfl E D⟩
 ·rename_i ys;obtain⟨Y,O,hl,T⟩:=WY (w0:=w0) (N:=N) _ _ h
  refine⟨_,O,λaj ρ a w aD hR C u D=>?_⟩
  obtain⟨us,rfl,U⟩:=D
  refine .v _ _ ⟨us,rfl,by rw[hl];exact U.1,λj x E=>?_⟩
  have L:j<ys.length:=by rw[<- hl];exact(dV.1 E).1
  obtain⟨v,hv,fE⟩:=U.2 j _ (bZ L);exact⟨v,hv,T aj ρ a w aD hR C j _ x v (bZ L) E fE⟩
 ·rename_i f c cs
  refine⟨_,h,λaj ρ a w aD hR C u D=>?_⟩
  obtain⟨pv,rfl,sC⟩:=D;exact .f f _ _ _ (sC.gH C.none C.rest)
 ·rename_i f Z j;cases hmb:dK Z ns with
  |true=>grind
  | false=>
   rw[hmb,aq]at h;split at h
   ·rename_i cs hm;split at h
    ·rename_i c Y vB;obtain⟨e,hp⟩:=OC _ _ vB
     refine⟨_,h,λaj ρ a w aD hR C u D=>?_⟩
     obtain⟨us,rfl,kQ,jA⟩:=D;obtain⟨b,off,cF,BV⟩:=jA 0 _ rfl;have BV:us[0]?=some (.pointer (some ⟨b,off+j,none⟩)):=BV;have aJH:us.size=1:=kQ;have aqy:us = #[.pointer (some ⟨b,off+j,none⟩)]:=by
      apply Array.ext';apply List.ext_getElem?;intro i;cases i with
      |zero=>grind
      |succ i=>grind
     subst aqy;refine .f f _ _ _ ?_;cases hR.root Z _ hm with
     | aB b' H8 cells e' _ OG g9 ot hh U hc=>
      rw[cF]at g9;injection g9 with q1 q2;subst q1 q2
      refine⟨b,off+j,rfl,(iW.1 hh).1,(C.rest b _ ot).2 (by simpa [gJ]using hmb),λi x E=>?_⟩
      have hpx:=hp x (hU E);have hcd:(cs.drop j)[i]?=some (.v x):=by rw[e,eR,E];rfl
      rw[List.getElem?_drop]at hcd;obtain⟨k1,k2⟩:=hc _ _ hcd;refine⟨(by cases x<;>first|rfl|cases hpx),OG (j+i),?_,k2.2.tw hpx⟩;rw[Nat.add_assoc,cell_of_row w b _ cells _ _ hh];exact k1
    ·cases h
   ·cases h
 ·cases h
def B8(σ:S):Mu->Prop
 |.aB r cs C=>σ.m r=some (.aB cs)/\tR σ.m cs=some C/\cs.length<999
 |.sl q y=>σ.m q=some (.sl y)/\y.aF=false
def IM:aa Mu->aa In->Prop
 |[],[]=>True
 |.aB _ _ L::C,.aB xs::D=>(lF (L.map (·.1)) xs/\∀x∈xs,x.kg=true/\x.O1=true)/\IM C D
 |.sl _ y::C,.sl E::D=>(Wk y E/\E.O1=true)/\IM C D
 |_,_=>False
def ES(w:World)(B:Nat)(aj:bK)(ρ:Nat->Loc)(C:aa In):aa Ar->aa Value->Prop
 |[],[]=>True
 |x::xs,v::D=>RA w B aj ρ (WI C x) v/\ES w B aj ρ C xs D
 |_,_=>False
def ES.get{D:aa In}:∀ (xs:aa Ar) (C:aa Value),ES w B aj ρ D xs C -> C.length=xs.length /\ ∀ i,RA w B aj ρ ((B4 D xs).t i) (C.toArray.getD i undef)
 |[],[],_=>⟨rfl,λi=>trivial⟩
 | x :: xs,v :: C,h=>by
  obtain⟨E,L⟩:=ES.get xs C h.2
  refine⟨by simp[E],λi=>?_⟩
  cases i with
  |zero=>exact h.1
  | succ i=>
   have:=L i;simp at this ⊢;exact this
def aqz{t:TC}{g:Nat}{x:T t}(D:Nat.beq (g % 2) 0=true):∀ y∈enc t g x,y.kg=true/\y.O1=true:=by
 intro y C;refine⟨VM t g x y C,?_⟩;have:=zh t g x y C;cases y with
 | sl L E O U=>
  have:E=g:=by simpa [V.gr]using this
  subst this;exact D
 |_=>rfl
def aqA(σ:S):PK->A->ah Mu->Prop
 |.v _ _,_,none=>True
 |.p _ _ off,x,some (.aB r cs C)=>x = .aH r off/\B8 σ (.aB r cs C)
 |.s _ _,x,some (.sl q y)=>x = .lf (.own [q])/\B8 σ (.sl q y)
 |_,_,_=>False
def B9{p:PK}{x:A}{z:ah Mu}(h:B6 σ p x=some z):aqA σ p x z:=by
 cases p with
 | v b t=>
  injection h with h;subst h;trivial
 | p t g off=>
  cases x with
  | aH r j=>
   have h:(match (bif Nat.beq j off then σ.m r else none)with
    | some (.aB cs)=>(match tR σ.m cs with
     |some E=>bif Nat.blt cs.length 999 then some _ else none
     |none=>none)
    |_=>none)=some z:=h
   cases C:Nat.beq j off with
   |false=>rw[C]at h;cases h
   | true=>
    obtain rfl:=cK C;rw[C,au]at h;split at h
    ·rename_i cs L;split at h
     ·rename_i E O;cases hl:Nat.blt cs.length 999 with
      |false=>rw[hl]at h;cases h
      | true=>
       rw[hl]at h;injection h with h;subst h;exact⟨rfl,L,O,by have:=cZ hl;omega⟩
     ·cases h
    ·cases h
  |_=>cases h
 | s t g=>
  have T:(∃ q,x = .lf (.own [q])):=by
   unfold B6 at h;split at h
   next e=>cases e
   next e=>cases e
   ·simp[*]
   ·cases h
  obtain⟨q,rfl⟩:=T;have h:(match σ.m q with
   |some (.sl y)=>bif y.aF then none else some _
   |_=>none)=some z:=h
  split at h
  ·rename_i y U;cases D:y.aF with
   |true=>rw[D]at h;cases h
   | false=>
    rw[D]at h;injection h with h;subst h;exact⟨rfl,U,D⟩
  ·cases h
def O2:∀ (ps:aa PK) (xs:aa Operand) (D:aa Mu),nO σ ps xs=some D -> ∀ O∈D,B8 σ O
 |[],[],D,h=>by injection h with h;subst h;simp
 | p :: ps,x :: xs,D,h=>by
  unfold nO at h;split at h
  ·rename_i O E C L;injection h with h;subst h;have T:=O2 ps xs E L;have C:=B9 C;intro z hz;rcases iw.1 hz with rfl | hz
   ·cases p with
    |v=>exact C.elim
    | p=>
     cases z with
     |aB=>exact C.2
     |sl=>exact C.elim
    | s=>
     cases z with
     |aB=>exact C.elim
     |sl=>exact C.2
   ·simp_all
  next E C L=>injection h with h;subst h;exact O2 ps xs E L
  ·cases h
 |[],_::_,D,h=>by cases h
 |_::_,[],D,h=>by cases h
def IN:∀ {ps:aa PK} (i C:Nat) (x:mM ps),(kr ps i x).length=(kr ps C x).length
 |[],_,_,_=>rfl
 |.v _ _::ps,i,C,x=>by simp[kr,List.length_cons];rw[IN]
 |.p _ _ _::ps,i,C,x=>by simp only[kr,List.length_cons];rw[IN (i+1) (C+1)]
 |.s _ _::ps,i,C,x=>by simp only[kr,List.length_cons];rw[IN (i+1) (C+1)]
def O3:∀ (ps:aa PK) (xs:aa Operand) (O:aa Mu) (k:mM ps -> ah X),nO σ ps xs=some O -> ow σ ns ps xs O k=some r -> ∃ x,k x=some r/\IM O (nN ps x)/\(kr ps 0 x).length=xs.length /\
  ∀aj ρ a w aD ρ',Rl w0 N aj ρ σ a w -> B7 ns aj aD -> ∀(T:aa In) (i:Nat),(∀j z,(nN ps x)[j]?=some z -> T[i+j]?=some z) -> (∀j U,O[j]?=some U -> ρ' (nF (i+j))=ρ U.root) -> ES w w.heap.size aD ρ' T (kr ps i x) (xs.map a.eval)
 | [],[],O,k,C,h=>by
  injection C with C;subst C;exact⟨(),h,trivial,rfl,λ_ _ _ _ _ _ _ _ _ _ _ _=>trivial⟩
 | .v b t :: ps,x :: xs,O,k,C,h=>by
  have vE:nO σ ps xs=some O:=by
   unfold nO at C;split at C
   next U Z D L=>exact(B9 D).elim
   next Z D L=>rw[L];exact C
   ·cases C
  unfold ow at h;obtain⟨p,L,hp⟩:=aqx (w0:=w0) (N:=N) h;cases hb:p.1==b with
  |false=>rw[hb]at L;cases L
  | true=>
   rw[hb,au]at L;have hb:p.1=b:=by simpa using hb
   subst hb;split at L
   ·rename_i y Y;obtain⟨ys,h3,h4,h5,h6⟩:=O3 ps xs O _ vE L
    refine⟨(y,ys),h3,h4,?_,λaj ρ a w aD ρ' hR hS T i hi cF=>⟨?_,h6 aj ρ a w aD ρ' hR hS T i hi cF⟩⟩
    ·simp[kr,h5]
    ·have sC:=hp aj ρ a w aD hR hS _ (hR.aL x);have hk:=mJ t 0 p.2 y Y;generalize a.eval x=ux at sC ⊢;rcases sC with ⟨_,_,us,hu,hs,hr⟩ | ⟨g,c,cs,pv,sC⟩
     case f=>
      have he:∀(j:Nat) z,(enc t 0 y)[j]?=some z -> z.aF=true:=λj z E=>sj t 0 y (by omega) j z E
      obtain⟨c',eM,e,hw⟩:=aqw hk.1 hk.2;rw[e]at he ⊢;exact⟨pv,rfl,sC.tS hw λj z E=>he (j+2) z (by simpa using E)⟩
     have jD:∀ (j:Nat) z,(enc t 0 y)[j]?=some z -> ∃ v,us[j]?=some v/\z.aF=true/\RV w w.heap.size aD [] z v:=by
      intro j z E;have hj:j<p.2.length:=by rw[hk.1];exact(dV.1 E).1
      obtain⟨v,hv,fE⟩:=hr j _ (bZ hj);exact⟨v,hv,sj t 0 y (by omega) j z E,fE.wk (hk.2 j _ z (bZ hj) E)⟩
     have hlen:us.size=(enc t 0 y).length:=hs.trans hk.1;obtain⟨b,vs⟩:=p;cases b with
     | true=>
      show RA _ _ _ _ (.agg ((enc t 0 y).map .v)) _
      refine⟨us,hu,by rw[eS];exact hlen,λj z E=>?_⟩
      rw[eR]at E;cases Ez:(enc t 0 y)[j]? with
      |none=>rw[Ez]at E;cases E
      | some z'=>
       rw[Ez]at E;injection E with E;subst E;obtain⟨v,hv,g1,g2⟩:=jD j z' Ez;exact⟨v,hv,g1,g2⟩
     | false=>
      have hu:us = #[ux]:=hu;subst hu;show RA _ _ _ _ (WI T (.pt (false,enc t 0 y))) _
      match he:enc t 0 y,jD,hlen with
      | [z],jD,_=>
       obtain⟨v,hv,g1,g2⟩:=jD 0 z rfl;have:ux=v:=by simpa using hv
       rw[this];exact⟨g1,g2⟩
      |[],_,_=>trivial
      |_::_::_,_,hlen=>exact absurd hlen (by simp)
   ·cases L
 | .p t g off :: ps,x :: xs,O,k,C,h=>by
  unfold nO at C;split at C
  ·rename_i U Z D L;injection C with C;subst C;have D:=B9 D;cases U with
   |sl=>exact D.elim
   | aB r cs vs=>
    have D:aL σ x = .aH r off/\B8 σ (.aB r cs vs):=D;unfold ow at h;split at h
    ·rename_i y Y;cases hg:Nat.beq (g % 2) 0 with
     |false=>rw[hg]at Y;cases Y
     | true=>
      rw[hg,au]at Y;obtain⟨ys,h3,h4,h5,h6⟩:=O3 ps xs Z _ L h
      refine⟨(y,ys),h3,⟨⟨mJ t g _ y Y,aqz hg⟩,h4⟩,by simp[kr,IN 1 0,h5],λaj ρ a w aD ρ' hR hS T i hi cF=>⟨?_,?_⟩⟩
      ·have IP:=hi 0 _ rfl;rw[Nat.add_zero]at IP;have hx:=hR.aL x;rw[D.1]at hx;obtain⟨b,o,e1,e2⟩:=hx;show RA _ _ _ _ (match T[i]? with|some (.aB _)=>.aH (nF i) off|some (.sl _)=>.lf (.own [nF i])|none=>.undef) _;rw[IP];have iS:=cF 0 _ rfl;rw[Nat.add_zero]at iS;exact⟨b,o,iS.trans e1,e2⟩
      ·refine h6 aj ρ a w aD ρ' hR hS T (i+1) (λj z E=>?_) (λj U jQ=>?_)
       ·rw[show i+1+j=i+(j+1) by omega];exact hi _ z E
       ·rw[show i+1+j=i+(j+1) by omega];exact cF _ U jQ
    ·cases h
  next Z D L=>exact(B9 D).elim
  ·cases C
 | .s t g :: ps,x :: xs,O,k,C,h=>by
  unfold nO at C;split at C
  ·rename_i U Z D L;injection C with C;subst C;have D:=B9 D;cases U with
   |aB=>exact D.elim
   | sl q y0=>
    have D:aL σ x = .lf (.own [q])/\B8 σ (.sl q y0):=D;unfold ow at h;split at h
    ·rename_i y Y;cases hg:Nat.beq (g % 2) 0 with
     |false=>rw[hg]at Y;cases Y
     | true=>
      rw[hg,au]at Y;obtain⟨ys,h3,h4,h5,h6⟩:=O3 ps xs Z _ L h
      refine⟨(y,ys),h3,⟨⟨V.HO Y,?_⟩,h4⟩,by simp[kr,IN 1 0,h5],λaj ρ a w aD ρ' hR hS T i hi cF=>⟨?_,?_⟩⟩
      ·show Nat.beq ((g+2) % 2) 0=true;simp[*]
      ·have IP:=hi 0 _ rfl;rw[Nat.add_zero]at IP;have hx:=hR.aL x;rw[D.1]at hx;show RA _ _ _ _ (match T[i]? with|some (.aB _)=>.aH (nF i) 0|some (.sl _)=>.lf (.own [nF i])|none=>.undef) _;rw[IP];have iS:=cF 0 _ rfl;rw[Nat.add_zero]at iS;refine⟨hx.1,?_⟩;have L:=hx.2;simp only[di]at L ⊢;rw[iS];exact L
      ·refine h6 aj ρ a w aD ρ' hR hS T (i+1) (λj z E=>?_) (λj U jQ=>?_)
       ·rw[show i+1+j=i+(j+1) by omega];exact hi _ z E
       ·rw[show i+1+j=i+(j+1) by omega];exact cF _ U jQ
    ·cases h
  next Z D L=>exact(B9 D).elim
  ·cases C
 |[],_::_,O,k,C,h=>by cases C
 |_::_,[],O,k,C,h=>by cases C
end
def pK(c0:Nat):Nat->aa (V×ah Nat)->aa Nat
 |_,[]=>[]
 |n,(_,some q)::C=>q::pK c0 (n+1) C
 |n,(_,none)::C=>(c0+n)::pK c0 (n+1) C
def zR(c0:Nat):Nat->aa Mu->aa Nat
 |_,[]=>[]
 |pos,.aB r _ D::C=>r::(pK c0 (pos+1) D++zR c0 (pos+1+D.length) C)
 |pos,.sl q _::C=>q::zR c0 (pos+1) C
def Ca:aa Nat->aa V->aa Nat
 |n::C,x::xs=>bif x.aF then Ca C xs else n::Ca C xs
 |_,_=>[]
def qh(c0:Nat):Nat->aa Mu->aa In->aa Nat
 |pos,.aB _ _ D::C,.aB xs::outs=>Ca (pK c0 (pos+1) D) xs++qh c0 (pos+1+D.length) C outs
 |pos,.sl _ _::C,.sl _::outs=>qh c0 (pos+1) C outs
 |_,_,_=>[]
def qi(ns cn:aa Nat):aa Nat->aa Lf->aa V->aa Lf
 |n::C,l::D,x::xs=>(bif x.plain then .v x else bif x.aF then l.fo ns cn else .own [n])::qi ns cn C D xs
 |_,_,_=>[]
def zS:aa Nat->aa V->aa (Nat×bh)
 |n::C,x::xs=>bif x.aF then zS C xs else (n,.sl x)::zS C xs
 |_,_=>[]
def ox(ns cn:aa Nat)(c0:Nat):Nat->aa Mu->aa In->aa (Nat×bh)
 |pos,.aB r cs D::C,.aB xs::outs=>(r,.aB (qi ns cn (pK c0 (pos+1) D) cs xs))::(zS (pK c0 (pos+1) D) xs++ox ns cn c0 (pos+1+D.length) C outs)
 |pos,.sl q _::C,.sl y::outs=>bif y.kg then (q,.sl y)::ox ns cn c0 (pos+1) C outs else ox ns cn c0 (pos+1) C outs
 |_,_,_=>[]
def O4:aa Nat->Bool
 |[]=>true
 |n::l=>!dK n l&&O4 l
def adP:In->Bool
 |.aB xs=>xs.all λx=>x.aF ||x.loc
 |.sl y=>y.loc
def jc:ah Tmp->Nat
 |some d=>1000000000100000+1000*d
 |none=>90000
def vP{X:Type}(N:Nat)(σ:S)(C:ah Tmp)(D:gj)(k:S->ah X):ah X:=
 match C with
 |none=>k σ
 |some d=>bif Nat.blt d N then oq σ d D k else none
def IQ(N:Nat)(C:aa Mu)(outs:aa In)(cn:aa Nat):Bool:=
 O4 cn&&(C.all λD=>!dK D.root cn)&&(cn.all λn=>Nat.blt n N ||Nat.ble 60000 n)&&outs.all adP
def O5{X:Type}(N:Nat)(σ:S)(C:ah Tmp)(D:aa Mu)(ns cn:aa Nat)(E:gj)(outs:aa In)(k:S->ah X):ah X:=
 bif IQ N D outs cn then vP N (σ.fo ns cn (ox ns cn (jc C) E.len D outs)) C E k else none
def sD{X:Type}(N:Nat)(σ:S)(D:ah Tmp)(c:ou)(args:aa Operand)(k:S->ah X):ah X:=
 match nO σ c.ps args with
 | some C=>bif once (ov 0 C)&&Nat.ble C.length 40 then
   ow σ ((ov 0 C).map (·.1)) c.ps args C λx=>(match c.F x with
    |some y=>O5 N σ D C ((ov 0 C).map (·.1)) (qh (jc D) (fF c.ro y.1).len C (lJ (fC c.ps) y.2)) (fF c.ro y.1) (lJ (fC c.ps) y.2) k
    |none=>none)else none
 |none=>none
section
variable {P:Program} {w w':World} {w0:Wd} {B N:Nat} {aj dN aD:bK} {ρ fm ρ':Nat->Loc} {σ:S} {a:Act} {X:Type} {d:Nat} {r:X} {ns cn:aa Nat} {o:Oper} {rs:aa Nat} {eD:aa (Nat×Nat)}
def adQ{n:Nat}:∀ {l:aa (Nat×Nat)},dK n (l.map (·.1))=false -> l.lookup n=none
 |[],_=>rfl
 | p :: l,h=>by
  simp[List.map_cons,dK,oW]at h;rw[List.lookup_cons];have:(n==p.1)=false:=by
   cases hb:n==p.1 with
   |false=>rfl
   |true =>simp_all
  rw[this];exact adQ h.2
def aqB{b:Nat}{k:aa Nat}{n m:Nat}(h:aj b=some k)(C:k.getLast?=some n)(D:eD.lookup n=some m):eJ aj eD id b=some (k.dropLast++[m]):=by
 simp[eJ,h,C,D]
def aqC(C:∀ b k,aj b=some k -> k≠[]):B7 (eD.map (·.1)) aj (eJ aj eD id):=by
 refine⟨λb h=>zJ h,λb k h=>⟨C b k h,λhl=>?_⟩⟩
 simp[eJ,h];cases D:k.getLast? with
 |none=>rfl
 | some n=>
  simp[gJ,D]at hl;simp[adQ hl]
def WZ{m:Nat -> ah bh}:∀ (cs:aa Lf) (C:aa (V×ah Nat)),tR m cs=some C -> C.length=cs.length /\ ∀ (j:Nat) l,cs[j]?=some l -> ∃ v,C[j]?=some v/\zP m l=some v
 |[],C,h=>by injection h with h;subst h;exact⟨rfl,λj l hl=>by simp at hl⟩
 | c :: cs,C,h=>by
  unfold tR at h;split at h
  ·rename_i v D L E;injection h with h;subst h;obtain⟨O,T⟩:=WZ cs D E
   grind
  ·cases h
def aqD{l:Lf}{v:V}{E:ah Nat}(h:zP σ.m l=some (v,E))(hR:Rl w0 N aj ρ σ a w)(D:B7 ns aj aD){u:Value}(L:dZ w w0.heap.size aj ρ l u):
  (E=none /\ ∀B' O,RV w B' aD O v u) \/ (∃q,E=some q/\v.aF=false/\RV w w0.heap.size aj [q] v u):=by
 unfold zP at h;split at h
 ·simp at h;obtain⟨rfl,rfl⟩:=h;exact .inl ⟨rfl,λB' O=>L.2.out D.none D.rest (.inl L.1)⟩
 ·rename_i q;split at h
  ·rename_i y Y;have T:=hR.root q _ Y;generalize C:bh.sl y=x at T;cases T with
   |aB=>cases C
   |mp=>cases C
   |gh=>cases C
   | sl Z y' cF hr=>
    injection C with C;subst C;have IC:Z=u:=by
     have h2:=L.2;simp only[di,cF]at h2;simp_all
    subst IC;cases U:y.aF with
    | true=>
     rw[U,au]at h;obtain⟨rfl,rfl⟩:=h;exact .inl ⟨rfl,λB' O=>hr.out D.none D.rest (.inl U)⟩
    |false =>grind
  ·cases h
 ·cases h
def adR{i:Nat}{v:V}{q:Nat}:∀ (D:aa (V×ah Nat)) (C j:Nat),D[j]?=some (v,some q) -> (q,60000+1000*i+(C+j))∈IK i C D
 |[],C,j,h=>by simp at h
 | (L,E) :: D,C,j,h=>by
  cases j with
  | zero=>
   obtain⟨rfl,rfl⟩:=h;exact .head _
  | succ j=>
   have:=adR (i:=i) D (C+1) j (by simpa using h);rw[show C+1+j=C+(j+1) by omega]at this;cases E with
   |none=>exact this
   |some O=>exact .tail _ this
def W0{i:Nat}:∀ (cs:aa V) (C:Nat),(zN i C cs).length=cs.length
 |[],_=>rfl
 |c::cs,C=>by simp[zN,W0 cs]
def RV.nG{q:aa Nat}{x:V}{u:Value}(h:RV w B aj q x u)(C:x.plain=false)(D:x.kg=true):nG u=true:=by
 cases h<;>first|rfl|cases C|cases D
def Wk.adS{x y:V}(h:Wk x y)(C:x.aF=false):y.aF=false:=by
 cases h with
 |same=>exact C
 |nil=>cases C
 |q=>exact C
 |gr t o D E l L O=>simp[V.aF];omega
def W2(hR:Rl w0 N aj ρ σ a w)(hS:B7 ns aj (eJ aj eD id)):∀ (L:aa Mu) (T:aa In) (i:Nat),(∀ p∈ov i L,eD.lookup p.1=some p.2) -> (∀ j E,L[j]?=some E -> rs[i+j]?=some E.root) -> (∀ E∈L,B8 σ E) -> IM L T -> i+L.length <= 40 ->
  pJ w w.heap.size (eJ aj eD id) (xE w ρ rs) i T
 |[],[],_,_,_,_,_,_=>trivial
 |[],_::_,_,_,_,_,h,_=>h.elim
 |.aB _ _ _::_,[],_,_,_,_,h,_=>h.elim
 |.sl _ _::_,[],_,_,_,_,h,_=>h.elim
 |.aB _ _ _::_,.sl _::_,_,_,_,_,h,_=>h.elim
 |.sl _ _::_,.aB _::_,_,_,_,_,h,_=>h.elim
 | .aB r cs vs :: L,.aB xs :: T,i,U,jP,jQ,hrel,hi=>by
  obtain⟨hm,hg,hlen⟩:=jQ _ (.head _);obtain⟨⟨hw,hx⟩,Cb⟩:=hrel;obtain⟨g1,g2⟩:=WZ cs vs hg;have Y:=jP 0 _ rfl;rw[Nat.add_zero]at Y;simp only[List.length_cons]at hi;have pn:xs.length=cs.length:=by rw[<- hw.1,eS,g1]
  have eY:=hR.root r _ hm;generalize C:bh.aB cs=z at eY;cases eY with
  |sl=>cases C
  |mp=>cases C
  |gh=>cases C
  | aB b off cells e eM us cF hl hh hs hc=>
   injection C with C;subst C;have jD:∀ (j:Nat) x,xs[j]?=some x -> cells[off+j]?=some (us j)/\RV w w.heap.size (eJ aj eD id) [nC i j x] x (us j)/\(x.plain=false -> xE w ρ rs (nC i j x) = .ep (us j)):=by
    intro j x O;have BI:j<cs.length:=by rw[<- pn];exact(dV.1 O).1
    obtain⟨v,hv,IS⟩:=g2 j _ (bZ BI);obtain⟨c1,Z⟩:=hc j _ (bZ BI);obtain⟨v,qo⟩:=v;have W3:Wk v x:=hw.2 j v x (by rw[eR,hv];rfl) O;obtain⟨hx1,V0⟩:=hx x (hU O)
    refine⟨c1,?_,λD=>?_⟩
    ·rcases aqD IS hR hS Z with ⟨rfl,h1⟩ | ⟨q,rfl,hf,h1⟩
     ·exact(h1 _ _).wk W3
     ·have WR:=W3.adS hf;have hq:=U _ (.tail _ (List.mem_append_left _ (adR vs 0 j hv)));rw[fD]at hq;have h2:=(RV.eJ (nm:=id) (p:=[]) h1 hq).wk W3;have e1:nC i j x=60000+1000*i+j:=by simp[nC,WR]
      rw[e1];exact h2.reB V0
    ·exact aqu Y (by omega) (by omega) cF (by rw[cell_of_row w b _ cells _ _ hh];exact c1)
   refine⟨.aB b off cells e _ us ((IL Y (by omega)).trans cF) ?_ hh (by rw[W0,pn];exact hs) (λj z C=>?_),λj x O D=>?_,W2 hR hS L T (i+1) (λp D=>U p (.tail _ (List.mem_append_right _ D))) (λj E Cc=>?_) (λE h=>jQ E (.tail _ h)) Cb (by omega)⟩
   ·exact aqB hl rfl (U _ (.head _))
   ·have O:j<xs.length:=by rw[<- W0 (i:=i) xs 0];exact(dV.1 C).1
    have ET:=WU (i:=i) xs 0 j _ (bZ O);rw[C]at ET;injection ET with ET;subst ET;rw[fD];obtain⟨c1,Z,c3⟩:=jD j _ (bZ O);refine⟨c1,?_⟩;cases D:(xs[j]).plain with
    | true=>
     have e1:zM i j xs[j] = .v xs[j]:=by simp[zM,D]
     rw[e1];exact⟨V.H6 D,Z.tw D⟩
    | false=>
     have e1:zM i j xs[j] = .own [nC i j xs[j]]:=by simp[zM,D]
     rw[e1];exact⟨Z.nG D (hx _ (cT _)).1,by simp only[di,c3 D]⟩
   ·obtain⟨c1,Z,c3⟩:=jD j x O;exact .sl _ x (c3 D) Z
   ·have:=jP (j+1) E (by simpa using Cc);rw[show i+(j+1)=i+1+j by omega]at this;exact this
 | .sl q y :: L,.sl y' :: T,i,U,jP,jQ,hrel,hi=>by
  obtain⟨hm,hf⟩:=jQ _ (.head _);obtain⟨⟨hw,hx⟩,Cb⟩:=hrel;have Y:=jP 0 _ rfl;rw[Nat.add_zero]at Y;simp only[List.length_cons]at hi;have eY:=hR.root q _ hm;generalize C:bh.sl y=z at eY;cases eY with
  |aB=>cases C
  |mp=>cases C
  |gh=>cases C
  | sl v y0 cF hr=>
   injection C with C;subst C
   refine⟨.sl v y' ((IL Y (by omega)).trans cF) ?_,W2 hR hS L T (i+1) (λp D=>U p (.tail _ D)) (λj E Cc=>?_) (λE h=>jQ E (.tail _ h)) Cb (by omega)⟩
   ·exact((RV.eJ (p:=[]) hr (U _ (.head _))).wk hw).reB hx
   ·have:=jP (j+1) E (by simpa using Cc);rw[show i+(j+1)=i+1+j by omega]at this;exact this
end
def W4:Loc->Nat×Nat
 |.aB b off=>(b,off)
 |.ep _=>(0,0)
 |.cc _=>(0,0)
def zU(w:World)(b off:Nat):Nat->aa Nat->aa V->aa (Nat×Value)
 |j,n::C,x::xs=>bif x.aF then zU w b off (j+1) C xs else (n,(w.cell? ⟨b,off+j,none⟩).getD undef)::zU w b off (j+1) C xs
 |_,_,_=>[]
def sE(w:World)(ρ:Nat->Loc)(c0:Nat):Nat->aa Mu->aa In->aa (Nat×Value)
 |pos,.aB r _ D::C,.aB xs::outs=>zU w (W4 (ρ r)).1 (W4 (ρ r)).2 0 (pK c0 (pos+1) D) xs++sE w ρ c0 (pos+1+D.length) C outs
 |pos,.sl _ _::C,.sl _::outs=>sE w ρ c0 (pos+1) C outs
 |_,_,_=>[]
def adT(l:aa (Nat×Value))(ρ:Nat->Loc):Nat->Loc:=λn=>match l.lookup n with
 |some v=>.ep v
 |none=>ρ n
def W5{w:World}{b off:Nat}:∀ (C:aa Nat) (xs:aa V) (j:Nat),(zU w b off j C xs).map (·.1)=Ca C xs
 |[],[],_=>rfl
 |[],_::_,_=>rfl
 |_::_,[],_=>rfl
 | n :: C,x :: xs,j=>by
  simp[zU,Ca];cases x.aF with
  |true=>exact W5 C xs _
  |false=>simp;rw[W5]
def O6{w:World}{ρ:Nat -> Loc}{c0:Nat}:∀ (C:aa Mu) (outs:aa In) (D:Nat),(sE w ρ c0 D C outs).map (·.1)=qh c0 D C outs
 | .aB r _ E :: C,.aB xs :: outs,D=>by
  simp[sE,qh,List.map_append];rw[W5,O6]
 | .sl _ _ :: C,.sl _ :: outs,D=>by
  simp only[sE,qh];exact O6 C outs _
 |[],_,_=>by simp[sE,qh]
 |.aB _ _ _::_,[],_=>rfl
 |.sl _ _::_,[],_=>rfl
 |.aB _ _ _::_,.sl _::_,_=>rfl
 |.sl _ _::_,.aB _::_,_=>rfl
def adU{n:Nat}:∀ {l:aa (Nat×Value)},dK n (l.map (·.1))=false -> l.lookup n=none
 |[],_=>rfl
 | p :: l,h=>by
  simp[List.map_cons,dK,oW]at h;rw[List.lookup_cons];cases hb:n==p.1 with
  |false=>exact adU h.2
  |true =>simp_all
def adV:∀ {l:aa (Nat×Value)},O4 (l.map (·.1))=true -> ∀ p∈l,l.lookup p.1=some p.2
 |[],_,p,hp=>by cases hp
 | q :: l,h,p,hp=>by
  simp[List.map_cons,O4,aU,gV]at h;rw[List.lookup_cons];rcases iw.1 hp with rfl|hp
  ·simp
  ·cases hb:p.1==q.1 with
   |false=>exact adV h.2 p hp
   | true=>
    have e:p.1=q.1:=by simpa using hb
    exact absurd (List.mem_map_of_mem (f:=(·.1)) hp) (by rw[e];exact adN h.1)
def IT{c0:Nat}:∀ (C:aa (V×ah Nat)) (n:Nat),(pK c0 n C).length=C.length
 |[],_=>rfl
 |(_,some _)::C,n=>by simp[pK,IT]
 |(_,none)::C,n=>by simp[pK,IT C]
def adW{ns cn:aa Nat}:∀ (D:aa Nat) (C:aa Lf) (xs:aa V),D.length=C.length -> xs.length=C.length -> (qi ns cn D C xs).length=C.length /\
  ∀(j:Nat) z,(qi ns cn D C xs)[j]?=some z -> ∃n l x,D[j]?=some n/\C[j]?=some l/\xs[j]?=some x/\z=(bif x.plain then .v x else bif x.aF then l.fo ns cn else .own [n])
 |[],[],[],_,_=>⟨rfl,λj z E=>by simp[qi]at E⟩
 | n :: D,l :: C,x :: xs,L,O=>by
  obtain⟨T,U⟩:=adW (ns:=ns) (cn:=cn) D C xs (by simpa using L) (by simpa using O)
  refine⟨by simp[qi,T],λj z E=>?_⟩
  cases j with
  |zero=>simp[qi,List.getElem?_cons_zero,iO]at E;exact⟨n,l,x,rfl,rfl,rfl,E.symm⟩
  |succ j=>exact U j z (by simpa [qi]using E)
def adX:∀ (C:aa Nat) (xs:aa V),∀ p∈zS C xs,∃ (j:Nat) (x:V),C[j]?=some p.1/\xs[j]?=some x/\x.aF=false/\p.2 = .sl x
 |[],[],p,hp=>by cases hp
 |[],_::_,p,hp=>by cases hp
 | n :: C,x :: xs,p,hp=>by
  simp[zS]at hp;have rest:p∈zS C xs -> ∃ (j:Nat) (y:V),(n :: C)[j]?=some p.1/\(x :: xs)[j]?=some y/\y.aF=false/\p.2 = .sl y:=λhp=>by
   obtain⟨j,y,E,L,O,T⟩:=adX C xs p hp;exact⟨j+1,y,by simpa using E,by simpa using L,O,T⟩
  cases D:x.aF with
  |true=>grind
  | false=>
   rw[D]at hp;rcases iw.1 hp with rfl|hp
   ·exact⟨0,x,rfl,rfl,D,rfl⟩
   ·grind
def adY{w:World}{b off n:Nat}{x:V}:∀ (D:aa Nat) (xs:aa V) (C j:Nat),D[j]?=some n -> xs[j]?=some x -> x.aF=false -> (n,(w.cell? ⟨b,off+(C+j),none⟩).getD undef)∈zU w b off C D xs
 |[],_,_,j,h,_,_=>by simp at h
 | m :: D,y :: xs,C,j,E,L,O=>by
  cases j with
  | zero=>
   simp at E L;subst E L;simp only[zU,O];simp_all
  | succ j=>
   have:=adY (w:=w) (b:=b) (off:=off) D xs (C+1) j (by simpa using E) (by simpa using L) O;rw[show C+1+j=C+(j+1) by omega]at this;simp[zU]
   grind
section
variable {P:Program} {w w':World} {w0:Wd} {B N:Nat} {aj dN aD:bK} {ρ fm ρ':Nat->Loc} {σ:S} {a:Act} {X:Type} {d:Nat} {r:X} {ns cn:aa Nat} {o:Oper} {rs:aa Nat} {eD:aa (Nat×Nat)} {nm O7:Nat->Nat} {c0:Nat}
def jO.zI{nm:Nat -> Nat}:∀ (ps:aa Pt) (off:Nat) (C:aa Value) {B':Nat},jO w B aj nm off ps C -> B' <= B -> (∀ b,B <= b -> aD b=aj b) -> (∀ b k,aj b=some k -> aD b=some k) -> (∀ n,off <= n -> n<off+(ps.map λp=>p.2.length).sum -> nm n=O7 n) -> jO w B' aD O7 off ps C
 |[],_,[],_,h,_,_,_,_=>h
 | p :: ps,off,v :: C,B',h,hB,hl,L,D=>by
  obtain⟨⟨O,us,U,Y,Z⟩,vJ⟩:=h;simp only[List.map_cons,List.sum_cons]at D
  refine⟨⟨O,us,U,Y,λj x E=>?_⟩,jO.zI ps _ C vJ hB hl L (λn h1 h2=>D n (by omega) (by omega))⟩
  obtain⟨T,tv,fE⟩:=Z j x E;have hj:j<p.2.length:=(dV.1 E).1;refine⟨T,tv,?_⟩;show RV w B' aD [O7 (off+j)] x T;rw[<- D (off+j) (by omega) (by omega)];exact fE.zI hB hl L (cx.1 O x (hU E))
def W7(hR:Rl w0 N aj ρ σ a w)(hv:tP w w' aj dN ρ fm ns cn)(ot:∀ b k,aD b=some k -> dN b=some k)(o7:∀ b,w.heap.size <= b -> dN b=aD b)(hB:w0.heap.size <= w.heap.size):
  ∀(E:aa Mu) (ins outs:aa In) (i C:Nat),(∀j D,E[j]?=some D -> rs[i+j]?=some D.root) -> (∀D∈E,B8 σ D) -> IM E ins -> i+E.length <= 40 -> IE w w' aD (xE w ρ rs) nm i C ins outs ->
  (∀k n,(zR c0 C E)[k]?=some n -> nm (C+k)=n) -> (∀p∈sE w' ρ c0 C E outs,fm p.1 = .ep p.2) -> (∀D∈E,dK D.root cn=false) -> outs.all adP=true -> ∀p∈ox ns cn c0 C E outs,ez w' w0.heap.size dN fm p.1 p.2
 |[],[],[],_,_,_,_,_,_,_,_,_,_,_,p,hp=>by simp[ox]at hp
 |[],[],_::_,_,_,_,_,_,_,h,_,_,_,_,_,_=>h.elim
 |[],_::_,_,_,_,_,_,h,_,_,_,_,_,_,_,_=>h.elim
 |.aB _ _ _::_,[],_,_,_,_,_,h,_,_,_,_,_,_,_,_=>h.elim
 |.sl _ _::_,[],_,_,_,_,_,h,_,_,_,_,_,_,_,_=>h.elim
 |.aB _ _ _::_,.sl _::_,_,_,_,_,_,h,_,_,_,_,_,_,_,_=>h.elim
 |.sl _ _::_,.aB _::_,_,_,_,_,_,h,_,_,_,_,_,_,_,_=>h.elim
 |.aB _ _ _::_,.aB _::_,[],_,_,_,_,_,_,h,_,_,_,_,_,_=>h.elim
 |.sl _ _::_,.sl _::_,[],_,_,_,_,_,_,h,_,_,_,_,_,_=>h.elim
 |.aB _ _ _::_,.aB _::_,.sl _::_,_,_,_,_,_,_,h,_,_,_,_,_,_=>h.elim
 |.sl _ _::_,.sl _::_,.aB _::_,_,_,_,_,_,_,h,_,_,_,_,_,_=>h.elim
 | .aB r cs L :: E,.aB xs0 :: ins,.aB xs :: outs,i,C,jP,jQ,hrel,hi,hO,pL,Cd,pG,Y,p,hp=>by
  obtain⟨hm,hg,hlen⟩:=jQ _ (.head _);obtain⟨⟨hw,hx⟩,Cb⟩:=hrel;obtain⟨g1,g2⟩:=WZ cs L hg;have oe:=jP 0 _ rfl;rw[Nat.add_zero]at oe;simp only[List.length_cons]at hi;have W8:xs0.length=cs.length:=by rw[<- hw.1,eS,g1]
  obtain⟨⟨b,off,cells,xz,e,e',Z,h2,h3,h4,h5,h6,h7⟩,W9⟩:=hO;have eY:=hR.root r _ hm;generalize hz:bh.aB cs=z at eY;cases eY with
  |sl=>cases hz
  |mp=>cases hz
  |gh=>cases hz
  | aB b0 U adZ e0 eM us cF hl hh hs hc=>
   injection hz with hz;subst hz;rw[IL oe (by omega)]at Z;have Z:ρ r = .aB b off:=Z;rw[cF]at Z;injection Z with e1 e2;subst e1 e2;have aqE:adZ=cells:=by
    rw[hh]at h2;injection h2 with h2;injection h2
   subst aqE;have iS:=pG _ (.head _);have EU:fm r = .aB b0 U:=(hv.fl r iS).trans cF;have tE:nm C=r:=by have:=pL 0 r rfl;rwa [Nat.add_zero]at this
   have aqF:∀ (j:Nat) n,(pK c0 (C+1) L)[j]?=some n -> nm (C+1+j)=n:=by
    intro j n hn;have hj:j<(pK c0 (C+1) L).length:=(dV.1 hn).1;have:=pL (j+1) n (by simp only[zR,List.getElem?_cons_succ];rw[List.getElem?_append_left hj];exact hn);rw[show C+1+j=C+(j+1) by omega];exact this
   have jD:∀ (j:Nat) x,xs[j]?=some x -> ∃ u,xz[U+j]?=some u/\w'.cell? ⟨b0,U+j,none⟩=some u/\((x.plain=true /\ ∀ (w:World) (B:Nat) (aj:bK) (q:aa Nat),RV w B aj q x u) \/ (x.plain=false/\x.aF=true/\adZ[U+j]?=some u) \/ (x.aF=false/\RV w' w.heap.size aD [nm (C+1+j)] x u)):=by
    intro j x hj;obtain⟨u,hu,hd⟩:=h7 j x hj;exact⟨u,hu,by rw[cell_of_row w' b0 _ xz _ _ h3];exact hu,hd⟩
   have zq:∀ (j:Nat) n x u,(pK c0 (C+1) L)[j]?=some n -> xs[j]?=some x -> x.aF=false -> w'.cell? ⟨b0,U+j,none⟩=some u -> fm n = .ep u:=by
    intro j n x u hn hxj hf hu;have zL:=adY (w:=w') (b:=b0) (off:=U) _ xs 0 j hn hxj hf;rw[fD,hu]at zL;exact Cd (n,u) (by simp only[sE,cF,W4];exact List.mem_append_left _ zL)
   simp only[ox]at hp;rcases iw.1 hp with rfl|hp
   ·obtain⟨k1,k2⟩:=adW (ns:=ns) (cn:=cn) (pK c0 (C+1) L) cs xs (by rw[IT,g1]) (by rw[h6,W8])
    refine .aB b0 U xz e' _ (λj=>xz.getD (U+j) undef) EU (ot _ _ (by rw[h4,tE])) h3 (by show U+(qi _ _ _ _ _).length <= _;rw[k1,<- W8,<- h6];exact h5) (λj z hz=>?_)
    obtain⟨n,l,x,n1,n2,n3,rfl⟩:=k2 j z hz;obtain⟨u,hu,Xa,hd⟩:=jD j x n3;have eu:xz.getD (U+j) undef=u:=by rw[iM,hu];rfl
    rw[eu];refine⟨hu,?_⟩;rcases hd with ⟨O,T⟩|⟨O,T,d3⟩|⟨O,T⟩
    ·rw[O,au];exact⟨V.H6 O,T _ _ _ _⟩
    ·rw[O,T,aq,au];obtain⟨c1,c2⟩:=hc j l n2;rw[c1]at d3;injection d3 with d3;rw[<- d3];exact c2.tQ hv
    ·have zK:x.plain=false:=by
      cases zK:x.plain with
      |false=>rfl
      |true=>rw[V.H6 zK]at O;cases O
     rw[zK,O,aq,aq];exact⟨T.VO O,by simp only[di,zq j n x u n1 n3 O Xa]⟩
   ·rcases List.mem_append.1 hp with hp | hp
    ·obtain⟨j,x,n1,n2,n3,n4⟩:=adX _ _ p hp;obtain⟨u,hu,Xa,hd⟩:=jD j x n2;rw[n4];refine .sl u x (zq j p.1 x u n1 n2 n3 Xa) ?_;rcases hd with ⟨O,T⟩ | ⟨O,T,d3⟩ | ⟨O,T⟩
     ·simp[*]
     ·rw[n3]at T;cases T
     ·rw[aqF j _ n1]at T;refine T.zI hB o7 ot ?_;rw[List.all_cons,aU]at Y;have:=cx.1 Y.1 x (hU n2)
      rwa [n3,Bool.false_or]at this
    ·rw[List.all_cons,aU]at Y
     refine W7 hR hv ot o7 hB E ins outs (i+1) (C+1+L.length) (λj D Cc=>?_) (λD h=>jQ D (.tail _ h)) Cb (by omega) ?_ (λk n hn=>?_) (λp hp=>Cd p ?_) (λD h=>pG D (.tail _ h)) Y.2 p hp
     ·have:=jP (j+1) D (by simpa using Cc);rw[show i+(j+1)=i+1+j by omega]at this;exact this
     ·rw[g1,<- W8];exact W9
     ·have:=pL (1+L.length+k) n (by
       rw[show 1+L.length+k=(L.length+k)+1 by omega];simp only[zR,List.getElem?_cons_succ];rw[List.getElem?_append_right (by rw[IT];omega),IT];rw[show L.length+k-L.length=k by omega];exact hn)
      rw[show C+1+L.length+k=C+(1+L.length+k) by omega];exact this
     ·simp only[sE];exact List.mem_append_right _ hp
 | .sl q y0 :: E,.sl y1 :: ins,.sl y :: outs,i,C,jP,jQ,hrel,hi,hO,pL,Cd,pG,Y,p,hp=>by
  obtain⟨hm,hf⟩:=jQ _ (.head _);obtain⟨_,Cb⟩:=hrel;have oe:=jP 0 _ rfl;rw[Nat.add_zero]at oe;simp only[List.length_cons]at hi;obtain⟨hO1,W9⟩:=hO;rw[List.all_cons,aU]at Y;have tE:nm C=q:=by have:=pL 0 q rfl;rwa [Nat.add_zero]at this
  have hp:(p=(q,.sl y)/\y.kg=true) \/ p∈ox ns cn c0 (C+1) E outs:=by
   simp only[ox]at hp;cases hy:y.kg with
   |false=>rw[hy]at hp;exact .inr hp
   | true=>
    rw[hy]at hp;rcases iw.1 hp with h|h
    ·grind
    ·simp[*]
  rcases hp with ⟨rfl,hy⟩|hp
  ·obtain⟨v,Z,h2⟩:=hO1.resolve_left (by rintro rfl;cases hy);rw[IL oe (by omega)]at Z;rw[tE]at h2;exact .sl v y ((hv.fl q (pG _ (.head _))).trans Z) (h2.zI hB o7 ot Y.1)
  ·refine W7 hR hv ot o7 hB E ins outs (i+1) (C+1) (λj D Cc=>?_) (λD h=>jQ D (.tail _ h)) Cb (by omega) W9 (λk n hn=>?_) (λp hp=>Cd p hp) (λD h=>pG D (.tail _ h)) Y.2 p hp
   ·have:=jP (j+1) D (by simpa using Cc);rw[show i+(j+1)=i+1+j by omega]at this;exact this
   ·have:=pL (k+1) n (by simpa [zR]using hn);rw[show C+1+k=C+(k+1) by omega];exact this
end
section
variable {P:Program} {w w':World} {w0:Wd} {B N:Nat} {aj dN aD:bK} {ρ fm ρ':Nat->Loc} {σ:S} {a:Act} {X:Type} {d:Nat} {r:X} {ns cn:aa Nat} {o:Oper} {rs:aa Nat} {eD:aa (Nat×Nat)} {nm O7:Nat->Nat} {c0:Nat}
def aqG{C:ah Tmp}{D:gj}{k:S -> ah X}(h:vP N σ C D k=some r):∃ Z,k Z=some r /\ ∀ aj ρ a w v,Rl w0 N aj ρ σ a w -> qf w w0.heap.size aj (λn=>jc C+n) D v -> ∃ ρ',Rl w0 N aj ρ' Z (a.put C v) w /\ ∀ r,r<jc C -> ρ' r=ρ r:=by
 unfold vP at h;cases C with
 |none=>exact⟨σ,h,λaj ρ a w v hR _=>⟨ρ,hR,λ_ _=>rfl⟩⟩
 | some d=>
  have h:(bif Nat.blt d N then (match D with
   | .one p=>(match zm (p.1,om (1000000000100000+1000*d) p.2)with
    |some y=>k ((mL _ σ p.2).set d y)
    |none=>none)
   |.fk ps=>k ((pI _ σ ps).set d _))else none)=some r:=h
  cases L:Nat.blt d N with
  |false=>rw[L]at h;cases h
  | true=>
   rw[L,au]at h;have B1:d<N:=cZ L;cases D with
   | one p=>
    simp only at h;split at h
    ·rename_i y hy
     refine⟨_,h,λaj ρ a w v hR O=>?_⟩
     obtain⟨ρ',T,U,_,Y⟩:=Iy [p] (1000000000100000+1000*d) 0 σ ρ [v] (by omega) hR O;have WC:=Y 0 _ v rfl rfl;exact⟨ρ',T.set (V3 hy WC) B1,U⟩
    ·cases h
   | fk xx=>
    refine⟨_,h,λaj ρ a w v hR O=>?_⟩
    obtain⟨E,rfl,hv⟩:=O;obtain⟨ρ',T,U,hlen,Y⟩:=Iy xx (1000000000100000+1000*d) 0 σ ρ E.toList (by omega) hR hv
    refine⟨ρ',T.set ⟨E,rfl,by simpa using hlen,λj p hp=>?_⟩ B1,U⟩
    have hj:j<E.size:=by
     have:=(dV.1 hp).1
     grind
    exact⟨E[j],Array.getElem?_eq_getElem hj,Y j p _ hp (by rw[Array.getElem?_toList,Array.getElem?_eq_getElem hj])⟩
def Xb{f:Nat}{args:Array Operand}{nM:Array TypeId}{c:ou}{k:S -> ah X}(ho:o.op = .call { callee:=.value (.func f),args,argTypes:=nM })(he:enters P f)(hc:tO P f c)(h:sD N σ o.dst c args.toList k=some r):∃ dn C cn,k dn=some r/\nO σ c.ps args.toList=some C/\(∀ n,dK n cn=true -> n<N \/ 60000 <= n)/\(∀ O∈C,dK O.root cn=false) /\
  ∀a w K Q aj ρ,Rl w0 N aj ρ σ a w -> (∀v w' dN fm vQ,Rl w0 N dN vQ dn (a.put o.dst v) w' -> tP w w' aj dN ρ fm ((ov 0 C).map (·.1)) cn -> js w0 w w' -> (∀r,r<jc o.dst -> vQ r=fm r) -> K (a.put o.dst v) w') -> o.wp P a w K Q:=by
 unfold sD at h;split at h
 ·rename_i C zV;generalize ad0:ov 0 C=eD at h;cases mN:(once eD&&Nat.ble C.length 40)with
  |false=>rw[mN]at h;cases h
  | true=>
   rw[mN,au]at h;rw[aU]at mN;have aJI:=cZ mN.2;have tM:∀ p∈ov 0 C,eD.lookup p.1=some p.2:=by
    intro p hp;rw[ad0]at hp;have:=cx.1 mN.1 p hp;obtain⟨n,T,he⟩:=(Option.any_eq_true _ _).1 this;simp_all
   obtain⟨x,Y,hrel,aJJ,me⟩:=O3 (w0:=w0) (N:=N) _ _ C _ zV h;clear h;split at Y
   ·rename_i y hy;unfold O5 at Y;generalize pG:qh (jc o.dst) (fF c.ro y.1).len C (lJ (fC c.ps) y.2)=cn at Y;generalize HX:eD.map (·.1)=ns at Y me;cases jE:IQ N C (lJ (fC c.ps) y.2) cn with
    |false=>rw[jE]at Y;cases Y
    | true=>
     rw[jE,au]at Y;simp only[IQ,aU]at jE;obtain⟨⟨⟨ok1,ok2⟩,ok3⟩,ok4⟩:=jE;obtain⟨dn,h3,Ce⟩:=aqG (w0:=w0) Y
     refine⟨dn,C,cn,h3,zV,λn T=>?_,λO jQ=>by simpa using cx.1 ok2 O jQ,λa w K Q aj ρ hR hK=>?_⟩
     ·have:=cx.1 ok3 n (xB.1 T);rw[eG]at this;rcases this with h | h
      ·exact .inl (by have:=cZ h;omega)
      ·exact .inr (cZ h)
     have hS:B7 ns aj (eJ aj eD id):=by rw[<- HX];exact aqC (λb k hb=>(hR.dw b k hb).2.2)
     have ad1:=O2 _ _ _ zV;let rs:=C.map Mu.root
     have jP:∀ j O,C[j]?=some O -> rs[0+j]?=some O.root:=by
      intro j O hj;rw[fD,eR,hj];rfl
     have hE:=W2 (rs:=rs) hR hS C (nN c.ps x) 0 tM jP ad1 hrel (by omega);have hA:=me aj ρ a w (eJ aj eD id) (xE w ρ rs) hR hS (nN c.ps x) 0 (λj z U=>by rw[fD];exact U) (λj O hj=>by
      have h1:=jP j O hj;rw[fD]at h1 ⊢;exact IL h1 (by have:=(dV.1 hj).1;omega))
     obtain⟨hA1,Wh⟩:=ES.get _ _ hA;let nm:Nat -> Nat:=λn=>if n<(fF c.ro y.1).len then jc o.dst+n else (zR (jc o.dst) (fF c.ro y.1).len C).getD (n-(fF c.ro y.1).len) 0
     have ri:∀ (ps:aa PK) (i:Nat) (x:mM ps),(kr ps i x).length=ps.length:=by
      intro ps
      induction ps with
      |nil=>intro i x;rfl
      | cons p ps ih=>
       intro i x;cases p with
       |v=>exact aZ (· + 1) (ih _ _)
       |p=>exact aZ (· + 1) (ih _ _)
       |s=>exact aZ (· + 1) (ih _ _)
     unfold Oper.wp;rw[WA w o a f args nM ho he,Oper.upon_enter];have B2:(args.map a.eval)=(args.toList.map a.eval).toArray:=by apply Array.ext';rw[Array.toList_map]
     rw[B2];have O8:∀ b k,eJ aj eD id b=some k -> (∃ E,aj b=some E/\gJ E ns=true)/\k≠[]:=by
      intro b k hb;cases hl:aj b with
      |none=>rw[hS.none b hl]at hb;cases hb
      | some E=>
       refine⟨⟨E,rfl,?_⟩,?_⟩
       ·cases hq:gJ E ns with
        |true=>rfl
        |false=>rw[(hS.rest b E hl).2 hq]at hb;cases hb
       ·simp only[eJ,hl]at hb;split at hb
        ·cases hb
        ·cases ad2:eD.lookup _ with
         |none=>rw[ad2]at hb;cases hb
         |some n=>rw[ad2]at hb;injection hb with hb;subst hb;simp
     have hQ:Hd w (eJ aj eD id):=w0.on hR.below (λb k hb=>by obtain⟨⟨E,hl,_⟩,_⟩:=O8 b k hb;exact(hR.dw b E hl).1)
     refine(hc x y hy nm w (eJ aj eD id) (xE w ρ rs) _ hE (λb k hb=>⟨?_,(O8 b k hb).2⟩) ?_ Wh hQ).mono λe w' tK=>?_
     ·obtain⟨⟨E,hl,_⟩,_⟩:=O8 b k hb;exact(hR.dw b E hl).2.1
     ·rw[List.size_toArray,hA1,ri]
     ·obtain⟨v,D,rfl,Z,EV,mg,Xc⟩:=tK;have hB:=hR.below.size;let dN:bK:=λb=>match eJ aj eD id b with
       |none=>if b<w.heap.size then aj b else D b
       |some _=>D b
      have e1:∀ b k,D b=some k -> dN b=some k:=by
       intro b k hb;show (match eJ aj eD id b with|none=>if b<w.heap.size then aj b else D b|some _=>D b)=some k;split
       next iS=>have:=(EV b k hb).1;have o7:=this.resolve_right (λh=>h iS);rw[bU];exact hb
       ·exact hb
      have e2:∀ b,w.heap.size <= b -> dN b=D b:=by
       intro b hb;show (match eJ aj eD id b with|none=>if b<w.heap.size then aj b else D b|some _=>D b)=D b;split
       ·rw[bU]
       ·rfl
      have ad3:∀ p∈sE w' ρ (jc o.dst) (fF c.ro y.1).len C (lJ (fC c.ps) y.2),(sE w' ρ (jc o.dst) (fF c.ro y.1).len C (lJ (fC c.ps) y.2)).lookup p.1=some p.2:=
       adV (by rw[O6,pG];exact ok1)
      generalize Cd:sE w' ρ (jc o.dst) (fF c.ro y.1).len C (lJ (fC c.ps) y.2)=hd at ad3;have aqH:hd.map (·.1)=cn:=by rw[<- Cd,O6,pG]
      have hv:tP w w' aj dN ρ (adT hd ρ) ns cn:=by
       refine⟨Z.size,λb hb hk=>?_,λn T=>?_,λb k hb=>(hR.dw b k hb).2⟩
       ·have iS:eJ aj eD id b=none:=by
         cases hl:aj b with
         |none=>exact hS.none b hl
         |some k=>exact(hS.rest b k hl).2 (hk k hl)
        refine⟨Z.block b hb iS,?_⟩;show (match eJ aj eD id b with|none=>if b<w.heap.size then aj b else D b|some _=>D b)=aj b;rw[iS];exact bI hb
       ·show (match hd.lookup n with|some v=>Loc.ep v|none=>ρ n)=ρ n;rw[adU (by rw[aqH];exact T)]
      have IU:∀O∈C,dK O.root cn=false:=λO jQ=>by simpa using cx.1 ok2 O jQ
      have hnr:=W7 (c0:=jc o.dst) (nm:=nm) hR hv e1 e2 hB C (nN c.ps x) (lJ (fC c.ps) y.2) 0 (fF c.ro y.1).len jP ad1 hrel (by omega) Xc (λk n T=>?_) (λp hp=>?_) IU ok4
      ·have ad4:js w0 w w':=by
        refine⟨Z.os,Z.tape,Z.output,Z.size,λk hk hL=>Z.block k (Nat.lt_of_lt_of_le hk hB) ?_⟩
        cases hl:aj k with
        |none=>exact hS.none k hl
        |some E=>exact absurd hL ((hR.dw k E hl).1.resolve_left (by omega))
       have lI:Rl w0 N dN (adT hd ρ) (σ.fo ns cn (ox ns cn (jc o.dst) (fF c.ro y.1).len C (lJ (fC c.ps) y.2))) a w':=by
        refine hR.tQ hv ad4 (λb k hb=>?_) (λn T=>?_) (λn z U=>?_)
        ·have hb:(match eJ aj eD id b with | none=>if b<w.heap.size then aj b else D b | some _=>D b)=some k:=hb;have ad5:D b=some k -> (w0.heap.size <= b \/ w0.L b≠none)/\b<w'.heap.size/\k≠[]:=by
          intro h1;obtain⟨g1,g2,g3⟩:=EV b k h1;refine⟨?_,g2,g3⟩;rcases g1 with g1|g1
          ·exact .inl (Nat.le_trans hB g1)
          ·cases iS:eJ aj eD id b with
           |none=>exact absurd iS g1
           | some k2=>
            obtain⟨⟨E,hl,_⟩,_⟩:=O8 b k2 iS;exact(hR.dw b E hl).1
         split at hb
         ·split at hb
          ·have:=hR.dw b k hb;exact⟨this.1,Nat.lt_of_lt_of_le this.2.1 Z.size,this.2.2⟩
          ·exact ad5 hb
         ·exact ad5 hb
        ·have:=cx.1 ok3 n (xB.1 T);rw[eG]at this;refine hR.dH n ?_;rcases this with h | h
         ·exact .inl (by have:=cZ h;omega)
         ·exact .inr (cZ h)
        ·have zL:(n,z)∈ox ns cn (jc o.dst) (fF c.ro y.1).len C (lJ (fC c.ps) y.2):=by
          clear hnr;generalize ox ns cn (jc o.dst) (fF c.ro y.1).len C (lJ (fC c.ps) y.2)=l at U
          induction l with
          |nil=>cases U
          | cons p l ih=>
           rw[List.lookup_cons]at U;cases hb:n==p.1 with
           | true=>
            rw[hb]at U;have e:n=p.1:=by simpa using hb
            injection U with U;rw[e,<- U]
            grind
           | false=>
            rw[hb]at U;exact .tail _ (ih U)
         exact hnr (n,z) zL
       have aqI:qf w' w0.heap.size dN (λn=>jc o.dst+n) (fF c.ro y.1) v:=?_
       ·obtain⟨vQ,IV,xF⟩:=Ce dN _ a w' v lI aqI;exact hK v w' dN _ vQ IV (by rw[ad0,HX];exact hv) ad4 xF
       have Xd:∀(L:Nat),L=(fF c.ro y.1).len -> ∀n,n<L -> nm n=jc o.dst+n:=λL hL n T=>bI
       generalize aJK:fF c.ro y.1=res at mg Xd;cases res with
       | one p=>
        have mg:jO w' w.heap.size D nm 0 [p] [v]:=mg;exact jO.zI [p] 0 [v] mg hB e2 e1 (λn _ T=>Xd _ rfl n (by simpa [gj.len]using T))
       | fk xx=>
        obtain⟨vs,e,kj⟩:=mg;exact⟨vs,e,jO.zI xx 0 vs.toList kj hB e2 e1 (λn _ T=>Xd _ rfl n (by simpa [gj.len]using T))⟩
      ·show (if (fF c.ro y.1).len+k<(fF c.ro y.1).len then jc o.dst+((fF c.ro y.1).len+k)else (zR _ (fF c.ro y.1).len C).getD ((fF c.ro y.1).len+k-(fF c.ro y.1).len) 0)=n;rw[bU,show (fF c.ro y.1).len+k-(fF c.ro y.1).len=k by omega,fz,T];rfl
      ·rw[Cd]at hp;show (match hd.lookup p.1 with|some v=>Loc.ep v|none=>ρ p.1) = .ep p.2;rw[ad3 p hp]
   ·cases Y
 ·cases h
def aqJ{f:Nat}{args:Array Operand}{D:Array TypeId}{c:ou}{k:S -> ah X}(E:o.op = .call { callee:=.value (.func f),args,argTypes:=D })(L:enters P f)(O:tO P f c)(h:sD N σ o.dst c args.toList k=some r):∃ C,k C=some r/\lZ P w0 N o σ C:=by
 obtain⟨C,Xe,cn,T,_,_,_,U⟩:=Xb E L O h
 refine⟨C,T,λa w K Q hR Y=>?_⟩
 obtain⟨aj,ρ,hR⟩:=hR;exact U a w K Q aj ρ hR λv w' dN fm Z dJ _ _ _=>Y _ _ ⟨dN,Z,dJ⟩
end
end Go.Proofs.YtnilicojgkhpnaaGreat
