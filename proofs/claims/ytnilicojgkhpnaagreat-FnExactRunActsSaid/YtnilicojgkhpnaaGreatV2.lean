/-
  Running the program over pure contents, and that it follows (part 2). Nothing here is a claim.
-/
import Derived.Laws.StructEq
import Derived.Test.YtnilicojgkhpnaaGreatV1
set_option linter.unusedSimpArgs false
namespace Go.Proofs.YtnilicojgkhpnaaGreat
set_option linter.defProp false
open Go.RowKit
set_option linter.unusedVariables false
def aIz{X:Type}(N:Nat)(σ:S)(C:ah Tmp)(c x y:A)(k:S->ah X):ah X:=
 match c with
 |.lf (.v (.bool b))=>bif b then iH N σ C x k else iH N σ C y k
 |_=>none
def I1{X:Type}(P:Program)(s:TypeId)(x:A)(f:Nat)(k:A->ah X):ah X:=
 match IG P s f,x with
 | some C,.agg cs=>(match jN P C.type,E8 P C.type with
  |some n,some true=>if C.offset+n<=cs.length then k (.agg ((cs.drop C.offset).take n))else none
  | some _,some false=>(match cs[C.offset]? with
   |some y=>k (.lf y)
   |none=>none)
  |_,_=>none)
 |_,_=>none
def Fj{X:Type}(C:Bool)(x y:A)(k:A->ah X):ah X:=
 match x,y with
 |.lf (.v (.int D a)),.lf (.v (.int _ b))=>k (.lf (.v (.int D (bif C then (if b > a then b else a)else (if b<a then b else a)))))
 |_,_=>none
def I2{X:Type}(P:Program)(t:TypeId)(x i:A)(k:A->ah X):ah X:=
 match x,i with
 | .lf (.v (.str s)),.lf (.v (.int _ iv))=>(match P.underlying t with
  |some .string=>if h:0<=iv/\iv.toNat<s.size then k (.lf (.v (.int .u8 ((s[iv.toNat]'h.2).toNat:Int))))else none
  |_=>none)
 |_,_=>none
def uj{X:Type}(x:ah A)(d:Int)(k:Int->ah X):ah X:=
 match x with
 |none=>k d
 |some (.lf (.v (.int _ n)))=>k n
 |_=>none
def xU{X:Type}(P:Program)(t:TypeId)(x:A)(lo hi:ah A)(k:A->ah X):ah X:=
 match x with
 | .lf (.v (.str s))=>(match P.underlying t with
  |some .string=>uj lo 0 λl=>uj hi (s.size:Int) λh=>if 0<=l/\l<=h/\h<=(s.size:Int)then k (.lf (.v (.str (s.extract l.toNat h.toNat))))else none
  |_=>none)
 | .lf (.v (.sl C g D l))=>(match qD P t with
  | some e=>(match jN P e with
   |some n=>if n=aE C then (bif Nat.blt g 2 then uj lo 0 λa=>uj hi (l.length:Int) λb=>if 0<=a/\a<=b/\b<=(l.length:Int)then k (.lf (.v (.sl C g false ((l.take b.toNat).drop a.toNat))))else none else none)else none
   |none=>none)
  |none=>none)
 |_=>none
def Fk(P:Program)(C D:TypeId):Bool:=
 match P.underlying C,P.underlying D with
 | some (.slice e),some .string=>(match P.underlying e with
  |some (.int .u8)=>true
  |_=>false)
 |_,_=>false
def Pv{X:Type}(P:Program)(C D:TypeId)(z:V)(k:A->ah X):ah X:=
 match z with
 |.sl .u8 _ _ l=>bif Fk P C D then k (.lf (.v (.str (strOfNums l))))else none
 |.nil=>bif Fk P C D then k (.lf (.v (.str (strOfNums []))))else none
 |_=>none
def Ai{X:Type}(P:Program)(σ:S)(C D:TypeId)(x:A)(k:A->ah X):ah X:=
 match x with
 | .lf (.v (.int _ n))=>(match P.underlying C,P.underlying D with
  |some _,some (.int E)=>k (.lf (.v (.int E (E.wrap n))))
  |_,_=>none)
 |.lf y=>pW σ y λz=>Pv P C D z k
 |_=>none
section
variable {P:Program} {w w':World} {w0:Wd} {B N:Nat} {aj aD:bM} {ρ ρ':Nat->Loc} {σ:S} {a:Act} {X:Type} {d:Nat} {r:X} {o:Oper}
def aIA{α:Type}(f:α -> aa Value)(s:Nat)(C:∀ x,(f x).length=s)(l:aa α):(l.flatMap f).length=l.length*s:=by
 induction l with
 |nil=>simp
 |cons a l D=>grind
def apx{α:Type}(f:α -> aa Value)(s:Nat)(D:∀ x,(f x).length=s):∀ (l:aa α) (k:Nat) (C:k<l.length) (j:Nat),j<s -> (l.flatMap f)[k*s+j]?=(f l[k])[j]?:=by
 intro l
 induction l with
 |nil=>simp_all
 | cons a l E=>
  intro k C j L;rw[List.flatMap_cons];cases k with
  |zero=>grind
  |succ k =>grind
def ac2(z:Array Value)(s n:Nat)(C:z.size=s)(E:0<s):(madeCells z (n*s)).toList=(List.replicate n z.toList).flatten:=by
 have e:(List.replicate n z.toList).flatten=(List.replicate n ()).flatMap (λ_=>z.toList):=by
  rw[List.flatMap_def,List.map_replicate]
 rw[e];have hl:((List.replicate n ()).flatMap (λ_=>z.toList)).length=n*s:=by
  simp_all
 apply List.ext_getElem?;intro i;rcases Nat.lt_or_ge i _ with hi|hi
 ·have L:i / s<n:=Nat.div_lt_of_lt_mul (by rw[Nat.mul_comm];exact hi);have O:i % s<s:=Nat.mod_lt _ E;have T:i=i / s*s+i % s:=by rw[Nat.mul_comm];exact(Nat.div_add_mod i s).symm
  have D:=apx (λ_=>z.toList) s (λ_=>by simpa using C) (List.replicate n ()) (i / s) (by simpa using L) (i % s) O;rw[<- T]at D;rw[D];have U:i % s<z.size:=by omega
  simp only[madeCells,Array.toList_map,Array.toList_range,ff,List.getElem?_range hi,Option.map_some,C];simp[U]
 ·rw[List.getElem?_eq_none (by rw[mA,size_madeCells];exact hi),List.getElem?_eq_none (by rw[hl];exact hi)]
def apy{t:TypeId}{len:Nat}{parts:Array (Nat×Operand)}{k:S -> ah X}(h:Ah P N σ d t len parts.toList k=some r):∃ dz,k dz=some r /\ ∀ aj ρ a w,Rl w0 N aj ρ σ a w ->
  ∃w' aD ρ' v,(Instr.buildSlice t len (parts.map λ(i,x)=>(i,a.eval x))).run P w = .ok v w'/\Rl w0 N aD ρ' dz (a.put (some d) v) w':=by
 unfold Ah at h;split at h
 ·rename_i e C pZ;obtain⟨gH,ht,i,hi,Z,kD⟩:=Ae pZ;split at h
  ·rename_i z hz;cases U:(Nat.beq (full C) 0&&Nat.beq z.cells.size (aE C)&&Nat.blt (len*aE C) 16777217)with
   |false=>rw[U]at h;cases h
   | true=>
    rw[U,au]at h;simp only[aS]at U;have hf:=cK U.1.1;have nS:=cK U.1.2;have hsm:len*aE C<16777217:=by have:=cX U.2;omega
    have p6:i.zero=some z:=by unfold zeroOf at hz;simpa [hi]using hz
    split at h
    ·rename_i cs gP;split at h
     ·rename_i vs kM;split at h
      ·rename_i l hl;obtain⟨hd,h⟩:=pY h
       refine⟨_,h,λaj ρ a w hR=>?_⟩
       obtain⟨Fl,Ct,iQ⟩:=V2 C 0 len vs l hl;have V3:fh w w0.heap.size aj ρ (List.replicate len (z.cells.toList.map oQ)).flatten (madeCells z.cells (len*aE C)):=by
        have e1:(List.replicate len (z.cells.toList.map oQ)).flatten=((List.replicate len z.cells.toList).flatten).map oQ:=by
         rw[List.map_flatten,List.map_replicate]
        rw[e1,<- ac2 z.cells (aE C) len nS (pQ C)]
        refine⟨by simp,λj x D=>?_⟩
        rw[ff]at D;cases L:(madeCells z.cells (len*aE C)).toList[j]? with
        |none=>rw[L]at D;cases D
        | some v=>
         rw[L]at D;injection D with D;subst D;exact⟨v,by simpa using L,Ph v⟩
       obtain⟨O,xV,dR⟩:=Pp (w:=w) (B:=w0.heap.size) (aj:=aj) (ρ:=ρ) _ _ _ (parts.toList.map λp=>(p.1,a.eval p.2)) cs gP V3 (by simp) (λj p q T hq=>by
        rw[ff]at T hq;cases D:parts.toList[j]? with
        |none=>rw[D]at T;cases T
        | some x=>
         rw[D]at T hq;injection T with T;injection hq with hq;subst T hq;exact⟨rfl,hR.aP x.2⟩)
       have ac3:=Pr cs vs kM;have apz:O.size=len*aE C:=by rw[dR.1,ac3,eK,Ct]
       have dZ:(Instr.buildSlice t len (parts.map λ(i,x)=>(i,a.eval x))).run P w = .ok (.slice (some ⟨w.heap.size,0,none⟩) len len) (w.alloc (.cells O e)):=by
        have I0:(parts.map λ(i,x)=>(i,a.eval x)).toList=parts.toList.map λp=>(p.1,a.eval p.2):=by simp
        by_cases h0:len*aE C=0
        ·have hm:madeCells z.cells (len*aE C) = #[]:=by rw[h0];simp[madeCells]
         rw[hm]at xV;have V4:len*i.size=0:=by rw[Z];exact h0
         rw[<- Z]at xV;have e0:∀f:Nat -> Value,Array.map f (Array.range 0) = #[]:=λf=>by simp
         simp only[Instr.buildSlice,gF,ir gH,sizeOf,typeInfo];simp[hi,V4];rw[e0,xV];simp[newRow]
        ·exact run_buildSlice (P:=P) w t e len _ O i z gH hi p6 (by rw[Z];omega) (by rw[Z];exact h0) (by rw[Z,I0];exact xV)
       refine⟨_,ck aj w.heap.size (some [d]),ck ρ d (.eG (.slice (some ⟨w.heap.size,0,none⟩) len len)),_,dZ,(hR.Fe (hR.dN d (.inl hd)) (λr hr=>cU _ _ _ hr) (.sl _ _ (cu _ _ _) ?_)).set ⟨rfl,by simp[dm,cu]⟩ hd⟩
       have qE:∀ E (Y:E<l.length) j x,(enc C 0 l[E])[j]?=some x -> ∃ v,O[E*aE C+j]?=some v /\ ∀ (w':World) (B':Nat) (aD:bM) (q':aa Nat),RV w' B' aD q' x v:=by
        intro E Y j x D;obtain⟨y,hy,hw⟩:=iQ E Y j x D;obtain⟨v,L,hr⟩:=dR.2 (E*aE C+j) (.v y) (by rw[ac3,ff,hy];rfl);exact⟨v,L,λw' B' aD q'=>(hr.2.wk hw).ud (zW C 0 l[E] hf x (iq D))⟩
       have:=RV.own (w:=w.alloc (.cells O e)) (B:=w0.heap.size) (aj:=ck aj w.heap.size (some [d])) [d] C 0 true l w.heap.size len O (λi j=>(O[i*aE C+j]?).getD undef)
        (cu _ _ _) (by rw[ht];exact heap_alloc_new w _) apz (by omega) ⟨by have:=Nat.le_mul_of_pos_right len (pQ C);unfold maxLen;omega,λ_=>Fl.symm⟩ (λE Y j x D=>?_) (λE Y j x D=>?_)
       ·rw[Fl]at this;exact this
       ·obtain⟨v,L,_⟩:=qE E Y j x D;rw[L];rfl
       ·obtain⟨v,L,hr⟩:=qE E Y j x D;rw[L];exact hr _ _ _ _
      ·cases h
     ·cases h
    ·cases h
  ·cases h
 ·cases h
def ac4{C:Bool}{x y:A}{k:A->ah X}(h:Fj C x y k=some r):∃ z,k z=some r/\∀ (w:World) (B:Nat) (aj:bM) (ρ:Nat->Loc) (t ty:TypeId) (u v:Value),RA w B aj ρ x u->RA w B aj ρ y v->
  ∃D,((bif C then Builtin.max_ #[t,t] ty #[u,v]else Builtin.min_ #[t,t] ty #[u,v]):Sem Value).run P w = .ok D w/\RA w B aj ρ z D:=by
 unfold Fj at h;split at h
 ·refine⟨_,h,λw B aj ρ t ty u v E L=>?_⟩
  obtain rfl:=E.2.iI;obtain rfl:=L.2.iI;cases C with
  |true=>exact⟨_,by simp[Builtin.max_,Builtin.max2],rfl,.int _ _ _⟩
  |false=>exact⟨_,by simp[Builtin.min_,Builtin.min2],rfl,.int _ _ _⟩
 ·cases h
def apA{t:TypeId}{x i:A}{k:A->ah X}(h:I2 P t x i k=some r):∃ z,k z=some r/\∀ (w:World) (B:Nat) (aj:bM) (ρ:Nat->Loc) (u v:Value),RA w B aj ρ x u->RA w B aj ρ i v->
  ∃C,(Instr.index t u v).run P w = .ok C w/\RA w B aj ρ z C:=by
 unfold I2 at h;split at h
 ·rename_i s O iv;split at h
  ·rename_i D;split at h
   ·rename_i hb
    refine⟨_,h,λw B aj ρ u v E L=>?_⟩
    obtain rfl:=E.2.xO;obtain rfl:=L.2.iI;exact⟨_,by simp[Instr.index,asIntOf,ir D,hb.1,hb.2],rfl,.int _ _ _⟩
   ·cases h
  ·cases h
 ·cases h
def ac5{C D:TypeId}(h:Fk P C D=true):∃ e,P.underlying C=some (.slice e)/\P.underlying D=some .string/\P.underlying e=some (.int .u8):=by
 unfold Fk at h
 grind
def ac6(l:aa Int)(i:Nat)(hi:i<l.length):l.getD i 0=l[i]:=by rw[fA,bY hi];rfl
def RV.toStr{L O e:TypeId}(Y:P.underlying L=some (.slice e))(Z:P.underlying O=some .string)(he:P.underlying e=some (.int .u8)){o:Nat}{qn:Bool}{l:aa (T .u8)}{q:aa Nat}{B:Nat}{u:Value}(h:RV w B aj q (.sl .u8 o qn l) u):
  (convert L O u).run P w = .ok (.string (strOfNums l)) w:=by
 generalize C:V.sl .u8 o qn l=y at h;cases h with
 |int=>cases C
 |bool=>cases C
 |str=>cases C
 |nil=>cases C
 | eU q t o'=>
  injection C with D e2 e3 E;subst D;obtain rfl:=eq_of_heq E;rw[run_convert_bytes_nil w L e Y he 0 0 O Z];rfl
 | gd q t o' A c ho=>
  injection C with D e2 e3 E;subst D;obtain rfl:=eq_of_heq E;have hl:=run_loadCells_list (P:=P) w A [] (λj v hj=>by simp at hj);rw[run_convert_bytes_string w L O e _ 0 c Y he Z];rfl
 | gq q t o' A c ho=>
  injection C with D e2 e3 E;subst D;obtain rfl:=eq_of_heq E;have hl:(loadCells A 0).run P w = .ok (([]:aa Int).map (Value.int .u8)).toArray w:=run_loadCells_list (P:=P) w A [] (λj v hj=>by simp at hj);rw[run_convert_bytes_string w L O e _ 0 c Y he Z,run_bytesToString w A 0 c [] hl];rfl
 | aF q t o' V5 l' b off cap uu ho hl hb h1 jL hc hr=>
  injection C with D e2 e3 E;subst D;obtain rfl:=eq_of_heq E
  refine run_convert_bytes_arg w L e Y he b off _ cap l rfl (λi hi=>?_) O Z
  have U:=hc i hi 0 (.int .u8 l[i]) rfl;have h3:=(hr i hi 0 (.int .u8 l[i]) rfl).iI;simp only[aE,Nat.mul_one,Nat.add_zero]at U;have hg:=ac6 (show aa Int from l) i hi;rw[U,h3];exact bf (λz=>some (Value.int .u8 z)) hg.symm
 | own q t o' V5 l' b cap cs uu hl hh pU hn hm hc hr=>
  injection C with D e2 e3 E;subst D;obtain rfl:=eq_of_heq E
  refine run_convert_bytes_arg w L e Y he b 0 _ cap l rfl (λi hi=>?_) O Z
  have U:=hc i hi 0 (.int .u8 l[i]) rfl;have h3:=(hr i hi 0 (.int .u8 l[i]) rfl).iI;simp only[aE,Nat.mul_one,Nat.add_zero]at U;have hg:=ac6 (show aa Int from l) i hi;rw[h3]at U;have h4:w.cell? ⟨b,0+i,none⟩=some (.int .u8 l[i]):=by simp[World.cell?,hh,U]
  rw[h4];exact bf (λz=>some (Value.int .u8 z)) hg.symm
def apB{E L:TypeId}{x:A}{k:A -> ah X}(h:Ai P σ E L x k=some r):∃ z,k z=some r /\ ∀ aj ρ a w,Rl w0 N aj ρ σ a w -> ∀ u,RA w w0.heap.size aj ρ x u ->
  ∃t',(convert E L u).run P w = .ok t' w/\RA w w0.heap.size aj ρ z t':=by
 unfold Ai at h;split at h
 ·rename_i kk n;split at h
  ·rename_i d1 kd hs hd
   refine⟨_,h,λaj ρ a w _ u C=>?_⟩
   obtain rfl:=C.2.iI;exact⟨_,by simp[convert,ir hs,ir hd,Conv.intToInt],rfl,.int _ _ _⟩
  ·cases h
 ·rename_i y _;have key:∃ z,(∀ aj ρ a w,Rl w0 N aj ρ σ a w -> ∀ u,eE w w0.heap.size aj ρ y u -> ∃ q,RV w w0.heap.size aj q z u)/\Pv P E L z k=some r:=by
   cases y with
   |v z=>exact⟨z,λaj ρ a w _ u C=>⟨[],C.2⟩,h⟩
   |dead=>cases h
   | own q=>
    obtain⟨z,T,h⟩:=sU q _ h
    refine⟨z,λaj ρ a w hR u C=>?_,h⟩
    obtain⟨v,hv,U⟩:=T.ok hR.root;have h3:=C.2
    grind
  obtain⟨z,T,D⟩:=key;clear h;unfold Pv at D;split at D
  ·rename_i o qn l;cases O:Fk P E L with
   |false=>simp_all
   | true=>
    rw[O]at D;obtain⟨e,Y,Z,e3⟩:=ac5 O
    refine⟨_,D,λaj ρ a w hR u C=>?_⟩
    obtain⟨q,U⟩:=T aj ρ a w hR u C;exact⟨_,U.toStr Y Z e3,rfl,.str _ _⟩
  ·cases O:Fk P E L with
   |false=>simp_all
   | true=>
    rw[O,au]at D;obtain⟨e,Y,Z,e3⟩:=ac5 O
    refine⟨_,D,λaj ρ a w hR u C=>?_⟩
    obtain⟨q,U⟩:=T aj ρ a w hR u C;cases U;exact⟨_,by rw[run_convert_bytes_nil w E e Y e3 0 0 L Z];rfl,rfl,.str _ _⟩
  ·cases D
 ·cases h
def apC{s:TypeId}{x:A}{f:Nat}{k:A -> ah X}(h:I1 P s x f k=some r):∃ z,k z=some r /\ ∀ (w:World) (B:Nat) (aj:bM) (ρ:Nat -> Loc) (u:Value),RA w B aj ρ x u ->
  ∃Z,(Instr.field s u f).run P w = .ok Z w/\RA w B aj ρ z Z:=by
 unfold I1 at h;split at h
 ·rename_i E cs L;have kP:∃ O,P.underlying s=some (.struct O)/\O[f]?=some E:=by
   unfold IG at L;split at L
   ·simp_all
   ·cases L
  obtain⟨O,lI,Aj⟩:=kP;split at h
  ·rename_i n T C;split at h
   ·rename_i hle
    refine⟨_,h,λw B aj ρ u D=>?_⟩
    obtain⟨us,rfl,hR⟩:=D;have U:(isAgg E.type).run P w = .ok true w:=by
     unfold E8 at C;split at C
     next fs' D=>unfold isAgg;rw[gF,ir D];rfl
     next c e D=>unfold isAgg;rw[gF,ir D];rfl
     ·cases C
     ·cases C
    unfold jN at T;cases hi:P.info? E.type with
    |none=>simp_all
    | some i=>
     have Cr:i.size=n:=by simpa [hi]using T
     refine⟨.agg (us.extract E.offset (E.offset+n)),by simp[Instr.field,ir lI,Aj,asAgg,part,gF,U,sizeOf,typeInfo,hi,Cr],_,rfl,?_,λj y Y=>?_⟩
     ·have:=hR.1
      grind
     ·obtain⟨hj,I3⟩:=O9 _ _ _ _ _ Y;obtain⟨v,hv,hr⟩:=hR.2 _ y I3
      grind
   ·cases h
  ·rename_i n T C;split at h
   ·rename_i y Y
    refine⟨_,h,λw B aj ρ u D=>?_⟩
    obtain⟨us,rfl,hR⟩:=D;obtain⟨v,hv,hr⟩:=hR.2 _ y Y;have U:(isAgg E.type).run P w = .ok false w:=by
     unfold E8 at C;split at C
     ·cases C
     ·cases C
     next d hs ha D=>unfold isAgg;rw[gF,ir D];simp_all
     ·cases C
    exact⟨v,by simp[Instr.field,ir lI,Aj,asAgg,part,gF,U,hv],hr⟩
   ·cases h
  ·cases h
 ·cases h
end
def V.val:V->Value
 |.int k n=>.int k n
 |.bool b=>.bool b
 |.str s=>.string s
 |_=>undef
def Pw:TypeDesc->V->V->ah Bool
 |.int _,.int k a,.int C b=>if k=C then some (a==b)else none
 |.bool,.bool a,.bool b=>some (a==b)
 |.string,.str a,.str b=>some (a.toList==b.toList)
 |_,_,_=>none
def I4(P:Program)(g:TypeId->aa V->aa V->ah Bool)(xs ys:aa V):aa Field->ah Bool
 |[]=>some true
 | f :: C=>bif f.name == "_" then I4 P g xs ys C else (match jN P f.type with
  | some n=>bif Nat.ble (f.offset+n) xs.length then (match g f.type ((xs.drop f.offset).take n) ((ys.drop f.offset).take n),I4 P g xs ys C with
   |some a,some b=>some (a&&b)
   |_,_=>none)else none
  |none=>none)
def Ak(P:Program):Nat->TypeId->aa V->aa V->ah Bool
 |0,_,_,_=>none
 | n+1,t,xs,ys=>match P.underlying t with
  |some (.struct C)=>bif P.stoodInHeld t ||!Nat.beq xs.length ys.length then none else I4 P (Ak P n) xs ys C.toList
  | some d=>(match xs,ys with
   |[x],[y]=>Pw d x y
   |_,_=>none)
  |none=>none
def Px:BinOp->ah Bool
 |.eql=>some false
 |.neq=>some true
 |_=>none
def ke{α:Type}:aa α->Bool
 |[]=>true
 |_=>false
def isStr(P:Program)(t:TypeId):Bool:=match P.underlying t with
 |some (.struct _)=>true
 |_=>false
def Al{X:Type}(P:Program)(σ:S)(D:BinOp)(t:TypeId)(x y:A)(k:A->ah X):ah X:=
 match Px D,x,y with
 | some C,.agg cs,.agg E=>(match rO cs,rO E with
  | some xs,some ys=>bif P.eqGuardType P.depth t || !isStr P t then none else (match Ak P 20 t xs ys with
   |some b=>k (.lf (.v (.bool (bif C then !b else b))))
   |none=>none)
  |_,_=>none)
 | some C,.lf l,.lf (.v .nil)=>(match qD P t with
  | some _=>pW σ l λz=>(match z with
   |.nil=>k (.lf (.v (.bool (bif C then false else true))))
   |.sl _ _ true _=>k (.lf (.v (.bool (bif C then true else false))))
   |.sl _ _ false l=>bif ke l then none else k (.lf (.v (.bool (bif C then true else false))))
   |_=>none)
  |none=>none)
 |_,_,_=>vK x λa=>vK y λb=>ID P t D a b λz=>k (.lf (.v z))
section
variable {P:Program} {w w':World} {w0:Wd} {B N:Nat} {aj aD:bM} {ρ ρ':Nat->Loc} {σ:S} {a:Act} {X:Type} {d:Nat} {r:X} {o:Oper}
def apD{D:TypeDesc}{x y:V}{b:Bool}{t:TypeId}{n:Nat}(C:P.underlying t=some D)(h:Pw D x y=some b):(Op.equalIn (n+1) t x.val y.val).run P w = .ok b w:=by
 unfold Pw at h;split at h
 ·split at h
  next L _ a k O E=>subst E;injection h with h;subst h;exact run_equalIn_int w n t _ _ _ _ C
  ·cases h
 ·injection h with h;subst h;exact run_equalIn_bool' w n t _ _ C
 ·injection h with h;subst h;exact run_equalIn_string w n t _ _ C
 ·cases h
def uk(P:Program)(t:TypeId)(xs:aa V)(u:Value):Prop:=
 match P.underlying t with
 |some (.struct _)=>u = .agg (xs.map V.val).toArray
 |_=>∃x,xs=[x]/\u=x.val
def ac7{t:TypeId}{n off:Nat}{xs:aa V}(O:jN P t=some n)(hle:off+n <= xs.length)(T:∃ d,P.underlying t=some d/\(∀ c e,d ≠ .array c e)/\((∀ C,d ≠ .struct C) -> n=1)):
  ∃u,(part t (xs.map V.val).toArray off).run P w = .ok u w/\uk P t ((xs.drop off).take n) u:=by
 obtain⟨d,D,U,Y⟩:=T;unfold jN at O;cases hi:P.info? t with
 |none=>grind
 | some i=>
  have Z:i.size=n:=by simpa [hi]using O
  by_cases E:∃C,d = .struct C
  ·obtain⟨C,rfl⟩:=E;have L:(isAgg t).run P w = .ok true w:=by
    unfold isAgg;rw[gF,ir D];rfl
   refine⟨.agg ((xs.map V.val).toArray.extract off (off+n)),by simp[part,gF,L,sizeOf,typeInfo,hi,Z],?_⟩;unfold uk;rw[D];simp only;congr 1;apply Array.ext';simp[List.map_drop,List.map_take]
  ·have L:(isAgg t).run P w = .ok false w:=by
    unfold isAgg;rw[gF,ir D w];cases d<;>first|rfl|(exfalso;exact E ⟨_,rfl⟩)|(exfalso;exact U _ _ rfl)
   have Am:n=1:=Y λC e=>E ⟨C,e⟩
   subst Am;have dQ:off<xs.length:=by omega
   have qE:(xs.map V.val).toArray[off]?=some (xs[off]).val:=by simp[dQ]
   refine⟨(xs[off]).val,by simp[part,gF,L,qE],?_⟩;have e1:(xs.drop off).take 1=[xs[off]]:=by
    rw[List.drop_eq_getElem_cons];rfl
   unfold uk;rw[D];split
   ·grind
   ·grind
def apE{n:Nat}{t:TypeId}{xs ys:aa V}{b:Bool}(h:Ak P n t xs ys=some b):∃ d,P.underlying t=some d/\(∀ c e,d ≠ .array c e)/\((∀ C,d ≠ .struct C) -> xs.length=1):=by
 cases n with
 |zero=>cases h
 | succ n=>
  unfold Ak at h;split at h
  ·simp_all
  ·rename_i d L D;split at h
   next x y=>exact⟨d,D,(λc e E=>by subst E;simp[Pw]at h),λ_=>rfl⟩
   ·cases h
  ·cases h
def V6{n:Nat}{xs ys:aa V}(hlen:xs.length=ys.length)(L:∀ t xs ys b,Ak P n t xs ys=some b -> ∀ u v,uk P t xs u -> uk P t ys v -> ∀ k,(Op.equalIn (k+n) t u v).run P w = .ok b w)(k:Nat):∀ (C:aa Field) (b:Bool),I4 P (Ak P n) xs ys C=some b ->
  (Op.eqFields (k+n) (xs.map V.val).toArray (ys.map V.val).toArray C).run P w = .ok b w
 | [],b,h=>by
  injection h with h;subst h;simp[Op.eqFields]
 | f :: C,b,h=>by
  unfold I4 at h;cases D:f.name == "_" with
  | true=>
   rw[D]at h;have:f.name = "_":=by simpa using D
   simp[Op.eqFields,this,not_true];exact V6 hlen L k C b h
  | false=>
   rw[D,aq]at h;have dH:f.name ≠ "_":=by simpa using D
   split at h
   ·rename_i s O;cases E:Nat.ble (f.offset+s) xs.length with
    |false=>simp_all
    | true=>
     rw[E,au]at h;have E:=cX E;split at h
     ·rename_i c e T h2;injection h with h;subst h;obtain⟨U,Y,Z,rS⟩:=apE T;have p7:((xs.drop f.offset).take s).length=s:=by simp;omega
      obtain⟨u,I5,qb⟩:=ac7 (w:=w) O E ⟨U,Y,Z,λh=>p7.symm.trans (rS h)⟩;obtain⟨v,V7,xW⟩:=ac7 (w:=w) (xs:=ys) (off:=f.offset) O (by omega) ⟨U,Y,Z,λh=>p7.symm.trans (rS h)⟩;have hr:=L _ _ _ c T u v qb xW k;have v8:=V6 hlen L k C e h2;simp only[Op.eqFields,dH,ne_eq,not_false_eq_true,if_true,gF,I5,V7,hr,mX];cases c
      ·simp
      ·simp_all
     ·cases h
   ·cases h
def ac8:∀ (n:Nat) (t:TypeId) (xs ys:aa V) (b:Bool),Ak P n t xs ys=some b -> ∀ u v,uk P t xs u -> uk P t ys v -> ∀ k,(Op.equalIn (k+n) t u v).run P w = .ok b w
 |0,t,xs,ys,b,h=>by cases h
 | n+1,t,xs,ys,b,h=>by
  intro u v C D k;unfold Ak at h;split at h
  ·rename_i U L;cases E:(P.stoodInHeld t || !Nat.beq xs.length ys.length)with
   |true=>simp_all
   | false=>
    rw[E,aq]at h;rw[pN,Bool.not_eq_false']at E;have hlen:=cK E.2;unfold uk at C D;rw[L]at C D;simp only at C D;subst C D;have Y:P.fieldsOf t=U:=by simp[Program.fieldsOf,L]
    rw[<- Nat.add_assoc,run_equalIn_struct w (k+n) t _ _ (by rw[Y];exact L) E.1,Y];exact V6 hlen (ac8 n) k U.toList b h
  ·rename_i d IC Z;split at h
   ·rename_i x y;unfold uk at C D;rw[Z]at C D;split at C
    ·simp_all
    ·split at D
     ·simp_all
     ·obtain⟨x',O,rfl⟩:=C;obtain⟨y',T,rfl⟩:=D;injection O with O;injection T with T;subst O T;exact apD Z h
   ·cases h
  ·cases h
def ac9{cs:aa Lf}{xs:aa V}(h:rO cs=some xs){u:Value}(D:RA w B aj ρ (.agg cs) u):u = .agg (xs.map V.val).toArray:=by
 obtain⟨e,E⟩:=Pa _ _ h;obtain⟨us,rfl,Y,L⟩:=D;congr 1;apply Array.ext';apply List.ext_getElem?;intro j;rw[ ff,Array.getElem?_toList];cases C:xs[j]? with
 |none =>simp_all
 | some x=>
  obtain⟨v,O,T⟩:=L j _ (by rw[e,ff,C];rfl);rw[O];have:=E x (iq C);have U:=T.2;cases U<;>first|rfl|cases this
def Fm{C:BinOp}{D:Bool}(E:Px C=some D){t e:TypeId}(L:P.underlying t=some (.slice e))(O T:Operand)(A:ah Addr)(n c:Nat):
  (do eqGuard C t O T (.slice A n c) (.slice none 0 0);binOp C t (.slice A n c) (.slice none 0 0):Sem Value).run P w = .ok (.bool (bif D then !A.isNone else A.isNone)) w:=by
 have U:(Op.equal t (.slice A n c) (.slice none 0 0)).run P w = .ok A.isNone w:=by
  have h:∀ d,(Op.equalIn (d+1) t (.slice A n c) (.slice none 0 0)).run P w = .ok A.isNone w:=by
   intro d;cases A<;>simp[Op.equalIn,ir L]
  exact h 9999
 cases C<;>simp[Px]at E<;>subst E<;>simp[eqGuard,binOp,U]
def apF{op:BinOp}{t:TypeId}{x y:A}{k:A -> ah X}(h:Al P σ op t x y k=some r):∃ z,k z=some r /\ ∀ aj ρ a w,Rl w0 N aj ρ σ a w -> ∀ C D u v,RA w w0.heap.size aj ρ x u -> RA w w0.heap.size aj ρ y v ->
  ∃t',(do eqGuard op t C D u v;binOp op t u v:Sem Value).run P w = .ok t' w/\RA w w0.heap.size aj ρ z t':=by
 unfold Al at h;split at h
 ·rename_i T cs ds O;split at h
  ·rename_i xs ys pX um;cases hg:(P.eqGuardType P.depth t || !isStr P t)with
   |true=>simp_all
   | false=>
    rw[hg,aq]at h;rw[pN,Bool.not_eq_false']at hg;obtain⟨hg,kP⟩:=hg;split at h
    ·rename_i b hb
     refine⟨_,h,λaj ρ a w hR C D u v E L=>?_⟩
     have E:=ac9 pX E;have L:=ac9 um L;subst E L;have hs:∃ fs,P.underlying t=some (.struct fs):=by
      unfold isStr at kP;split at kP
      ·simp_all
      ·cases kP
     obtain⟨fs,Aj⟩:=hs;have Y:=ac8 (w:=w) 20 t xs ys b hb (.agg (xs.map V.val).toArray) (.agg (ys.map V.val).toArray) (by unfold uk;rw[Aj]) (by unfold uk;rw[Aj]) 9980;refine⟨.bool (bif T then !b else b),?_,rfl,.bool _ _⟩;rw[gF,run_eqGuard_agg w op t C D _ _ hg,mX];cases op<;>simp[Px]at O<;>subst O
     ·rw[run_eql_struct,Y];rfl
     ·rw[run_neq_struct,Y];rfl
    ·cases h
  ·cases h
 ·rename_i T l O;split at h
  ·rename_i e he;have Z:P.underlying t=some (.slice e):=by
    unfold qD at he;split at he
    ·simp_all
    ·cases he
   obtain⟨z,hz,U⟩:=V0 (w0:=w0) (N:=N) h;clear h;split at U
   ·refine⟨_,U,λaj ρ a w hR C D u v E L=>?_⟩
    obtain⟨q,hq⟩:=hz aj ρ a w hR u E;cases hq;cases L.2;exact⟨_,Fm O Z C D none 0 0,rfl,by cases T<;>exact .bool _ _⟩
   ·refine⟨_,U,λaj ρ a w hR C D u v E L=>?_⟩
    obtain⟨q,hq⟩:=hz aj ρ a w hR u E;cases L.2;cases hq with
    |aF _ _ _ _ _ b off cap us ho hl hb h1 jL hc Y=>exact⟨_,Fm O Z C D _ _ _,rfl,by cases T<;>exact .bool _ _⟩
    |own=>exact⟨_,Fm O Z C D _ _ _,rfl,by cases T<;>exact .bool _ _⟩
    |gq=>exact⟨_,Fm O Z C D _ _ _,rfl,by cases T<;>exact .bool _ _⟩
   ·rename_i t' o' l';cases hl:ke l' with
    |true=>simp_all
    | false=>
     rw[hl,aq]at U
     refine⟨_,U,λaj ρ a w hR C D u v E L=>?_⟩
     obtain⟨q,hq⟩:=hz aj ρ a w hR u E;cases L.2;cases hq with
     |eU=>cases hl
     |gd=>cases hl
     |aF _ _ _ _ _ b off cap us ho CD hb h1 jL hc Y=>exact⟨_,Fm O Z C D _ _ _,rfl,by cases T<;>exact .bool _ _⟩
     |own=>exact⟨_,Fm O Z C D _ _ _,rfl,by cases T<;>exact .bool _ _⟩
   ·cases U
  ·cases h
 ·obtain⟨u0,hx,h1⟩:=VI h;obtain⟨v0,hy,U⟩:=VI h1;obtain⟨z,h3,hp,hs⟩:=ao7 U;subst hx hy
  refine⟨_,h3,λaj ρ a w hR C D u v E L=>?_⟩
  obtain⟨t',dZ,Y⟩:=hs w _ aj C D [] [] _ _ E.2 L.2;exact⟨t',dZ,V.IF hp,Y⟩
/-! Parts of slices that nobody writes. -/
def Fo{x:ah A}{C:Int}{k:Int->ah X}(h:uj x C k=some r):∃ n,k n=some r/\(∀ (E:Type) (D:Int->ah E),uj x C D=D n)/\((x=none/\n=C)\/∃ L,x=some (.lf (.v (.int L n)))):=by
 unfold uj at h;split at h
 ·exact⟨_,h,λ_ _=>rfl,.inl ⟨rfl,rfl⟩⟩
 ·exact⟨_,h,λ_ _=>rfl,.inr ⟨_,rfl⟩⟩
 ·cases h
def apG{t:TypeId}{x:A}{lo hi:ah A}{k:A -> ah X}(h:xU P t x lo hi k=some r):∃ y,k y=some r/\(∀ (O:Type) (L:A -> ah O),xU P t x lo hi L=L y) /\
  ((∃ (s:ByteArray) (l h:Int),x = .lf (.v (.str s))/\P.underlying t=some .string/\((lo=none/\l=0) \/ ∃ C,lo=some (.lf (.v (.int C l))))/\((hi=none/\h=s.size) \/ ∃ C,hi=some (.lf (.v (.int C h))))/\0 <= l/\l <= h/\h <= (s.size:Int)/\y = .lf (.v (.str (s.extract l.toNat h.toNat)))) \/
   ∃(E:TC) (g:Nat) (U:Bool) (xs:aa (T E)) (e:TypeId) (l h:Int),x = .lf (.v (.sl E g U xs))/\qD P t=some e/\jN P e=some (aE E)/\g<2/\((lo=none/\l=0) \/ ∃C,lo=some (.lf (.v (.int C l))))/\((hi=none/\h=xs.length) \/ ∃C,hi=some (.lf (.v (.int C h))))/\0 <= l/\l <= h/\h <= (xs.length:Int)/\y = .lf (.v (.sl E g false ((xs.take h.toNat).drop l.toNat)))):=by
 unfold xU at h;split at h
 ·rename_i s;split at h
  ·rename_i hu;obtain⟨l,Y,d1,Z⟩:=Fo h;obtain⟨m,D,d2,e2⟩:=Fo Y;split at D
   ·rename_i hb
    refine⟨_,D,λO L=>?_,.inl ⟨s,l,m,rfl,hu,Z,e2,hb.1,hb.2.1,hb.2.2,rfl⟩⟩
    simp[xU,hu];simp_all
   ·cases D
  ·cases h
 ·rename_i E g U xs;split at h
  ·rename_i e he;split at h
   ·rename_i n hn;split at h
    ·rename_i Cw;subst Cw;cases hg:Nat.blt g 2 with
     |false=>simp_all
     | true=>
      rw[hg,au]at h;obtain⟨l,Y,d1,Z⟩:=Fo h;obtain⟨m,D,d2,e2⟩:=Fo Y;split at D
      ·rename_i hb
       refine⟨_,D,λO L=>?_,.inr ⟨E,g,U,xs,e,l,m,rfl,he,hn,cX hg,Z,e2,hb.1,hb.2.1,hb.2.2,rfl⟩⟩
       simp[xU,he,hn,if_true,hg,au];simp_all
      ·cases D
    ·cases h
   ·cases h
  ·cases h
 ·cases h
def apH{t:TypeId}{x:A}{lo hi:ah A}{k:A->ah X}(h:xU P t x lo hi k=some r):∃ y,k y=some r/\(∀ (X':Type) (k':A->ah X'),xU P t x lo hi k'=k' y)/\
  ∀ (w:World) (B:Nat) (aj:bM) (ρ:Nat->Loc) (u:Value) (U C:ah Value),RA w B aj ρ x u->(∀ a,lo=some a->∃ v,U=some v/\RA w B aj ρ a v)->(lo=none->U=none)->(∀ a,hi=some a->∃ v,C=some v/\RA w B aj ρ a v)->(hi=none->C=none)->
   ∃t',(Instr.sliceAt t u U C none).run P w = .ok t' w/\RA w B aj ρ y t':=by
 obtain⟨y,h1,hd,hc⟩:=apG h
 refine⟨y,h1,hd,λw B aj ρ u U C Z p7 kN Py Pz=>?_⟩
 have bl:∀ {o:ah A} {E:ah Value} {n CE:Int},(∀ a,o=some a->∃ v,E=some v/\RA w B aj ρ a v)->(o=none->E=none)->((o=none/\n=CE)\/∃ L,o=some (.lf (.v (.int L n))))->(E=none/\n=CE)\/∃ L,E=some (.int L n):=by
  intro o E n CE g1 g2 g3;rcases g3 with ⟨e,e'⟩|⟨L,e⟩
  ·exact .inl ⟨g2 e,e'⟩
  ·obtain⟨v,C,hr⟩:=g1 _ e;exact .inr ⟨L,by rw[C,hr.2.iI]⟩
 rcases hc with ⟨s,l,m,rfl,O,e1,e2,b1,b2,b3,rfl⟩|⟨tc,g,qn,xs,e,l,m,rfl,D,hn,hg,e1,e2,b1,b2,b3,rfl⟩
 ·have h5:=bl p7 kN e1;have h6:=bl Py Pz e2;obtain rfl:=Z.2.xO;have em:(m.toNat:Int)=m:=Int.toNat_of_nonneg (by omega);refine⟨.string (s.extract l.toNat m.toNat),?_,rfl,.str _ _⟩;rw[run_sliceAt_string w t _ _ _ _ O];have V8:0<=m:=by omega
  rcases h5 with ⟨rfl,h7⟩|⟨kl,rfl⟩<;>rcases h6 with ⟨rfl,h8⟩|⟨kh,rfl⟩
  all_goals simp_all [Instr.slice,ir O,Instr.sliceBounds,run_sliceBound]
 ·have h5:=bl p7 kN e1;have h6:=bl Py Pz e2;have O:P.underlying t=some (.slice e):=by
   unfold qD at D;split at D
   next e' vX=>injection D with D;rw[<-D];exact vX
   ·cases D
  have iQ:P.elem t=e:=by simp[Program.elem,O]
  have T:P.underlying t=some (.slice (P.elem t)):=by rw[iQ];exact O
  have Y:(sizeOf (P.elem t)).run P w = .ok (aE tc) w:=by
   unfold jN at hn;cases hi:P.info? e with
   |none=>simp[hi]at hn
   | some i=>
    have:i.size=aE tc:=by simpa [hi]using hn
    simp[sizeOf,typeInfo,iQ,hi,this]
  have lI:∃ A n c,u = .slice A n c:=by
   cases Z.2 with
   |eU=>exact⟨_,_,_,rfl⟩
   |gd=>exact⟨_,_,_,rfl⟩
   |gq=>exact⟨_,_,_,rfl⟩
   |aF=>exact⟨_,_,_,rfl⟩
   |own=>exact⟨_,_,_,rfl⟩
  obtain⟨A,n,c,rfl⟩:=lI;obtain⟨hp,Am,V9⟩:=Z.2.part (a:=l.toNat) (h:=m.toNat) hg (by omega) (by omega);refine⟨_,?_,by simp[V.aF,hg],hp⟩;rw[run_sliceAt_slice w t _ _ _ _ T];rcases h5 with ⟨rfl,rfl⟩|⟨kl,rfl⟩<;>rcases h6 with ⟨rfl,rfl⟩|⟨kh,rfl⟩
  ·rw[run_slice_all w t A n c T,Y,Am];simp
  ·rw[run_slice_h w t A n c T kh m (by omega) (by omega),Y];simp
  ·rw[run_slice_l w t A n c T kl l (by omega) (by omega),Y,Am];simp
  ·rw[run_slice_lh w t A n c T kl kh l m (by omega) (by omega) (by omega),Y];simp
/-! Parts of slices that are owned. -/
def Fp{X:Type}(n:Nat)(q:aa Nat)(C:ah Nat)(lo hi:ah A)(y:V)(k:A->ah X):ah X:=
 match y with
 |.sl D _ _ l=>if n=aE D then uj lo 0 λa=>uj hi ((C.getD l.length:Nat):Int) λb=>if 0<=a/\a<=b/\b<=(l.length:Int)then k (.view q n a.toNat b.toNat)else none else none
 |_=>none
def CF{X:Type}(P:Program)(σ:S)(t:TypeId)(q:aa Nat)(C:ah Nat)(lo hi:ah A)(k:A->ah X):ah X:=
 match qD P t with
 | some e=>(match jN P e with
  |some n=>jA σ.m q λy=>Fp n q C lo hi y k
  |none=>none)
 |none=>none
def An{X:Type}(P:Program)(σ:S)(t:TypeId)(x:A)(lo hi:ah A)(k:A->ah X):ah X:=
 match x with
 |.lf (.own q)=>CF P σ t q none lo hi k
 |.view q _ 0 j=>CF P σ t q (some j) lo hi k
 |x=>xU P t x lo hi k
def apI{n:Nat}{q:aa Nat}{D:ah Nat}{lo hi:ah A}{y:V}{k:A -> ah X}(h:Fp n q D lo hi y k=some r):∃ (C:TC) (g:Nat) (E:Bool) (xs:aa (T C)) (l h:Int),y = .sl C g E xs/\n=aE C /\
  ((lo=none/\l=0) \/ ∃L,lo=some (.lf (.v (.int L l))))/\((hi=none/\h=((D.getD xs.length:Nat):Int)) \/ ∃L,hi=some (.lf (.v (.int L h))))/\0 <= l/\l <= h/\h <= (xs.length:Int)/\k (.view q n l.toNat h.toNat)=some r /\
  ∀(Y:Type) (O:A -> ah Y),Fp n q D lo hi y O=O (.view q n l.toNat h.toNat):=by
 unfold Fp at h;split at h
 ·rename_i C g E xs;split at h
  ·rename_i Z;obtain⟨l,h1,d1,e1⟩:=Fo h;obtain⟨m,U,d2,e2⟩:=Fo h1;split at U
   ·rename_i hb
    refine⟨C,g,E,xs,l,m,rfl,Z,e1,e2,hb.1,hb.2.1,hb.2.2,U,λY O=>?_⟩
    simp[Fp,bJ Z];simp_all
   ·cases U
  ·cases h
 ·cases h
def ada{t:TypeId}{q:aa Nat}{dh:ah Nat}{lo hi:ah A}{k:A -> ah X}(h:CF P σ t q dh lo hi k=some r):∃ y,k y=some r /\
  ∀ aj ρ a w,Rl w0 N aj ρ σ a w -> ∀ (D:ah Addr) (n c C:Nat) (U E:ah Value),dm w aj ρ q=some (.slice D n c) -> C=dh.getD n -> C <= n -> (∀ a,lo=some a -> ∃ v,U=some v/\RA w w0.heap.size aj ρ a v) -> (lo=none -> U=none) -> (∀ a,hi=some a -> ∃ v,E=some v/\RA w w0.heap.size aj ρ a v) -> (hi=none -> E=none) ->
   ∃t',(Instr.sliceAt t (.slice D C c) U E none).run P w = .ok t' w/\RA w w0.heap.size aj ρ y t':=by
 unfold CF at h;split at h
 ·rename_i e he;split at h
  ·rename_i n hn;obtain⟨y0,Wa,h2⟩:=sU q _ h;obtain⟨tc,g,qn,xs,l,m,rfl,Cw,e1,e2,b1,b2,b3,h3,_⟩:=apI h2
   refine⟨_,h3,λaj ρ a w hR D n' c C U E kK Wb hle p7 kN Py Pz=>?_⟩
   have bl:∀ {o:ah A} {L:ah Value} {n CE:Int},(∀ a,o=some a -> ∃ v,L=some v/\RA w w0.heap.size aj ρ a v) -> (o=none -> L=none) -> ((o=none/\n=CE) \/ ∃ O,o=some (.lf (.v (.int O n)))) -> (L=none/\n=CE) \/ ∃ O,L=some (.int O n):=by
    intro o L n CE g1 g2 g3;rcases g3 with ⟨e,e'⟩|⟨O,e⟩
    ·grind
    ·obtain⟨v,E,hr⟩:=g1 _ e;exact .inr ⟨O,by rw[E,hr.2.iI]⟩
   have h5:=bl p7 kN e1;have h6:=bl Py Pz e2;have gH:P.underlying t=some (.slice e):=by
    unfold qD at he;split at he
    ·grind
    ·cases he
   have iQ:P.elem t=e:=by simp[Program.elem,gH]
   have T:P.underlying t=some (.slice (P.elem t)):=by rw[iQ];exact gH
   have Y:(sizeOf (P.elem t)).run P w = .ok n w:=by
    unfold jN at hn;cases hi:P.info? e with
    |none=>grind
    | some i=>
     have:i.size=n:=by simpa [hi]using hn
     simp[sizeOf,typeInfo,iQ,hi,this]
   obtain⟨v0,Z,iZ⟩:=Wa.ok hR.root;rw[kK]at Z;injection Z with Z;subst Z;have hf:RV w 0 (λ_=>none) [] (.sl tc 0 qn xs) (.slice D n' c):=iZ.gN;obtain⟨hp,Am,V9⟩:=hf.part (a:=l.toNat) (h:=m.toNat) (by omega) (by omega) (by omega);have apJ:((dh.getD xs.length:Nat):Int)=(C:Int):=by rw[Wb,Am]
   rw[apJ]at h6;refine⟨sliced D l.toNat m.toNat c n,?_,D,n',c,kK,by omega,by omega,rfl⟩;rw[run_sliceAt_slice w t _ _ _ _ T];rcases h5 with ⟨rfl,rfl⟩|⟨kl,rfl⟩<;>rcases h6 with ⟨rfl,rfl⟩|⟨kh,rfl⟩
   ·rw[run_slice_all w t D C c T,Y];simp
   ·rw[run_slice_h w t D C c T kh m (by omega) (by omega),Y];simp
   ·rw[run_slice_l w t D C c T kl l (by omega) (by omega),Y];simp
   ·rw[run_slice_lh w t D C c T kl kh l m (by omega) (by omega) (by omega),Y];simp
  ·cases h
 ·cases h
def apK{t:TypeId}{x:A}{lo hi:ah A}{k:A -> ah X}(h:An P σ t x lo hi k=some r):∃ y,k y=some r /\
  ∀ aj ρ a w,Rl w0 N aj ρ σ a w -> ∀ (u:Value) (C D:ah Value),RA w w0.heap.size aj ρ x u -> (∀ a,lo=some a -> ∃ v,C=some v/\RA w w0.heap.size aj ρ a v) -> (lo=none -> C=none) -> (∀ a,hi=some a -> ∃ v,D=some v/\RA w w0.heap.size aj ρ a v) -> (hi=none -> D=none) ->
   ∃t',(Instr.sliceAt t u C D none).run P w = .ok t' w/\RA w w0.heap.size aj ρ y t':=by
 unfold An at h;split at h
 ·rename_i q;obtain⟨y,E,L⟩:=ada h
  refine⟨y,E,λaj ρ a w hR u C D O T U Y Z=>?_⟩
  have gG:∃ A n c,u = .slice A n c:=by
   have:=O.1;cases u<;>first|cases this;done|exact⟨_,_,_,rfl⟩
  obtain⟨A,n,c,rfl⟩:=gG;exact L aj ρ a w hR A n c n C D O.2 rfl (dW _) T U Y Z
 ·rename_i q s j;obtain⟨y,E,L⟩:=ada h
  refine⟨y,E,λaj ρ a w hR u C D O T U Y Z=>?_⟩
  obtain⟨A,n,c,kK,_,a2,rfl⟩:=O;have e:sliced A 0 j c s = .slice A j c:=by cases A<;>simp[sliced,Addr.add]
  rw[e];exact L aj ρ a w hR A n c j C D kK rfl a2 T U Y Z
 ·obtain⟨y,E,_,L⟩:=apH h;exact⟨y,E,λaj ρ a w _ u C D=>L w _ aj ρ u C D⟩
end
abbrev Pt:=Bool×aa V
def PV(w:World)(B:Nat)(aj:bM)(key:Nat->aa Nat)(p:Pt)(u:Value):Prop:=
 ∃us:Array Value,(match p.1 with|true=>u = .agg us|false=>us = #[u])/\us.size=p.2.length/\∀(j:Nat) x,p.2[j]?=some x->∃v,us[j]?=some v/\RV w B aj (key j) x v
def Ao(w:World)(cs:aa V)(u:Value):Prop:=
 ∃b off,u = .pointer (some ⟨b,off,none⟩)/\b<w.heap.size/\∀(j:Nat) x,cs[j]?=some x->∃v,w.cell? ⟨b,off+j,none⟩=some v/\RV w w.heap.size (λ_=>none) [] x v
inductive PA (w:World):Pt->Value->Prop
 |v (p:Pt) (u:Value) (h:PV w w.heap.size (λ_=>none) (λ_=>[]) p u):PA w p u
 |p (c:V) (cs:List V) (u:Value) (h:Ao w (c::cs) u):PA w (false,.bool true::c::cs) u
 |f (g:Nat) (c:V) (cs:List V) (u:Value) (h:Ao w (c::cs) u):PA w (false,.bool false::.int .i64 (g:Int)::c::cs) (.func (.func g) #[] #[u])
def qc(w:World)(args:aa Pt)(bX:Array Value):Prop:=
 bX.size=args.length/\∀(i:Nat) p,args[i]?=some p->∃u,bX[i]?=some u/\PA w p u
def PA.pv{w:World}{x:V}{u:Value}(h:PA w (false,[x]) u):PV w w.heap.size (λ_=>none) (λ_=>[]) (false,[x]) u:=by
 cases h with
 |v _ _ h=>exact h
def PA.pvS{w:World}{xs:aa V}{u:Value}(h:PA w (true,xs) u):PV w w.heap.size (λ_=>none) (λ_=>[]) (true,xs) u:=by
 cases h with
 |v _ _ h=>exact h
inductive gC where
 |one (p:Pt)
 |fB (ps:List Pt)
def Ap(t:TC):Nat->Bool
 |0=>false
 |1=>true
 |o+2=>Nat.ble (full t) o ||Nat.beq (o % 2) 1
def V.loc:V->Bool
 |.sl t o _ _=>Ap t o
 |_=>true
def kf(w:World)(B:Nat)(aj:bM)(nm:Nat->Nat):Nat->aa Pt->aa Value->Prop
 |_,[],[]=>True
 |off,p::ps,v::C=>(p.2.all V.loc=true/\PV w B aj (λj=>[nm (off+j)]) p v)/\kf w B aj nm (off+p.2.length) ps C
 |_,_,_=>False
def qI(w:World)(B:Nat)(aj:bM)(nm:Nat->Nat):gC->Value->Prop
 |.one p,v=>kf w B aj nm 0 [p] [v]
 |.fB ps,v=>∃C:Array Value,v = .tuple C/\kf w B aj nm 0 ps C.toList
structure jl where
 run:(X:Type)->List Pt->(gC->Option X)->Option X
def iR(P:Program)(f:Nat)(c:jl):Prop:=
 (∀ args,cS λX k=>c.run X args k)/\∀ args C,c.run gC args some=some C->∀ (nm:Nat->Nat) (w:World) (bX:Array Value),qc w args bX->Hd w (λ_=>none)->
  Calls P f bX w λe w'=>∃v aD,e = .returned v/\Below w.heap.size w w'/\(∀b k,aD b=some k->w.heap.size<=b/\b<w'.heap.size/\k≠[])/\qI w' w.heap.size aD nm C v
def rT{X:Type}(σ:S):aa Lf->(aa V->ah X)->ah X
 |[],k=>k []
 |x::xs,k=>pW σ x λy=>rT σ xs λys=>k (y.gN::ys)
def oR{X:Type}(σ:S)(x:A)(k:Pt->ah X):ah X:=
 match x with
 |.lf y=>rT σ [y] λC=>k (false,C)
 |.agg ys=>rT σ ys λC=>k (true,C)
 |.view q s i j=>vU σ q s i j λy=>k (false,[y])
 |.jy (c::cs)=>k (false,.bool true::c.gN::cs.map V.gN)
 |_=>none
def v9{X:Type}(σ:S)(x:A)(k:Pt->ah X):ah X:=
 match x with
 |.jy (c::cs)=>k (false,.bool true::c.gN::cs.map V.gN)
 |.n8 f (c::cs)=>k (false,.bool false::.int .i64 (f:Int)::c.gN::cs.map V.gN)
 | .aG r j=>(match σ.m r with
  | some (.aB cs)=>rT σ (cs.drop j) λC=>(match C with
   |c::cs=>k (false,.bool true::c::cs)
   |[]=>none)
  |_=>none)
 | .fn f [(r,j)]=>(match σ.m r with
  | some (.aB cs)=>rT σ (cs.drop j) λC=>(match C with
   |c::cs=>k (false,.bool false::.int .i64 (f:Int)::c::cs)
   |[]=>none)
  |_=>none)
 |x=>oR σ x k
def we{X:Type}(f:A->(Pt->ah X)->ah X)(σ:S):aa Operand->(aa Pt->ah X)->ah X
 |[],k=>k []
 |x::xs,k=>f (aP σ x) λp=>we f σ xs λps=>k (p::ps)
def CG{X:Type}(σ:S)(xs:aa Operand)(k:aa Pt->ah X):ah X:=we (v9 σ) σ xs k
def sY{X:Type}(σ:S)(xs:aa Operand)(k:aa Pt->ah X):ah X:=we (oR σ) σ xs k
def oS(c:Nat):aa V->aa Lf
 |[]=>[]
 |x::xs=>(bif x.aF then .v x else .own [c])::oS (c+1) xs
def ng(c:Nat)(σ:S):aa V->S
 |[]=>σ
 |x::xs=>ng (c+1) (bif x.aF then σ else (σ.drop c).root c (.sl x)) xs
def sZ(c:Nat):aa Pt->aa (Bool×aa Lf)
 |[]=>[]
 |p::ps=>(p.1,oS c p.2)::sZ (c+p.2.length) ps
def qd(c:Nat)(σ:S):aa Pt->S
 |[]=>σ
 |p::ps=>qd (c+p.2.length) (ng c σ p.2) ps
def oT{X:Type}(σ:S)(d:Nat)(C:gC)(k:S->ah X):ah X:=match C with
 | .one p=>(match Ab (p.1,oS (1000000000100000+1000*d) p.2)with
  |some y=>k ((ng (1000000000100000+1000*d) σ p.2).set d y)
  |none=>none)
 |.fB ps=>k ((qd (1000000000100000+1000*d) σ ps).set d (.fB (sZ (1000000000100000+1000*d) ps)))
def s7{X:Type}(N:Nat)(σ:S)(d:Nat)(c:jl)(ev:(aa Pt->ah X)->ah X)(k:S->ah X):ah X:=
 bif Nat.blt d N then ev λps=>c.run X ps λC=>oT σ d C k else none
def apL{X:Type}(N:Nat)(σ:S)(d:Nat)(c:jl)(args:aa Operand)(k:S->ah X):ah X:=s7 N σ d c (CG σ args) k
def apM{X:Type}(N:Nat)(σ:S)(d:Nat)(c:jl)(args:aa Operand)(k:S->ah X):ah X:=s7 N σ d c (sY σ args) k
section
variable {P:Program} {w w':World} {w0:Wd} {B N:Nat} {aj aD:bM} {ρ ρ':Nat->Loc} {σ:S} {a:Act} {X:Type} {d:Nat} {r:X} {o:Oper}
def I6:∀ (xs:aa Lf) (k:aa V -> ah X),rT σ xs k=some r -> ∃ C,k C=some r/\C.length=xs.length /\ ∀ aj ρ a w,Rl w0 N aj ρ σ a w -> ∀ (j:Nat) x y u,xs[j]?=some x -> C[j]?=some y -> eE w w0.heap.size aj ρ x u -> RV w w.heap.size (λ_=>none) [] y u
 |[],k,h=>⟨[],h,rfl,λ_ _ _ _ _ j x y u L=>by simp at L⟩
 | x :: xs,k,h=>by
  obtain⟨y,O,T⟩:=V0 h;obtain⟨ys,U,hl,hr⟩:=I6 xs _ T
  refine⟨y.gN::ys,U,by simp[hl],λaj ρ a w hR j x' y' u D E Y=>?_⟩
  cases j with
  | zero=>
   simp at D E;subst D E;obtain⟨q,Z⟩:=O aj ρ a w hR u Y;exact Z.gN
  |succ j=>grind
def adb{D C:Nat}{cs:aa Lf}{E:aa V}(Y:σ.m D=some (.aB cs))(hl:E.length=(cs.drop C).length)
  (Z:∀aj ρ a w,Rl w0 N aj ρ σ a w->∀(j:Nat) x y u,(cs.drop C)[j]?=some x->E[j]?=some y->eE w w0.heap.size aj ρ x u->RV w w.heap.size (λ_=>none) [] y u)
  {aj:bM} {ρ:Nat->Loc} {a:Act} {w:World} {u:Value} (hR:Rl w0 N aj ρ σ a w) (hu:RA w w0.heap.size aj ρ (.aG D C) u):Ao w E u:=by
 obtain⟨b,off,e1,rfl⟩:=hu;cases hR.root D _ Y with
 | aB b' II cells e _ us L oU O hs hc=>
  rw[e1]at L;injection L with q1 q2;subst q1 q2
  refine⟨b,off+C,rfl,(jj.1 O).1,λj x T=>?_⟩
  have hj:j<(cs.drop C).length:=by rw[<-hl];exact(eo.1 T).1
  have U:=bY hj;have apN:cs[C+j]?=some (cs.drop C)[j]:=by rw[<-List.getElem?_drop];exact U
  obtain⟨k1,k2⟩:=hc _ _ apN;refine⟨us (C+j),?_,Z aj ρ a w hR j _ x _ U T k2⟩;rw[Nat.add_assoc,cell_of_row w b _ cells _ _ O];exact k1
def Wc{cs:aa V}{u:Value}(E:RF w B aj cs u):Ao w (cs.map V.gN) u:=by
 obtain⟨b,off,rfl,L,Y,O⟩:=E
 refine⟨b,off,rfl,L,λj x C=>?_⟩
 rw[ff]at C;cases D:cs[j]? with
 |none=>simp_all
 | some y=>
  rw[D]at C;injection C with C;subst C;obtain⟨_,v,T,U⟩:=O j y D;exact⟨v,T,U.gN⟩
def ade{x:A}{k:Pt -> ah X}(h:oR σ x k=some r):∃ p,k p=some r /\ ∀ aj ρ a w,Rl w0 N aj ρ σ a w -> ∀ u,RA w w0.heap.size aj ρ x u -> PA w p u:=by
 unfold oR at h;split at h
 ·rename_i y;obtain⟨U,E,hl,O⟩:=I6 (w0:=w0) (N:=N) _ _ h
  refine⟨_,E,λaj ρ a w hR u C=>.v _ _ ⟨#[u],rfl,by simp[hl],λj x D=>?_⟩⟩
  have L:j=0:=by
   grind
  subst L;exact⟨u,rfl,O aj ρ a w hR 0 y x u rfl D C⟩
 ·rename_i ys;obtain⟨U,E,hl,O⟩:=I6 (w0:=w0) (N:=N) _ _ h
  refine⟨_,E,λaj ρ a w hR u C=>?_⟩
  obtain⟨us,rfl,T⟩:=C
  refine .v _ _ ⟨us,rfl,by rw[hl];exact T.1,λj x D=>?_⟩
  have L:j<ys.length:=by rw[<- hl];exact(eo.1 D).1
  obtain⟨v,Z,fU⟩:=T.2 j _ (bY L)
  grind
 ·obtain⟨z,E,_,Y⟩:=acH h
  refine⟨_,E,λaj ρ a w hR u C=>.v _ _ ⟨#[u],rfl,rfl,λj x D=>?_⟩⟩
  cases j with
  | zero=>
   simp at D;subst D;exact⟨u,rfl,Y _ _ _ _ _ _ hR u C _⟩
  |succ j=>simp at D
 next c cs=>exact⟨_,h,λaj ρ a w hR u C=>.p _ _ _ (Wc C)⟩
 ·cases h
def apO{x:A}{k:Pt -> ah X}(h:v9 σ x k=some r):∃ p,k p=some r /\ ∀ aj ρ a w,Rl w0 N aj ρ σ a w -> ∀ u,RA w w0.heap.size aj ρ x u -> PA w p u:=by
 unfold v9 at h;split at h
 ·rename_i c cs
  refine⟨_,h,λaj ρ a w hR u C=>?_⟩
  exact .p _ _ _ (Wc C)
 ·rename_i f c cs
  refine⟨_,h,λaj ρ a w hR u C=>?_⟩
  obtain⟨pv,rfl,E⟩:=C;exact .f _ _ _ _ (Wc E)
 ·rename_i U T;split at h
  ·rename_i cs L;obtain⟨Y,D,hl,O⟩:=I6 (w0:=w0) (N:=N) _ _ h;split at D
   ·rename_i c fe
    refine⟨_,D,λaj ρ a w hR u C=>?_⟩
    exact .p _ _ _ (adb L hl O hR C)
   ·cases D
  ·cases h
 ·rename_i f U T;split at h
  ·rename_i cs L;obtain⟨Y,D,hl,O⟩:=I6 (w0:=w0) (N:=N) _ _ h;split at D
   ·rename_i c fe
    refine⟨_,D,λaj ρ a w hR u C=>?_⟩
    obtain⟨ps,rfl,hs,E⟩:=C;obtain⟨b,off,Z,e2⟩:=E 0 _ rfl;have e:ps = #[.pointer (some ⟨b,off+T,none⟩)]:=by
     grind
    subst e;exact .f _ _ _ _ (adb L hl O hR ⟨b,off,Z,rfl⟩)
   ·cases D
  ·cases h
 ·exact ade h
def We{f:A->(Pt->ah X)->ah X}(E:∀ x k,f x k=some r->∃ p,k p=some r/\∀ aj ρ a w,Rl w0 N aj ρ σ a w->∀ u,RA w w0.heap.size aj ρ x u->PA w p u):
  ∀(xs:aa Operand) (k:aa Pt->ah X),we f σ xs k=some r->∃ps,k ps=some r/\∀aj ρ a w,Rl w0 N aj ρ σ a w->qc w ps (xs.map a.eval).toArray
 |[],k,h=>⟨[],h,λ_ _ _ _ _=>⟨rfl,λi p C=>by simp at C⟩⟩
 | x :: xs,k,h=>by
  unfold we at h;obtain⟨p,O,C⟩:=E _ _ h;obtain⟨ps,T,L⟩:=We E xs _ O
  refine⟨p::ps,T,λaj ρ a w hR=>⟨?_,λi q D=>?_⟩⟩
  ·have:=(L aj ρ a w hR).1;simp at this;simp[this]
  ·cases i with
   | zero=>
    simp at D;subst D;exact⟨_,rfl,C aj ρ a w hR _ (hR.aP x)⟩
   | succ i=>
    obtain⟨u,U,Y⟩:=(L aj ρ a w hR).2 i q (by simpa using D);exact⟨u,by simpa using U,Y⟩
def apP(xs:aa Operand)(k:aa Pt->ah X)(h:CG σ xs k=some r):∃ps,k ps=some r/\∀aj ρ a w,Rl w0 N aj ρ σ a w->qc w ps (xs.map a.eval).toArray:=We (λ_ _=>apO) xs k h
def adf(xs:aa Operand)(k:aa Pt->ah X)(h:sY σ xs k=some r):∃ps,k ps=some r/\∀aj ρ a w,Rl w0 N aj ρ σ a w->qc w ps (xs.map a.eval).toArray:=We (λ_ _=>ade) xs k h
def apQ{t:TC}{o:Nat}(h:Ap t (o+2)=true)(x:T t):∀ y∈enc t o x,y.loc=true:=by
 intro y D;have L:=zX t o x y D;cases y with
 | sl E C q l=>
  have O:C=o:=by simpa [V.gr]using L
  subst O;have U:full E+2 <= full t:=cX (O0 t C x _ D);show Ap E C=true;simp only[Ap,eR]at h;rcases h with h|h
  ·have h:=cX h
   match C,h with
   |0,h=>omega
   |1,h=>rfl
   | n+2,h=>
    simp only[Ap,eR];left;exact jv (by omega)
  ·have h:=cK h
   match C,h with
   |0,h=>omega
   |1,h=>rfl
   | n+2,h=>
    simp only[Ap,eR];simp_all
 |_=>rfl
def RV.Aq{q:aa Nat}{x:V}{v:Value}(h:RV w B aj q x v){B':Nat}(hB:B' <= B)(hl:∀ b,B <= b -> aD b=aj b)(Y:∀ b k,aj b=some k -> aD b=some k)(O:x.loc=true):RV w B' aD q x v:=by
 induction h with
 |int=>exact .int _ _ _
 |bool=>exact .bool _ _
 |str=>exact .str _ _
 |nil=>exact .nil _
 |eU=>exact .eU _ _ _
 |gd=>exact .gd _ _ _ _ _ (by first|assumption|omega)
 |gq=>exact .gq _ _ _ _ _ (by first|assumption|omega)
 | aF q t o Z l b off cap u T D hb h1 jL E hr L=>
  have CH:o=1:=by
   match o,T,O with
   |1,_,_=>rfl
  subst CH;have U:=h1 rfl
  refine .aF _ _ _ _ _ _ _ _ u T ((hl b U).trans D) hb (λ_=>Nat.le_trans hB U) jL E (λi h j x C=>L i h j x C ?_)
  have:=zX t 1 l[i] x (iq C);cases x with
  | sl t' o' q' l'=>
   have:o'=1:=by simpa [V.gr]using this
   subst this;rfl
  |_=>rfl
 | own q t o Z l b cap cs u D hh hs hn hm E hr L=>
  exact .own _ _ _ _ _ _ _ cs u (Y b q D) hh hs hn hm E (λi h j x C=>L i h j x C (apQ O l[i] x (iq C)))
def RV.home{q:aa Nat}{x:V}{v:Value}(h:RV w B aj q x v){B':Nat}(hB:B'<=B)(hl:∀ b,B<=b->aD b=aj b)(C:∀ b k,aj b=some k->B<=b)(D:x.loc=true):RV w B' aD q x v:=
 h.Aq hB hl (λb k h=>(hl b (C b k h)).trans h) D
def Wf:∀ (xs:aa V) (c:Nat) (σ:S) (ρ:Nat -> Loc) (us:aa Value),60000 <= c -> Rl w0 N aj ρ σ a w -> us.length=xs.length -> (∀ (j:Nat) x u,xs[j]?=some x -> us[j]?=some u -> RV w w0.heap.size aj [c+j] x u) ->
  ∃ρ',Rl w0 N aj ρ' (ng c σ xs) a w/\(∀r,r<c -> ρ' r=ρ r) /\ ∀(j:Nat) x u,(oS c xs)[j]?=some x -> us[j]?=some u -> eE w w0.heap.size aj ρ' x u
 |[],c,σ,ρ,us,_,h,hl,E=>⟨ρ,h,λ_ _=>rfl,λj x u Z=>by simp[oS]at Z⟩
 | x :: xs,c,σ,ρ,us,hc,h,hl,E=>by
  cases us with
  |nil=>simp at hl
  | cons u us=>
   have O:=E 0 x u rfl rfl;rw[Nat.add_zero]at O;have v8:∀ (j:Nat) T U,xs[j]?=some T -> us[j]?=some U -> RV w w0.heap.size aj [c+1+j] T U:=λj T U Z hu=>by
    have:=E (j+1) T U (by simpa using Z) (by simpa using hu)
    grind
   cases C:x.aF with
   | true=>
    obtain⟨ρ',dR,Y,xX⟩:=Wf xs (c+1) σ ρ us (by omega) h (by simpa using hl) v8
    refine⟨ρ',?_,λr E=>Y r (by omega),λj y v D L=>?_⟩
    ·simp[ng,C];exact dR
    ·simp only[oS,C,au]at D;cases j with
     | zero=>
      simp at D L;subst D L;exact⟨C,O.key C⟩
     |succ j=>grind
   | false=>
    have gG:=O.Vz C;obtain⟨ρ',dR,Y,xX⟩:=Wf xs (c+1) _ _ us (by omega) (h.new (d:=c) (x:=.sl x) (.eG u) (.sl u x (cu _ _ _) O) (h.dN c (.inr hc))) (by simpa using hl) v8
    refine⟨ρ',?_,λr E=>?_,λj y v D L=>?_⟩
    ·simp[ng,C];exact dR
    ·rw[Y r (by omega)];exact cU _ _ _ (by omega)
    ·simp only[oS,C,aq]at D;cases j with
     | zero=>
      simp at D L;subst D L;refine⟨gG,?_⟩;have:ρ' c = .eG u:=by rw[Y c (by omega)];exact cu _ _ _
      simp[dm,this]
     |succ j=>grind
def apR(xs:aa V):∀ c,(oS c xs).length=xs.length:=by
 induction xs with
 |nil=>intro c;rfl
 |cons x xs C=>intro c;simp[oS,C]
end
def enters(P:Program)(f:Nat):Prop:=∃fn,P.funcs[f]?=some fn/\(fn.name == "runtime.NumGoroutine")=false/\fn.body.isNone=false
/-! What a function gives back. -/
def PB:A->ah (Bool×aa Lf)
 |.lf x=>some (false,[x])
 |.agg xs=>some (true,xs)
 |_=>none
def s8{X:Type}(P:Program)(σ:S):aa ResultVar->(aa (Bool×aa Lf)->ah X)->ah X
 |[],k=>k []
 | .tmp t :: rest,k=>(match PB (σ.t t)with
  |some p=>s8 P σ rest λps=>k (p::ps)
  |none=>none)
 | .cell p ty :: rest,k=>oO P σ ty (σ.t p) λx=>(match PB x with
  |some p=>s8 P σ rest λps=>k (p::ps)
  |none=>none)
def Wg(m:Nat->ah bu):Lf->ah (V×ah Nat)
 |.v x=>bif x.loc&&x.aF then some (x,none)else none
 | .own [r]=>match m r with
  |some (.sl y)=>bif y.loc then some (y,some r)else none
  |_=>none
 |_=>none
def I7(m:Nat->ah bu)(off:Nat):aa Lf->ah (aa V×aa (Nat×Nat))
 |[]=>some ([],[])
 | x :: xs=>match Wg m x,I7 m (off+1) xs with
  |some (y,none),some (ys,rs)=>some (y::ys,rs)
  |some (y,some r),some (ys,rs)=>some (y::ys,(r,off)::rs)
  |_,_=>none
def Fq(m:Nat->ah bu)(off:Nat):aa (Bool×aa Lf)->ah (aa Pt×aa (Nat×Nat))
 |[]=>some ([],[])
 | p :: ps=>match I7 m off p.2,Fq m (off+p.2.length) ps with
  |some (C,rs),some (D,E)=>some ((p.1,C)::D,rs++E)
  |_,_=>none
def once(rs:aa (Nat×Nat)):Bool:=rs.all λp=>(rs.lookup p.1).any λn=>Nat.beq n p.2
def I8{X:Type}(P:Program)(σ:S)(fn:Array ResultVar)(k:gC->ah X):ah X:=
 s8 P σ fn.toList λps=>match Fq σ.m 0 ps with
  | some (qs,rs)=>bif once rs then (match qs with
   |[p]=>k (.one p)
   |qs=>k (.fB qs))else none
  |none=>none
section
variable {P:Program} {w w':World} {w0:Wd} {B N:Nat} {aj aD:bM} {ρ ρ':Nat->Loc} {σ:S} {a:Act} {X:Type} {d:Nat} {r:X} {o:Oper}
def adg:∀ (xs:aa V) (c:Nat) (j:Nat) x u,(oS c xs)[j]?=some x -> eE w B aj ρ x u -> (∀ r,r<c+xs.length -> ρ' r=ρ r) -> eE w B aj ρ' x u
 |[],c,j,x,u,D,_,_=>by simp[oS]at D
 | y :: ys,c,j,x,u,D,C,E=>by
  cases j with
  | zero=>
   simp[oS,List.getElem?_cons_zero,iX]at D;subst D;cases L:y.aF with
   |true=>rw[L]at C;simp;exact C
   | false=>
    rw[L]at C;refine⟨C.1,?_⟩;have:=C.2;simp[dm,E c (by simp)]at this ⊢;exact this
  | succ j=>
   exact adg ys _ j x u D C (λr h=>E r (by simp;omega))
def PV.cells{key:Nat -> aa Nat}{p:Pt}{u:Value}(h:PV w B aj key p u):∃ us:aa Value,us.length=p.2.length/\(∀ (j:Nat) x v,p.2[j]?=some x -> us[j]?=some v -> RV w B aj (key j) x v) /\
  ∀(ρ:Nat -> Loc) (C:aa Lf),C.length=p.2.length -> (∀(j:Nat) x v,C[j]?=some x -> us[j]?=some v -> eE w B aj ρ x v) -> RP w B aj ρ (p.1,C) u:=by
 obtain⟨us,D,E,Y⟩:=h;obtain⟨b,xs⟩:=p
 refine⟨us.toList,by simpa using E,λj x v L Z=>?_,λρ C hl U=>?_⟩
 ·grind
 ·have O:fh w B aj ρ C us:=⟨by rw[E,hl],λj x L=>by
   have T:j<us.size:=by rw[E,<- hl];exact(eo.1 L).1
   exact⟨us[j],Array.getElem?_eq_getElem T,U j x _ L (by rw[Array.getElem?_toList,Array.getElem?_eq_getElem T])⟩⟩
  cases b with
  |true=>exact⟨us,D,O⟩
  |false=>have D:=D;subst D;exact O
def I9:∀ (ps:aa Pt) (c0 off:Nat) (σ:S) (ρ:Nat -> Loc) (C:aa Value),60000 <= c0 -> Rl w0 N aj ρ σ a w -> kf w w0.heap.size aj (λn=>c0+n) off ps C ->
  ∃ρ',Rl w0 N aj ρ' (qd (c0+off) σ ps) a w/\(∀r,r<c0+off -> ρ' r=ρ r)/\C.length=(sZ (c0+off) ps).length /\ ∀(i:Nat) p v,(sZ (c0+off) ps)[i]?=some p -> C[i]?=some v -> RP w w0.heap.size aj ρ' p v
 | [],c0,off,σ,ρ,C,_,h,D=>by
  cases C with
  |nil=>exact⟨ρ,h,λ_ _=>rfl,rfl,λi p v T=>by simp[sZ]at T⟩
  |cons v C=>exact D.elim
 | p :: ps,c0,off,σ,ρ,C,hc,h,D=>by
  cases C with
  |nil=>exact D.elim
  | cons v C=>
   obtain⟨⟨_,T⟩,D⟩:=D;obtain⟨us,hl,kL,wg⟩:=T.cells;obtain⟨Ja,h1,Wh,xX⟩:=Wf p.2 (c0+off) σ ρ us (by omega) h hl (λj x u L E=>by
    have:RV w _ aj [c0+(off+j)] x u:=kL j x u L E;rw[<- Nat.add_assoc]at this;exact this)
   obtain⟨fD,Y,U,hlen,Z⟩:=I9 ps c0 (off+p.2.length) (ng (c0+off) σ p.2) Ja C hc h1 D;rw[<- Nat.add_assoc]at Y U hlen Z
   refine⟨fD,Y,λr D=>(U r (by omega)).trans (Wh r D),by simp[sZ,hlen],λi q u O E=>?_⟩
   cases i with
   | zero=>
    simp[sZ,List.getElem?_cons_zero,iX]at O E;subst O E
    refine wg fD _ (apR _ _) (λj x u L E=>adg p.2 _ j x u L (xX j x u L E) U)
   | succ i=>
    simp[ List.getElem?_cons_succ]at O E;exact Z i q u O E
def kf.home{nm:Nat -> Nat}:∀ (ps:aa Pt) (off:Nat) (C:aa Value) {B':Nat},kf w B aj nm off ps C -> B' <= B -> (∀ b,B <= b -> aD b=aj b) -> (∀ b k,aj b=some k -> B <= b) -> kf w B' aD nm off ps C
 |[],_,[],_,h,_,_,_=>h
 | p :: ps,off,v :: C,B',h,hB,hl,D=>by
  obtain⟨⟨E,us,O,T,U⟩,Y⟩:=h
  refine⟨⟨E,us,O,T,λj x L=>?_⟩,kf.home ps _ C Y hB hl D⟩
  obtain⟨Z,uc,fU⟩:=U j x L;exact⟨Z,uc,fU.home hB hl D (cw.1 E x (iq L))⟩
def Wi(w:World)(o:Oper)(a:Act)(f:Nat)(args:Array Operand)(D:Array TypeId)(E:o.op = .call { callee:=.value (.func f),args,argTypes:=D })(L:enters P f):(execOp a.eval o).run P w = .ok (.enter f (args.map a.eval)) w:=by
 obtain⟨fn,O,T,C⟩:=L;have U:¬ fn.name = "runtime.NumGoroutine":=by simpa using T
 have Y:¬ fn.body=none:=by intro e;rw[e]at C;cases C
 simp[execOp,E,resolve,Act.eval,Deferred.ofValue,invoke,callFunc,Sem.run,O,U,Y]
def apS{f:Nat}{args:Array Operand}{oe:Array TypeId}{c:jl}{k:S->ah X}(ho:o.op = .call { callee:=.value (.func f),args,argTypes:=oe })(hd:o.dst=some d)(he:enters P f)(hc:iR P f c)(CI:d<N){ps:aa Pt}(mJ:∀ aj ρ a w,Rl w0 N aj ρ σ a w->qc w ps (args.toList.map a.eval).toArray)
  (h2:(c.run X ps λD=>oT σ d D k)=some r):∃dz,k dz=some r/\mG P w0 N o σ dz:=by
 obtain⟨D,E,Wj⟩:=(hc.1 ps).oc h2;have Jb:=hc.2 ps D (Wj _ _);unfold oT at E;have step:∀ a w K Q aj ρ,Rl w0 N aj ρ σ a w->(∀ v w' aD,Below w.heap.size w w'->Rl w0 N aD ρ σ a w'->qI w' w0.heap.size aD (λn=>1000000000100000+1000*d+n) D v->K (a.put o.dst v) w')->o.wp P a w K Q:=by
  intro a w K Q aj ρ hR T;unfold Oper.wp;rw[Wi w o a f args oe ho he,Oper.upon_enter];have CJ:(args.map a.eval)=(args.toList.map a.eval).toArray:=by apply Array.ext';rw[Array.toList_map]
  rw[CJ]
  refine(Jb (λn=>1000000000100000+1000*d+n) w _ (mJ aj ρ a w hR) (w0.on hR.below (λ_ _ h=>by cases h))).mono λe w' uq=>?_
  obtain⟨v,Jc,rfl,U,Y,L⟩:=uq;have hB:=hR.below.size;let dX:bM:=λb=>if b<w.heap.size then aj b else Jc b
  have e1:∀b,b<w.heap.size->dX b=aj b:=λb hb=>bJ hb
  have Z:∀b,w.heap.size<=b->dX b=Jc b:=λb hb=>bQ
  refine T v w' dX U (hR.grow U e1 (λb k hb O=>?_)) ?_
  ·rw[Z b hb]at O;exact(Y b k O).2
  ·cases D with
   |one p=>exact kf.home [p] 0 [v] L hB Z (λb k O=>(Y b k O).1)
   | fB xY=>
    obtain⟨C,e,hv⟩:=L;exact⟨C,e,kf.home xY 0 C.toList hv hB Z (λb k O=>(Y b k O).1)⟩
 cases D with
 | one p=>
  simp only at E;split at E
  ·rename_i y hy
   refine⟨_,E,λa w K Q hR T=>?_⟩
   obtain⟨aj,ρ,hR⟩:=hR
   refine step a w K Q aj ρ hR λv w' aD U dR L=>?_
   obtain⟨ρ',kg,_,_,rU⟩:=I9 [p] (1000000000100000+1000*d) 0 σ ρ [v] (by omega) dR L;rw[hd];have Wl:=rU 0 _ v rfl rfl;exact T _ _ ⟨aD,ρ',kg.set (VO hy Wl) CI⟩
  ·cases E
 | fB xY=>
  refine⟨_,E,λa w K Q hR T=>?_⟩
  obtain⟨aj,ρ,hR⟩:=hR
  refine step a w K Q aj ρ hR λv w' aD U dR L=>?_
  obtain⟨C,rfl,hv⟩:=L;obtain⟨ρ',kg,_,hlen,rU⟩:=I9 xY (1000000000100000+1000*d) 0 σ ρ C.toList (by omega) dR hv;rw[hd]
  refine T _ _ ⟨aD,ρ',kg.set ⟨C,rfl,by simpa using hlen,λj p hp=>?_⟩ CI⟩
  have hj:j<C.size:=by
   have:=(eo.1 hp).1;rw[Nat.add_zero]at hlen;rw[<-hlen]at this
   simpa using this
  exact⟨C[j],Array.getElem?_eq_getElem hj,rU j p _ hp (by rw[Array.getElem?_toList,Array.getElem?_eq_getElem hj])⟩
def adh{f:Nat}{args:Array Operand}{E:Array TypeId}{c:jl}{k:S->ah X}{ev:(aa Pt->ah X)->ah X}(L:o.op = .call { callee:=.value (.func f),args,argTypes:=E })(O:o.dst=some d)(T:enters P f)(U:iR P f c)
  (Y:∀k,ev k=some r->∃ps,k ps=some r/\∀aj ρ a w,Rl w0 N aj ρ σ a w->qc w ps (args.toList.map a.eval).toArray) (h:s7 N σ d c ev k=some r):∃D,k D=some r/\mG P w0 N o σ D:=by
 unfold s7 at h;cases C:Nat.blt d N with
 |false=>rw[C]at h;cases h
 | true=>
  rw[C,au]at h;obtain⟨ps,Z,mJ⟩:=Y _ h;exact apS L O T U (cX C) mJ Z
end
def eV(aj:bM)(rs:aa (Nat×Nat))(nm:Nat->Nat):bM:=λb=>
 match aj b with
 |none=>none
 | some k=>match k.getLast? with
  |none=>none
  |some r=>(rs.lookup r).map λn=>k.dropLast++[nm n]
section
variable {P:Program} {w w':World} {w0:Wd} {B N:Nat} {aj aD:bM} {ρ ρ':Nat->Loc} {σ:S} {a:Act} {X:Type} {d:Nat} {r:X} {rs:aa (Nat×Nat)} {nm:Nat->Nat}
def As{b:Nat}(h:aj b=none):eV aj rs nm b=none:=by simp[eV,h]
def RV.eV{p:aa Nat}{r n:Nat}{x:V}{v:Value}(h:RV w B aj (p++[r]) x v)(D:rs.lookup r=some n):RV w B (eV aj rs nm) (p++[nm n]) x v:=
 h.map (Q:=λq C=>∃ p,q=p++[r]/\C=p++[nm n]) (dW _) (λb _ h=>⟨rfl,As h⟩) (λb q C _ hl e=>by
  obtain⟨p,rfl,rfl⟩:=e;exact⟨rfl,by simp[Proofs.YtnilicojgkhpnaaGreat.eV,hl,D],λj i s=>⟨j::i::s::p,rfl,rfl⟩⟩) (.inr ⟨p,rfl,rfl⟩)
def Wm{m:Nat -> ah bu}:∀ (xs:aa Lf) (off:Nat) (ys:aa V) (E:aa (Nat×Nat)),I7 m off xs=some (ys,E) -> ys.length=xs.length /\ ∀ (j:Nat) x,xs[j]?=some x -> ∃ y,ys[j]?=some y/\y.loc=true/\((x = .v y/\y.aF=true) \/ ∃ r,x = .own [r]/\m r=some (.sl y)/\(r,off+j)∈E)
 | [],off,ys,E,h=>by
  simp only[I7,iX,Prod.mk.injEq]at h;obtain⟨rfl,rfl⟩:=h;exact⟨rfl,λj x C=>by simp at C⟩
 | x :: xs,off,ys,E,h=>by
  have Z:∀ y z,Wg m x=some (y,z) -> y.loc=true/\((z=none/\x = .v y/\y.aF=true) \/ ∃ r,z=some r/\x = .own [r]/\m r=some (.sl y)):=by
   intro y z D;unfold Wg at D
   grind
  unfold I7 at h;split at h
  ·rename_i y L O T U;simp only[iX,Prod.mk.injEq]at h;obtain⟨rfl,rfl⟩:=h;obtain⟨Y,h2⟩:=Wm xs (off+1) L O U
   refine⟨by simp[Y],λj x' C=>?_⟩
   cases j with
   | zero=>
    simp at C;subst C;obtain⟨hl,D|⟨r,D,_⟩⟩:=Z y none T
    ·simp_all
    ·cases D
   |succ j =>grind
  ·rename_i y r L O T U;simp only[iX,Prod.mk.injEq]at h;obtain⟨rfl,rfl⟩:=h;obtain⟨Y,h2⟩:=Wm xs (off+1) L O U
   refine⟨by simp[Y],λj x' C=>?_⟩
   cases j with
   | zero=>
    simp at C;subst C;obtain⟨hl,D|⟨r',D,e1,e2⟩⟩:=Z y (some r) T
    ·cases D.1
    ·simp_all
   |succ j =>grind
  ·cases h
def Wn{m:Nat -> ah bu}(hm:∀ r x,m r=some x -> eH w B aj ρ r x):∀ (ps:aa (Bool×aa Lf)) (off:Nat) (L:aa Pt) (O:aa (Nat×Nat)) (C:aa Value),Fq m off ps=some (L,O) -> (∀ p∈O,rs.lookup p.1=some p.2) -> C.length=ps.length ->
  (∀(i:Nat) p v,ps[i]?=some p -> C[i]?=some v -> RP w B aj ρ p v) -> kf w B (eV aj rs nm) nm off L C
 | [],off,L,O,C,h,_,hl,_=>by
  have:C=[]:=List.eq_nil_of_length_eq_zero hl;subst this;simp only[Fq,iX,Prod.mk.injEq]at h;obtain⟨rfl,rfl⟩:=h;trivial
 | p :: ps,off,L,O,C,h,ki,hl,hp=>by
  cases C with
  |nil=>simp at hl
  | cons v C=>
   unfold Fq at h;split at h
   ·rename_i ys rs1 qs' CK h1 h2;simp only[iX,Prod.mk.injEq]at h;obtain⟨rfl,rfl⟩:=h;obtain⟨hlen,OY⟩:=Wm _ _ _ _ h1;have v8:=Wn hm ps _ qs' CK C h2 (λq hq=>ki q (List.mem_append_right _ hq)) (by simpa using hl) (λi q u hq hu=>hp (i+1) q u (by simpa using hq) (by simpa using hu));have At:=hp 0 p v rfl rfl;have key:∀ us:Array Value,fh w B aj ρ p.2 us -> (us.size=ys.length /\ ∀ (j:Nat) x,ys[j]?=some x -> ∃ u,us[j]?=some u/\RV w B (eV aj rs nm) [nm (off+j)] x u):=by
     intro us T
     refine⟨by rw[hlen];exact T.1,λj y U=>?_⟩
     have Y:j<p.2.length:=by rw[<- hlen];exact(eo.1 U).1
     obtain⟨y',E,Fs,hz⟩:=OY j _ (bY Y);rw[U]at E;injection E with E;subst E;obtain⟨u,hu,Z⟩:=T.2 j _ (bY Y);refine⟨u,hu,?_⟩;rcases hz with ⟨e,hf⟩|⟨r,e,hmr,wh⟩
     ·rw[e]at Z;exact(Z.2.O1 hf (λb=>As)).key hf
     ·rw[e]at Z;have fo:=hm r _ hmr;generalize D:bu.sl y=z at fo;cases fo with
      |aB=>cases D
      |mp=>cases D
      |gh=>cases D
      | sl v' y' cG kL=>
       injection D with D;subst D;have Jd:v'=u:=by
        have h4:=Z.2;simp only[dm,cG]at h4;simp_all
       subst Jd;exact RV.eV (p:=[]) kL (ki (r,off+j) (List.mem_append_left _ wh))
    refine⟨⟨?_,?_⟩,?_⟩
    ·rw[cw];intro y U;obtain⟨j,Y⟩:=List.mem_iff_getElem?.1 U;have Cs:j<p.2.length:=by rw[<- hlen];exact(eo.1 Y).1
     obtain⟨y',E,Fs,_⟩:=OY j _ (bY Cs);simp_all
    ·obtain⟨b,xs⟩:=p;cases b with
     | true=>
      obtain⟨us,e,T⟩:=At;obtain⟨k1,k2⟩:=key us T;exact⟨us,e,k1,k2⟩
     | false=>
      obtain⟨k1,k2⟩:=key #[v] At;exact⟨#[v],rfl,k1,k2⟩
    ·grind
   ·cases h
def apT{t:TypeId}{x:A}{k:A->ah X}(h:oO P σ t x k=some r){u:Value}(C:RA w B aj ρ x u):∃ ad,u = .pointer (some ad):=by
 unfold oO at h;split at h
 ·cases h
 ·split at h
  ·obtain⟨b,off,_,rfl⟩:=C;exact⟨_,rfl⟩
  ·obtain⟨b,off,rfl,_⟩:=C;exact⟨_,rfl⟩
  ·obtain⟨ad,rfl,_⟩:=C;exact⟨_,rfl⟩
  ·cases h
def adi{x:A}{p:Bool×aa Lf}(h:PB x=some p){u:Value}(D:RA w B aj ρ x u):RP w B aj ρ p u:=by
 unfold PB at h;split at h
 ·injection h with h;subst h
  refine⟨rfl,λj y C=>?_⟩
  cases j with
  |zero=>simp at C;subst C;exact⟨u,rfl,D⟩
  |succ j=>simp at C
 ·injection h with h;subst h;exact D
 ·cases h
def ur(tmps:Array Value):ResultVar->Sem Value
 |.tmp t=>pure (tmps.getD t undef)
 |.cell a t=>do loadVar t (<-asAddr (tmps.getD a undef))
def Je:∀ (l:aa ResultVar) (k:aa (Bool×aa Lf) -> ah X),s8 P σ l k=some r -> ∃ ps,k ps=some r /\ ∀ aj ρ a w,Rl w0 N aj ρ σ a w -> ∃ C,(l.mapM (ur a.tmps)).run P w = .ok C w/\C.length=ps.length /\ ∀ (i:Nat) p v,ps[i]?=some p -> C[i]?=some v -> RP w w0.heap.size aj ρ p v
 |[],k,h=>⟨[],h,λ_ _ _ _ _=>⟨[],rfl,rfl,λi p v D=>by simp at D⟩⟩
 | .tmp t :: rest,k,h=>by
  simp only[s8]at h;split at h
  ·rename_i p D;obtain⟨ps,T,U⟩:=Je rest _ h
   refine⟨p::ps,T,λaj ρ a w hR=>?_⟩
   obtain⟨C,Y,hl,hv⟩:=U aj ρ a w hR
   refine⟨a.tmps.getD t undef::C,?_,by simp[hl],λi q u E L=>?_⟩
   ·rw[List.mapM_cons];simp[ur,Sem.run_pure,mX,gF,Y]
   ·cases i with
    |zero=>simp only[List.getElem?_cons_zero,iX]at E L;subst E L;exact adi D (hR.tmp t)
    |succ i=>grind
  ·cases h
 | .cell c ty :: rest,k,h=>by
  simp only[s8]at h;obtain⟨y,Z,hld⟩:=acJ (w0:=w0) (N:=N) h;split at Z
  ·rename_i p D;obtain⟨ps,T,U⟩:=Je rest _ Z
   refine⟨p::ps,T,λaj ρ a w hR=>?_⟩
   obtain⟨C,Y,hl,hv⟩:=U aj ρ a w hR;obtain⟨v,O,xW⟩:=hld aj ρ a w hR _ (hR.tmp c);obtain⟨ad,pV⟩:=apT h (hR.tmp c);rw[pV]at O;have O:(loadVar ty ad).run P w = .ok v w:=by
    simpa [Instr.loadAt,Instr.sureAddr]using O
   refine⟨v::C,?_,by simp[hl],λi q u E L=>?_⟩
   ·rw[List.mapM_cons];simp[ur,pV,asAddr,Sem.run_pure,mX,gF,Y,O]
   ·cases i with
    |zero=>simp at E L;subst E L;exact adi D xW
    |succ i=>grind
  ·cases Z
def apU{fn:Func}{k:gC -> ah X}(h:I8 P σ fn.results k=some r):∃ res,k res=some r /\ ∀ aj ρ a w,Rl w0 N aj ρ σ a w -> ∀ nm,∃ v aD,(results fn a.tmps).run P w = .ok v w/\(∀ b k,aD b=some k -> (w0.heap.size <= b \/ w0.L b≠none)/\b<w.heap.size/\k≠[])/\qI w w0.heap.size aD nm res v:=by
 unfold I8 at h;obtain⟨ps,O,rU⟩:=Je (w0:=w0) (N:=N) _ _ h;clear h;split at O
 ·rename_i U rs Wo;cases ho:once rs with
  |false=>grind
  | true=>
   rw[ho,au]at O;have ki:∀ p∈rs,rs.lookup p.1=some p.2:=by
    intro p hp;have:=cw.1 ho p hp;obtain⟨n,hn,he⟩:=(Option.any_eq_true _ _).1 this;simp_all
   have core:∀ aj ρ a w,Rl w0 N aj ρ σ a w -> ∀ nm:Nat -> Nat,∃ C:aa Value,(fn.results.mapM (ur a.tmps)).run P w = .ok C.toArray w/\(∀ b k,eV aj rs nm b=some k -> (w0.heap.size <= b \/ w0.L b≠none)/\b<w.heap.size/\k≠[])/\kf w w0.heap.size (eV aj rs nm) nm 0 U C:=by
    intro aj ρ a w hR nm;obtain⟨C,T,hl,hv⟩:=rU aj ρ a w hR
    refine⟨C,?_,λb k E=>?_,Wn hR.root ps 0 U rs C Wo ki hl hv⟩
    ·rw[Array.mapM_eq_mapM_toList];simp[T]
    ·unfold eV at E;split at E
     ·cases E
     ·rename_i k' p9;have:=hR.dD b k' p9;split at E
      ·cases E
      ·cases uv:rs.lookup _ with
       |none=>rw[uv]at E;cases E
       | some n=>
        rw[uv]at E;injection E with E;subst E;simp_all
   have mK:∀ (tmps:Array Value),results fn tmps=(do let C <- fn.results.mapM (ur tmps);pure (if h:C.size=1 then C[0]else .tuple C)):=λtmps=>by
    unfold results;congr 1
   split at O
   ·rename_i p
    refine⟨_,O,λaj ρ a w hR nm=>?_⟩
    obtain⟨C,T,Y,D⟩:=core aj ρ a w hR nm
    match C,D with
    |[v],D=>exact⟨v,_,by rw[mK,gF,T];rfl,Y,D⟩
    |[],D=>exact D.elim
    |_::_::_,D=>exact D.2.elim
   ·rename_i Z
    refine⟨_,O,λaj ρ a w hR nm=>?_⟩
    obtain⟨C,T,Y,D⟩:=core aj ρ a w hR nm;have iU:C.toArray.size≠1:=by
     intro e
     match U,C,D,Z with
     |[q],[v],_,Z=>exact Z q rfl
     |[],[v],D,_=>exact D.elim
     |_::_::_,[v],D,_=>exact D.2.elim
    refine⟨.tuple C.toArray,_,?_,Y,C.toArray,rfl,D⟩;rw[mK,gF,T,mX];simp only[iU,dif_neg,not_false_eq_true,Sem.run_pure]
 ·cases O
end
inductive In where
 |aB (cs:List V)
 |sl (y:V)
def nF(i:Nat):Nat:=20000+1000*i
def nC(i j:Nat)(x:V):Nat:=bif x.aF then 20001+1000*i+j else 60000+1000*i+j
def Au(i j:Nat)(x:V):Lf:=bif x.plain then .v x else .own [nC i j x]
def Av(i:Nat):Nat->aa V->aa Lf
 |_,[]=>[]
 |j,x::xs=>Au i j x::Av i (j+1) xs
def Wp(i:Nat):Nat->aa V->(Nat->ah bu)->(Nat->ah bu)
 |_,[],m=>m
 |j,x::xs,m=>Wp i (j+1) xs (bif x.plain then m else ck m (nC i j x) (some (.sl x)))
def PC:Nat->aa In->(Nat->ah bu)->(Nat->ah bu)
 |_,[],m=>m
 |i,.aB cs::r,m=>PC (i+1) r (Wp i 0 cs (ck m (nF i) (some (.aB (Av i 0 cs)))))
 |i,.sl y::r,m=>PC (i+1) r (ck m (nF i) (some (.sl y)))
inductive Ar where
 |pt (p:Pt)
 |mut (i off:Nat)
def Wq(C:aa In):Ar->A
 |.pt (false,[x])=>.lf (.v x)
 |.pt (true,xs)=>.agg (xs.map .v)
 |.pt (false,.bool false::.int .i64 g::c::cs)=>.n8 g.toNat (c::cs)
 |.pt _=>.undef
 | .mut i off=>match C[i]? with
  |some (.aB _)=>.aG (nF i) off
  |some (.sl _)=>.lf (.own [nF i])
  |none=>.undef
def CL(C:aa In)(args:aa Ar):S:=⟨λk=>match args[k]? with
 |some x=>Wq C x
 |none=>.undef,PC 0 C (λ_=>none)⟩
def rV(w w':World)(aD:bM)(ρ:Nat->Loc)(nm:Nat->Nat):Nat->Nat->aa In->aa In->Prop
 |_,_,[],[]=>True
 | i,D,.aB cs :: r,.aB fe :: L=>(∃ b off cells O e U,ρ (nF i) = .aB b off/\w.heap[b]?=some (.cells cells e (0,0))/\w'.heap[b]?=some (.cells O U (0,0))/\aD b=some [nm D]/\off+fe.length<=O.size/\fe.length=cs.length/\
   ∀(j:Nat) C,fe[j]?=some C->∃u,O[off+j]?=some u/\((C.plain=true/\∀(w:World) (B:Nat) (aj:bM) (q:aa Nat),RV w B aj q C u)\/(C = .nil/\u = .slice none 0 0/\∃E,cs[j]?=some E/\E.aF=false)\/(C.plain=false/\C.aF=true/\C.kJ=true/\(∃E,cs[j]?=some E/\Wk E C)/\cells[off+j]?=some u)\/(C.aF=false/\RV w' w.heap.size aD [nm (D+1+j)] C u)))/\
   rV w w' aD ρ nm (i+1) (D+1+cs.length) r L
 |i,D,.sl y::r,.sl T::L=>(T = .nil\/∃v,ρ (nF i) = .eG v/\RV w' w.heap.size aD [nm D] T v)/\rV w w' aD ρ nm (i+1) (D+1) r L
 |_,_,_,_=>False
def Jf(w w':World)(aD:bM)(ρ:Nat->Loc)(nm:Nat->Nat):Nat->Nat->aa In->aa In->Prop
 |_,_,[],[]=>True
 | i,D,.aB cs :: r,.aB fe :: E=>(∃ b off cells L e T,ρ (nF i) = .aB b off/\w.heap[b]?=some (.cells cells e (0,0))/\w'.heap[b]?=some (.cells L T (0,0))/\aD b=some [nm D]/\off+fe.length<=L.size/\fe.length=cs.length/\
   ∀(j:Nat) C,fe[j]?=some C->∃u,L[off+j]?=some u/\((C.plain=true/\∀(w:World) (B:Nat) (aj:bM) (q:aa Nat),RV w B aj q C u)\/(C.plain=false/\C.aF=true/\cells[off+j]?=some u)\/(C.aF=false/\RV w' w.heap.size aD [nm (D+1+j)] C u)))/\
   Jf w w' aD ρ nm (i+1) (D+1+cs.length) r E
 |i,D,.sl y::r,.sl O::E=>(O = .nil\/∃v,ρ (nF i) = .eG v/\RV w' w.heap.size aD [nm D] O v)/\Jf w w' aD ρ nm (i+1) (D+1) r E
 |_,_,_,_=>False
def gC.len:gC->Nat
 |.one p=>p.2.length
 |.fB ps=>(ps.map λp=>p.2.length).sum
def qe(w:World)(B:Nat)(aj:bM)(ρ:Nat->Loc):Nat->aa In->Prop
 |_,[]=>True
 |i,.aB cs::r=>eH w B aj ρ (nF i) (.aB (Av i 0 cs))/\(∀(j:Nat) x,cs[j]?=some x->x.plain=false->eH w B aj ρ (nC i j x) (.sl x))/\qe w B aj ρ (i+1) r
 |i,.sl y::r=>eH w B aj ρ (nF i) (.sl y)/\qe w B aj ρ (i+1) r
/-! The end: what is given back,and what the written parameters hold. -/
def Wr(m:Nat->ah bu)(i j:Nat)(C:V):Lf->ah (V×ah Nat)
 |.v x=>bif x.plain then some (x,none)else (bif !x.kJ && !C.aF then some (.nil,none)else none)
 | .own [r]=>match m r with
  |some (.sl y)=>bif y.aF then (bif !C.plain&&(C.aF&&C.kJ)&&Nat.beq r (20001+1000*i+j)&&Nat.blt r 60000 then some (C,none)else none)else (bif y.loc then some (y,some r)else none)
  |_=>none
 |_=>none
def CM(m:Nat->ah bu)(i C:Nat):Nat->aa V->aa Lf->ah (aa V×aa (Nat×Nat))
 |_,[],[]=>some ([],[])
 | j,D :: xs,l :: E=>match Wr m i j D l,CM m i C (j+1) xs E with
  |some (y,none),some (ys,rs)=>some (y::ys,rs)
  |some (y,some r),some (ys,rs)=>some (y::ys,(r,C+1+j)::rs)
  |_,_=>none
 |_,_,_=>none
def V.gone:V->Bool
 |.sl _ o _ _=>Nat.ble 1000000 o
 |_=>false
def Aw(m:Nat->ah bu):Nat->Nat->aa In->ah (aa In×aa (Nat×Nat))
 |_,_,[]=>some ([],[])
 | i,C,.aB cs :: r=>match bif Nat.blt (nF i) 60000 then m (nF i)else none with
  | some (.aB L)=>match CM m i C 0 cs L,Aw m (i+1) (C+1+cs.length) r with
   |some (fe,rs),some (os,D)=>some (.aB fe::os,(nF i,C)::(rs++D))
   |_,_=>none
  |_=>none
 | i,C,.sl O :: r=>bif O.gone then (match Aw m (i+1) (C+1) r with
   |some (os,D)=>some (.sl .nil::os,D)
   |none=>none)else match bif Nat.blt (nF i) 60000 then m (nF i)else none with
  | some (.sl E)=>bif E.loc && !E.aF then (match Aw m (i+1) (C+1) r with
   |some (os,D)=>some (.sl E::os,(nF i,C)::D)
   |none=>none)else none
  |_=>none
def Jg{X:Type}(P:Program)(σ:S)(fn:Array ResultVar)(C:aa In)(k:aa In->gC->ah X):ah X:=
 s8 P σ fn.toList λps=>match Fq σ.m 0 ps with
  | some (qs,rs)=>match Aw σ.m 0 (qs.map λp=>p.2.length).sum C with
   | some (os,D)=>bif once (rs++D)then (match qs with
    |[p]=>k os (.one p)
    |qs=>k os (.fB qs))else none
   |none=>none
  |none=>none
/-! Types of parameters and results. -/
def ja:aa (Bool×TC×Nat)->Type
 |[]=>af
 |[(_,t,_)]=>T t
 |(_,t,_)::r=>T t×ja r
def uw:(l:aa (Bool×TC×Nat))->ja l->aa Pt
 |[],_=>[]
 |[(b,t,g)],x=>[(b,enc t g x)]
 |(b,t,g)::q::r,x=>(b,enc t g x.1)::uw (q::r) x.2
def qJ:(l:aa (Bool×TC×Nat))->aa Pt->ah (ja l)
 |[],[]=>some ()
 |[(b,t,g)],[(C,D)]=>bif b==C then dec t g D else none
 | (b,t,g) :: q :: r,(C,D) :: ps=>bif b==C then (match dec t g D,qJ (q :: r) ps with
  |some x,some xs=>some (x,xs)
  |_,_=>none)else none
 |_,_=>none
def mL(l:aa (Bool×TC×Nat)):gC->ah (ja l)
 |.one p=>qJ l [p]
 |.fB ps=>bif Nat.beq ps.length 1 then none else qJ l ps
def fV(l:aa (Bool×TC×Nat))(x:ja l):gC:=
 match uw l x with
 |[p]=>.one p
 |ps=>.fB ps
inductive PK where
 |v (b:Bool) (t:TC)
 |p (t:TC) (g off:Nat)
 |s (t:TC) (g:Nat)
def nh:aa PK->Type
 |[]=>af
 |.v _ t::r=>T t×nh r
 |.p t _ _::r=>T t×nh r
 |.s t _::r=>aa (T t)×nh r
def s9:aa (Bool×TC×Nat)->Type
 |[]=>af
 |(true,t,_)::r=>T t×s9 r
 |(false,t,_)::r=>aa (T t)×s9 r
def lY:(l:aa (Bool×TC×Nat))->s9 l->aa In
 |[],_=>[]
 |(true,t,g)::r,x=>.aB (enc t g x.1)::lY r x.2
 |(false,t,g)::r,x=>.sl (bif Nat.ble 1000000 g then .nil else .sl t (g+2) false x.1)::lY r x.2
def fQ:aa PK->aa (Bool×TC×Nat)
 |[]=>[]
 |.v _ _::r=>fQ r
 |.p t g _::r=>(true,t,g)::fQ r
 |.s t g::r=>(false,t,g)::fQ r
def og:(l:aa PK)->nh l->aa In
 |[],_=>[]
 |.v _ _::r,x=>og r x.2
 |.p t g _::r,x=>.aB (enc t g x.1)::og r x.2
 |.s t g::r,x=>.sl (.sl t (g+2) false x.1)::og r x.2
def kQ:(l:aa PK)->Nat->nh l->aa Ar
 |[],_,_=>[]
 |.v b t::r,i,x=>.pt (b,enc t 0 x.1)::kQ r i x.2
 |.p _ _ off::r,i,x=>.mut i off::kQ r (i+1) x.2
 |.s _ _::r,i,x=>.mut i 0::kQ r (i+1) x.2
structure oV where
 ps:List PK
 ro:List (Bool×TC×Nat)
 F:nh ps->Option (ja ro×s9 (fQ ps))
def uy(P:Program)(f:Nat)(c:oV):Prop:=
 ∀ x y,c.F x=some y->∀ (nm:Nat->Nat) (w:World) (aj:bM) (ρ:Nat->Loc) (bX:Array Value),qe w w.heap.size aj ρ 0 (og c.ps x)->(∀ b k,aj b=some k->b<w.heap.size/\k≠[])->
     bX.size=c.ps.length->(∀i,RA w w.heap.size aj ρ ((CL (og c.ps x) (kQ c.ps 0 x)).t i) (bX.getD i undef))->∀C:Hd w aj,
     Calls P f bX w λe w'=>∃v aD,e = .returned v/\jz ⟨w,aj,λ_=>none,C,λ_ _=>rfl⟩ w w'/\(∀b k,aD b=some k->(w.heap.size<=b\/aj b≠none)/\b<w'.heap.size/\k≠[])/\qI w' w.heap.size aD nm (fV c.ro y.1) v/\Jf w w' aD ρ nm 0 (fV c.ro y.1).len (og c.ps x) (lY (fQ c.ps) y.2)
def Jh(w:World)(ρ:Nat->Loc):Nat->aa In->Prop
 |_,[]=>True
 |i,.aB cs::r=>(∃b off cells e,ρ (nF i) = .aB b off/\w.heap[b]?=some (.cells cells e (0,0))/\∀(j:Nat) x,cs[j]?=some x->x.plain=false->x.aF=true->∃u,cells[off+j]?=some u/\ρ (20001+1000*i+j) = .eG u)/\Jh w ρ (i+1) r
 |i,.sl y::r=>(∃v,ρ (nF i) = .eG v)/\Jh w ρ (i+1) r
section
variable {P:Program} {w w':World} {w0:Wd} {B N:Nat} {aj aD:bM} {ρ ρ':Nat->Loc} {σ:S} {a:Act} {X:Type} {d:Nat} {r:X} {rs:aa (Nat×Nat)} {nm:Nat->Nat}
def Ws{m:Nat -> ah bu}{i pos:Nat}:∀ (xs:aa V) (T:aa Lf) (D:Nat) (ys:aa V) (U:aa (Nat×Nat)),CM m i pos D xs T=some (ys,U) -> ys.length=xs.length/\T.length=xs.length /\
  ∀(j:Nat) y,ys[j]?=some y -> ∃l x0,T[j]?=some l/\xs[j]?=some x0/\((l = .v y/\y.plain=true) \/ (l = .v .nil/\y = .nil/\x0.aF=false) \/ (l = .own [20001+1000*i+(D+j)]/\y=x0/\y.plain=false/\(y.aF&&y.kJ)=true/\20001+1000*i+(D+j)<60000) \/ (∃q,l = .own [q]/\m q=some (.sl y)/\y.aF=false/\(q,pos+1+(D+j))∈U))
 | [],[],D,ys,U,h=>by
  simp only[CM,iX,Prod.mk.injEq]at h;obtain⟨rfl,rfl⟩:=h;exact⟨rfl,rfl,λj y Z=>by simp at Z⟩
 |[],_::_,D,ys,U,h=>by simp[CM]at h
 |_::_,[],D,ys,U,h=>by simp[CM]at h
 | x0 :: xs,l :: T,D,ys,U,h=>by
  have hc:∀ y z,Wr m i D x0 l=some (y,z) -> (z=none/\l = .v y/\y.plain=true) \/ (z=none/\l = .v .nil/\y = .nil/\x0.aF=false) \/ (z=none/\l = .own [20001+1000*i+D]/\y=x0/\y.plain=false/\(y.aF&&y.kJ)=true/\20001+1000*i+D<60000) \/ (∃ q,z=some q/\l = .own [q]/\m q=some (.sl y)/\y.aF=false):=by
   intro y z C;unfold Wr at C;split at C
   ·rename_i x;cases hp:x.plain with
    | false=>
     rw[hp,aq]at C;cases hb:(!x.kJ && !x0.aF)with
     |false=>rw[hb]at C;cases C
     | true=>
      rw[hb,au]at C;simp only[iX,Prod.mk.injEq]at C;obtain⟨rfl,rfl⟩:=C;rw[aS,g9,g9]at hb;have hx:x = .nil:=by
       cases x<;>first|rfl|(exact absurd hb.1 (by simp[V.kJ]))
      subst hx;exact .inr (.inl ⟨rfl,rfl,rfl,hb.2⟩)
    |true =>grind
   ·rename_i q;split at C
    ·rename_i y1 hy1;cases hf:y1.aF with
     | true=>
      rw[hf,au]at C;cases hb:(!x0.plain&&(x0.aF&&x0.kJ)&&Nat.beq q (20001+1000*i+D)&&Nat.blt q 60000)with
      |false=>rw[hb]at C;cases C
      | true=>
       rw[hb,au]at C;simp only[iX,Prod.mk.injEq]at C;obtain⟨rfl,rfl⟩:=C;rw[aS,aS,aS,g9]at hb;obtain⟨⟨⟨b1,b2⟩,b3⟩,b4⟩:=hb;obtain rfl:=cK b3;exact .inr (.inr (.inl ⟨rfl,rfl,rfl,b1,b2,by have:=cX b4;omega⟩))
     | false=>
      rw[hf,aq]at C;cases hl:y1.loc with
      |false=>rw[hl]at C;cases C
      |true =>grind
    ·cases C
   ·cases C
  unfold CM at h;split at h
  ·rename_i y Wt Wu Z um;simp only[iX,Prod.mk.injEq]at h;obtain⟨rfl,rfl⟩:=h;obtain⟨h1,h2,h3⟩:=Ws xs T (D+1) Wt Wu um
   refine⟨by simp[h1],by simp[h2],λj y' E=>?_⟩
   cases j with
   | zero=>
    simp at E;subst E;refine⟨l,x0,rfl,rfl,?_⟩;rcases hc y none Z with ⟨_,L,O⟩|⟨_,L,O,Y⟩|⟨_,L,O,Y,e4,e5⟩|⟨q,hq,_⟩
    ·simp[*]
    ·simp[*]
    ·exact .inr (.inr (.inl ⟨L,O,Y,e4,e5⟩))
    ·cases hq
   | succ j=>
    obtain⟨l',x',g1,g2,g3⟩:=h3 j y' (by simpa using E);rw[show D+1+j=D+(j+1) by omega]at g3;exact⟨l',x',by simpa using g1,by simpa using g2,g3⟩
  ·rename_i y q Wt Wu Z um;simp only[iX,Prod.mk.injEq]at h;obtain⟨rfl,rfl⟩:=h;obtain⟨h1,h2,h3⟩:=Ws xs T (D+1) Wt Wu um
   refine⟨by simp[h1],by simp[h2],λj y' E=>?_⟩
   cases j with
   | zero=>
    simp at E;subst E;refine⟨l,x0,rfl,rfl,?_⟩;rcases hc y (some q) Z with ⟨e0,_⟩|⟨e0,_⟩|⟨e0,_⟩|⟨q',hq,L,O,Y⟩
    ·cases e0
    ·cases e0
    ·cases e0
    ·injection hq with hq;subst hq;exact .inr (.inr (.inr ⟨q,L,O,Y,.head _⟩))
   | succ j=>
    obtain⟨l',x',g1,g2,g3⟩:=h3 j y' (by simpa using E);rw[show D+1+j=D+(j+1) by omega]at g3;exact⟨l',x',by simpa using g1,by simpa using g2,g3.imp id (λg=>g.imp id (λg=>g.imp id λ⟨q',L,O,Y,e4⟩=>⟨q',L,O,Y,.tail _ e4⟩))⟩
  ·cases h
def PD{w1:World}{Wv:Nat -> Loc}{m:Nat -> ah bu}(T:∀ r,20000 <= r -> r<60000 -> ρ r=Wv r)(U:∀ r x,m r=some x -> eH w w1.heap.size aj ρ r x):
  ∀(ins:aa In) (i Z:Nat) (outs:aa In) (Ji:aa (Nat×Nat)),Aw m i Z ins=some (outs,Ji) -> (∀p∈Ji,rs.lookup p.1=some p.2) -> Jh w1 Wv i ins -> rV w1 w (eV aj rs nm) Wv nm i Z ins outs
 | [],i,Z,outs,Ji,h,L,he=>by
  simp only[Aw,iX,Prod.mk.injEq]at h;obtain⟨rfl,rfl⟩:=h;trivial
 | .aB cs :: r,i,Z,outs,Ji,h,L,he=>by
  unfold Aw at h;cases hi:Nat.blt (nF i) 60000 with
  |false=>grind
  | true=>
   rw[hi,au]at h;have hi:=cX hi;split at h
   ·rename_i ls Ww;split at h
    ·rename_i fe rs1 os CK h1 h2;simp only[iX,Prod.mk.injEq]at h;obtain⟨rfl,rfl⟩:=h;obtain⟨⟨b,off,cells,e,adj,Wb,x4⟩,Jj⟩:=he;obtain⟨k1,k2,k3⟩:=Ws _ _ _ _ _ h1
     refine⟨?_,PD T U r (i+1) _ os CK h2 (λp D=>L p (.tail _ (List.mem_append_right _ D))) Jj⟩
     have O:=U _ _ Ww;have Wx:=T (nF i) (by unfold nF;omega) (by omega);generalize C:bu.aB ls=x at O;cases O with
     |sl=>cases C
     |mp=>cases C
     |gh=>cases C
     | aB b' II x5 e' ls' us E hl hh hs hc=>
      injection C with C;subst C;rw[Wx,adj]at E;injection E with e1 e2;subst e1 e2
      refine⟨b,off,cells,x5,e,e',adj,Wb,hh,?_,by rw[k1,<- k2];exact hs,k1,λj y hy=>?_⟩
      ·have:=L _ (List.Mem.head _);simp[eV,hl,this]
      ·obtain⟨l,x0,g1,g2,g3⟩:=k3 j y hy;obtain⟨c1,c2⟩:=hc j l g1;refine⟨_,c1,?_⟩;rw[fT]at g3;rcases g3 with ⟨rfl,D⟩ | ⟨rfl,rfl,Po⟩ | ⟨rfl,rfl,D,Aj,dQ⟩ | ⟨q,rfl,hq,hf,wh⟩
       ·exact .inl ⟨D,λ_ _ _ _=>c2.2.ud D⟩
       ·exact .inr (.inl ⟨rfl,by have h9:=c2.2;generalize us j=u9 at h9 ⊢;cases h9;rfl,x0,g2,Po⟩)
       ·rw[aS]at Aj;obtain⟨hf,Ft⟩:=Aj;obtain⟨u,hu,apV⟩:=x4 j y g2 D hf;refine .inr (.inr (.inl ⟨D,hf,Ft,⟨y,g2,.same _⟩,?_⟩));have Y:=c2.2;have Wy:=T (20001+1000*i+j) (by omega) dQ;simp only[dm,Wy,apV]at Y;simp_all
       ·refine .inr (.inr (.inr ⟨hf,?_⟩));have O:=U _ _ hq;generalize C:bu.sl y=x at O;cases O with
        |aB=>cases C
        |mp=>cases C
        |gh=>cases C
        | sl v y' E hr=>
         injection C with C;subst C;have Y:=c2.2;simp only[dm,E]at Y;injection Y with Y;rw[<- Y];exact RV.eV (p:=[]) hr (L _ (.tail _ (List.mem_append_left _ wh)))
    ·cases h
   ·cases h
 | .sl y :: r,i,Z,outs,Ji,h,L,he=>by
  unfold Aw at h;cases hg:y.gone with
  | true=>
   rw[hg,au]at h;split at h
   next os CK h2=>simp at h;obtain⟨rfl,rfl⟩:=h;exact⟨.inl rfl,PD T U r _ _ os CK h2 L he.2⟩
   ·cases h
  |false=>
  rw[hg,aq]at h;cases hi:Nat.blt (nF i) 60000 with
  |false=>grind
  | true=>
   rw[hi,au]at h;have hi:=cX hi;split at h
   ·rename_i y' I3;cases hl:(y'.loc && !y'.aF)with
    |false=>grind
    | true=>
     rw[hl,au]at h;split at h
     ·rename_i os CK h2;simp only[iX,Prod.mk.injEq]at h;obtain⟨rfl,rfl⟩:=h;obtain⟨⟨v,hv⟩,Jj⟩:=he
      refine⟨.inr ⟨v,hv,?_⟩,PD T U r (i+1) _ os CK h2 (λp D=>L p (.tail _ D)) Jj⟩
      have Wx:=T (nF i) (by unfold nF;omega) (by omega);have O:=U _ _ I3;generalize C:bu.sl y'=x at O;cases O with
      |aB=>cases C
      |mp=>cases C
      |gh=>cases C
      | sl v' y'' E hr=>
       injection C with C;subst C;rw[Wx,hv]at E;injection E with E;subst E;exact RV.eV (p:=[]) hr (L _ (.head _))
     ·cases h
   ·cases h
def apW{w1:World}{Y:Nat -> Loc}{fn:Func}{T:aa In}{k:aa In -> gC -> ah X}(hw:w0.w=w1)(hF:∀ r,20000 <= r -> r<60000 -> w0.F r=some (Y r))(he:Jh w1 Y 0 T)(h:Jg P σ fn.results T k=some r):
  ∃outs res,k outs res=some r /\ ∀aj ρ a w,Rl w0 N aj ρ σ a w -> ∀nm,∃v aD,(results fn a.tmps).run P w = .ok v w/\(∀b k,aD b=some k -> (w0.heap.size <= b \/ w0.L b≠none)/\b<w.heap.size/\k≠[])/\qI w w0.heap.size aD nm res v/\rV w1 w aD Y nm 0 res.len T outs:=by
 unfold Jg at h;obtain⟨ps,E,rU⟩:=Je (w0:=w0) (N:=N) _ _ h;clear h;split at E
 ·rename_i qs Wz Wo;split at E
  ·rename_i os WA hos;cases ho:once (Wz++WA)with
   |false=>rw[ho]at E;cases E
   | true=>
    rw[ho,au]at E;generalize adk:Wz++WA=rs at ho;have ki:∀ p∈rs,rs.lookup p.1=some p.2:=by
     intro p Z;have:=cw.1 ho p Z;obtain⟨n,hn,he⟩:=(Option.any_eq_true _ _).1 this;simp_all
    have core:∀ aj ρ a w,Rl w0 N aj ρ σ a w -> ∀ nm:Nat -> Nat,∃ C:aa Value,(fn.results.mapM (ur a.tmps)).run P w = .ok C.toArray w/\(∀ b k,eV aj rs nm b=some k -> (w0.heap.size <= b \/ w0.L b≠none)/\b<w.heap.size/\k≠[])/\kf w w0.heap.size (eV aj rs nm) nm 0 qs C /\
      rV w1 w (eV aj rs nm) Y nm 0 (qs.map λp=>p.2.length).sum T os:=by
     intro aj ρ a w hR nm;obtain⟨C,dZ,hl,hv⟩:=rU aj ρ a w hR
     refine⟨C,?_,λb k O=>?_,Wn hR.root ps 0 qs Wz C Wo (λp Z=>ki p (by rw[<- adk];exact List.mem_append_left _ Z)) hl hv,
      PD (λr h1 E=>hR.fix r _ (hF r h1 E)) (by rw[<- hw];exact hR.root) T 0 _ os WA hos (λp Z=>ki p (by rw[<- adk];exact List.mem_append_right _ Z)) he⟩
     ·rw[Array.mapM_eq_mapM_toList];simp[dZ]
     ·unfold eV at O;split at O
      ·cases O
      ·rename_i k' p9;have:=hR.dD b k' p9;split at O
       ·cases O
       ·cases uv:rs.lookup _ with
        |none=>rw[uv]at O;cases O
        | some n=>
         rw[uv]at O;injection O with O;subst O;simp_all
    have mK:∀ (tmps:Array Value),results fn tmps=(do let C <- fn.results.mapM (ur tmps);pure (if h:C.size=1 then C[0]else .tuple C)):=λtmps=>by
     unfold results;congr 1
    split at E
    ·rename_i p
     refine⟨_,_,E,λaj ρ a w hR nm=>?_⟩
     obtain⟨C,dZ,oU,D,U⟩:=core aj ρ a w hR nm;have U:rV w1 w (eV aj rs nm) Y nm 0 (gC.one p).len T os:=by simpa [gC.len]using U
     match C,D with
     |[v],D=>exact⟨v,_,by rw[mK,gF,dZ];rfl,oU,D,U⟩
     |[],D=>exact D.elim
     |_::_::_,D=>exact D.2.elim
    ·rename_i dH
     refine⟨_,_,E,λaj ρ a w hR nm=>?_⟩
     obtain⟨C,dZ,oU,D,U⟩:=core aj ρ a w hR nm;have iU:C.toArray.size≠1:=by
      intro e;clear U;have e:C.length=1:=by simpa using e
      match qs,C,D,dH,e with
      |[q],[v],_,dH,_=>exact dH q rfl
      |[],[v],D,_,_=>exact D.elim
      |_::_::_,[v],D,_,_=>exact D.2.elim
     refine⟨.tuple C.toArray,_,?_,oU,⟨C.toArray,rfl,D⟩,U⟩;rw[mK,gF,dZ,mX];simp only[iU,dif_neg,not_false_eq_true,Sem.run_pure]
  ·cases E
 ·cases E
def adl{i:Nat}:∀ (cs:aa V) (D:Nat) (m:Nat -> ah bu) (r:Nat) (x:bu),Wp i D cs m r=some x -> m r=some x \/ ∃ j y,cs[j]?=some y/\y.plain=false/\r=nC i (D+j) y/\x = .sl y
 |[],D,m,r,x,h=>.inl h
 | c :: cs,D,m,r,x,h=>by
  rcases adl cs _ _ r x h with C|⟨j,y,C,O,T,U⟩
  ·cases E:c.plain with
   |true=>simp_all
   | false=>
    rw[E,aq]at C;by_cases L:r=nC i D c
    ·subst L;rw[cu]at C;injection C with C;exact .inr ⟨0,c,rfl,E,rfl,C.symm⟩
    ·rw[cU _ _ _ L]at C;simp_all
  ·exact .inr ⟨j+1,y,by simpa using C,O,by rw[T];congr 1;omega,U⟩
def qe.roots:∀ (C:aa In) (i:Nat) (m:Nat -> ah bu),qe w B aj ρ i C -> (∀ r x,m r=some x -> eH w B aj ρ r x) -> ∀ r x,PC i C m r=some x -> eH w B aj ρ r x
 |[],i,m,_,L,r,x,h=>L r x h
 | .aB cs :: C,i,m,O,L,r,x,h=>by
  obtain⟨Y,Z,T⟩:=O
  refine qe.roots C _ _ T (λr x E=>?_) r x h
  rcases adl cs 0 _ r x E with U|⟨j,y,g1,g2,g3,g4⟩
  ·by_cases D:r=nF i
   ·subst D;rw[cu]at U;simp_all
   ·rw[cU _ _ _ D]at U;simp_all
  ·simp_all
 | .sl y :: C,i,m,O,L,r,x,h=>by
  obtain⟨Y,T⟩:=O
  refine qe.roots C _ _ T (λr x E=>?_) r x h
  by_cases D:r=nF i
  ·subst D;rw[cu]at E;simp_all
  ·rw[cU _ _ _ D]at E;simp_all
def WB{i:Nat}:∀ (cs:aa V) (C j:Nat) x,cs[j]?=some x->(Av i C cs)[j]?=some (Au i (C+j) x)
 |[],C,j,x,h=>by simp at h
 |c::cs,C,0,x,h=>by simp at h;subst h;rfl
 | c :: cs,C,j+1,x,h=>by
  simp only[Av,List.getElem?_cons_succ];rw[WB cs (C+1) j x (by simpa using h)];congr 2;omega
def qe.WC:∀ (C:aa In) (i:Nat),qe w B aj ρ i C -> Jh w ρ i C
 |[],_,_=>trivial
 | .aB cs :: C,i,L=>by
  obtain⟨E,_,O⟩:=L;refine⟨?_,qe.WC C (i+1) O⟩;generalize D:bu.aB (Av i 0 cs)=x at E;cases E with
  |sl=>cases D
  |mp=>cases D
  |gh=>cases D
  | aB b off cells e ls us Y hl Z hs hc=>
   injection D with D;subst D
   refine⟨b,off,cells,e,Y,Z,λj x hj hp hf=>?_⟩
   obtain⟨c1,T⟩:=hc j _ (WB cs 0 j x hj);rw[fT]at T;refine⟨_,c1,?_⟩;have e1:Au i j x = .own [20001+1000*i+j]:=by simp[Au,hp,nC,hf]
   rw[e1]at T;have U:=T.2;simp only[dm]at U;split at U
   ·simp_all
   ·cases U
 | .sl y :: C,i,L=>by
  obtain⟨E,O⟩:=L;refine⟨?_,qe.WC C (i+1) O⟩;cases E with
  |sl v y' Y hr=>simp_all
end
def dS(n:Nat):aa Nat->Bool
 |[]=>false
 |m::l=>Nat.beq n m ||dS n l
def x6{n:Nat}:∀ {l:aa Nat},dS n l=true ↔ n∈l
 |[]=>by simp[dS]
 | m :: l=>by
  simp only[dS,eR,iG,x6];simp_all
def adm{n:Nat}{l:aa Nat}(h:dS n l=false):n ∉ l:=λk=>by rw[x6.2 k]at h;cases h
def gQ(k l:aa Nat):Bool:=match k.getLast? with
 |some r=>dS r l
 |none=>false
def Fu(ns cn:aa Nat):n9:=⟨λk=>gQ k cn ||(gQ k ns && !(Nat.beq k.length 1)),λk=>gQ k cn ||gQ k ns,λr=>dS r cn⟩
def Lf.fE(ns cn:aa Nat):Lf->Lf:=Lf.cL (Fu ns cn).l
def A.fE(ns cn:aa Nat):A->A:=A.cL (Fu ns cn)
def bu.fE(ns cn:aa Nat):bu->bu:=bu.cL (Fu ns cn)
def S.fE(σ:S)(ns cn:aa Nat)(nr:aa (Nat×bu)):S:=⟨λk=>(σ.t k).fE ns cn,λr=>match nr.lookup r with
 |some x=>some x
 |none=>bif dS r ns ||dS r cn then none else (σ.m r).map (bu.fE ns cn)⟩
structure uz (w w':World) (aj dX:bM) (ρ fD:Nat->Loc) (ns cn:List Nat):Prop where
 size:w.heap.size<=w'.heap.size
 same:∀b,b<w.heap.size->(∀k,aj b=some k->gQ k ns=false)->w'.heap[b]?=w.heap[b]?/\dX b=aj b
 fC:∀r,dS r cn=false->fD r=ρ r
 aj:∀b k,aj b=some k->b<w.heap.size/\k≠[]
section
variable {P:Program} {w w':World} {w0:Wd} {B N:Nat} {aj dX aD:bM} {ρ fD:Nat->Loc} {σ:S} {a:Act} {X:Type} {d:Nat} {r:X} {ns cn:aa Nat}
def adn{j i s:Nat}{q l:aa Nat}(h:q≠[]):gQ (j :: i :: s :: q) l=gQ q l:=by
 cases q with
 |nil=>simp_all
 |cons x q=>simp[gQ]
def uz.tr(C:uz w w' aj dX ρ fD ns cn):Tr w w' aj dX ρ fD (λk=>gQ k ns) (λr=>dS r cn):=
 ⟨C.size,λb hb hl=>let e:=C.same b hb (λk D=>by rw[hl]at D;cases D);⟨e.1,e.2.trans hl⟩,λb k hl D=>let e:=C.same b (C.aj b k hl).1 (λL E=>by rw[hl]at E;injection E with E;subst E;exact D);⟨e.1,e.2.trans hl⟩,C.fC,λj i s x q=>adn (by simp),λb hb=>absurd rfl (C.aj b [] hb).2⟩
def WD:(Fu ns cn).OK (λk=>gQ k ns) (λr=>dS r cn):=by
 refine⟨λk D=>?_,λk D=>?_,λ_ h=>h⟩
 ·obtain⟨E,C⟩:=pN.1 D;refine⟨?_,E⟩;cases L:gQ k ns with
  |false=>exact .inr rfl
  | true=>
   rw[L,cC,Bool.not_eq_false']at C;exact .inl (cK C)
 ·obtain⟨E,C⟩:=pN.1 D;exact⟨C,E⟩
def RV.uA(C:uz w w' aj dX ρ fD ns cn){q:aa Nat}{x:V}{v:Value}(h:RV w B aj q x v)(D:gQ q ns=false\/x.aF=true):RV w' B dX q x v:=h.tr C.tr D.symm
def RA.uA(C:uz w w' aj dX ρ fD ns cn){x:A}{u:Value}(h:RA w B aj ρ x u):RA w' B dX fD (x.fE ns cn) u:=h.tr C.tr WD
def eE.uA(C:uz w w' aj dX ρ fD ns cn){x:Lf}{u:Value}(h:eE w B aj ρ x u):eE w' B dX fD (x.fE ns cn) u:=h.tr C.tr WD
def eH.uA(C:uz w w' aj dX ρ fD ns cn){n:Nat}{x:bu}(h:eH w B aj ρ n x)(D:dS n ns=false)(E:dS n cn=false):eH w' B dX fD n (x.fE ns cn):=h.tr C.tr WD D E
def Rl.uA(h:Rl w0 N aj ρ σ a w)(D:uz w w' aj dX ρ fD ns cn)(hb:jz w0 w w')(hl:∀ b k,dX b=some k -> (w0.heap.size <= b \/ w0.L b≠none)/\b<w'.heap.size/\k≠[])(U:∀ r,dS r cn=true -> w0.F r=none){nr:aa (Nat×bu)}
  (Y:∀r x,nr.lookup r=some x -> eH w' w0.heap.size dX fD r x):Rl w0 N dX fD (σ.fE ns cn nr) a w':=by
 refine⟨h.below.trans hb,hl,λr x C=>?_,λk=>(h.tmp k).uA D,h.size,h.defers,λr l O=>?_,h.dN⟩
 ·simp only[S.fE]at C;split at C
  ·simp_all
  ·cases hm:(dS r ns || dS r cn)with
   |true=>simp_all
   | false=>
    rw[hm]at C;rw[pN]at hm;cases E:σ.m r with
    |none=>simp_all
    | some y=>
     rw[E]at C;injection C with C;subst C;exact(h.root r y E).uA D hm.1 hm.2
 ·have T:dS r cn=false:=by
   grind
  exact(D.fC r T).trans (h.fix r l O)
end
inductive Mu where
 |aB (r:Nat) (cs:List Lf) (vs:List (V×Option Nat))
 |sl (q:Nat) (y:V)
def Mu.root:Mu->Nat
 |.aB r _ _=>r
 |.sl q _=>q
def Ax(m:Nat->ah bu):Lf->ah (V×ah Nat)
 |.v x=>some (x.gN,none)
 | .own [q]=>match m q with
  |some (.sl y)=>bif y.aF then some (y.gN,none)else some (y,some q)
  |_=>none
 |_=>none
def uB(m:Nat->ah bu):aa Lf->ah (aa (V×ah Nat))
 |[]=>some []
 | l :: C=>match Ax m l,uB m C with
  |some v,some D=>some (v::D)
  |_,_=>none
def CN(σ:S):PK->A->ah (ah Mu)
 |.v _ _,_=>some none
 | .p _ _ off,.aG r j=>(match (bif Nat.beq j off then σ.m r else none)with
  | some (.aB cs)=>(match uB σ.m cs with
   |some C=>bif Nat.blt cs.length 999 then some (some (.aB r cs C))else none
   |none=>none)
  |_=>none)
 | .s _ _,.lf (.own [q])=>(match σ.m q with
  |some (.sl y)=>bif y.aF then none else some (some (.sl q y))
  |_=>none)
 |_,_=>none
def oh(σ:S):aa PK->aa Operand->ah (aa Mu)
 |[],[]=>some []
 | p :: ps,x :: xs=>(match CN σ p (aP σ x),oh σ ps xs with
  |some (some D),some C=>some (D::C)
  |some none,some C=>some C
  |_,_=>none)
 |_,_=>none
def Jk(i:Nat):Nat->aa (V×ah Nat)->aa (Nat×Nat)
 |_,[]=>[]
 |j,(_,some q)::C=>(q,60000+1000*i+j)::Jk i (j+1) C
 |j,(_,none)::C=>Jk i (j+1) C
def oW:Nat->aa Mu->aa (Nat×Nat)
 |_,[]=>[]
 |i,.aB r _ D::C=>(r,nF i)::(Jk i 0 D++oW (i+1) C)
 |i,.sl q _::C=>(q,nF i)::oW (i+1) C
def WE(ns:aa Nat):Lf->Bool
 |.own k=>!gQ k ns
 |_=>true
def x7{X:Type}(σ:S)(ns:aa Nat):aa Lf->(aa V->ah X)->ah X
 |[],k=>k []
 |x::xs,k=>bif WE ns x then pW σ x λy=>x7 σ ns xs λys=>k (y.gN::ys)else none
def wj{X:Type}(σ:S)(ns:aa Nat)(x:A)(k:Pt->ah X):ah X:=
 match x with
 |.lf y=>x7 σ ns [y] λC=>k (false,C)
 |.agg ys=>x7 σ ns ys λC=>k (true,C)
 |.n8 f (c::cs)=>k (false,.bool false::.int .i64 (f:Int)::c.gN::cs.map V.gN)
 | .fn f [(r,j)]=>bif dS r ns then none else (match σ.m r with
  | some (.aB cs)=>(match rO (cs.drop j)with
   |some (c::C)=>k (false,.bool false::.int .i64 (f:Int)::c::C)
   |_=>none)
  |_=>none)
 |_=>none
def oX{X:Type}(σ:S)(ns:aa Nat):(ps:aa PK)->aa Operand->aa Mu->(nh ps->ah X)->ah X
 |[],[],[],k=>k ()
 | .v b t :: ps,x :: xs,C,k=>wj σ ns (aP σ x) λp=>bif p.1==b then (match dec t 0 p.2 with
  |some y=>oX σ ns ps xs C λys=>k (y,ys)
  |none=>none)else none
 | .p t g _ :: ps,_ :: xs,.aB _ _ D :: C,k=>(match (bif Nat.beq (g % 2) 0 then dec t g (D.map (·.1))else none)with
  |some y=>oX σ ns ps xs C λys=>k (y,ys)
  |none=>none)
 | .s t g :: ps,_ :: xs,.sl _ y :: C,k=>(match (bif Nat.beq (g % 2) 0 then y.fP t (g+2)else none)with
  |some z=>oX σ ns ps xs C λys=>k (z,ys)
  |none=>none)
 |_,_,_,_=>none
def ya(w:World)(ρ:Nat->Loc)(rs:aa Nat):Nat->Loc:=λn=>
 if n<60000 then (if (n-20000) % 1000=0 then ρ (rs.getD ((n-20000) / 1000) 0)else (match ρ (rs.getD ((n-20000) / 1000) 0)with
  |.aB b off=>.eG ((w.cell? ⟨b,off+((n-20000) % 1000-1),none⟩).getD undef)
  |.eG v=>.eG v
  |.bX us=>.bX us))
 else (match ρ (rs.getD ((n-60000) / 1000) 0)with
  |.aB b off=>.eG ((w.cell? ⟨b,off+(n-60000) % 1000,none⟩).getD undef)
  |.eG v=>.eG v
  |.bX us=>.bX us)
def Jl{w:World}{ρ:Nat -> Loc}{rs:aa Nat}{i r:Nat}(h:rs[i]?=some r)(hi:i<40):ya w ρ rs (nF i)=ρ r:=by
 have C:nF i<60000:=by unfold nF;omega
 have D:(nF i-20000) % 1000=0:=by unfold nF;omega
 have E:(nF i-20000) / 1000=i:=by unfold nF;omega
 have L:rs.getD i 0=r:=by rw[fA,h];rfl
 unfold ya;simp_all
def apX{w:World}{ρ:Nat -> Loc}{rs:aa Nat}{i j r b off:Nat}{u:Value}{x:V}(h:rs[i]?=some r)(hi:i<40)(C:j<999)(D:ρ r = .aB b off)(E:w.cell? ⟨b,off+j,none⟩=some u):ya w ρ rs (nC i j x) = .eG u:=by
 have L:rs.getD i 0=r:=by rw[fA,h];rfl
 unfold ya nC;cases x.aF with
 |true =>grind
 |false =>grind
def V.PE:V->Bool
 |.sl _ o _ _=>Nat.beq (o % 2) 0
 |_=>true
section
variable {P:Program} {w w':World} {w0:Wd} {B N:Nat} {aj dX aD:bM} {ρ fD:Nat->Loc} {σ:S} {a:Act} {X:Type} {d:Nat} {r:X} {ns cn:aa Nat}
def RV.reB{B':Nat}{q:aa Nat}{x:V}{v:Value}(h:RV w B aj q x v)(D:x.PE=true):RV w B' aj q x v:=by
 induction h with
 |int=>exact .int _ _ _
 |bool=>exact .bool _ _
 |str=>exact .str _ _
 |nil=>exact .nil _
 |eU=>exact .eU _ _ _
 |gd=>exact .gd _ _ _ _ _ (by first|assumption|omega)
 |gq=>exact .gq _ _ _ _ _ (by first|assumption|omega)
 | aF q t o T l b off cap u U hl hb h1 Y E Z L=>
  have D:=cK D;have ho0:o=0:=by omega
  subst ho0
  refine .aF _ _ _ _ _ _ _ _ u U hl hb (by omega) Y E (λi h j x C=>L i h j x C ?_)
  have:=zX t 0 l[i] x (iq C);cases x with
  | sl t' O q' l'=>
   have:O=0:=by simpa [V.gr]using this
   subst this;rfl
  |_=>rfl
 | own q t o T l b cap cs u hl hh hs hn hm E Z L=>
  have D:=cK D
  refine .own _ _ _ _ _ _ _ cs u hl hh hs hn hm E (λi h j x C=>L i h j x C ?_)
  have:=zX t o l[i] x (iq C);cases x with
  | sl t' O q' l'=>
   have:O=o:=by simpa [V.gr]using this
   show Nat.beq _ 0=true;simp_all
  |_=>rfl
def RV.out{q L:aa Nat}{x:V}{v:Value}(h:RV w B aj q x v)(Y:∀ b,aj b=none -> aD b=none)(Z:∀ b k,aj b=some k -> k≠[]/\(gQ k ns=false -> aD b=none))(hq:x.aF=true \/ gQ q ns=false){B':Nat}:RV w B' aD L x.gN v:=by
 induction h generalizing L with
 |int=>exact .int _ _ _
 |bool=>exact .bool _ _
 |str=>exact .str _ _
 |nil=>exact .nil _
 |eU=>exact .eU _ _ _
 |gd=>exact .gd _ _ _ _ _ (by first|assumption|omega)
 |gq=>exact .gq _ _ _ _ _ (by first|assumption|omega)
 | aF q t o qn l b off cap u ho hl hb Vy jL O hr E=>
  refine .aF _ _ _ _ _ _ _ _ u (by omega) (Y b hl) hb (by omega) jL (λi h j x C=>?_) (λi h j x C=>?_)
  ·obtain⟨y,D,_⟩:=xH t o l[i] j x C;simp_all
  ·obtain⟨y,D,rfl⟩:=xH t o l[i] j x C;exact E i h j y D (.inl (sR t o l[i] ho j y D))
 | own q t o qn l b cap cs u hl T hs hn hm O hr E=>
  have U:gQ q ns=false:=by
   rcases hq with hq|hq
   ·simp[V.aF]at hq;omega
   ·exact hq
  obtain⟨dH,qF⟩:=Z b q hl
  refine .aF _ _ _ _ _ _ _ _ u (by omega) (qF U) (jj.1 T).1 (by omega) hn (λi h j x C=>?_) (λi h j x C=>?_)
  ·obtain⟨y,D,_⟩:=xH t o l[i] j x C;have:=O i h j y D;rw[fT,cell_of_row w b _ cs _ _ T];exact this
  ·obtain⟨y,D,rfl⟩:=xH t o l[i] j x C;exact E i h j y D (.inr (by rw[adn dH];exact U))
def apY{x:Lf}{k:V -> ah X}(h:pW σ x k=some r):∃ y,k y=some r /\ ∀ aj ρ a w,Rl w0 N aj ρ σ a w -> ∀ u,eE w w0.heap.size aj ρ x u -> ∃ q,(x = .own q \/ y.aF=true)/\RV w w0.heap.size aj q y u:=by
 cases x with
 |v y=>exact⟨y,h,λaj ρ a w hR u C=>⟨[],.inr C.1,C.2⟩⟩
 |dead=>cases h
 | own q=>
  obtain⟨y,D,E⟩:=sU q k h
  refine⟨y,E,λaj ρ a w hR u C=>⟨q,.inl rfl,?_⟩⟩
  obtain⟨v,L,O⟩:=D.ok hR.root;have:v=u:=by
   have T:=C.2;simp_all
  simp_all
structure CO (ns:List Nat) (aj aD:bM):Prop where
 none:∀b,aj b=none->aD b=none
 rest:∀b k,aj b=some k->k≠[]/\(gQ k ns=false->aD b=Option.none)
def WG:∀ (xs:aa Lf) (k:aa V -> ah X),x7 σ ns xs k=some r -> ∃ C,k C=some r/\C.length=xs.length /\ ∀ aj ρ a w aD,Rl w0 N aj ρ σ a w -> CO ns aj aD -> ∀ (j:Nat) x y u,xs[j]?=some x -> C[j]?=some y -> eE w w0.heap.size aj ρ x u -> RV w w.heap.size aD [] y u
 |[],k,h=>⟨[],h,rfl,λ_ _ _ _ _ _ _ j x y u T=>by simp at T⟩
 | x :: xs,k,h=>by
  unfold x7 at h;cases D:WE ns x with
  |false=>simp_all
  | true=>
   rw[D,au]at h;obtain⟨y,U,Y⟩:=apY (w0:=w0) (N:=N) h;obtain⟨ys,Z,hl,hr⟩:=WG xs _ U
   refine⟨y.gN::ys,Z,by simp[hl],λaj ρ a w aD hR E j x' y' u L O hu=>?_⟩
   cases j with
   | zero=>
    simp at L O;subst L O;obtain⟨q,hq,kL⟩:=Y aj ρ a w hR u hu;refine kL.out E.none E.rest ?_;rcases hq with rfl|hq
    ·exact .inr (by simpa [WE]using D)
    ·simp_all
   |succ j=>grind
inductive PM (w:World) (aD:bM):Pt->Value->Prop
 |v (p:Pt) (u:Value) (h:PV w w.heap.size aD (λ_=>[]) p u):PM w aD p u
 |f (g:Nat) (c:V) (cs:List V) (u:Value) (h:RF w w.heap.size aD (c::cs) u):PM w aD (false,.bool false::.int .i64 (g:Int)::c::cs) (.func (.func g) #[] #[u])
def apZ{g:Nat}{c:V}{cs ys:aa V}(hl:(V.bool false :: .int .i64 (g:Int) :: c :: cs).length=ys.length)(h:∀ (j:Nat) x z,(V.bool false :: .int .i64 (g:Int) :: c :: cs)[j]?=some x -> ys[j]?=some z -> Wk x z):∃ C fe,ys = .bool false :: .int .i64 (g:Int) :: C :: fe/\lX (c :: cs) (C :: fe):=by
 match ys,hl,h with
 | a :: b :: C :: fe,hl,h=>
  have D:=h 0 _ a rfl rfl;have E:=h 1 _ b rfl rfl;cases D;cases E;exact⟨C,fe,rfl,by simpa using hl,λj x z L O=>h (j+2) x z (by simpa using L) (by simpa using O)⟩
def RF.uC{cs C:aa V}{u:Value}(h:RF w B aj cs u)(E:lX cs C)(O:∀ (j:Nat) z,C[j]?=some z->z.aF=true):RF w B aj C u:=by
 obtain⟨b,off,rfl,hb,hl,T⟩:=h
 refine⟨b,off,rfl,hb,hl,λj x D=>?_⟩
 have L:j<cs.length:=by rw[E.1];exact(eo.1 D).1
 obtain⟨_,v,U,Y⟩:=T j _ (bY L);exact⟨O j x D,v,U,Y.wk (E.2 j _ x (bY L) D)⟩
def RF.gN{cs:aa V}{u:Value}(h:RF w B aj cs u)(D:∀ b,aj b=none -> aD b=none)(L:∀ b k,aj b=some k -> k≠[]/\(gQ k ns=false -> aD b=none)){B':Nat}:RF w B' aD (cs.map V.gN) u:=by
 obtain⟨b,off,rfl,hb,hl,O⟩:=h
 refine⟨b,off,rfl,hb,D b hl,λj x C=>?_⟩
 rw[ff]at C;cases E:cs[j]? with
 |none=>simp_all
 | some y=>
  rw[E]at C;injection C with C;subst C;obtain⟨T,v,U,Y⟩:=O j y E;exact⟨V.ao0 y,v,U,Y.out D L (.inl T)⟩
def ap0{x:A}{k:Pt -> ah X}(h:wj σ ns x k=some r):∃ p,k p=some r /\ ∀ aj ρ a w aD,Rl w0 N aj ρ σ a w -> CO ns aj aD -> ∀ u,RA w w0.heap.size aj ρ x u -> PM w aD p u:=by
 unfold wj at h;split at h
 ·rename_i y;obtain⟨Y,O,hl,T⟩:=WG (w0:=w0) (N:=N) _ _ h
  refine⟨_,O,λaj ρ a w aD hR C u D=>.v _ _ ⟨#[u],rfl,by simp[hl],λj x E=>?_⟩⟩
  have L:j=0:=by
   grind
  subst L;exact⟨u,rfl,T aj ρ a w aD hR C 0 y x u rfl E D⟩
 ·rename_i ys;obtain⟨Y,O,hl,T⟩:=WG (w0:=w0) (N:=N) _ _ h
  refine⟨_,O,λaj ρ a w aD hR C u D=>?_⟩
  obtain⟨us,rfl,U⟩:=D
  refine .v _ _ ⟨us,rfl,by rw[hl];exact U.1,λj x E=>?_⟩
  have L:j<ys.length:=by rw[<- hl];exact(eo.1 E).1
  obtain⟨v,hv,fU⟩:=U.2 j _ (bY L);exact⟨v,hv,T aj ρ a w aD hR C j _ x v (bY L) E fU⟩
 ·rename_i f c cs
  refine⟨_,h,λaj ρ a w aD hR C u D=>?_⟩
  obtain⟨pv,rfl,ta⟩:=D;exact .f f _ _ _ (ta.gN C.none C.rest)
 ·rename_i f Z j;cases hmb:dS Z ns with
  |true=>grind
  | false=>
   rw[hmb,aq]at h;split at h
   ·rename_i cs hm;split at h
    ·rename_i c Y vT;obtain⟨e,hp⟩:=Pa _ _ vT
     refine⟨_,h,λaj ρ a w aD hR C u D=>?_⟩
     obtain⟨us,rfl,lI,jL⟩:=D;obtain⟨b,off,cG,CC⟩:=jL 0 _ rfl;have CC:us[0]?=some (.pointer (some ⟨b,off+j,none⟩)):=CC;have aIB:us.size=1:=lI;have ap1:us = #[.pointer (some ⟨b,off+j,none⟩)]:=by
      apply Array.ext';apply List.ext_getElem?;intro i;cases i with
      |zero=>grind
      |succ i=>grind
     subst ap1;refine .f f _ _ _ ?_;cases hR.root Z _ hm with
     | aB b' II cells e' _ Pe hJ oU hh U hc=>
      rw[cG]at hJ;injection hJ with q1 q2;subst q1 q2
      refine⟨b,off+j,rfl,(jj.1 hh).1,(C.rest b _ oU).2 (by simpa [gQ]using hmb),λi x E=>?_⟩
      have hpx:=hp x (iq E);have hcd:(cs.drop j)[i]?=some (.v x):=by rw[e,ff,E];rfl
      rw[List.getElem?_drop]at hcd;obtain⟨k1,k2⟩:=hc _ _ hcd;refine⟨(by cases x<;>first|rfl|cases hpx),Pe (j+i),?_,k2.2.ud hpx⟩;rw[Nat.add_assoc,cell_of_row w b _ cells _ _ hh];exact k1
    ·cases h
   ·cases h
 ·cases h
def CP(σ:S):Mu->Prop
 |.aB r cs C=>σ.m r=some (.aB cs)/\uB σ.m cs=some C/\cs.length<999
 |.sl q y=>σ.m q=some (.sl y)/\y.aF=false
def Jm:aa Mu->aa In->Prop
 |[],[]=>True
 |.aB _ _ L::C,.aB xs::D=>(lX (L.map (·.1)) xs/\∀x∈xs,x.kJ=true/\x.PE=true)/\Jm C D
 |.sl _ y::C,.sl E::D=>(Wk y E/\E.PE=true)/\Jm C D
 |_,_=>False
def Fv(w:World)(B:Nat)(aj:bM)(ρ:Nat->Loc)(C:aa In):aa Ar->aa Value->Prop
 |[],[]=>True
 |x::xs,v::D=>RA w B aj ρ (Wq C x) v/\Fv w B aj ρ C xs D
 |_,_=>False
def Fv.get{D:aa In}:∀ (xs:aa Ar) (C:aa Value),Fv w B aj ρ D xs C -> C.length=xs.length /\ ∀ i,RA w B aj ρ ((CL D xs).t i) (C.toArray.getD i undef)
 |[],[],_=>⟨rfl,λi=>trivial⟩
 | x :: xs,v :: C,h=>by
  obtain⟨E,L⟩:=Fv.get xs C h.2
  refine⟨by simp[E],λi=>?_⟩
  cases i with
  |zero=>exact h.1
  | succ i=>
   have:=L i;simp at this ⊢;exact this
def ap2{t:TC}{g:Nat}{x:T t}(D:Nat.beq (g % 2) 0=true):∀ y∈enc t g x,y.kJ=true/\y.PE=true:=by
 intro y C;refine⟨Vx t g x y C,?_⟩;have:=zX t g x y C;cases y with
 | sl L E O U=>
  have:E=g:=by simpa [V.gr]using this
  subst this;exact D
 |_=>rfl
def ap3(σ:S):PK->A->ah Mu->Prop
 |.v _ _,_,none=>True
 |.p _ _ off,x,some (.aB r cs C)=>x = .aG r off/\CP σ (.aB r cs C)
 |.s _ _,x,some (.sl q y)=>x = .lf (.own [q])/\CP σ (.sl q y)
 |_,_,_=>False
def CQ{p:PK}{x:A}{z:ah Mu}(h:CN σ p x=some z):ap3 σ p x z:=by
 cases p with
 | v b t=>
  injection h with h;subst h;trivial
 | p t g off=>
  cases x with
  | aG r j=>
   have h:(match (bif Nat.beq j off then σ.m r else none)with
    | some (.aB cs)=>(match uB σ.m cs with
     |some E=>bif Nat.blt cs.length 999 then some _ else none
     |none=>none)
    |_=>none)=some z:=h
   cases C:Nat.beq j off with
   |false=>rw[C]at h;cases h
   | true=>
    obtain rfl:=cK C;rw[C,au]at h;split at h
    ·rename_i cs L;split at h
     ·rename_i E O;cases hl:Nat.blt cs.length 999 with
      |false=>rw[hl]at h;cases h
      | true=>
       rw[hl]at h;injection h with h;subst h;exact⟨rfl,L,O,by have:=cX hl;omega⟩
     ·cases h
    ·cases h
  |_=>cases h
 | s t g=>
  have T:(∃ q,x = .lf (.own [q])):=by
   unfold CN at h;split at h
   next e=>cases e
   next e=>cases e
   ·simp[*]
   ·cases h
  obtain⟨q,rfl⟩:=T;have h:(match σ.m q with
   |some (.sl y)=>bif y.aF then none else some _
   |_=>none)=some z:=h
  split at h
  ·rename_i y U;cases D:y.aF with
   |true=>rw[D]at h;cases h
   | false=>
    rw[D]at h;injection h with h;subst h;exact⟨rfl,U,D⟩
  ·cases h
def PF:∀ (ps:aa PK) (xs:aa Operand) (D:aa Mu),oh σ ps xs=some D -> ∀ O∈D,CP σ O
 |[],[],D,h=>by injection h with h;subst h;simp
 | p :: ps,x :: xs,D,h=>by
  unfold oh at h;split at h
  ·rename_i O E C L;injection h with h;subst h;have T:=PF ps xs E L;have C:=CQ C;intro z hz;rcases iG.1 hz with rfl | hz
   ·cases p with
    |v=>exact C.elim
    | p=>
     cases z with
     |aB=>exact C.2
     |sl=>exact C.elim
    | s=>
     cases z with
     |aB=>exact C.elim
     |sl=>exact C.2
   ·simp_all
  next E C L=>injection h with h;subst h;exact PF ps xs E L
  ·cases h
 |[],_::_,D,h=>by cases h
 |_::_,[],D,h=>by cases h
def Jo:∀ {ps:aa PK} (i C:Nat) (x:nh ps),(kQ ps i x).length=(kQ ps C x).length
 |[],_,_,_=>rfl
 |.v _ _::ps,i,C,x=>by simp[kQ,List.length_cons];rw[Jo]
 |.p _ _ _::ps,i,C,x=>by simp only[kQ,List.length_cons];rw[Jo (i+1) (C+1)]
 |.s _ _::ps,i,C,x=>by simp only[kQ,List.length_cons];rw[Jo (i+1) (C+1)]
def PG:∀ (ps:aa PK) (xs:aa Operand) (O:aa Mu) (k:nh ps -> ah X),oh σ ps xs=some O -> oX σ ns ps xs O k=some r -> ∃ x,k x=some r/\Jm O (og ps x)/\(kQ ps 0 x).length=xs.length /\
  ∀aj ρ a w aD ρ',Rl w0 N aj ρ σ a w -> CO ns aj aD -> ∀(T:aa In) (i:Nat),(∀j z,(og ps x)[j]?=some z -> T[i+j]?=some z) -> (∀j U,O[j]?=some U -> ρ' (nF (i+j))=ρ U.root) -> Fv w w.heap.size aD ρ' T (kQ ps i x) (xs.map a.eval)
 | [],[],O,k,C,h=>by
  injection C with C;subst C;exact⟨(),h,trivial,rfl,λ_ _ _ _ _ _ _ _ _ _ _ _=>trivial⟩
 | .v b t :: ps,x :: xs,O,k,C,h=>by
  have vW:oh σ ps xs=some O:=by
   unfold oh at C;split at C
   next U Z D L=>exact(CQ D).elim
   next Z D L=>rw[L];exact C
   ·cases C
  unfold oX at h;obtain⟨p,L,hp⟩:=ap0 (w0:=w0) (N:=N) h;cases hb:p.1==b with
  |false=>rw[hb]at L;cases L
  | true=>
   rw[hb,au]at L;have hb:p.1=b:=by simpa using hb
   subst hb;split at L
   ·rename_i y Y;obtain⟨ys,h3,h4,h5,h6⟩:=PG ps xs O _ vW L
    refine⟨(y,ys),h3,h4,?_,λaj ρ a w aD ρ' hR hS T i hi cG=>⟨?_,h6 aj ρ a w aD ρ' hR hS T i hi cG⟩⟩
    ·simp[kQ,h5]
    ·have ta:=hp aj ρ a w aD hR hS _ (hR.aP x);have hk:=mZ t 0 p.2 y Y;generalize a.eval x=ux at ta ⊢;rcases ta with ⟨_,_,us,hu,hs,hr⟩ | ⟨g,c,cs,pv,ta⟩
     case f=>
      have he:∀(j:Nat) z,(enc t 0 y)[j]?=some z -> z.aF=true:=λj z E=>sR t 0 y (by omega) j z E
      obtain⟨c',fe,e,hw⟩:=apZ hk.1 hk.2;rw[e]at he ⊢;exact⟨pv,rfl,ta.uC hw λj z E=>he (j+2) z (by simpa using E)⟩
     have jO:∀ (j:Nat) z,(enc t 0 y)[j]?=some z -> ∃ v,us[j]?=some v/\z.aF=true/\RV w w.heap.size aD [] z v:=by
      intro j z E;have hj:j<p.2.length:=by rw[hk.1];exact(eo.1 E).1
      obtain⟨v,hv,fU⟩:=hr j _ (bY hj);exact⟨v,hv,sR t 0 y (by omega) j z E,fU.wk (hk.2 j _ z (bY hj) E)⟩
     have hlen:us.size=(enc t 0 y).length:=hs.trans hk.1;obtain⟨b,vs⟩:=p;cases b with
     | true=>
      show RA _ _ _ _ (.agg ((enc t 0 y).map .v)) _
      refine⟨us,hu,by rw[eK];exact hlen,λj z E=>?_⟩
      rw[ff]at E;cases E9:(enc t 0 y)[j]? with
      |none=>rw[E9]at E;cases E
      | some z'=>
       rw[E9]at E;injection E with E;subst E;obtain⟨v,hv,g1,g2⟩:=jO j z' E9;exact⟨v,hv,g1,g2⟩
     | false=>
      have hu:us = #[ux]:=hu;subst hu;show RA _ _ _ _ (Wq T (.pt (false,enc t 0 y))) _
      match he:enc t 0 y,jO,hlen with
      | [z],jO,_=>
       obtain⟨v,hv,g1,g2⟩:=jO 0 z rfl;have:ux=v:=by simpa using hv
       rw[this];exact⟨g1,g2⟩
      |[],_,_=>trivial
      |_::_::_,_,hlen=>exact absurd hlen (by simp)
   ·cases L
 | .p t g off :: ps,x :: xs,O,k,C,h=>by
  unfold oh at C;split at C
  ·rename_i U Z D L;injection C with C;subst C;have D:=CQ D;cases U with
   |sl=>exact D.elim
   | aB r cs vs=>
    have D:aP σ x = .aG r off/\CP σ (.aB r cs vs):=D;unfold oX at h;split at h
    ·rename_i y Y;cases hg:Nat.beq (g % 2) 0 with
     |false=>rw[hg]at Y;cases Y
     | true=>
      rw[hg,au]at Y;obtain⟨ys,h3,h4,h5,h6⟩:=PG ps xs Z _ L h
      refine⟨(y,ys),h3,⟨⟨mZ t g _ y Y,ap2 hg⟩,h4⟩,by simp[kQ,Jo 1 0,h5],λaj ρ a w aD ρ' hR hS T i hi cG=>⟨?_,?_⟩⟩
      ·have Jp:=hi 0 _ rfl;rw[Nat.add_zero]at Jp;have hx:=hR.aP x;rw[D.1]at hx;obtain⟨b,o,e1,e2⟩:=hx;show RA _ _ _ _ (match T[i]? with|some (.aB _)=>.aG (nF i) off|some (.sl _)=>.lf (.own [nF i])|none=>.undef) _;rw[Jp];have iZ:=cG 0 _ rfl;rw[Nat.add_zero]at iZ;exact⟨b,o,iZ.trans e1,e2⟩
      ·refine h6 aj ρ a w aD ρ' hR hS T (i+1) (λj z E=>?_) (λj U kj=>?_)
       ·rw[show i+1+j=i+(j+1) by omega];exact hi _ z E
       ·rw[show i+1+j=i+(j+1) by omega];exact cG _ U kj
    ·cases h
  next Z D L=>exact(CQ D).elim
  ·cases C
 | .s t g :: ps,x :: xs,O,k,C,h=>by
  unfold oh at C;split at C
  ·rename_i U Z D L;injection C with C;subst C;have D:=CQ D;cases U with
   |aB=>exact D.elim
   | sl q y0=>
    have D:aP σ x = .lf (.own [q])/\CP σ (.sl q y0):=D;unfold oX at h;split at h
    ·rename_i y Y;cases hg:Nat.beq (g % 2) 0 with
     |false=>rw[hg]at Y;cases Y
     | true=>
      rw[hg,au]at Y;obtain⟨ys,h3,h4,h5,h6⟩:=PG ps xs Z _ L h
      refine⟨(y,ys),h3,⟨⟨V.It Y,?_⟩,h4⟩,by simp[kQ,Jo 1 0,h5],λaj ρ a w aD ρ' hR hS T i hi cG=>⟨?_,?_⟩⟩
      ·show Nat.beq ((g+2) % 2) 0=true;simp[*]
      ·have Jp:=hi 0 _ rfl;rw[Nat.add_zero]at Jp;have hx:=hR.aP x;rw[D.1]at hx;show RA _ _ _ _ (match T[i]? with|some (.aB _)=>.aG (nF i) 0|some (.sl _)=>.lf (.own [nF i])|none=>.undef) _;rw[Jp];have iZ:=cG 0 _ rfl;rw[Nat.add_zero]at iZ;refine⟨hx.1,?_⟩;have L:=hx.2;simp only[dm]at L ⊢;rw[iZ];exact L
      ·refine h6 aj ρ a w aD ρ' hR hS T (i+1) (λj z E=>?_) (λj U kj=>?_)
       ·rw[show i+1+j=i+(j+1) by omega];exact hi _ z E
       ·rw[show i+1+j=i+(j+1) by omega];exact cG _ U kj
    ·cases h
  next Z D L=>exact(CQ D).elim
  ·cases C
 |[],_::_,O,k,C,h=>by cases C
 |_::_,[],O,k,C,h=>by cases C
end
def qf(c0:Nat):Nat->aa (V×ah Nat)->aa Nat
 |_,[]=>[]
 |n,(_,some q)::C=>q::qf c0 (n+1) C
 |n,(_,none)::C=>(c0+n)::qf c0 (n+1) C
def Ay(c0:Nat):Nat->aa Mu->aa Nat
 |_,[]=>[]
 |pos,.aB r _ D::C=>r::(qf c0 (pos+1) D++Ay c0 (pos+1+D.length) C)
 |pos,.sl q _::C=>q::Ay c0 (pos+1) C
def CR:aa Nat->aa V->aa Nat
 |n::C,x::xs=>bif x.aF then CR C xs else n::CR C xs
 |_,_=>[]
def qK(c0:Nat):Nat->aa Mu->aa In->aa Nat
 |pos,.aB _ _ D::C,.aB xs::outs=>CR (qf c0 (pos+1) D) xs++qK c0 (pos+1+D.length) C outs
 |pos,.sl _ _::C,.sl _::outs=>qK c0 (pos+1) C outs
 |_,_,_=>[]
def qL(ns cn:aa Nat):aa Nat->aa Lf->aa V->aa Lf
 |n::C,l::D,x::xs=>(bif x.plain then .v x else bif x.aF then l.fE ns cn else .own [n])::qL ns cn C D xs
 |_,_,_=>[]
def Az:aa Nat->aa V->aa (Nat×bu)
 |n::C,x::xs=>bif x.aF then Az C xs else (n,.sl x)::Az C xs
 |_,_=>[]
def oY(ns cn:aa Nat)(c0:Nat):Nat->aa Mu->aa In->aa (Nat×bu)
 |pos,.aB r cs D::C,.aB xs::outs=>(r,.aB (qL ns cn (qf c0 (pos+1) D) cs xs))::(Az (qf c0 (pos+1) D) xs++oY ns cn c0 (pos+1+D.length) C outs)
 |pos,.sl q _::C,.sl y::outs=>bif y.kJ then (q,.sl y)::oY ns cn c0 (pos+1) C outs else oY ns cn c0 (pos+1) C outs
 |_,_,_=>[]
def PI:aa Nat->Bool
 |[]=>true
 |n::l=>!dS n l&&PI l
def ado:In->Bool
 |.aB xs=>xs.all λx=>x.aF ||x.loc
 |.sl y=>y.loc
def jm:ah Tmp->Nat
 |some d=>1000000000100000+1000*d
 |none=>90000
def wm{X:Type}(N:Nat)(σ:S)(C:ah Tmp)(D:gC)(k:S->ah X):ah X:=
 match C with
 |none=>k σ
 |some d=>bif Nat.blt d N then oT σ d D k else none
def Jq(N:Nat)(C:aa Mu)(outs:aa In)(cn:aa Nat):Bool:=
 PI cn&&(C.all λD=>!dS D.root cn)&&(cn.all λn=>Nat.blt n N ||Nat.ble 60000 n)&&outs.all ado
def PJ{X:Type}(N:Nat)(σ:S)(C:ah Tmp)(D:aa Mu)(ns cn:aa Nat)(E:gC)(outs:aa In)(k:S->ah X):ah X:=
 bif Jq N D outs cn then wm N (σ.fE ns cn (oY ns cn (jm C) E.len D outs)) C E k else none
def td{X:Type}(N:Nat)(σ:S)(D:ah Tmp)(c:oV)(args:aa Operand)(k:S->ah X):ah X:=
 match oh σ c.ps args with
 | some C=>bif once (oW 0 C)&&Nat.ble C.length 40 then
   oX σ ((oW 0 C).map (·.1)) c.ps args C λx=>(match c.F x with
    |some y=>PJ N σ D C ((oW 0 C).map (·.1)) (qK (jm D) (fV c.ro y.1).len C (lY (fQ c.ps) y.2)) (fV c.ro y.1) (lY (fQ c.ps) y.2) k
    |none=>none)else none
 |none=>none
section
variable {P:Program} {w w':World} {w0:Wd} {B N:Nat} {aj dX aD:bM} {ρ fD ρ':Nat->Loc} {σ:S} {a:Act} {X:Type} {d:Nat} {r:X} {ns cn:aa Nat} {o:Oper} {rs:aa Nat} {eO:aa (Nat×Nat)}
def adp{n:Nat}:∀ {l:aa (Nat×Nat)},dS n (l.map (·.1))=false -> l.lookup n=none
 |[],_=>rfl
 | p :: l,h=>by
  simp[List.map_cons,dS,pN]at h;rw[List.lookup_cons];have:(n==p.1)=false:=by
   cases hb:n==p.1 with
   |false=>rfl
   |true =>simp_all
  rw[this];exact adp h.2
def ap4{b:Nat}{k:aa Nat}{n m:Nat}(h:aj b=some k)(C:k.getLast?=some n)(D:eO.lookup n=some m):eV aj eO id b=some (k.dropLast++[m]):=by
 simp[eV,h,C,D]
def ap5(C:∀ b k,aj b=some k -> k≠[]):CO (eO.map (·.1)) aj (eV aj eO id):=by
 refine⟨λb h=>As h,λb k h=>⟨C b k h,λhl=>?_⟩⟩
 simp[eV,h];cases D:k.getLast? with
 |none=>rfl
 | some n=>
  simp[gQ,D]at hl;simp[adp hl]
def WH{m:Nat -> ah bu}:∀ (cs:aa Lf) (C:aa (V×ah Nat)),uB m cs=some C -> C.length=cs.length /\ ∀ (j:Nat) l,cs[j]?=some l -> ∃ v,C[j]?=some v/\Ax m l=some v
 |[],C,h=>by injection h with h;subst h;exact⟨rfl,λj l hl=>by simp at hl⟩
 | c :: cs,C,h=>by
  unfold uB at h;split at h
  ·rename_i v D L E;injection h with h;subst h;obtain⟨O,T⟩:=WH cs D E
   grind
  ·cases h
def ap6{l:Lf}{v:V}{E:ah Nat}(h:Ax σ.m l=some (v,E))(hR:Rl w0 N aj ρ σ a w)(D:CO ns aj aD){u:Value}(L:eE w w0.heap.size aj ρ l u):
  (E=none /\ ∀B' O,RV w B' aD O v u) \/ (∃q,E=some q/\v.aF=false/\RV w w0.heap.size aj [q] v u):=by
 unfold Ax at h;split at h
 ·simp at h;obtain⟨rfl,rfl⟩:=h;exact .inl ⟨rfl,λB' O=>L.2.out D.none D.rest (.inl L.1)⟩
 ·rename_i q;split at h
  ·rename_i y Y;have T:=hR.root q _ Y;generalize C:bu.sl y=x at T;cases T with
   |aB=>cases C
   |mp=>cases C
   |gh=>cases C
   | sl Z y' cG hr=>
    injection C with C;subst C;have Jd:Z=u:=by
     have h2:=L.2;simp only[dm,cG]at h2;simp_all
    subst Jd;cases U:y.aF with
    | true=>
     rw[U,au]at h;obtain⟨rfl,rfl⟩:=h;exact .inl ⟨rfl,λB' O=>hr.out D.none D.rest (.inl U)⟩
    |false =>grind
  ·cases h
 ·cases h
def adq{i:Nat}{v:V}{q:Nat}:∀ (D:aa (V×ah Nat)) (C j:Nat),D[j]?=some (v,some q) -> (q,60000+1000*i+(C+j))∈Jk i C D
 |[],C,j,h=>by simp at h
 | (L,E) :: D,C,j,h=>by
  cases j with
  | zero=>
   obtain⟨rfl,rfl⟩:=h;exact .head _
  | succ j=>
   have:=adq (i:=i) D (C+1) j (by simpa using h);rw[show C+1+j=C+(j+1) by omega]at this;cases E with
   |none=>exact this
   |some O=>exact .tail _ this
def WI{i:Nat}:∀ (cs:aa V) (C:Nat),(Av i C cs).length=cs.length
 |[],_=>rfl
 |c::cs,C=>by simp[Av,WI cs]
def RV.n7{q:aa Nat}{x:V}{u:Value}(h:RV w B aj q x u)(C:x.plain=false)(D:x.kJ=true):n7 u=true:=by
 cases h<;>first|rfl|cases C|cases D
def Wk.adr{x y:V}(h:Wk x y)(C:x.aF=false):y.aF=false:=by
 cases h with
 |same=>exact C
 |nil=>cases C
 |q=>exact C
 |gr t o D E l L O=>simp[V.aF];omega
def WJ(hR:Rl w0 N aj ρ σ a w)(hS:CO ns aj (eV aj eO id)):∀ (L:aa Mu) (T:aa In) (i:Nat),(∀ p∈oW i L,eO.lookup p.1=some p.2) -> (∀ j E,L[j]?=some E -> rs[i+j]?=some E.root) -> (∀ E∈L,CP σ E) -> Jm L T -> i+L.length <= 40 ->
  qe w w.heap.size (eV aj eO id) (ya w ρ rs) i T
 |[],[],_,_,_,_,_,_=>trivial
 |[],_::_,_,_,_,_,h,_=>h.elim
 |.aB _ _ _::_,[],_,_,_,_,h,_=>h.elim
 |.sl _ _::_,[],_,_,_,_,h,_=>h.elim
 |.aB _ _ _::_,.sl _::_,_,_,_,_,h,_=>h.elim
 |.sl _ _::_,.aB _::_,_,_,_,_,h,_=>h.elim
 | .aB r cs vs :: L,.aB xs :: T,i,U,ki,kj,hrel,hi=>by
  obtain⟨hm,hg,hlen⟩:=kj _ (.head _);obtain⟨⟨hw,hx⟩,CS⟩:=hrel;obtain⟨g1,g2⟩:=WH cs vs hg;have Y:=ki 0 _ rfl;rw[Nat.add_zero]at Y;simp only[List.length_cons]at hi;have pX:xs.length=cs.length:=by rw[<- hw.1,eK,g1]
  have fo:=hR.root r _ hm;generalize C:bu.aB cs=z at fo;cases fo with
  |sl=>cases C
  |mp=>cases C
  |gh=>cases C
  | aB b off cells e fe us cG hl hh hs hc=>
   injection C with C;subst C;have jO:∀ (j:Nat) x,xs[j]?=some x -> cells[off+j]?=some (us j)/\RV w w.heap.size (eV aj eO id) [nC i j x] x (us j)/\(x.plain=false -> ya w ρ rs (nC i j x) = .eG (us j)):=by
    intro j x O;have Cs:j<cs.length:=by rw[<- pX];exact(eo.1 O).1
    obtain⟨v,hv,Jr⟩:=g2 j _ (bY Cs);obtain⟨c1,Z⟩:=hc j _ (bY Cs);obtain⟨v,qo⟩:=v;have WK:Wk v x:=hw.2 j v x (by rw[ff,hv];rfl) O;obtain⟨hx1,VL⟩:=hx x (iq O)
    refine⟨c1,?_,λD=>?_⟩
    ·rcases ap6 Jr hR hS Z with ⟨rfl,h1⟩ | ⟨q,rfl,hf,h1⟩
     ·exact(h1 _ _).wk WK
     ·have Wy:=WK.adr hf;have hq:=U _ (.tail _ (List.mem_append_left _ (adq vs 0 j hv)));rw[fT]at hq;have h2:=(RV.eV (nm:=id) (p:=[]) h1 hq).wk WK;have e1:nC i j x=60000+1000*i+j:=by simp[nC,Wy]
      rw[e1];exact h2.reB VL
    ·exact apX Y (by omega) (by omega) cG (by rw[cell_of_row w b _ cells _ _ hh];exact c1)
   refine⟨.aB b off cells e _ us ((Jl Y (by omega)).trans cG) ?_ hh (by rw[WI,pX];exact hs) (λj z C=>?_),λj x O D=>?_,WJ hR hS L T (i+1) (λp D=>U p (.tail _ (List.mem_append_right _ D))) (λj E CT=>?_) (λE h=>kj E (.tail _ h)) CS (by omega)⟩
   ·exact ap4 hl rfl (U _ (.head _))
   ·have O:j<xs.length:=by rw[<- WI (i:=i) xs 0];exact(eo.1 C).1
    have AA:=WB (i:=i) xs 0 j _ (bY O);rw[C]at AA;injection AA with AA;subst AA;rw[fT];obtain⟨c1,Z,c3⟩:=jO j _ (bY O);refine⟨c1,?_⟩;cases D:(xs[j]).plain with
    | true=>
     have e1:Au i j xs[j] = .v xs[j]:=by simp[Au,D]
     rw[e1];exact⟨V.IF D,Z.ud D⟩
    | false=>
     have e1:Au i j xs[j] = .own [nC i j xs[j]]:=by simp[Au,D]
     rw[e1];exact⟨Z.n7 D (hx _ (cM _)).1,by simp only[dm,c3 D]⟩
   ·obtain⟨c1,Z,c3⟩:=jO j x O;exact .sl _ x (c3 D) Z
   ·have:=ki (j+1) E (by simpa using CT);rw[show i+(j+1)=i+1+j by omega]at this;exact this
 | .sl q y :: L,.sl y' :: T,i,U,ki,kj,hrel,hi=>by
  obtain⟨hm,hf⟩:=kj _ (.head _);obtain⟨⟨hw,hx⟩,CS⟩:=hrel;have Y:=ki 0 _ rfl;rw[Nat.add_zero]at Y;simp only[List.length_cons]at hi;have fo:=hR.root q _ hm;generalize C:bu.sl y=z at fo;cases fo with
  |aB=>cases C
  |mp=>cases C
  |gh=>cases C
  | sl v y0 cG hr=>
   injection C with C;subst C
   refine⟨.sl v y' ((Jl Y (by omega)).trans cG) ?_,WJ hR hS L T (i+1) (λp D=>U p (.tail _ D)) (λj E CT=>?_) (λE h=>kj E (.tail _ h)) CS (by omega)⟩
   ·exact((RV.eV (p:=[]) hr (U _ (.head _))).wk hw).reB hx
   ·have:=ki (j+1) E (by simpa using CT);rw[show i+(j+1)=i+1+j by omega]at this;exact this
end
def WL:Loc->Nat×Nat
 |.aB b off=>(b,off)
 |.eG _=>(0,0)
 |.bX _=>(0,0)
def AB(w:World)(b off:Nat):Nat->aa Nat->aa V->aa (Nat×Value)
 |j,n::C,x::xs=>bif x.aF then AB w b off (j+1) C xs else (n,(w.cell? ⟨b,off+j,none⟩).getD undef)::AB w b off (j+1) C xs
 |_,_,_=>[]
def tf(w:World)(ρ:Nat->Loc)(c0:Nat):Nat->aa Mu->aa In->aa (Nat×Value)
 |pos,.aB r _ D::C,.aB xs::outs=>AB w (WL (ρ r)).1 (WL (ρ r)).2 0 (qf c0 (pos+1) D) xs++tf w ρ c0 (pos+1+D.length) C outs
 |pos,.sl _ _::C,.sl _::outs=>tf w ρ c0 (pos+1) C outs
 |_,_,_=>[]
def ads(l:aa (Nat×Value))(ρ:Nat->Loc):Nat->Loc:=λn=>match l.lookup n with
 |some v=>.eG v
 |none=>ρ n
def WM{w:World}{b off:Nat}:∀ (C:aa Nat) (xs:aa V) (j:Nat),(AB w b off j C xs).map (·.1)=CR C xs
 |[],[],_=>rfl
 |[],_::_,_=>rfl
 |_::_,[],_=>rfl
 | n :: C,x :: xs,j=>by
  simp[AB,CR];cases x.aF with
  |true=>exact WM C xs _
  |false=>simp;rw[WM]
def PL{w:World}{ρ:Nat -> Loc}{c0:Nat}:∀ (C:aa Mu) (outs:aa In) (D:Nat),(tf w ρ c0 D C outs).map (·.1)=qK c0 D C outs
 | .aB r _ E :: C,.aB xs :: outs,D=>by
  simp[tf,qK,List.map_append];rw[WM,PL]
 | .sl _ _ :: C,.sl _ :: outs,D=>by
  simp only[tf,qK];exact PL C outs _
 |[],_,_=>by simp[tf,qK]
 |.aB _ _ _::_,[],_=>rfl
 |.sl _ _::_,[],_=>rfl
 |.aB _ _ _::_,.sl _::_,_=>rfl
 |.sl _ _::_,.aB _::_,_=>rfl
def adt{n:Nat}:∀ {l:aa (Nat×Value)},dS n (l.map (·.1))=false -> l.lookup n=none
 |[],_=>rfl
 | p :: l,h=>by
  simp[List.map_cons,dS,pN]at h;rw[List.lookup_cons];cases hb:n==p.1 with
  |false=>exact adt h.2
  |true =>simp_all
def adu:∀ {l:aa (Nat×Value)},PI (l.map (·.1))=true -> ∀ p∈l,l.lookup p.1=some p.2
 |[],_,p,hp=>by cases hp
 | q :: l,h,p,hp=>by
  simp[List.map_cons,PI,aS,g9]at h;rw[List.lookup_cons];rcases iG.1 hp with rfl|hp
  ·simp
  ·cases hb:p.1==q.1 with
   |false=>exact adu h.2 p hp
   | true=>
    have e:p.1=q.1:=by simpa using hb
    exact absurd (List.mem_map_of_mem (f:=(·.1)) hp) (by rw[e];exact adm h.1)
def Js{c0:Nat}:∀ (C:aa (V×ah Nat)) (n:Nat),(qf c0 n C).length=C.length
 |[],_=>rfl
 |(_,some _)::C,n=>by simp[qf,Js]
 |(_,none)::C,n=>by simp[qf,Js C]
def adv{ns cn:aa Nat}:∀ (D:aa Nat) (C:aa Lf) (xs:aa V),D.length=C.length -> xs.length=C.length -> (qL ns cn D C xs).length=C.length /\
  ∀(j:Nat) z,(qL ns cn D C xs)[j]?=some z -> ∃n l x,D[j]?=some n/\C[j]?=some l/\xs[j]?=some x/\z=(bif x.plain then .v x else bif x.aF then l.fE ns cn else .own [n])
 |[],[],[],_,_=>⟨rfl,λj z E=>by simp[qL]at E⟩
 | n :: D,l :: C,x :: xs,L,O=>by
  obtain⟨T,U⟩:=adv (ns:=ns) (cn:=cn) D C xs (by simpa using L) (by simpa using O)
  refine⟨by simp[qL,T],λj z E=>?_⟩
  cases j with
  |zero=>simp[qL,List.getElem?_cons_zero,iX]at E;exact⟨n,l,x,rfl,rfl,rfl,E.symm⟩
  |succ j=>exact U j z (by simpa [qL]using E)
def adw:∀ (C:aa Nat) (xs:aa V),∀ p∈Az C xs,∃ (j:Nat) (x:V),C[j]?=some p.1/\xs[j]?=some x/\x.aF=false/\p.2 = .sl x
 |[],[],p,hp=>by cases hp
 |[],_::_,p,hp=>by cases hp
 | n :: C,x :: xs,p,hp=>by
  simp[Az]at hp;have rest:p∈Az C xs -> ∃ (j:Nat) (y:V),(n :: C)[j]?=some p.1/\(x :: xs)[j]?=some y/\y.aF=false/\p.2 = .sl y:=λhp=>by
   obtain⟨j,y,E,L,O,T⟩:=adw C xs p hp;exact⟨j+1,y,by simpa using E,by simpa using L,O,T⟩
  cases D:x.aF with
  |true=>grind
  | false=>
   rw[D]at hp;rcases iG.1 hp with rfl|hp
   ·exact⟨0,x,rfl,rfl,D,rfl⟩
   ·grind
def adx{w:World}{b off n:Nat}{x:V}:∀ (D:aa Nat) (xs:aa V) (C j:Nat),D[j]?=some n -> xs[j]?=some x -> x.aF=false -> (n,(w.cell? ⟨b,off+(C+j),none⟩).getD undef)∈AB w b off C D xs
 |[],_,_,j,h,_,_=>by simp at h
 | m :: D,y :: xs,C,j,E,L,O=>by
  cases j with
  | zero=>
   simp at E L;subst E L;simp only[AB,O];simp_all
  | succ j=>
   have:=adx (w:=w) (b:=b) (off:=off) D xs (C+1) j (by simpa using E) (by simpa using L) O;rw[show C+1+j=C+(j+1) by omega]at this;simp[AB]
   grind
section
variable {P:Program} {w w':World} {w0:Wd} {B N:Nat} {aj dX aD:bM} {ρ fD ρ':Nat->Loc} {σ:S} {a:Act} {X:Type} {d:Nat} {r:X} {ns cn:aa Nat} {o:Oper} {rs:aa Nat} {eO:aa (Nat×Nat)} {nm PN:Nat->Nat} {c0:Nat}
def kf.Aq{nm:Nat -> Nat}:∀ (ps:aa Pt) (off:Nat) (C:aa Value) {B':Nat},kf w B aj nm off ps C -> B' <= B -> (∀ b,B <= b -> aD b=aj b) -> (∀ b k,aj b=some k -> aD b=some k) -> (∀ n,off <= n -> n<off+(ps.map λp=>p.2.length).sum -> nm n=PN n) -> kf w B' aD PN off ps C
 |[],_,[],_,h,_,_,_,_=>h
 | p :: ps,off,v :: C,B',h,hB,hl,L,D=>by
  obtain⟨⟨O,us,U,Y,Z⟩,v8⟩:=h;simp only[List.map_cons,List.sum_cons]at D
  refine⟨⟨O,us,U,Y,λj x E=>?_⟩,kf.Aq ps _ C v8 hB hl L (λn h1 h2=>D n (by omega) (by omega))⟩
  obtain⟨T,uc,fU⟩:=Z j x E;have hj:j<p.2.length:=(eo.1 E).1;refine⟨T,uc,?_⟩;show RV w B' aD [PN (off+j)] x T;rw[<- D (off+j) (by omega) (by omega)];exact fU.Aq hB hl L (cw.1 O x (iq E))
def WN(hR:Rl w0 N aj ρ σ a w)(hv:uz w w' aj dX ρ fD ns cn)(oU:∀ b k,aD b=some k -> dX b=some k)(pT:∀ b,w.heap.size <= b -> dX b=aD b)(hB:w0.heap.size <= w.heap.size):
  ∀(E:aa Mu) (ins outs:aa In) (i C:Nat),(∀j D,E[j]?=some D -> rs[i+j]?=some D.root) -> (∀D∈E,CP σ D) -> Jm E ins -> i+E.length <= 40 -> Jf w w' aD (ya w ρ rs) nm i C ins outs ->
  (∀k n,(Ay c0 C E)[k]?=some n -> nm (C+k)=n) -> (∀p∈tf w' ρ c0 C E outs,fD p.1 = .eG p.2) -> (∀D∈E,dS D.root cn=false) -> outs.all ado=true -> ∀p∈oY ns cn c0 C E outs,eH w' w0.heap.size dX fD p.1 p.2
 |[],[],[],_,_,_,_,_,_,_,_,_,_,_,p,hp=>by simp[oY]at hp
 |[],[],_::_,_,_,_,_,_,_,h,_,_,_,_,_,_=>h.elim
 |[],_::_,_,_,_,_,_,h,_,_,_,_,_,_,_,_=>h.elim
 |.aB _ _ _::_,[],_,_,_,_,_,h,_,_,_,_,_,_,_,_=>h.elim
 |.sl _ _::_,[],_,_,_,_,_,h,_,_,_,_,_,_,_,_=>h.elim
 |.aB _ _ _::_,.sl _::_,_,_,_,_,_,h,_,_,_,_,_,_,_,_=>h.elim
 |.sl _ _::_,.aB _::_,_,_,_,_,_,h,_,_,_,_,_,_,_,_=>h.elim
 |.aB _ _ _::_,.aB _::_,[],_,_,_,_,_,_,h,_,_,_,_,_,_=>h.elim
 |.sl _ _::_,.sl _::_,[],_,_,_,_,_,_,h,_,_,_,_,_,_=>h.elim
 |.aB _ _ _::_,.aB _::_,.sl _::_,_,_,_,_,_,_,h,_,_,_,_,_,_=>h.elim
 |.sl _ _::_,.sl _::_,.aB _::_,_,_,_,_,_,_,h,_,_,_,_,_,_=>h.elim
 | .aB r cs L :: E,.aB xs0 :: ins,.aB xs :: outs,i,C,ki,kj,hrel,hi,hO,qg,CU,qa,Y,p,hp=>by
  obtain⟨hm,hg,hlen⟩:=kj _ (.head _);obtain⟨⟨hw,hx⟩,CS⟩:=hrel;obtain⟨g1,g2⟩:=WH cs L hg;have oP:=ki 0 _ rfl;rw[Nat.add_zero]at oP;simp only[List.length_cons]at hi;have WO:xs0.length=cs.length:=by rw[<- hw.1,eK,g1]
  obtain⟨⟨b,off,cells,x5,e,e',Z,h2,h3,h4,h5,h6,h7⟩,WQ⟩:=hO;have fo:=hR.root r _ hm;generalize hz:bu.aB cs=z at fo;cases fo with
  |sl=>cases hz
  |mp=>cases hz
  |gh=>cases hz
  | aB b0 U ady e0 fe us cG hl hh hs hc=>
   injection hz with hz;subst hz;rw[Jl oP (by omega)]at Z;have Z:ρ r = .aB b off:=Z;rw[cG]at Z;injection Z with e1 e2;subst e1 e2;have ap7:ady=cells:=by
    rw[hh]at h2;injection h2 with h2;injection h2
   subst ap7;have iZ:=qa _ (.head _);have Fw:fD r = .aB b0 U:=(hv.fC r iZ).trans cG;have ug:nm C=r:=by have:=qg 0 r rfl;rwa [Nat.add_zero]at this
   have ap8:∀ (j:Nat) n,(qf c0 (C+1) L)[j]?=some n -> nm (C+1+j)=n:=by
    intro j n hn;have hj:j<(qf c0 (C+1) L).length:=(eo.1 hn).1;have:=qg (j+1) n (by simp only[Ay,List.getElem?_cons_succ];rw[List.getElem?_append_left hj];exact hn);rw[show C+1+j=C+(j+1) by omega];exact this
   have jO:∀ (j:Nat) x,xs[j]?=some x -> ∃ u,x5[U+j]?=some u/\w'.cell? ⟨b0,U+j,none⟩=some u/\((x.plain=true /\ ∀ (w:World) (B:Nat) (aj:bM) (q:aa Nat),RV w B aj q x u) \/ (x.plain=false/\x.aF=true/\ady[U+j]?=some u) \/ (x.aF=false/\RV w' w.heap.size aD [nm (C+1+j)] x u)):=by
    intro j x hj;obtain⟨u,hu,hd⟩:=h7 j x hj;exact⟨u,hu,by rw[cell_of_row w' b0 _ x5 _ _ h3];exact hu,hd⟩
   have Af:∀ (j:Nat) n x u,(qf c0 (C+1) L)[j]?=some n -> xs[j]?=some x -> x.aF=false -> w'.cell? ⟨b0,U+j,none⟩=some u -> fD n = .eG u:=by
    intro j n x u hn hxj hf hu;have wh:=adx (w:=w') (b:=b0) (off:=U) _ xs 0 j hn hxj hf;rw[fT,hu]at wh;exact CU (n,u) (by simp only[tf,cG,WL];exact List.mem_append_left _ wh)
   simp only[oY]at hp;rcases iG.1 hp with rfl|hp
   ·obtain⟨k1,k2⟩:=adv (ns:=ns) (cn:=cn) (qf c0 (C+1) L) cs xs (by rw[Js,g1]) (by rw[h6,WO])
    refine .aB b0 U x5 e' _ (λj=>x5.getD (U+j) undef) Fw (oU _ _ (by rw[h4,ug])) h3 (by show U+(qL _ _ _ _ _).length <= _;rw[k1,<- WO,<- h6];exact h5) (λj z hz=>?_)
    obtain⟨n,l,x,n1,n2,n3,rfl⟩:=k2 j z hz;obtain⟨u,hu,WR,hd⟩:=jO j x n3;have eu:x5.getD (U+j) undef=u:=by rw[iV,hu];rfl
    rw[eu];refine⟨hu,?_⟩;rcases hd with ⟨O,T⟩|⟨O,T,d3⟩|⟨O,T⟩
    ·rw[O,au];exact⟨V.IF O,T _ _ _ _⟩
    ·rw[O,T,aq,au];obtain⟨c1,c2⟩:=hc j l n2;rw[c1]at d3;injection d3 with d3;rw[<- d3];exact c2.uA hv
    ·have At:x.plain=false:=by
      cases At:x.plain with
      |false=>rfl
      |true=>rw[V.IF At]at O;cases O
     rw[At,O,aq,aq];exact⟨T.Vz O,by simp only[dm,Af j n x u n1 n3 O WR]⟩
   ·rcases List.mem_append.1 hp with hp | hp
    ·obtain⟨j,x,n1,n2,n3,n4⟩:=adw _ _ p hp;obtain⟨u,hu,WR,hd⟩:=jO j x n2;rw[n4];refine .sl u x (Af j p.1 x u n1 n2 n3 WR) ?_;rcases hd with ⟨O,T⟩ | ⟨O,T,d3⟩ | ⟨O,T⟩
     ·simp[*]
     ·rw[n3]at T;cases T
     ·rw[ap8 j _ n1]at T;refine T.Aq hB pT oU ?_;rw[List.all_cons,aS]at Y;have:=cw.1 Y.1 x (iq n2)
      rwa [n3,Bool.false_or]at this
    ·rw[List.all_cons,aS]at Y
     refine WN hR hv oU pT hB E ins outs (i+1) (C+1+L.length) (λj D CT=>?_) (λD h=>kj D (.tail _ h)) CS (by omega) ?_ (λk n hn=>?_) (λp hp=>CU p ?_) (λD h=>qa D (.tail _ h)) Y.2 p hp
     ·have:=ki (j+1) D (by simpa using CT);rw[show i+(j+1)=i+1+j by omega]at this;exact this
     ·rw[g1,<- WO];exact WQ
     ·have:=qg (1+L.length+k) n (by
       rw[show 1+L.length+k=(L.length+k)+1 by omega];simp only[Ay,List.getElem?_cons_succ];rw[List.getElem?_append_right (by rw[Js];omega),Js];rw[show L.length+k-L.length=k by omega];exact hn)
      rw[show C+1+L.length+k=C+(1+L.length+k) by omega];exact this
     ·simp only[tf];exact List.mem_append_right _ hp
 | .sl q y0 :: E,.sl y1 :: ins,.sl y :: outs,i,C,ki,kj,hrel,hi,hO,qg,CU,qa,Y,p,hp=>by
  obtain⟨hm,hf⟩:=kj _ (.head _);obtain⟨_,CS⟩:=hrel;have oP:=ki 0 _ rfl;rw[Nat.add_zero]at oP;simp only[List.length_cons]at hi;obtain⟨hO1,WQ⟩:=hO;rw[List.all_cons,aS]at Y;have ug:nm C=q:=by have:=qg 0 q rfl;rwa [Nat.add_zero]at this
  have hp:(p=(q,.sl y)/\y.kJ=true) \/ p∈oY ns cn c0 (C+1) E outs:=by
   simp only[oY]at hp;cases hy:y.kJ with
   |false=>rw[hy]at hp;exact .inr hp
   | true=>
    rw[hy]at hp;rcases iG.1 hp with h|h
    ·grind
    ·simp[*]
  rcases hp with ⟨rfl,hy⟩|hp
  ·obtain⟨v,Z,h2⟩:=hO1.resolve_left (by rintro rfl;cases hy);rw[Jl oP (by omega)]at Z;rw[ug]at h2;exact .sl v y ((hv.fC q (qa _ (.head _))).trans Z) (h2.Aq hB pT oU Y.1)
  ·refine WN hR hv oU pT hB E ins outs (i+1) (C+1) (λj D CT=>?_) (λD h=>kj D (.tail _ h)) CS (by omega) WQ (λk n hn=>?_) (λp hp=>CU p hp) (λD h=>qa D (.tail _ h)) Y.2 p hp
   ·have:=ki (j+1) D (by simpa using CT);rw[show i+(j+1)=i+1+j by omega]at this;exact this
   ·have:=qg (k+1) n (by simpa [Ay]using hn);rw[show C+1+k=C+(k+1) by omega];exact this
end
section
variable {P:Program} {w w':World} {w0:Wd} {B N:Nat} {aj dX aD:bM} {ρ fD ρ':Nat->Loc} {σ:S} {a:Act} {X:Type} {d:Nat} {r:X} {ns cn:aa Nat} {o:Oper} {rs:aa Nat} {eO:aa (Nat×Nat)} {nm PN:Nat->Nat} {c0:Nat}
def ap9{C:ah Tmp}{D:gC}{k:S -> ah X}(h:wm N σ C D k=some r):∃ Z,k Z=some r /\ ∀ aj ρ a w v,Rl w0 N aj ρ σ a w -> qI w w0.heap.size aj (λn=>jm C+n) D v -> ∃ ρ',Rl w0 N aj ρ' Z (a.put C v) w /\ ∀ r,r<jm C -> ρ' r=ρ r:=by
 unfold wm at h;cases C with
 |none=>exact⟨σ,h,λaj ρ a w v hR _=>⟨ρ,hR,λ_ _=>rfl⟩⟩
 | some d=>
  have h:(bif Nat.blt d N then (match D with
   | .one p=>(match Ab (p.1,oS (1000000000100000+1000*d) p.2)with
    |some y=>k ((ng _ σ p.2).set d y)
    |none=>none)
   |.fB ps=>k ((qd _ σ ps).set d _))else none)=some r:=h
  cases L:Nat.blt d N with
  |false=>rw[L]at h;cases h
  | true=>
   rw[L,au]at h;have CI:d<N:=cX L;cases D with
   | one p=>
    simp only at h;split at h
    ·rename_i y hy
     refine⟨_,h,λaj ρ a w v hR O=>?_⟩
     obtain⟨ρ',T,U,_,Y⟩:=I9 [p] (1000000000100000+1000*d) 0 σ ρ [v] (by omega) hR O;have Wl:=Y 0 _ v rfl rfl;exact⟨ρ',T.set (VO hy Wl) CI,U⟩
    ·cases h
   | fB xY=>
    refine⟨_,h,λaj ρ a w v hR O=>?_⟩
    obtain⟨E,rfl,hv⟩:=O;obtain⟨ρ',T,U,hlen,Y⟩:=I9 xY (1000000000100000+1000*d) 0 σ ρ E.toList (by omega) hR hv
    refine⟨ρ',T.set ⟨E,rfl,by simpa using hlen,λj p hp=>?_⟩ CI,U⟩
    have hj:j<E.size:=by
     have:=(eo.1 hp).1
     grind
    exact⟨E[j],Array.getElem?_eq_getElem hj,Y j p _ hp (by rw[Array.getElem?_toList,Array.getElem?_eq_getElem hj])⟩
def WS{f:Nat}{args:Array Operand}{oe:Array TypeId}{c:oV}{k:S -> ah X}(ho:o.op = .call { callee:=.value (.func f),args,argTypes:=oe })(he:enters P f)(hc:uy P f c)(h:td N σ o.dst c args.toList k=some r):∃ dz C cn,k dz=some r/\oh σ c.ps args.toList=some C/\(∀ n,dS n cn=true -> n<N \/ 60000 <= n)/\(∀ O∈C,dS O.root cn=false) /\
  ∀a w K Q aj ρ,Rl w0 N aj ρ σ a w -> (∀v w' dX fD wo,Rl w0 N dX wo dz (a.put o.dst v) w' -> uz w w' aj dX ρ fD ((oW 0 C).map (·.1)) cn -> jz w0 w w' -> (∀r,r<jm o.dst -> wo r=fD r) -> K (a.put o.dst v) w') -> o.wp P a w K Q:=by
 unfold td at h;split at h
 ·rename_i C AD;generalize adz:oW 0 C=eO at h;cases ni:(once eO&&Nat.ble C.length 40)with
  |false=>rw[ni]at h;cases h
  | true=>
   rw[ni,au]at h;rw[aS]at ni;have aIC:=cX ni.2;have uv:∀ p∈oW 0 C,eO.lookup p.1=some p.2:=by
    intro p hp;rw[adz]at hp;have:=cw.1 ni.1 p hp;obtain⟨n,T,he⟩:=(Option.any_eq_true _ _).1 this;simp_all
   obtain⟨x,Y,hrel,aID,mJ⟩:=PG (w0:=w0) (N:=N) _ _ C _ AD h;clear h;split at Y
   ·rename_i y hy;unfold PJ at Y;generalize qa:qK (jm o.dst) (fV c.ro y.1).len C (lY (fQ c.ps) y.2)=cn at Y;generalize IC:eO.map (·.1)=ns at Y mJ;cases jP:Jq N C (lY (fQ c.ps) y.2) cn with
    |false=>rw[jP]at Y;cases Y
    | true=>
     rw[jP,au]at Y;simp only[Jq,aS]at jP;obtain⟨⟨⟨ok1,ok2⟩,ok3⟩,ok4⟩:=jP;obtain⟨dz,h3,wq⟩:=ap9 (w0:=w0) Y
     refine⟨dz,C,cn,h3,AD,λn T=>?_,λO kj=>by simpa using cw.1 ok2 O kj,λa w K Q aj ρ hR hK=>?_⟩
     ·have:=cw.1 ok3 n (x6.1 T);rw[eR]at this;rcases this with h | h
      ·exact .inl (by have:=cX h;omega)
      ·exact .inr (cX h)
     have hS:CO ns aj (eV aj eO id):=by rw[<- IC];exact ap5 (λb k hb=>(hR.dD b k hb).2.2)
     have adA:=PF _ _ _ AD;let rs:=C.map Mu.root
     have ki:∀ j O,C[j]?=some O -> rs[0+j]?=some O.root:=by
      intro j O hj;rw[fT,ff,hj];rfl
     have hE:=WJ (rs:=rs) hR hS C (og c.ps x) 0 uv ki adA hrel (by omega);have hA:=mJ aj ρ a w (eV aj eO id) (ya w ρ rs) hR hS (og c.ps x) 0 (λj z U=>by rw[fT];exact U) (λj O hj=>by
      have h1:=ki j O hj;rw[fT]at h1 ⊢;exact Jl h1 (by have:=(eo.1 hj).1;omega))
     obtain⟨hA1,V1⟩:=Fv.get _ _ hA;let nm:Nat -> Nat:=λn=>if n<(fV c.ro y.1).len then jm o.dst+n else (Ay (jm o.dst) (fV c.ro y.1).len C).getD (n-(fV c.ro y.1).len) 0
     have rU:∀ (ps:aa PK) (i:Nat) (x:nh ps),(kQ ps i x).length=ps.length:=by
      intro ps
      induction ps with
      |nil=>intro i x;rfl
      | cons p ps ih=>
       intro i x;cases p with
       |v=>exact bf (· + 1) (ih _ _)
       |p=>exact bf (· + 1) (ih _ _)
       |s=>exact bf (· + 1) (ih _ _)
     unfold Oper.wp;rw[Wi w o a f args oe ho he,Oper.upon_enter];have CJ:(args.map a.eval)=(args.toList.map a.eval).toArray:=by apply Array.ext';rw[Array.toList_map]
     rw[CJ];have PO:∀ b k,eV aj eO id b=some k -> (∃ E,aj b=some E/\gQ E ns=true)/\k≠[]:=by
      intro b k hb;cases hl:aj b with
      |none=>rw[hS.none b hl]at hb;cases hb
      | some E=>
       refine⟨⟨E,rfl,?_⟩,?_⟩
       ·cases hq:gQ E ns with
        |true=>rfl
        |false=>rw[(hS.rest b E hl).2 hq]at hb;cases hb
       ·simp only[eV,hl]at hb;split at hb
        ·cases hb
        ·cases adB:eO.lookup _ with
         |none=>rw[adB]at hb;cases hb
         |some n=>rw[adB]at hb;injection hb with hb;subst hb;simp
     have hQ:Hd w (eV aj eO id):=w0.on hR.below (λb k hb=>by obtain⟨⟨E,hl,_⟩,_⟩:=PO b k hb;exact(hR.dD b E hl).1)
     refine(hc x y hy nm w (eV aj eO id) (ya w ρ rs) _ hE (λb k hb=>⟨?_,(PO b k hb).2⟩) ?_ V1 hQ).mono λe w' uq=>?_
     ·obtain⟨⟨E,hl,_⟩,_⟩:=PO b k hb;exact(hR.dD b E hl).2.1
     ·rw[List.size_toArray,hA1,rU]
     ·obtain⟨v,D,rfl,Z,Fx,mK,WT⟩:=uq;have hB:=hR.below.size;let dX:bM:=λb=>match eV aj eO id b with
       |none=>if b<w.heap.size then aj b else D b
       |some _=>D b
      have e1:∀ b k,D b=some k -> dX b=some k:=by
       intro b k hb;show (match eV aj eO id b with|none=>if b<w.heap.size then aj b else D b|some _=>D b)=some k;split
       next iZ=>have:=(Fx b k hb).1;have pT:=this.resolve_right (λh=>h iZ);rw[bQ];exact hb
       ·exact hb
      have e2:∀ b,w.heap.size <= b -> dX b=D b:=by
       intro b hb;show (match eV aj eO id b with|none=>if b<w.heap.size then aj b else D b|some _=>D b)=D b;split
       ·rw[bQ]
       ·rfl
      have adC:∀ p∈tf w' ρ (jm o.dst) (fV c.ro y.1).len C (lY (fQ c.ps) y.2),(tf w' ρ (jm o.dst) (fV c.ro y.1).len C (lY (fQ c.ps) y.2)).lookup p.1=some p.2:=
       adu (by rw[PL,qa];exact ok1)
      generalize CU:tf w' ρ (jm o.dst) (fV c.ro y.1).len C (lY (fQ c.ps) y.2)=hd at adC;have aqa:hd.map (·.1)=cn:=by rw[<- CU,PL,qa]
      have hv:uz w w' aj dX ρ (ads hd ρ) ns cn:=by
       refine⟨Z.size,λb hb hk=>?_,λn T=>?_,λb k hb=>(hR.dD b k hb).2⟩
       ·have iZ:eV aj eO id b=none:=by
         cases hl:aj b with
         |none=>exact hS.none b hl
         |some k=>exact(hS.rest b k hl).2 (hk k hl)
        refine⟨Z.block b hb iZ,?_⟩;show (match eV aj eO id b with|none=>if b<w.heap.size then aj b else D b|some _=>D b)=aj b;rw[iZ];exact bJ hb
       ·show (match hd.lookup n with|some v=>Loc.eG v|none=>ρ n)=ρ n;rw[adt (by rw[aqa];exact T)]
      have Jt:∀O∈C,dS O.root cn=false:=λO kj=>by simpa using cw.1 ok2 O kj
      have hnr:=WN (c0:=jm o.dst) (nm:=nm) hR hv e1 e2 hB C (og c.ps x) (lY (fQ c.ps) y.2) 0 (fV c.ro y.1).len ki adA hrel (by omega) WT (λk n T=>?_) (λp hp=>?_) Jt ok4
      ·have adD:jz w0 w w':=by
        refine⟨Z.os,Z.tape,Z.output,Z.size,λk hk hL=>Z.block k (Nat.lt_of_lt_of_le hk hB) ?_⟩
        cases hl:aj k with
        |none=>exact hS.none k hl
        |some E=>exact absurd hL ((hR.dD k E hl).1.resolve_left (by omega))
       have kg:Rl w0 N dX (ads hd ρ) (σ.fE ns cn (oY ns cn (jm o.dst) (fV c.ro y.1).len C (lY (fQ c.ps) y.2))) a w':=by
        refine hR.uA hv adD (λb k hb=>?_) (λn T=>?_) (λn z U=>?_)
        ·have hb:(match eV aj eO id b with | none=>if b<w.heap.size then aj b else D b | some _=>D b)=some k:=hb;have adE:D b=some k -> (w0.heap.size <= b \/ w0.L b≠none)/\b<w'.heap.size/\k≠[]:=by
          intro h1;obtain⟨g1,g2,g3⟩:=Fx b k h1;refine⟨?_,g2,g3⟩;rcases g1 with g1|g1
          ·exact .inl (Nat.le_trans hB g1)
          ·cases iZ:eV aj eO id b with
           |none=>exact absurd iZ g1
           | some k2=>
            obtain⟨⟨E,hl,_⟩,_⟩:=PO b k2 iZ;exact(hR.dD b E hl).1
         split at hb
         ·split at hb
          ·have:=hR.dD b k hb;exact⟨this.1,Nat.lt_of_lt_of_le this.2.1 Z.size,this.2.2⟩
          ·exact adE hb
         ·exact adE hb
        ·have:=cw.1 ok3 n (x6.1 T);rw[eR]at this;refine hR.dN n ?_;rcases this with h | h
         ·exact .inl (by have:=cX h;omega)
         ·exact .inr (cX h)
        ·have wh:(n,z)∈oY ns cn (jm o.dst) (fV c.ro y.1).len C (lY (fQ c.ps) y.2):=by
          clear hnr;generalize oY ns cn (jm o.dst) (fV c.ro y.1).len C (lY (fQ c.ps) y.2)=l at U
          induction l with
          |nil=>cases U
          | cons p l ih=>
           rw[List.lookup_cons]at U;cases hb:n==p.1 with
           | true=>
            rw[hb]at U;have e:n=p.1:=by simpa using hb
            injection U with U;rw[e,<- U]
            grind
           | false=>
            rw[hb]at U;exact .tail _ (ih U)
         exact hnr (n,z) wh
       have aqb:qI w' w0.heap.size dX (λn=>jm o.dst+n) (fV c.ro y.1) v:=?_
       ·obtain⟨wo,Ju,yb⟩:=wq dX _ a w' v kg aqb;exact hK v w' dX _ wo Ju (by rw[adz,IC];exact hv) adD yb
       have WU:∀(L:Nat),L=(fV c.ro y.1).len -> ∀n,n<L -> nm n=jm o.dst+n:=λL hL n T=>bJ
       generalize aIE:fV c.ro y.1=res at mK WU;cases res with
       | one p=>
        have mK:kf w' w.heap.size D nm 0 [p] [v]:=mK;exact kf.Aq [p] 0 [v] mK hB e2 e1 (λn _ T=>WU _ rfl n (by simpa [gC.len]using T))
       | fB xY=>
        obtain⟨vs,e,kM⟩:=mK;exact⟨vs,e,kf.Aq xY 0 vs.toList kM hB e2 e1 (λn _ T=>WU _ rfl n (by simpa [gC.len]using T))⟩
      ·show (if (fV c.ro y.1).len+k<(fV c.ro y.1).len then jm o.dst+((fV c.ro y.1).len+k)else (Ay _ (fV c.ro y.1).len C).getD ((fV c.ro y.1).len+k-(fV c.ro y.1).len) 0)=n;rw[bQ,show (fV c.ro y.1).len+k-(fV c.ro y.1).len=k by omega,fA,T];rfl
      ·rw[CU]at hp;show (match hd.lookup p.1 with|some v=>Loc.eG v|none=>ρ p.1) = .eG p.2;rw[adC p hp]
   ·cases Y
 ·cases h
def aqc{f:Nat}{args:Array Operand}{D:Array TypeId}{c:oV}{k:S -> ah X}(E:o.op = .call { callee:=.value (.func f),args,argTypes:=D })(L:enters P f)(O:uy P f c)(h:td N σ o.dst c args.toList k=some r):∃ C,k C=some r/\mG P w0 N o σ C:=by
 obtain⟨C,WV,cn,T,_,_,_,U⟩:=WS E L O h
 refine⟨C,T,λa w K Q hR Y=>?_⟩
 obtain⟨aj,ρ,hR⟩:=hR;exact U a w K Q aj ρ hR λv w' dX fD Z dR _ _ _=>Y _ _ ⟨dX,Z,dR⟩
end
end Go.Proofs.YtnilicojgkhpnaaGreat
