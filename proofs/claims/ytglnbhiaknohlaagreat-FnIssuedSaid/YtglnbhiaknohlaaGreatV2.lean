/-
  Running the program over pure contents, and that it follows (part 2). Nothing here is a claim.
-/
import Derived.Laws.StructEq
import Derived.Test.YtglnbhiaknohlaaGreatV1
set_option linter.unusedSimpArgs false
namespace Go.Proofs.YtglnbhiaknohlaaGreat
set_option linter.defProp false
open Go.RowKit
set_option linter.unusedVariables false
def aFM{X:Type}(N:Nat)(σ:S)(C:ah Tmp)(c x y:A)(k:S->ah X):ah X:=
 match c with
 |.lf (.v (.bool b))=>bif b then ir N σ C x k else ir N σ C y k
 |_=>none
def Gy{X:Type}(P:Program)(s:TypeId)(x:A)(f:Nat)(k:A->ah X):ah X:=
 match Gf P s f,x with
 | some C,.agg cs=>(match jA P C.type,Dg P C.type with
  |some n,some true=>if C.offset+n<=cs.length then k (.agg ((cs.drop C.offset).take n))else none
  | some _,some false=>(match cs[C.offset]? with
   |some y=>k (.lf y)
   |none=>none)
  |_,_=>none)
 |_,_=>none
def Ds{X:Type}(C:Bool)(x y:A)(k:A->ah X):ah X:=
 match x,y with
 |.lf (.v (.int D a)),.lf (.v (.int _ b))=>k (.lf (.v (.int D (bif C then (if b > a then b else a)else (if b<a then b else a)))))
 |_,_=>none
def Gz{X:Type}(P:Program)(t:TypeId)(x i:A)(k:A->ah X):ah X:=
 match x,i with
 | .lf (.v (.str s)),.lf (.v (.int _ iv))=>(match P.underlying t with
  |some .string=>if h:0<=iv/\iv.toNat<s.size then k (.lf (.v (.int .u8 ((s[iv.toNat]'h.2).toNat:Int))))else none
  |_=>none)
 |_,_=>none
def sY{X:Type}(x:ah A)(d:Int)(k:Int->ah X):ah X:=
 match x with
 |none=>k d
 |some (.lf (.v (.int _ n)))=>k n
 |_=>none
def wI{X:Type}(P:Program)(t:TypeId)(x:A)(lo hi:ah A)(k:A->ah X):ah X:=
 match x with
 | .lf (.v (.str s))=>(match P.underlying t with
  |some .string=>sY lo 0 λl=>sY hi (s.size:Int) λh=>if 0<=l/\l<=h/\h<=(s.size:Int)then k (.lf (.v (.str (s.extract l.toNat h.toNat))))else none
  |_=>none)
 | .lf (.v (.sl C g D l))=>(match pF P t with
  | some e=>(match jA P e with
   |some n=>if n=aG C then (bif Nat.blt g 2 then sY lo 0 λa=>sY hi (l.length:Int) λb=>if 0<=a/\a<=b/\b<=(l.length:Int)then k (.lf (.v (.sl C g false ((l.take b.toNat).drop a.toNat))))else none else none)else none
   |none=>none)
  |none=>none)
 |_=>none
def Dt(P:Program)(C D:TypeId):Bool:=
 match P.underlying C,P.underlying D with
 | some (.slice e),some .string=>(match P.underlying e with
  |some (.int .u8)=>true
  |_=>false)
 |_,_=>false
def MC{X:Type}(P:Program)(C D:TypeId)(z:V)(k:A->ah X):ah X:=
 match z with
 |.sl .u8 _ _ l=>bif Dt P C D then k (.lf (.v (.str (strOfNums l))))else none
 |.nil=>bif Dt P C D then k (.lf (.v (.str (strOfNums []))))else none
 |_=>none
def yU{X:Type}(P:Program)(σ:S)(C D:TypeId)(x:A)(k:A->ah X):ah X:=
 match x with
 | .lf (.v (.int _ n))=>(match P.underlying C,P.underlying D with
  |some _,some (.int E)=>k (.lf (.v (.int E (E.wrap n))))
  |_,_=>none)
 |.lf y=>oH σ y λz=>MC P C D z k
 |_=>none
section
variable {P:Program} {w w':World} {w0:Wd} {B N:Nat} {aj aD:bI} {ρ ρ':Nat->Loc} {σ:S} {a:Act} {X:Type} {d:Nat} {r:X} {o:Oper}
def aFN{α:Type}(f:α -> aa Value)(s:Nat)(C:∀ x,(f x).length=s)(l:aa α):(l.flatMap f).length=l.length*s:=by
 induction l with
 |nil=>simp
 |cons a l D=>grind
def anm{α:Type}(f:α -> aa Value)(s:Nat)(D:∀ x,(f x).length=s):∀ (l:aa α) (k:Nat) (C:k<l.length) (j:Nat),j<s -> (l.flatMap f)[k*s+j]?=(f l[k])[j]?:=by
 intro l
 induction l with
 |nil=>simp_all
 | cons a l E=>
  intro k C j I;rw[List.flatMap_cons];cases k with
  |zero=>grind
  |succ k =>grind
def aaA(z:Array Value)(s n:Nat)(C:z.size=s)(E:0<s):(madeCells z (n*s)).toList=(List.replicate n z.toList).flatten:=by
 have e:(List.replicate n z.toList).flatten=(List.replicate n ()).flatMap (λ_=>z.toList):=by
  rw[List.flatMap_def,List.map_replicate]
 rw[e];have hl:((List.replicate n ()).flatMap (λ_=>z.toList)).length=n*s:=by
  simp_all
 apply List.ext_getElem?;intro i;rcases Nat.lt_or_ge i _ with hi|hi
 ·have I:i / s<n:=Nat.div_lt_of_lt_mul (by rw[Nat.mul_comm];exact hi);have L:i % s<s:=Nat.mod_lt _ E;have O:i=i / s*s+i % s:=by rw[Nat.mul_comm];exact(Nat.div_add_mod i s).symm
  have D:=anm (λ_=>z.toList) s (λ_=>by simpa using C) (List.replicate n ()) (i / s) (by simpa using I) (i % s) L;rw[<- O]at D;rw[D];have T:i % s<z.size:=by omega
  simp only[madeCells,Array.toList_map,Array.toList_range,eJ,List.getElem?_range hi,Option.map_some,C];simp[T]
 ·rw[List.getElem?_eq_none (by rw[lS,size_madeCells];exact hi),List.getElem?_eq_none (by rw[hl];exact hi)]
def ann{t:TypeId}{len:Nat}{parts:Array (Nat×Operand)}{k:S -> ah X}(h:yT P N σ d t len parts.toList k=some r):∃ cY,k cY=some r /\ ∀ aj ρ a w,Rl w0 N aj ρ σ a w ->
  ∃w' aD ρ' v,(Instr.buildSlice t len (parts.map λ(i,x)=>(i,a.eval x))).run P w = .ok v w'/\Rl w0 N aD ρ' cY (a.put (some d) v) w':=by
 unfold yT at h;split at h
 ·rename_i e C oK;obtain⟨gy,ht,i,hi,Y,jZ⟩:=yQ oK;split at h
  ·rename_i z hz;cases T:(Nat.beq (full C) 0&&Nat.beq z.cells.size (aG C)&&Nat.blt (len*aG C) 16777217)with
   |false=>rw[T]at h;cases h
   | true=>
    rw[T,aq]at h;simp only[aQ]at T;have hf:=cB T.1.1;have m6:=cB T.1.2;have hsm:len*aG C<16777217:=by have:=cK T.2;omega
    have oL:i.zero=some z:=by unfold zeroOf at hz;simpa [hi]using hz
    split at h
    ·rename_i cs jB;split at h
     ·rename_i vs l6;split at h
      ·rename_i l hl;obtain⟨hd,h⟩:=oJ h
       refine⟨_,h,λaj ρ a w hR=>?_⟩
       obtain⟨MD,A1,iT⟩:=Tf C 0 len vs l hl;have Tg:eK w w0.heap.size aj ρ (List.replicate len (z.cells.toList.map nR)).flatten (madeCells z.cells (len*aG C)):=by
        have e1:(List.replicate len (z.cells.toList.map nR)).flatten=((List.replicate len z.cells.toList).flatten).map nR:=by
         rw[List.map_flatten,List.map_replicate]
        rw[e1,<- aaA z.cells (aG C) len m6 (oB C)]
        refine⟨by simp,λj x D=>?_⟩
        rw[eJ]at D;cases I:(madeCells z.cells (len*aG C)).toList[j]? with
        |none=>rw[I]at D;cases D
        | some v=>
         rw[I]at D;injection D with D;subst D;exact⟨v,by simpa using I,Mv v⟩
       obtain⟨L,wJ,dX⟩:=MA (w:=w) (B:=w0.heap.size) (aj:=aj) (ρ:=ρ) _ _ _ (parts.toList.map λp=>(p.1,a.eval p.2)) cs jB Tg (by simp) (λj p q O Z=>by
        rw[eJ]at O Z;cases D:parts.toList[j]? with
        |none=>rw[D]at O;cases O
        | some x=>
         rw[D]at O Z;injection O with O;injection Z with Z;subst O Z;exact⟨rfl,hR.aK x.2⟩)
       have aaB:=MB cs vs l6;have ano:L.size=len*aG C:=by rw[dX.1,aaB,eM,A1]
       have eO:(Instr.buildSlice t len (parts.map λ(i,x)=>(i,a.eval x))).run P w = .ok (.slice (some ⟨w.heap.size,0,none⟩) len len) (w.alloc (.cells L e)):=by
        have Gx:(parts.map λ(i,x)=>(i,a.eval x)).toList=parts.toList.map λp=>(p.1,a.eval p.2):=by simp
        by_cases h0:len*aG C=0
        ·have hm:madeCells z.cells (len*aG C) = #[]:=by rw[h0];simp[madeCells]
         rw[hm]at wJ;have Th:len*i.size=0:=by rw[Y];exact h0
         rw[<- Y]at wJ;have e0:∀f:Nat -> Value,Array.map f (Array.range 0) = #[]:=λf=>by simp
         simp only[Instr.buildSlice,gk,gY gy,sizeOf,typeInfo];simp[hi,Th];rw[e0,wJ];simp[newRow]
        ·exact run_buildSlice (P:=P) w t e len _ L i z gy hi oL (by rw[Y];omega) (by rw[Y];exact h0) (by rw[Y,Gx];exact wJ)
       refine⟨_,bW aj w.heap.size (some [d]),bW ρ d (.dH (.slice (some ⟨w.heap.size,0,none⟩) len len)),_,eO,(hR.Dl (hR.dm d (.inl hd)) (λr hr=>cH _ _ _ hr) (.sl _ _ (bZ _ _ _) ?_)).set ⟨rfl,by simp[cU,bZ]⟩ hd⟩
       have qB:∀ E (U:E<l.length) j x,(enc C 0 l[E])[j]?=some x -> ∃ v,L[E*aG C+j]?=some v /\ ∀ (w':World) (B':Nat) (aD:bI) (q':aa Nat),RV w' B' aD q' x v:=by
        intro E U j x D;obtain⟨y,hy,hw⟩:=iT E U j x D;obtain⟨v,I,hr⟩:=dX.2 (E*aG C+j) (.v y) (by rw[aaB,eJ,hy];rfl);exact⟨v,I,λw' B' aD q'=>(hr.2.wk hw).sS (yF C 0 l[E] hf x (gX D))⟩
       have:=RV.own (w:=w.alloc (.cells L e)) (B:=w0.heap.size) (aj:=bW aj w.heap.size (some [d])) [d] C 0 true l w.heap.size len L (λi j=>(L[i*aG C+j]?).getD undef)
        (bZ _ _ _) (by rw[ht];exact heap_alloc_new w _) ano (by omega) ⟨by have:=Nat.le_mul_of_pos_right len (oB C);unfold maxLen;omega,λ_=>MD.symm⟩ (λE U j x D=>?_) (λE U j x D=>?_)
       ·rw[MD]at this;exact this
       ·obtain⟨v,I,_⟩:=qB E U j x D;rw[I];rfl
       ·obtain⟨v,I,hr⟩:=qB E U j x D;rw[I];exact hr _ _ _ _
      ·cases h
     ·cases h
    ·cases h
  ·cases h
 ·cases h
def aaC{C:Bool}{x y:A}{k:A->ah X}(h:Ds C x y k=some r):∃ z,k z=some r/\∀ (w:World) (B:Nat) (aj:bI) (ρ:Nat->Loc) (t ty:TypeId) (u v:Value),RA w B aj ρ x u->RA w B aj ρ y v->
  ∃D,((bif C then Builtin.max_ #[t,t] ty #[u,v]else Builtin.min_ #[t,t] ty #[u,v]):Sem Value).run P w = .ok D w/\RA w B aj ρ z D:=by
 unfold Ds at h;split at h
 ·refine⟨_,h,λw B aj ρ t ty u v E I=>?_⟩
  obtain rfl:=E.2.gU;obtain rfl:=I.2.gU;cases C with
  |true=>exact⟨_,by simp[Builtin.max_,Builtin.max2],rfl,.int _ _ _⟩
  |false=>exact⟨_,by simp[Builtin.min_,Builtin.min2],rfl,.int _ _ _⟩
 ·cases h
def anp{t:TypeId}{x i:A}{k:A->ah X}(h:Gz P t x i k=some r):∃ z,k z=some r/\∀ (w:World) (B:Nat) (aj:bI) (ρ:Nat->Loc) (u v:Value),RA w B aj ρ x u->RA w B aj ρ i v->
  ∃C,(Instr.index t u v).run P w = .ok C w/\RA w B aj ρ z C:=by
 unfold Gz at h;split at h
 ·rename_i s L iv;split at h
  ·rename_i D;split at h
   ·rename_i hb
    refine⟨_,h,λw B aj ρ u v E I=>?_⟩
    obtain rfl:=E.2.wz;obtain rfl:=I.2.gU;exact⟨_,by simp[Instr.index,asIntOf,gY D,hb.1,hb.2],rfl,.int _ _ _⟩
   ·cases h
  ·cases h
 ·cases h
def aaD{C D:TypeId}(h:Dt P C D=true):∃ e,P.underlying C=some (.slice e)/\P.underlying D=some .string/\P.underlying e=some (.int .u8):=by
 unfold Dt at h
 grind
def aaE(l:aa Int)(i:Nat)(hi:i<l.length):l.getD i 0=l[i]:=by rw[fj,bS hi];rfl
def RV.toStr{I L e:TypeId}(U:P.underlying I=some (.slice e))(Y:P.underlying L=some .string)(Z:P.underlying e=some (.int .u8)){o:Nat}{qn:Bool}{l:aa (T .u8)}{q:aa Nat}{B:Nat}{u:Value}(h:RV w B aj q (.sl .u8 o qn l) u):
  (convert I L u).run P w = .ok (.string (strOfNums l)) w:=by
 generalize C:V.sl .u8 o qn l=y at h;cases h with
 |int=>cases C
 |bool=>cases C
 |str=>cases C
 |nil=>cases C
 | eE q t o'=>
  injection C with D e2 e3 E;subst D;obtain rfl:=eq_of_heq E;rw[run_convert_bytes_nil w I e U Z 0 0 L Y];rfl
 | fI q t o' A c ho=>
  injection C with D e2 e3 E;subst D;obtain rfl:=eq_of_heq E;have hl:=run_loadCells_list (P:=P) w A [] (λj v hj=>by simp at hj);rw[run_convert_bytes_string w I L e _ 0 c U Z Y];rfl
 | fV q t o' A c ho=>
  injection C with D e2 e3 E;subst D;obtain rfl:=eq_of_heq E;have hl:(loadCells A 0).run P w = .ok (([]:aa Int).map (Value.int .u8)).toArray w:=run_loadCells_list (P:=P) w A [] (λj v hj=>by simp at hj);rw[run_convert_bytes_string w I L e _ 0 c U Z Y,run_bytesToString w A 0 c [] hl];rfl
 | aI q t o' Ti l' b off cap uu ho hl hb h1 lX hc hr=>
  injection C with D e2 e3 E;subst D;obtain rfl:=eq_of_heq E
  refine run_convert_bytes_arg w I e U Z b off _ cap l rfl (λi hi=>?_) L Y
  have O:=hc i hi 0 (.int .u8 l[i]) rfl;have h3:=(hr i hi 0 (.int .u8 l[i]) rfl).gU;simp only[aG,Nat.mul_one,Nat.add_zero]at O;have hg:=aaE (show aa Int from l) i hi;rw[O,h3];exact bx (λz=>some (Value.int .u8 z)) hg.symm
 | own q t o' Ti l' b cap cs uu hl hh oG hn hm hc hr=>
  injection C with D e2 e3 E;subst D;obtain rfl:=eq_of_heq E
  refine run_convert_bytes_arg w I e U Z b 0 _ cap l rfl (λi hi=>?_) L Y
  have O:=hc i hi 0 (.int .u8 l[i]) rfl;have h3:=(hr i hi 0 (.int .u8 l[i]) rfl).gU;simp only[aG,Nat.mul_one,Nat.add_zero]at O;have hg:=aaE (show aa Int from l) i hi;rw[h3]at O;have h4:w.cell? ⟨b,0+i,none⟩=some (.int .u8 l[i]):=by simp[World.cell?,hh,O]
  rw[h4];exact bx (λz=>some (Value.int .u8 z)) hg.symm
def anq{E I:TypeId}{x:A}{k:A -> ah X}(h:yU P σ E I x k=some r):∃ z,k z=some r /\ ∀ aj ρ a w,Rl w0 N aj ρ σ a w -> ∀ u,RA w w0.heap.size aj ρ x u ->
  ∃t',(convert E I u).run P w = .ok t' w/\RA w w0.heap.size aj ρ z t':=by
 unfold yU at h;split at h
 ·rename_i kk n;split at h
  ·rename_i d1 kd hs hd
   refine⟨_,h,λaj ρ a w _ u C=>?_⟩
   obtain rfl:=C.2.gU;exact⟨_,by simp[convert,gY hs,gY hd,Conv.intToInt],rfl,.int _ _ _⟩
  ·cases h
 ·rename_i y _;have key:∃ z,(∀ aj ρ a w,Rl w0 N aj ρ σ a w -> ∀ u,dR w w0.heap.size aj ρ y u -> ∃ q,RV w w0.heap.size aj q z u)/\MC P E I z k=some r:=by
   cases y with
   |v z=>exact⟨z,λaj ρ a w _ u C=>⟨[],C.2⟩,h⟩
   |dead=>cases h
   | own q=>
    obtain⟨z,O,h⟩:=rP q _ h
    refine⟨z,λaj ρ a w hR u C=>?_,h⟩
    obtain⟨v,hv,T⟩:=O.ok hR.root;have h3:=C.2
    grind
  obtain⟨z,O,D⟩:=key;clear h;unfold MC at D;split at D
  ·rename_i o qn l;cases L:Dt P E I with
   |false=>simp_all
   | true=>
    rw[L]at D;obtain⟨e,U,Y,Z⟩:=aaD L
    refine⟨_,D,λaj ρ a w hR u C=>?_⟩
    obtain⟨q,T⟩:=O aj ρ a w hR u C;exact⟨_,T.toStr U Y Z,rfl,.str _ _⟩
  ·cases L:Dt P E I with
   |false=>simp_all
   | true=>
    rw[L,aq]at D;obtain⟨e,U,Y,Z⟩:=aaD L
    refine⟨_,D,λaj ρ a w hR u C=>?_⟩
    obtain⟨q,T⟩:=O aj ρ a w hR u C;cases T;exact⟨_,by rw[run_convert_bytes_nil w E e U Z 0 0 I Y];rfl,rfl,.str _ _⟩
  ·cases D
 ·cases h
def anr{s:TypeId}{x:A}{f:Nat}{k:A -> ah X}(h:Gy P s x f k=some r):∃ z,k z=some r /\ ∀ (w:World) (B:Nat) (aj:bI) (ρ:Nat -> Loc) (u:Value),RA w B aj ρ x u ->
  ∃Y,(Instr.field s u f).run P w = .ok Y w/\RA w B aj ρ z Y:=by
 unfold Gy at h;split at h
 ·rename_i E cs I;have ko:∃ L,P.underlying s=some (.struct L)/\L[f]?=some E:=by
   unfold Gf at I;split at I
   ·simp_all
   ·cases I
  obtain⟨L,Z,yV⟩:=ko;split at h
  ·rename_i n O C;split at h
   ·rename_i hle
    refine⟨_,h,λw B aj ρ u D=>?_⟩
    obtain⟨us,rfl,hR⟩:=D;have T:(isAgg E.type).run P w = .ok true w:=by
     unfold Dg at C;split at C
     next fs' D=>unfold isAgg;rw[gk,gY D];rfl
     next c e D=>unfold isAgg;rw[gk,gY D];rfl
     ·cases C
     ·cases C
    unfold jA at O;cases hi:P.info? E.type with
    |none=>simp_all
    | some i=>
     have AX:i.size=n:=by simpa [hi]using O
     refine⟨.agg (us.extract E.offset (E.offset+n)),by simp[Instr.field,gY Z,yV,asAgg,part,gk,T,sizeOf,typeInfo,hi,AX],_,rfl,?_,λj y U=>?_⟩
     ·have:=hR.1
      grind
     ·obtain⟨hj,GA⟩:=Mm _ _ _ _ _ U;obtain⟨v,hv,hr⟩:=hR.2 _ y GA
      grind
   ·cases h
  ·rename_i n O C;split at h
   ·rename_i y U
    refine⟨_,h,λw B aj ρ u D=>?_⟩
    obtain⟨us,rfl,hR⟩:=D;obtain⟨v,hv,hr⟩:=hR.2 _ y U;have T:(isAgg E.type).run P w = .ok false w:=by
     unfold Dg at C;split at C
     ·cases C
     ·cases C
     next d hs ha D=>unfold isAgg;rw[gk,gY D];simp_all
     ·cases C
    exact⟨v,by simp[Instr.field,gY Z,yV,asAgg,part,gk,T,hv],hr⟩
   ·cases h
  ·cases h
 ·cases h
end
def V.val:V->Value
 |.int k n=>.int k n
 |.bool b=>.bool b
 |.str s=>.string s
 |_=>undef
def ME:TypeDesc->V->V->ah Bool
 |.int _,.int k a,.int C b=>if k=C then some (a==b)else none
 |.bool,.bool a,.bool b=>some (a==b)
 |.string,.str a,.str b=>some (a.toList==b.toList)
 |_,_,_=>none
def GB(P:Program)(g:TypeId->aa V->aa V->ah Bool)(xs ys:aa V):aa Field->ah Bool
 |[]=>some true
 | f :: C=>bif f.name == "_" then GB P g xs ys C else (match jA P f.type with
  | some n=>bif Nat.ble (f.offset+n) xs.length then (match g f.type ((xs.drop f.offset).take n) ((ys.drop f.offset).take n),GB P g xs ys C with
   |some a,some b=>some (a&&b)
   |_,_=>none)else none
  |none=>none)
def yW(P:Program):Nat->TypeId->aa V->aa V->ah Bool
 |0,_,_,_=>none
 | n+1,t,xs,ys=>match P.underlying t with
  |some (.struct C)=>bif P.stoodInHeld t ||!Nat.beq xs.length ys.length then none else GB P (yW P n) xs ys C.toList
  | some d=>(match xs,ys with
   |[x],[y]=>ME d x y
   |_,_=>none)
  |none=>none
def MF:BinOp->ah Bool
 |.eql=>some false
 |.neq=>some true
 |_=>none
def jP{α:Type}:aa α->Bool
 |[]=>true
 |_=>false
def isStr(P:Program)(t:TypeId):Bool:=match P.underlying t with
 |some (.struct _)=>true
 |_=>false
def yX{X:Type}(P:Program)(σ:S)(D:BinOp)(t:TypeId)(x y:A)(k:A->ah X):ah X:=
 match MF D,x,y with
 | some C,.agg cs,.agg E=>(match qC cs,qC E with
  | some xs,some ys=>bif P.eqGuardType P.depth t || !isStr P t then none else (match yW P 20 t xs ys with
   |some b=>k (.lf (.v (.bool (bif C then !b else b))))
   |none=>none)
  |_,_=>none)
 | some C,.lf l,.lf (.v .nil)=>(match pF P t with
  | some _=>oH σ l λz=>(match z with
   |.nil=>k (.lf (.v (.bool (bif C then false else true))))
   |.sl _ _ true _=>k (.lf (.v (.bool (bif C then true else false))))
   |.sl _ _ false l=>bif jP l then none else k (.lf (.v (.bool (bif C then true else false))))
   |_=>none)
  |none=>none)
 |_,_,_=>vK x λa=>vK y λb=>Gc P t D a b λz=>k (.lf (.v z))
section
variable {P:Program} {w w':World} {w0:Wd} {B N:Nat} {aj aD:bI} {ρ ρ':Nat->Loc} {σ:S} {a:Act} {X:Type} {d:Nat} {r:X} {o:Oper}
def ans{D:TypeDesc}{x y:V}{b:Bool}{t:TypeId}{n:Nat}(C:P.underlying t=some D)(h:ME D x y=some b):(Op.equalIn (n+1) t x.val y.val).run P w = .ok b w:=by
 unfold ME at h;split at h
 ·split at h
  next I _ a k L E=>subst E;injection h with h;subst h;exact run_equalIn_int w n t _ _ _ _ C
  ·cases h
 ·injection h with h;subst h;exact run_equalIn_bool' w n t _ _ C
 ·injection h with h;subst h;exact run_equalIn_string w n t _ _ C
 ·cases h
def sZ(P:Program)(t:TypeId)(xs:aa V)(u:Value):Prop:=
 match P.underlying t with
 |some (.struct _)=>u = .agg (xs.map V.val).toArray
 |_=>∃x,xs=[x]/\u=x.val
def aaF{t:TypeId}{n off:Nat}{xs:aa V}(L:jA P t=some n)(hle:off+n <= xs.length)(O:∃ d,P.underlying t=some d/\(∀ c e,d ≠ .array c e)/\((∀ C,d ≠ .struct C) -> n=1)):
  ∃u,(part t (xs.map V.val).toArray off).run P w = .ok u w/\sZ P t ((xs.drop off).take n) u:=by
 obtain⟨d,D,T,U⟩:=O;unfold jA at L;cases hi:P.info? t with
 |none=>grind
 | some i=>
  have Y:i.size=n:=by simpa [hi]using L
  by_cases E:∃C,d = .struct C
  ·obtain⟨C,rfl⟩:=E;have I:(isAgg t).run P w = .ok true w:=by
    unfold isAgg;rw[gk,gY D];rfl
   refine⟨.agg ((xs.map V.val).toArray.extract off (off+n)),by simp[part,gk,I,sizeOf,typeInfo,hi,Y],?_⟩;unfold sZ;rw[D];simp only;congr 1;apply Array.ext';simp[List.map_drop,List.map_take]
  ·have I:(isAgg t).run P w = .ok false w:=by
    unfold isAgg;rw[gk,gY D w];cases d<;>first|rfl|(exfalso;exact E ⟨_,rfl⟩)|(exfalso;exact T _ _ rfl)
   have Z:n=1:=U λC e=>E ⟨C,e⟩
   subst Z;have dW:off<xs.length:=by omega
   have qB:(xs.map V.val).toArray[off]?=some (xs[off]).val:=by simp[dW]
   refine⟨(xs[off]).val,by simp[part,gk,I,qB],?_⟩;have e1:(xs.drop off).take 1=[xs[off]]:=by
    rw[List.drop_eq_getElem_cons];rfl
   unfold sZ;rw[D];split
   ·grind
   ·grind
def ant{n:Nat}{t:TypeId}{xs ys:aa V}{b:Bool}(h:yW P n t xs ys=some b):∃ d,P.underlying t=some d/\(∀ c e,d ≠ .array c e)/\((∀ C,d ≠ .struct C) -> xs.length=1):=by
 cases n with
 |zero=>cases h
 | succ n=>
  unfold yW at h;split at h
  ·simp_all
  ·rename_i d I D;split at h
   next x y=>exact⟨d,D,(λc e E=>by subst E;simp[ME]at h),λ_=>rfl⟩
   ·cases h
  ·cases h
def Tj{n:Nat}{xs ys:aa V}(hlen:xs.length=ys.length)(I:∀ t xs ys b,yW P n t xs ys=some b -> ∀ u v,sZ P t xs u -> sZ P t ys v -> ∀ k,(Op.equalIn (k+n) t u v).run P w = .ok b w)(k:Nat):∀ (C:aa Field) (b:Bool),GB P (yW P n) xs ys C=some b ->
  (Op.eqFields (k+n) (xs.map V.val).toArray (ys.map V.val).toArray C).run P w = .ok b w
 | [],b,h=>by
  injection h with h;subst h;simp[Op.eqFields]
 | f :: C,b,h=>by
  unfold GB at h;cases D:f.name == "_" with
  | true=>
   rw[D]at h;have:f.name = "_":=by simpa using D
   simp[Op.eqFields,this,not_true];exact Tj hlen I k C b h
  | false=>
   rw[D,au]at h;have cL:f.name ≠ "_":=by simpa using D
   split at h
   ·rename_i s L;cases E:Nat.ble (f.offset+s) xs.length with
    |false=>simp_all
    | true=>
     rw[E,aq]at h;have E:=cK E;split at h
     ·rename_i c e O h2;injection h with h;subst h;obtain⟨T,U,Y,Z⟩:=ant O;have pI:((xs.drop f.offset).take s).length=s:=by simp;omega
      obtain⟨u,Tl,qG⟩:=aaF (w:=w) L E ⟨T,U,Y,λh=>pI.symm.trans (Z h)⟩;obtain⟨v,GC,wK⟩:=aaF (w:=w) (xs:=ys) (off:=f.offset) L (by omega) ⟨T,U,Y,λh=>pI.symm.trans (Z h)⟩;have hr:=I _ _ _ c O u v qG wK k;have yY:=Tj hlen I k C e h2;simp only[Op.eqFields,cL,ne_eq,not_false_eq_true,if_true,gk,Tl,GC,hr,mz];cases c
      ·simp
      ·simp_all
     ·cases h
   ·cases h
def aaG:∀ (n:Nat) (t:TypeId) (xs ys:aa V) (b:Bool),yW P n t xs ys=some b -> ∀ u v,sZ P t xs u -> sZ P t ys v -> ∀ k,(Op.equalIn (k+n) t u v).run P w = .ok b w
 |0,t,xs,ys,b,h=>by cases h
 | n+1,t,xs,ys,b,h=>by
  intro u v C D k;unfold yW at h;split at h
  ·rename_i T I;cases E:(P.stoodInHeld t || !Nat.beq xs.length ys.length)with
   |true=>simp_all
   | false=>
    rw[E,au]at h;rw[pq,Bool.not_eq_false']at E;have hlen:=cB E.2;unfold sZ at C D;rw[I]at C D;simp only at C D;subst C D;have U:P.fieldsOf t=T:=by simp[Program.fieldsOf,I]
    rw[<- Nat.add_assoc,run_equalIn_struct w (k+n) t _ _ (by rw[U];exact I) E.1,U];exact Tj hlen (aaG n) k T.toList b h
  ·rename_i d Z Y;split at h
   ·rename_i x y;unfold sZ at C D;rw[Y]at C D;split at C
    ·simp_all
    ·split at D
     ·simp_all
     ·obtain⟨x',L,rfl⟩:=C;obtain⟨y',O,rfl⟩:=D;injection L with L;injection O with O;subst L O;exact ans Y h
   ·cases h
  ·cases h
def aaH{cs:aa Lf}{xs:aa V}(h:qC cs=some xs){u:Value}(D:RA w B aj ρ (.agg cs) u):u = .agg (xs.map V.val).toArray:=by
 obtain⟨e,E⟩:=Mn _ _ h;obtain⟨us,rfl,U,I⟩:=D;congr 1;apply Array.ext';apply List.ext_getElem?;intro j;rw[ eJ,Array.getElem?_toList];cases C:xs[j]? with
 |none =>simp_all
 | some x=>
  obtain⟨v,L,O⟩:=I j _ (by rw[e,eJ,C];rfl);rw[L];have:=E x (gX C);have T:=O.2;cases T<;>first|rfl|cases this
def Du{C:BinOp}{D:Bool}(E:MF C=some D){t e:TypeId}(I:P.underlying t=some (.slice e))(L O:Operand)(A:ah Addr)(n c:Nat):
  (do eqGuard C t L O (.slice A n c) (.slice none 0 0);binOp C t (.slice A n c) (.slice none 0 0):Sem Value).run P w = .ok (.bool (bif D then !A.isNone else A.isNone)) w:=by
 have T:(Op.equal t (.slice A n c) (.slice none 0 0)).run P w = .ok A.isNone w:=by
  have h:∀ d,(Op.equalIn (d+1) t (.slice A n c) (.slice none 0 0)).run P w = .ok A.isNone w:=by
   intro d;cases A<;>simp[Op.equalIn,gY I]
  exact h 9999
 cases C<;>simp[MF]at E<;>subst E<;>simp[eqGuard,binOp,T]
def anu{Z:BinOp}{t:TypeId}{x y:A}{k:A -> ah X}(h:yX P σ Z t x y k=some r):∃ z,k z=some r /\ ∀ aj ρ a w,Rl w0 N aj ρ σ a w -> ∀ C D u v,RA w w0.heap.size aj ρ x u -> RA w w0.heap.size aj ρ y v ->
  ∃t',(do eqGuard Z t C D u v;binOp Z t u v:Sem Value).run P w = .ok t' w/\RA w w0.heap.size aj ρ z t':=by
 unfold yX at h;split at h
 ·rename_i O cs ds L;split at h
  ·rename_i xs ys oI GD;cases hg:(P.eqGuardType P.depth t || !isStr P t)with
   |true=>simp_all
   | false=>
    rw[hg,au]at h;rw[pq,Bool.not_eq_false']at hg;obtain⟨hg,ko⟩:=hg;split at h
    ·rename_i b hb
     refine⟨_,h,λaj ρ a w hR C D u v E I=>?_⟩
     have E:=aaH oI E;have I:=aaH GD I;subst E I;have hs:∃ fs,P.underlying t=some (.struct fs):=by
      unfold isStr at ko;split at ko
      ·simp_all
      ·cases ko
     obtain⟨fs,yV⟩:=hs;have U:=aaG (w:=w) 20 t xs ys b hb (.agg (xs.map V.val).toArray) (.agg (ys.map V.val).toArray) (by unfold sZ;rw[yV]) (by unfold sZ;rw[yV]) 9980;refine⟨.bool (bif O then !b else b),?_,rfl,.bool _ _⟩;rw[gk,run_eqGuard_agg w Z t C D _ _ hg,mz];cases Z<;>simp[MF]at L<;>subst L
     ·rw[run_eql_struct,U];rfl
     ·rw[run_neq_struct,U];rfl
    ·cases h
  ·cases h
 ·rename_i O l L;split at h
  ·rename_i e he;have Y:P.underlying t=some (.slice e):=by
    unfold pF at he;split at he
    ·simp_all
    ·cases he
   obtain⟨z,hz,T⟩:=Td (w0:=w0) (N:=N) h;clear h;split at T
   ·refine⟨_,T,λaj ρ a w hR C D u v E I=>?_⟩
    obtain⟨q,hq⟩:=hz aj ρ a w hR u E;cases hq;cases I.2;exact⟨_,Du L Y C D none 0 0,rfl,by cases O<;>exact .bool _ _⟩
   ·refine⟨_,T,λaj ρ a w hR C D u v E I=>?_⟩
    obtain⟨q,hq⟩:=hz aj ρ a w hR u E;cases I.2;cases hq with
    |aI _ _ _ _ _ b off cap us ho hl hb h1 lX hc U=>exact⟨_,Du L Y C D _ _ _,rfl,by cases O<;>exact .bool _ _⟩
    |own=>exact⟨_,Du L Y C D _ _ _,rfl,by cases O<;>exact .bool _ _⟩
    |fV=>exact⟨_,Du L Y C D _ _ _,rfl,by cases O<;>exact .bool _ _⟩
   ·rename_i t' o' l';cases hl:jP l' with
    |true=>simp_all
    | false=>
     rw[hl,au]at T
     refine⟨_,T,λaj ρ a w hR C D u v E I=>?_⟩
     obtain⟨q,hq⟩:=hz aj ρ a w hR u E;cases I.2;cases hq with
     |eE=>cases hl
     |fI=>cases hl
     |aI _ _ _ _ _ b off cap us ho Bb hb h1 lX hc U=>exact⟨_,Du L Y C D _ _ _,rfl,by cases O<;>exact .bool _ _⟩
     |own=>exact⟨_,Du L Y C D _ _ _,rfl,by cases O<;>exact .bool _ _⟩
   ·cases T
  ·cases h
 ·obtain⟨u0,hx,h1⟩:=SW h;obtain⟨v0,hy,T⟩:=SW h1;obtain⟨z,h3,hp,hs⟩:=amW T;subst hx hy
  refine⟨_,h3,λaj ρ a w hR C D u v E I=>?_⟩
  obtain⟨t',eO,U⟩:=hs w _ aj C D [] [] _ _ E.2 I.2;exact⟨t',eO,V.Ge hp,U⟩
/-! Parts of slices that nobody writes. -/
def Dv{x:ah A}{C:Int}{k:Int->ah X}(h:sY x C k=some r):∃ n,k n=some r/\(∀ (E:Type) (D:Int->ah E),sY x C D=D n)/\((x=none/\n=C)\/∃ I,x=some (.lf (.v (.int I n)))):=by
 unfold sY at h;split at h
 ·exact⟨_,h,λ_ _=>rfl,.inl ⟨rfl,rfl⟩⟩
 ·exact⟨_,h,λ_ _=>rfl,.inr ⟨_,rfl⟩⟩
 ·cases h
def anv{t:TypeId}{x:A}{lo hi:ah A}{k:A -> ah X}(h:wI P t x lo hi k=some r):∃ y,k y=some r/\(∀ (L:Type) (I:A -> ah L),wI P t x lo hi I=I y) /\
  ((∃ (s:ByteArray) (l h:Int),x = .lf (.v (.str s))/\P.underlying t=some .string/\((lo=none/\l=0) \/ ∃ C,lo=some (.lf (.v (.int C l))))/\((hi=none/\h=s.size) \/ ∃ C,hi=some (.lf (.v (.int C h))))/\0 <= l/\l <= h/\h <= (s.size:Int)/\y = .lf (.v (.str (s.extract l.toNat h.toNat)))) \/
   ∃(E:TC) (g:Nat) (O:Bool) (xs:aa (T E)) (e:TypeId) (l h:Int),x = .lf (.v (.sl E g O xs))/\pF P t=some e/\jA P e=some (aG E)/\g<2/\((lo=none/\l=0) \/ ∃C,lo=some (.lf (.v (.int C l))))/\((hi=none/\h=xs.length) \/ ∃C,hi=some (.lf (.v (.int C h))))/\0 <= l/\l <= h/\h <= (xs.length:Int)/\y = .lf (.v (.sl E g false ((xs.take h.toNat).drop l.toNat)))):=by
 unfold wI at h;split at h
 ·rename_i s;split at h
  ·rename_i hu;obtain⟨l,U,d1,Y⟩:=Dv h;obtain⟨m,D,d2,Z⟩:=Dv U;split at D
   ·rename_i hb
    refine⟨_,D,λL I=>?_,.inl ⟨s,l,m,rfl,hu,Y,Z,hb.1,hb.2.1,hb.2.2,rfl⟩⟩
    simp[wI,hu];simp_all
   ·cases D
  ·cases h
 ·rename_i E g O xs;split at h
  ·rename_i e he;split at h
   ·rename_i n hn;split at h
    ·rename_i A5;subst A5;cases hg:Nat.blt g 2 with
     |false=>simp_all
     | true=>
      rw[hg,aq]at h;obtain⟨l,U,d1,Y⟩:=Dv h;obtain⟨m,D,d2,Z⟩:=Dv U;split at D
      ·rename_i hb
       refine⟨_,D,λL I=>?_,.inr ⟨E,g,O,xs,e,l,m,rfl,he,hn,cK hg,Y,Z,hb.1,hb.2.1,hb.2.2,rfl⟩⟩
       simp[wI,he,hn,if_true,hg,aq];simp_all
      ·cases D
    ·cases h
   ·cases h
  ·cases h
 ·cases h
def anw{t:TypeId}{x:A}{lo hi:ah A}{k:A->ah X}(h:wI P t x lo hi k=some r):∃ y,k y=some r/\(∀ (X':Type) (k':A->ah X'),wI P t x lo hi k'=k' y)/\
  ∀ (w:World) (B:Nat) (aj:bI) (ρ:Nat->Loc) (u:Value) (T C:ah Value),RA w B aj ρ x u->(∀ a,lo=some a->∃ v,T=some v/\RA w B aj ρ a v)->(lo=none->T=none)->(∀ a,hi=some a->∃ v,C=some v/\RA w B aj ρ a v)->(hi=none->C=none)->
   ∃t',(Instr.sliceAt t u T C none).run P w = .ok t' w/\RA w B aj ρ y t':=by
 obtain⟨y,h1,hd,hc⟩:=anv h
 refine⟨y,h1,hd,λw B aj ρ u T C Y pI kM MG Dw=>?_⟩
 have bl:∀ {o:ah A} {E:ah Value} {n Z:Int},(∀ a,o=some a->∃ v,E=some v/\RA w B aj ρ a v)->(o=none->E=none)->((o=none/\n=Z)\/∃ I,o=some (.lf (.v (.int I n))))->(E=none/\n=Z)\/∃ I,E=some (.int I n):=by
  intro o E n Z g1 g2 g3;rcases g3 with ⟨e,e'⟩|⟨I,e⟩
  ·exact .inl ⟨g2 e,e'⟩
  ·obtain⟨v,C,hr⟩:=g1 _ e;exact .inr ⟨I,by rw[C,hr.2.gU]⟩
 rcases hc with ⟨s,l,m,rfl,L,e1,e2,b1,b2,b3,rfl⟩|⟨tc,g,qn,xs,e,l,m,rfl,D,hn,hg,e1,e2,b1,b2,b3,rfl⟩
 ·have h5:=bl pI kM e1;have h6:=bl MG Dw e2;obtain rfl:=Y.2.wz;have em:(m.toNat:Int)=m:=Int.toNat_of_nonneg (by omega);refine⟨.string (s.extract l.toNat m.toNat),?_,rfl,.str _ _⟩;rw[run_sliceAt_string w t _ _ _ _ L];have Tn:0<=m:=by omega
  rcases h5 with ⟨rfl,h7⟩|⟨kl,rfl⟩<;>rcases h6 with ⟨rfl,h8⟩|⟨kh,rfl⟩
  all_goals simp_all [Instr.slice,gY L,Instr.sliceBounds,run_sliceBound]
 ·have h5:=bl pI kM e1;have h6:=bl MG Dw e2;have L:P.underlying t=some (.slice e):=by
   unfold pF at D;split at D
   next e' uI=>injection D with D;rw[<-D];exact uI
   ·cases D
  have iT:P.elem t=e:=by simp[Program.elem,L]
  have O:P.underlying t=some (.slice (P.elem t)):=by rw[iT];exact L
  have U:(sizeOf (P.elem t)).run P w = .ok (aG tc) w:=by
   unfold jA at hn;cases hi:P.info? e with
   |none=>simp[hi]at hn
   | some i=>
    have:i.size=aG tc:=by simpa [hi]using hn
    simp[sizeOf,typeInfo,iT,hi,this]
  have mE:∃ A n c,u = .slice A n c:=by
   cases Y.2 with
   |eE=>exact⟨_,_,_,rfl⟩
   |fI=>exact⟨_,_,_,rfl⟩
   |fV=>exact⟨_,_,_,rfl⟩
   |aI=>exact⟨_,_,_,rfl⟩
   |own=>exact⟨_,_,_,rfl⟩
  obtain⟨A,n,c,rfl⟩:=mE;obtain⟨hp,Dx,To⟩:=Y.2.part (a:=l.toNat) (h:=m.toNat) hg (by omega) (by omega);refine⟨_,?_,by simp[V.aI,hg],hp⟩;rw[run_sliceAt_slice w t _ _ _ _ O];rcases h5 with ⟨rfl,rfl⟩|⟨kl,rfl⟩<;>rcases h6 with ⟨rfl,rfl⟩|⟨kh,rfl⟩
  ·rw[run_slice_all w t A n c O,U,Dx];simp
  ·rw[run_slice_h w t A n c O kh m (by omega) (by omega),U];simp
  ·rw[run_slice_l w t A n c O kl l (by omega) (by omega),U,Dx];simp
  ·rw[run_slice_lh w t A n c O kl kh l m (by omega) (by omega) (by omega),U];simp
/-! Parts of slices that are owned. -/
def Dy{X:Type}(n:Nat)(q:aa Nat)(C:ah Nat)(lo hi:ah A)(y:V)(k:A->ah X):ah X:=
 match y with
 |.sl D _ _ l=>if n=aG D then sY lo 0 λa=>sY hi ((C.getD l.length:Nat):Int) λb=>if 0<=a/\a<=b/\b<=(l.length:Int)then k (.view q n a.toNat b.toNat)else none else none
 |_=>none
def Bc{X:Type}(P:Program)(σ:S)(t:TypeId)(q:aa Nat)(C:ah Nat)(lo hi:ah A)(k:A->ah X):ah X:=
 match pF P t with
 | some e=>(match jA P e with
  |some n=>jr σ.m q λy=>Dy n q C lo hi y k
  |none=>none)
 |none=>none
def yZ{X:Type}(P:Program)(σ:S)(t:TypeId)(x:A)(lo hi:ah A)(k:A->ah X):ah X:=
 match x with
 |.lf (.own q)=>Bc P σ t q none lo hi k
 |.view q _ 0 j=>Bc P σ t q (some j) lo hi k
 |x=>wI P t x lo hi k
def anx{n:Nat}{q:aa Nat}{D:ah Nat}{lo hi:ah A}{y:V}{k:A -> ah X}(h:Dy n q D lo hi y k=some r):∃ (C:TC) (g:Nat) (E:Bool) (xs:aa (T C)) (l h:Int),y = .sl C g E xs/\n=aG C /\
  ((lo=none/\l=0) \/ ∃I,lo=some (.lf (.v (.int I l))))/\((hi=none/\h=((D.getD xs.length:Nat):Int)) \/ ∃I,hi=some (.lf (.v (.int I h))))/\0 <= l/\l <= h/\h <= (xs.length:Int)/\k (.view q n l.toNat h.toNat)=some r /\
  ∀(U:Type) (L:A -> ah U),Dy n q D lo hi y L=L (.view q n l.toNat h.toNat):=by
 unfold Dy at h;split at h
 ·rename_i C g E xs;split at h
  ·rename_i Y;obtain⟨l,Z,d1,e1⟩:=Dv h;obtain⟨m,O,d2,e2⟩:=Dv Z;split at O
   ·rename_i hb
    refine⟨C,g,E,xs,l,m,rfl,Y,e1,e2,hb.1,hb.2.1,hb.2.2,O,λU L=>?_⟩
    simp[Dy,bN Y];simp_all
   ·cases O
  ·cases h
 ·cases h
def aaI{t:TypeId}{q:aa Nat}{Z:ah Nat}{lo hi:ah A}{k:A -> ah X}(h:Bc P σ t q Z lo hi k=some r):∃ y,k y=some r /\
  ∀ aj ρ a w,Rl w0 N aj ρ σ a w -> ∀ (D:ah Addr) (n c C:Nat) (T E:ah Value),cU w aj ρ q=some (.slice D n c) -> C=Z.getD n -> C <= n -> (∀ a,lo=some a -> ∃ v,T=some v/\RA w w0.heap.size aj ρ a v) -> (lo=none -> T=none) -> (∀ a,hi=some a -> ∃ v,E=some v/\RA w w0.heap.size aj ρ a v) -> (hi=none -> E=none) ->
   ∃t',(Instr.sliceAt t (.slice D C c) T E none).run P w = .ok t' w/\RA w w0.heap.size aj ρ y t':=by
 unfold Bc at h;split at h
 ·rename_i e he;split at h
  ·rename_i n hn;obtain⟨y0,Tp,h2⟩:=rP q _ h;obtain⟨tc,g,qn,xs,l,m,rfl,A5,e1,e2,b1,b2,b3,h3,_⟩:=anx h2
   refine⟨_,h3,λaj ρ a w hR D n' c C T E lC Tq hle pI kM MG Dw=>?_⟩
   have bl:∀ {o:ah A} {I:ah Value} {n Ts:Int},(∀ a,o=some a -> ∃ v,I=some v/\RA w w0.heap.size aj ρ a v) -> (o=none -> I=none) -> ((o=none/\n=Ts) \/ ∃ L,o=some (.lf (.v (.int L n)))) -> (I=none/\n=Ts) \/ ∃ L,I=some (.int L n):=by
    intro o I n Ts g1 g2 g3;rcases g3 with ⟨e,e'⟩|⟨L,e⟩
    ·grind
    ·obtain⟨v,E,hr⟩:=g1 _ e;exact .inr ⟨L,by rw[E,hr.2.gU]⟩
   have h5:=bl pI kM e1;have h6:=bl MG Dw e2;have gy:P.underlying t=some (.slice e):=by
    unfold pF at he;split at he
    ·grind
    ·cases he
   have iT:P.elem t=e:=by simp[Program.elem,gy]
   have O:P.underlying t=some (.slice (P.elem t)):=by rw[iT];exact gy
   have U:(sizeOf (P.elem t)).run P w = .ok n w:=by
    unfold jA at hn;cases hi:P.info? e with
    |none=>grind
    | some i=>
     have:i.size=n:=by simpa [hi]using hn
     simp[sizeOf,typeInfo,iT,hi,this]
   obtain⟨v0,Y,iU⟩:=Tp.ok hR.root;rw[lC]at Y;injection Y with Y;subst Y;have hf:RV w 0 (λ_=>none) [] (.sl tc 0 qn xs) (.slice D n' c):=iU.gG;obtain⟨hp,Dx,To⟩:=hf.part (a:=l.toNat) (h:=m.toNat) (by omega) (by omega) (by omega);have anz:((Z.getD xs.length:Nat):Int)=(C:Int):=by rw[Tq,Dx]
   rw[anz]at h6;refine⟨sliced D l.toNat m.toNat c n,?_,D,n',c,lC,by omega,by omega,rfl⟩;rw[run_sliceAt_slice w t _ _ _ _ O];rcases h5 with ⟨rfl,rfl⟩|⟨kl,rfl⟩<;>rcases h6 with ⟨rfl,rfl⟩|⟨kh,rfl⟩
   ·rw[run_slice_all w t D C c O,U];simp
   ·rw[run_slice_h w t D C c O kh m (by omega) (by omega),U];simp
   ·rw[run_slice_l w t D C c O kl l (by omega) (by omega),U];simp
   ·rw[run_slice_lh w t D C c O kl kh l m (by omega) (by omega) (by omega),U];simp
  ·cases h
 ·cases h
def anA{t:TypeId}{x:A}{lo hi:ah A}{k:A -> ah X}(h:yZ P σ t x lo hi k=some r):∃ y,k y=some r /\
  ∀ aj ρ a w,Rl w0 N aj ρ σ a w -> ∀ (u:Value) (C D:ah Value),RA w w0.heap.size aj ρ x u -> (∀ a,lo=some a -> ∃ v,C=some v/\RA w w0.heap.size aj ρ a v) -> (lo=none -> C=none) -> (∀ a,hi=some a -> ∃ v,D=some v/\RA w w0.heap.size aj ρ a v) -> (hi=none -> D=none) ->
   ∃Z,(Instr.sliceAt t u C D none).run P w = .ok Z w/\RA w w0.heap.size aj ρ y Z:=by
 unfold yZ at h;split at h
 ·rename_i q;obtain⟨y,E,I⟩:=aaI h
  refine⟨y,E,λaj ρ a w hR u C D L O T U Y=>?_⟩
  have gx:∃ A n c,u = .slice A n c:=by
   have:=L.1;cases u<;>first|cases this;done|exact⟨_,_,_,rfl⟩
  obtain⟨A,n,c,rfl⟩:=gx;exact I aj ρ a w hR A n c n C D L.2 rfl (dJ _) O T U Y
 ·rename_i q s j;obtain⟨y,E,I⟩:=aaI h
  refine⟨y,E,λaj ρ a w hR u C D L O T U Y=>?_⟩
  obtain⟨A,n,c,lC,_,a2,rfl⟩:=L;have e:sliced A 0 j c s = .slice A j c:=by cases A<;>simp[sliced,Addr.add]
  rw[e];exact I aj ρ a w hR A n c j C D lC rfl a2 O T U Y
 ·obtain⟨y,E,_,I⟩:=anw h;exact⟨y,E,λaj ρ a w _ u C D=>I w _ aj ρ u C D⟩
end
abbrev Pt:=Bool×aa V
def PV(w:World)(B:Nat)(aj:bI)(key:Nat->aa Nat)(p:Pt)(u:Value):Prop:=
 ∃us:Array Value,(match p.1 with|true=>u = .agg us|false=>us = #[u])/\us.size=p.2.length/\∀(j:Nat) x,p.2[j]?=some x->∃v,us[j]?=some v/\RV w B aj (key j) x v
def za(w:World)(cs:aa V)(u:Value):Prop:=
 ∃b off,u = .pointer (some ⟨b,off,none⟩)/\b<w.heap.size/\∀(j:Nat) x,cs[j]?=some x->∃v,w.cell? ⟨b,off+j,none⟩=some v/\RV w w.heap.size (λ_=>none) [] x v
inductive PA (w:World):Pt->Value->Prop
 |v (p:Pt) (u:Value) (h:PV w w.heap.size (λ_=>none) (λ_=>[]) p u):PA w p u
 |p (c:V) (cs:List V) (u:Value) (h:za w (c::cs) u):PA w (false,.bool true::c::cs) u
 |f (g:Nat) (c:V) (cs:List V) (u:Value) (h:za w (c::cs) u):PA w (false,.bool false::.int .i64 (g:Int)::c::cs) (.func (.func g) #[] #[u])
def oP(w:World)(args:aa Pt)(bT:Array Value):Prop:=
 bT.size=args.length/\∀(i:Nat) p,args[i]?=some p->∃u,bT[i]?=some u/\PA w p u
def PA.pv{w:World}{x:V}{u:Value}(h:PA w (false,[x]) u):PV w w.heap.size (λ_=>none) (λ_=>[]) (false,[x]) u:=by
 cases h with
 |v _ _ h=>exact h
def PA.pvS{w:World}{xs:aa V}{u:Value}(h:PA w (true,xs) u):PV w w.heap.size (λ_=>none) (λ_=>[]) (true,xs) u:=by
 cases h with
 |v _ _ h=>exact h
inductive gf where
 |one (p:Pt)
 |eX (ps:List Pt)
def zb(t:TC):Nat->Bool
 |0=>false
 |1=>true
 |o+2=>Nat.ble (full t) o ||Nat.beq (o % 2) 1
def V.loc:V->Bool
 |.sl t o _ _=>zb t o
 |_=>true
def jQ(w:World)(B:Nat)(aj:bI)(nm:Nat->Nat):Nat->aa Pt->aa Value->Prop
 |_,[],[]=>True
 |off,p::ps,v::C=>(p.2.all V.loc=true/\PV w B aj (λj=>[nm (off+j)]) p v)/\jQ w B aj nm (off+p.2.length) ps C
 |_,_,_=>False
def pJ(w:World)(B:Nat)(aj:bI)(nm:Nat->Nat):gf->Value->Prop
 |.one p,v=>jQ w B aj nm 0 [p] [v]
 |.eX ps,v=>∃C:Array Value,v = .tuple C/\jQ w B aj nm 0 ps C.toList
structure je where
 run:(X:Type)->List Pt->(gf->Option X)->Option X
def iF(P:Program)(f:Nat)(c:je):Prop:=
 (∀ args,cI λX k=>c.run X args k)/\∀ args C,c.run gf args some=some C->∀ (nm:Nat->Nat) (w:World) (bT:Array Value),oP w args bT->Hd w (λ_=>none)->
  Calls P f bT w λe w'=>∃v aD,e = .returned v/\Below w.heap.size w w'/\(∀b k,aD b=some k->w.heap.size<=b/\b<w'.heap.size/\k≠[])/\pJ w' w.heap.size aD nm C v
def qH{X:Type}(σ:S):aa Lf->(aa V->ah X)->ah X
 |[],k=>k []
 |x::xs,k=>oH σ x λy=>qH σ xs λys=>k (y.gG::ys)
def nS{X:Type}(σ:S)(x:A)(k:Pt->ah X):ah X:=
 match x with
 |.lf y=>qH σ [y] λC=>k (false,C)
 |.agg ys=>qH σ ys λC=>k (true,C)
 |.view q s i j=>uH σ q s i j λy=>k (false,[y])
 |.jo (c::cs)=>k (false,.bool true::c.gG::cs.map V.gG)
 |_=>none
def uL{X:Type}(σ:S)(x:A)(k:Pt->ah X):ah X:=
 match x with
 |.jo (c::cs)=>k (false,.bool true::c.gG::cs.map V.gG)
 |.ng f (c::cs)=>k (false,.bool false::.int .i64 (f:Int)::c.gG::cs.map V.gG)
 | .aO r j=>(match σ.m r with
  | some (.aC cs)=>qH σ (cs.drop j) λC=>(match C with
   |c::cs=>k (false,.bool true::c::cs)
   |[]=>none)
  |_=>none)
 | .fn f [(r,j)]=>(match σ.m r with
  | some (.aC cs)=>qH σ (cs.drop j) λC=>(match C with
   |c::cs=>k (false,.bool false::.int .i64 (f:Int)::c::cs)
   |[]=>none)
  |_=>none)
 |x=>nS σ x k
def uM{X:Type}(f:A->(Pt->ah X)->ah X)(σ:S):aa Operand->(aa Pt->ah X)->ah X
 |[],k=>k []
 |x::xs,k=>f (aK σ x) λp=>uM f σ xs λps=>k (p::ps)
def Bd{X:Type}(σ:S)(xs:aa Operand)(k:aa Pt->ah X):ah X:=uM (uL σ) σ xs k
def rV{X:Type}(σ:S)(xs:aa Operand)(k:aa Pt->ah X):ah X:=uM (nS σ) σ xs k
def nT(c:Nat):aa V->aa Lf
 |[]=>[]
 |x::xs=>(bif x.aI then .v x else .own [c])::nT (c+1) xs
def mG(c:Nat)(σ:S):aa V->S
 |[]=>σ
 |x::xs=>mG (c+1) (bif x.aI then σ else (σ.drop c).root c (.sl x)) xs
def rW(c:Nat):aa Pt->aa (Bool×aa Lf)
 |[]=>[]
 |p::ps=>(p.1,nT c p.2)::rW (c+p.2.length) ps
def nU(c:Nat)(σ:S):aa Pt->S
 |[]=>σ
 |p::ps=>nU (c+p.2.length) (mG c σ p.2) ps
def nt{X:Type}(σ:S)(d:Nat)(C:gf)(k:S->ah X):ah X:=match C with
 | .one p=>(match yM (p.1,nT (1000000000100000+1000*d) p.2)with
  |some y=>k ((mG (1000000000100000+1000*d) σ p.2).set d y)
  |none=>none)
 |.eX ps=>k ((nU (1000000000100000+1000*d) σ ps).set d (.eX (rW (1000000000100000+1000*d) ps)))
def rX{X:Type}(N:Nat)(σ:S)(d:Nat)(c:je)(ev:(aa Pt->ah X)->ah X)(k:S->ah X):ah X:=
 bif Nat.blt d N then ev λps=>c.run X ps λC=>nt σ d C k else none
def anB{X:Type}(N:Nat)(σ:S)(d:Nat)(c:je)(args:aa Operand)(k:S->ah X):ah X:=rX N σ d c (Bd σ args) k
def anC{X:Type}(N:Nat)(σ:S)(d:Nat)(c:je)(args:aa Operand)(k:S->ah X):ah X:=rX N σ d c (rV σ args) k
section
variable {P:Program} {w w':World} {w0:Wd} {B N:Nat} {aj aD:bI} {ρ ρ':Nat->Loc} {σ:S} {a:Act} {X:Type} {d:Nat} {r:X} {o:Oper}
def GF:∀ (xs:aa Lf) (k:aa V -> ah X),qH σ xs k=some r -> ∃ C,k C=some r/\C.length=xs.length /\ ∀ aj ρ a w,Rl w0 N aj ρ σ a w -> ∀ (j:Nat) x y u,xs[j]?=some x -> C[j]?=some y -> dR w w0.heap.size aj ρ x u -> RV w w.heap.size (λ_=>none) [] y u
 |[],k,h=>⟨[],h,rfl,λ_ _ _ _ _ j x y u I=>by simp at I⟩
 | x :: xs,k,h=>by
  obtain⟨y,L,O⟩:=Td h;obtain⟨ys,T,hl,Z⟩:=GF xs _ O
  refine⟨y.gG::ys,T,by simp[hl],λaj ρ a w hR j x' y' u D E U=>?_⟩
  cases j with
  | zero=>
   simp at D E;subst D E;obtain⟨q,Y⟩:=L aj ρ a w hR u U;exact Y.gG
  |succ j=>grind
def aaJ{D C:Nat}{cs:aa Lf}{E:aa V}(U:σ.m D=some (.aC cs))(hl:E.length=(cs.drop C).length)
  (Y:∀aj ρ a w,Rl w0 N aj ρ σ a w->∀(j:Nat) x y u,(cs.drop C)[j]?=some x->E[j]?=some y->dR w w0.heap.size aj ρ x u->RV w w.heap.size (λ_=>none) [] y u)
  {aj:bI} {ρ:Nat->Loc} {a:Act} {w:World} {u:Value} (hR:Rl w0 N aj ρ σ a w) (Z:RA w w0.heap.size aj ρ (.aO D C) u):za w E u:=by
 obtain⟨b,off,e1,rfl⟩:=Z;cases hR.root D _ U with
 | aC b' A0 cells e _ us I nW L hs hc=>
  rw[e1]at I;injection I with q1 q2;subst q1 q2
  refine⟨b,off+C,rfl,(iO.1 L).1,λj x O=>?_⟩
  have hj:j<(cs.drop C).length:=by rw[<-hl];exact(dQ.1 O).1
  have T:=bS hj;have anD:cs[C+j]?=some (cs.drop C)[j]:=by rw[<-List.getElem?_drop];exact T
  obtain⟨k1,k2⟩:=hc _ _ anD;refine⟨us (C+j),?_,Y aj ρ a w hR j _ x _ T O k2⟩;rw[Nat.add_assoc,cell_of_row w b _ cells _ _ L];exact k1
def Tt{cs:aa V}{u:Value}(E:RF w B aj cs u):za w (cs.map V.gG) u:=by
 obtain⟨b,off,rfl,I,U,L⟩:=E
 refine⟨b,off,rfl,I,λj x C=>?_⟩
 rw[eJ]at C;cases D:cs[j]? with
 |none=>simp_all
 | some y=>
  rw[D]at C;injection C with C;subst C;obtain⟨_,v,O,T⟩:=L j y D;exact⟨v,O,T.gG⟩
def aaK{x:A}{k:Pt -> ah X}(h:nS σ x k=some r):∃ p,k p=some r /\ ∀ aj ρ a w,Rl w0 N aj ρ σ a w -> ∀ u,RA w w0.heap.size aj ρ x u -> PA w p u:=by
 unfold nS at h;split at h
 ·rename_i y;obtain⟨T,E,hl,L⟩:=GF (w0:=w0) (N:=N) _ _ h
  refine⟨_,E,λaj ρ a w hR u C=>.v _ _ ⟨#[u],rfl,by simp[hl],λj x D=>?_⟩⟩
  have I:j=0:=by
   grind
  subst I;exact⟨u,rfl,L aj ρ a w hR 0 y x u rfl D C⟩
 ·rename_i ys;obtain⟨T,E,hl,L⟩:=GF (w0:=w0) (N:=N) _ _ h
  refine⟨_,E,λaj ρ a w hR u C=>?_⟩
  obtain⟨us,rfl,O⟩:=C
  refine .v _ _ ⟨us,rfl,by rw[hl];exact O.1,λj x D=>?_⟩
  have I:j<ys.length:=by rw[<- hl];exact(dQ.1 D).1
  obtain⟨v,Y,Z⟩:=O.2 j _ (bS I)
  grind
 ·obtain⟨z,E,_,U⟩:=aaf h
  refine⟨_,E,λaj ρ a w hR u C=>.v _ _ ⟨#[u],rfl,rfl,λj x D=>?_⟩⟩
  cases j with
  | zero=>
   simp at D;subst D;exact⟨u,rfl,U _ _ _ _ _ _ hR u C _⟩
  |succ j=>simp at D
 next c cs=>exact⟨_,h,λaj ρ a w hR u C=>.p _ _ _ (Tt C)⟩
 ·cases h
def anE{x:A}{k:Pt -> ah X}(h:uL σ x k=some r):∃ p,k p=some r /\ ∀ aj ρ a w,Rl w0 N aj ρ σ a w -> ∀ u,RA w w0.heap.size aj ρ x u -> PA w p u:=by
 unfold uL at h;split at h
 ·rename_i c cs
  refine⟨_,h,λaj ρ a w hR u C=>?_⟩
  exact .p _ _ _ (Tt C)
 ·rename_i f c cs
  refine⟨_,h,λaj ρ a w hR u C=>?_⟩
  obtain⟨pv,rfl,E⟩:=C;exact .f _ _ _ _ (Tt E)
 ·rename_i T O;split at h
  ·rename_i cs I;obtain⟨U,D,hl,L⟩:=GF (w0:=w0) (N:=N) _ _ h;split at D
   ·rename_i c eV
    refine⟨_,D,λaj ρ a w hR u C=>?_⟩
    exact .p _ _ _ (aaJ I hl L hR C)
   ·cases D
  ·cases h
 ·rename_i f T O;split at h
  ·rename_i cs I;obtain⟨U,D,hl,L⟩:=GF (w0:=w0) (N:=N) _ _ h;split at D
   ·rename_i c eV
    refine⟨_,D,λaj ρ a w hR u C=>?_⟩
    obtain⟨ps,rfl,Z,E⟩:=C;obtain⟨b,off,Y,e2⟩:=E 0 _ rfl;have e:ps = #[.pointer (some ⟨b,off+O,none⟩)]:=by
     grind
    subst e;exact .f _ _ _ _ (aaJ I hl L hR ⟨b,off,Y,rfl⟩)
   ·cases D
  ·cases h
 ·exact aaK h
def Tu{f:A->(Pt->ah X)->ah X}(E:∀ x k,f x k=some r->∃ p,k p=some r/\∀ aj ρ a w,Rl w0 N aj ρ σ a w->∀ u,RA w w0.heap.size aj ρ x u->PA w p u):
  ∀(xs:aa Operand) (k:aa Pt->ah X),uM f σ xs k=some r->∃ps,k ps=some r/\∀aj ρ a w,Rl w0 N aj ρ σ a w->oP w ps (xs.map a.eval).toArray
 |[],k,h=>⟨[],h,λ_ _ _ _ _=>⟨rfl,λi p C=>by simp at C⟩⟩
 | x :: xs,k,h=>by
  unfold uM at h;obtain⟨p,L,C⟩:=E _ _ h;obtain⟨ps,O,I⟩:=Tu E xs _ L
  refine⟨p::ps,O,λaj ρ a w hR=>⟨?_,λi q D=>?_⟩⟩
  ·have:=(I aj ρ a w hR).1;simp at this;simp[this]
  ·cases i with
   | zero=>
    simp at D;subst D;exact⟨_,rfl,C aj ρ a w hR _ (hR.aK x)⟩
   | succ i=>
    obtain⟨u,T,U⟩:=(I aj ρ a w hR).2 i q (by simpa using D);exact⟨u,by simpa using T,U⟩
def anF(xs:aa Operand)(k:aa Pt->ah X)(h:Bd σ xs k=some r):∃ps,k ps=some r/\∀aj ρ a w,Rl w0 N aj ρ σ a w->oP w ps (xs.map a.eval).toArray:=Tu (λ_ _=>anE) xs k h
def aaL(xs:aa Operand)(k:aa Pt->ah X)(h:rV σ xs k=some r):∃ps,k ps=some r/\∀aj ρ a w,Rl w0 N aj ρ σ a w->oP w ps (xs.map a.eval).toArray:=Tu (λ_ _=>aaK) xs k h
def anG{t:TC}{o:Nat}(h:zb t (o+2)=true)(x:T t):∀ y∈enc t o x,y.loc=true:=by
 intro y D;have I:=yG t o x y D;cases y with
 | sl E C q l=>
  have L:C=o:=by simpa [V.gr]using I
  subst L;have O:full E+2 <= full t:=cK (Md t C x _ D);show zb E C=true;simp only[zb,eA]at h;rcases h with h|h
  ·have h:=cK h
   match C,h with
   |0,h=>omega
   |1,h=>rfl
   | n+2,h=>
    simp only[zb,eA];left;exact ja (by omega)
  ·have h:=cB h
   match C,h with
   |0,h=>omega
   |1,h=>rfl
   | n+2,h=>
    simp only[zb,eA];simp_all
 |_=>rfl
def RV.zc{q:aa Nat}{x:V}{v:Value}(h:RV w B aj q x v){B':Nat}(hB:B' <= B)(hl:∀ b,B <= b -> aD b=aj b)(U:∀ b k,aj b=some k -> aD b=some k)(L:x.loc=true):RV w B' aD q x v:=by
 induction h with
 |int=>exact .int _ _ _
 |bool=>exact .bool _ _
 |str=>exact .str _ _
 |nil=>exact .nil _
 |eE=>exact .eE _ _ _
 |fI=>exact .fI _ _ _ _ _ (by first|assumption|omega)
 |fV=>exact .fV _ _ _ _ _ (by first|assumption|omega)
 | aI q t o Y l b off cap u O D hb Z lX E hr I=>
  have Be:o=1:=by
   match o,O,L with
   |1,_,_=>rfl
  subst Be;have T:=Z rfl
  refine .aI _ _ _ _ _ _ _ _ u O ((hl b T).trans D) hb (λ_=>Nat.le_trans hB T) lX E (λi h j x C=>I i h j x C ?_)
  have:=yG t 1 l[i] x (gX C);cases x with
  | sl t' o' q' l'=>
   have:o'=1:=by simpa [V.gr]using this
   subst this;rfl
  |_=>rfl
 | own q t o Y l b cap cs u D hh hs hn hm E hr I=>
  exact .own _ _ _ _ _ _ _ cs u (U b q D) hh hs hn hm E (λi h j x C=>I i h j x C (anG L l[i] x (gX C)))
def RV.home{q:aa Nat}{x:V}{v:Value}(h:RV w B aj q x v){B':Nat}(hB:B'<=B)(hl:∀ b,B<=b->aD b=aj b)(C:∀ b k,aj b=some k->B<=b)(D:x.loc=true):RV w B' aD q x v:=
 h.zc hB hl (λb k h=>(hl b (C b k h)).trans h) D
def Tv:∀ (xs:aa V) (c:Nat) (σ:S) (ρ:Nat -> Loc) (us:aa Value),60000 <= c -> Rl w0 N aj ρ σ a w -> us.length=xs.length -> (∀ (j:Nat) x u,xs[j]?=some x -> us[j]?=some u -> RV w w0.heap.size aj [c+j] x u) ->
  ∃ρ',Rl w0 N aj ρ' (mG c σ xs) a w/\(∀r,r<c -> ρ' r=ρ r) /\ ∀(j:Nat) x u,(nT c xs)[j]?=some x -> us[j]?=some u -> dR w w0.heap.size aj ρ' x u
 |[],c,σ,ρ,us,_,h,hl,E=>⟨ρ,h,λ_ _=>rfl,λj x u Y=>by simp[nT]at Y⟩
 | x :: xs,c,σ,ρ,us,hc,h,hl,E=>by
  cases us with
  |nil=>simp at hl
  | cons u us=>
   have L:=E 0 x u rfl rfl;rw[Nat.add_zero]at L;have yY:∀ (j:Nat) O T,xs[j]?=some O -> us[j]?=some T -> RV w w0.heap.size aj [c+1+j] O T:=λj O T Y hu=>by
    have:=E (j+1) O T (by simpa using Y) (by simpa using hu)
    grind
   cases C:x.aI with
   | true=>
    obtain⟨ρ',Z,U,wL⟩:=Tv xs (c+1) σ ρ us (by omega) h (by simpa using hl) yY
    refine⟨ρ',?_,λr E=>U r (by omega),λj y v D I=>?_⟩
    ·simp[mG,C];exact Z
    ·simp only[nT,C,aq]at D;cases j with
     | zero=>
      simp at D I;subst D I;exact⟨C,L.key C⟩
     |succ j=>grind
   | false=>
    have gx:=L.SM C;obtain⟨ρ',Z,U,wL⟩:=Tv xs (c+1) _ _ us (by omega) (h.new (d:=c) (x:=.sl x) (.dH u) (.sl u x (bZ _ _ _) L) (h.dm c (.inr hc))) (by simpa using hl) yY
    refine⟨ρ',?_,λr E=>?_,λj y v D I=>?_⟩
    ·simp[mG,C];exact Z
    ·rw[U r (by omega)];exact cH _ _ _ (by omega)
    ·simp only[nT,C,au]at D;cases j with
     | zero=>
      simp at D I;subst D I;refine⟨gx,?_⟩;have:ρ' c = .dH u:=by rw[U c (by omega)];exact bZ _ _ _
      simp[cU,this]
     |succ j=>grind
def anH(xs:aa V):∀ c,(nT c xs).length=xs.length:=by
 induction xs with
 |nil=>intro c;rfl
 |cons x xs C=>intro c;simp[nT,C]
end
def enters(P:Program)(f:Nat):Prop:=∃fn,P.funcs[f]?=some fn/\(fn.name == "runtime.NumGoroutine")=false/\fn.body.isNone=false
/-! What a function gives back. -/
def MH:A->ah (Bool×aa Lf)
 |.lf x=>some (false,[x])
 |.agg xs=>some (true,xs)
 |_=>none
def rY{X:Type}(P:Program)(σ:S):aa ResultVar->(aa (Bool×aa Lf)->ah X)->ah X
 |[],k=>k []
 | .tmp t :: rest,k=>(match MH (σ.t t)with
  |some p=>rY P σ rest λps=>k (p::ps)
  |none=>none)
 | .cell p ty :: rest,k=>nP P σ ty (σ.t p) λx=>(match MH x with
  |some p=>rY P σ rest λps=>k (p::ps)
  |none=>none)
def Tw(m:Nat->ah aV):Lf->ah (V×ah Nat)
 |.v x=>bif x.loc&&x.aI then some (x,none)else none
 | .own [r]=>match m r with
  |some (.sl y)=>bif y.loc then some (y,some r)else none
  |_=>none
 |_=>none
def GG(m:Nat->ah aV)(off:Nat):aa Lf->ah (aa V×aa (Nat×Nat))
 |[]=>some ([],[])
 | x :: xs=>match Tw m x,GG m (off+1) xs with
  |some (y,none),some (ys,rs)=>some (y::ys,rs)
  |some (y,some r),some (ys,rs)=>some (y::ys,(r,off)::rs)
  |_,_=>none
def Dz(m:Nat->ah aV)(off:Nat):aa (Bool×aa Lf)->ah (aa Pt×aa (Nat×Nat))
 |[]=>some ([],[])
 | p :: ps=>match GG m off p.2,Dz m (off+p.2.length) ps with
  |some (C,rs),some (D,E)=>some ((p.1,C)::D,rs++E)
  |_,_=>none
def once(rs:aa (Nat×Nat)):Bool:=rs.all λp=>(rs.lookup p.1).any λn=>Nat.beq n p.2
def GH{X:Type}(P:Program)(σ:S)(fn:Array ResultVar)(k:gf->ah X):ah X:=
 rY P σ fn.toList λps=>match Dz σ.m 0 ps with
  | some (qs,rs)=>bif once rs then (match qs with
   |[p]=>k (.one p)
   |qs=>k (.eX qs))else none
  |none=>none
section
variable {P:Program} {w w':World} {w0:Wd} {B N:Nat} {aj aD:bI} {ρ ρ':Nat->Loc} {σ:S} {a:Act} {X:Type} {d:Nat} {r:X} {o:Oper}
def aaM:∀ (xs:aa V) (c:Nat) (j:Nat) x u,(nT c xs)[j]?=some x -> dR w B aj ρ x u -> (∀ r,r<c+xs.length -> ρ' r=ρ r) -> dR w B aj ρ' x u
 |[],c,j,x,u,D,_,_=>by simp[nT]at D
 | y :: ys,c,j,x,u,D,C,E=>by
  cases j with
  | zero=>
   simp[nT,List.getElem?_cons_zero,iQ]at D;subst D;cases I:y.aI with
   |true=>rw[I]at C;simp;exact C
   | false=>
    rw[I]at C;refine⟨C.1,?_⟩;have:=C.2;simp[cU,E c (by simp)]at this ⊢;exact this
  | succ j=>
   exact aaM ys _ j x u D C (λr h=>E r (by simp;omega))
def PV.cells{key:Nat -> aa Nat}{p:Pt}{u:Value}(h:PV w B aj key p u):∃ us:aa Value,us.length=p.2.length/\(∀ (j:Nat) x v,p.2[j]?=some x -> us[j]?=some v -> RV w B aj (key j) x v) /\
  ∀(ρ:Nat -> Loc) (ls:aa Lf),ls.length=p.2.length -> (∀(j:Nat) x v,ls[j]?=some x -> us[j]?=some v -> dR w B aj ρ x v) -> RP w B aj ρ (p.1,ls) u:=by
 obtain⟨us,C,D,T⟩:=h;obtain⟨b,xs⟩:=p
 refine⟨us.toList,by simpa using D,λj x v E U=>?_,λρ ls hl O=>?_⟩
 ·grind
 ·have I:eK w B aj ρ ls us:=⟨by rw[D,hl],λj x E=>by
   have L:j<us.size:=by rw[D,<- hl];exact(dQ.1 E).1
   exact⟨us[j],Array.getElem?_eq_getElem L,O j x _ E (by rw[Array.getElem?_toList,Array.getElem?_eq_getElem L])⟩⟩
  cases b with
  |true=>exact⟨us,C,I⟩
  |false=>have C:=C;subst C;exact I
def GI:∀ (ps:aa Pt) (c0 off:Nat) (σ:S) (ρ:Nat -> Loc) (C:aa Value),60000 <= c0 -> Rl w0 N aj ρ σ a w -> jQ w w0.heap.size aj (λn=>c0+n) off ps C ->
  ∃ρ',Rl w0 N aj ρ' (nU (c0+off) σ ps) a w/\(∀r,r<c0+off -> ρ' r=ρ r)/\C.length=(rW (c0+off) ps).length /\ ∀(i:Nat) p v,(rW (c0+off) ps)[i]?=some p -> C[i]?=some v -> RP w w0.heap.size aj ρ' p v
 | [],c0,off,σ,ρ,C,_,h,D=>by
  cases C with
  |nil=>exact⟨ρ,h,λ_ _=>rfl,rfl,λi p v O=>by simp[rW]at O⟩
  |cons v C=>exact D.elim
 | p :: ps,c0,off,σ,ρ,C,Z,h,D=>by
  cases C with
  |nil=>exact D.elim
  | cons v C=>
   obtain⟨⟨_,O⟩,D⟩:=D;obtain⟨us,hl,kj,uN⟩:=O.cells;obtain⟨DA,h1,Tx,wL⟩:=Tv p.2 (c0+off) σ ρ us (by omega) h hl (λj x u I E=>by
    have:RV w _ aj [c0+(off+j)] x u:=kj j x u I E;rw[<- Nat.add_assoc]at this;exact this)
   obtain⟨eZ,U,T,hlen,Y⟩:=GI ps c0 (off+p.2.length) (mG (c0+off) σ p.2) DA C Z h1 D;rw[<- Nat.add_assoc]at U T hlen Y
   refine⟨eZ,U,λr D=>(T r (by omega)).trans (Tx r D),by simp[rW,hlen],λi q u L E=>?_⟩
   cases i with
   | zero=>
    simp[rW,List.getElem?_cons_zero,iQ]at L E;subst L E
    refine uN eZ _ (anH _ _) (λj x u I E=>aaM p.2 _ j x u I (wL j x u I E) T)
   | succ i=>
    simp[ List.getElem?_cons_succ]at L E;exact Y i q u L E
def jQ.home{nm:Nat -> Nat}:∀ (ps:aa Pt) (off:Nat) (C:aa Value) {B':Nat},jQ w B aj nm off ps C -> B' <= B -> (∀ b,B <= b -> aD b=aj b) -> (∀ b k,aj b=some k -> B <= b) -> jQ w B' aD nm off ps C
 |[],_,[],_,h,_,_,_=>h
 | p :: ps,off,v :: C,B',h,hB,hl,D=>by
  obtain⟨⟨E,us,L,O,T⟩,U⟩:=h
  refine⟨⟨E,us,L,O,λj x I=>?_⟩,jQ.home ps _ C U hB hl D⟩
  obtain⟨Y,Z,fJ⟩:=T j x I;exact⟨Y,Z,fJ.home hB hl D (cv.1 E x (gX I))⟩
def MI(w:World)(o:Oper)(a:Act)(f:Nat)(args:Array Operand)(D:Array TypeId)(E:o.op = .call { callee:=.value (.func f),args,argTypes:=D })(I:enters P f):(execOp a.eval o).run P w = .ok (.enter f (args.map a.eval)) w:=by
 obtain⟨fn,L,O,C⟩:=I;have T:¬ fn.name = "runtime.NumGoroutine":=by simpa using O
 have U:¬ fn.body=none:=by intro e;rw[e]at C;cases C
 simp[execOp,E,resolve,Act.eval,Deferred.ofValue,invoke,callFunc,Sem.run,L,T,U]
def anI{f:Nat}{args:Array Operand}{jR:Array TypeId}{c:je}{k:S->ah X}(ho:o.op = .call { callee:=.value (.func f),args,argTypes:=jR })(hd:o.dst=some d)(he:enters P f)(hc:iF P f c)(DB:d<N){ps:aa Pt}(oQ:∀ aj ρ a w,Rl w0 N aj ρ σ a w->oP w ps (args.toList.map a.eval).toArray)
  (h2:(c.run X ps λD=>nt σ d D k)=some r):∃cY,k cY=some r/\lA P w0 N o σ cY:=by
 obtain⟨D,E,Ty⟩:=(hc.1 ps).lZ h2;have GJ:=hc.2 ps D (Ty _ _);unfold nt at E;have step:∀ a w K Q aj ρ,Rl w0 N aj ρ σ a w->(∀ v w' aD,Below w.heap.size w w'->Rl w0 N aD ρ σ a w'->pJ w' w0.heap.size aD (λn=>1000000000100000+1000*d+n) D v->K (a.put o.dst v) w')->o.wp P a w K Q:=by
  intro a w K Q aj ρ hR O;unfold Oper.wp;rw[MI w o a f args jR ho he,Oper.upon_enter];have wM:(args.map a.eval)=(args.toList.map a.eval).toArray:=by apply Array.ext';rw[Array.toList_map]
  rw[wM]
  refine(GJ (λn=>1000000000100000+1000*d+n) w _ (oQ aj ρ a w hR) (w0.on hR.below (λ_ _ h=>by cases h))).mono λe w' qI=>?_
  obtain⟨v,DC,rfl,T,U,I⟩:=qI;have hB:=hR.below.size;let dA:bI:=λb=>if b<w.heap.size then aj b else DC b
  have e1:∀b,b<w.heap.size->dA b=aj b:=λb hb=>bN hb
  have Y:∀b,w.heap.size<=b->dA b=DC b:=λb hb=>bO
  refine O v w' dA T (hR.grow T e1 (λb k hb L=>?_)) ?_
  ·rw[Y b hb]at L;exact(U b k L).2
  ·cases D with
   |one p=>exact jQ.home [p] 0 [v] I hB Y (λb k L=>(U b k L).1)
   | eX Z=>
    obtain⟨C,e,hv⟩:=I;exact⟨C,e,jQ.home Z 0 C.toList hv hB Y (λb k L=>(U b k L).1)⟩
 cases D with
 | one p=>
  simp only at E;split at E
  ·rename_i y hy
   refine⟨_,E,λa w K Q hR O=>?_⟩
   obtain⟨aj,ρ,hR⟩:=hR
   refine step a w K Q aj ρ hR λv w' aD T dX I=>?_
   obtain⟨ρ',lE,_,_,qJ⟩:=GI [p] (1000000000100000+1000*d) 0 σ ρ [v] (by omega) dX I;rw[hd];have Tz:=qJ 0 _ v rfl rfl;exact O _ _ ⟨aD,ρ',lE.set (S1 hy Tz) DB⟩
  ·cases E
 | eX Z=>
  refine⟨_,E,λa w K Q hR O=>?_⟩
  obtain⟨aj,ρ,hR⟩:=hR
  refine step a w K Q aj ρ hR λv w' aD T dX I=>?_
  obtain⟨C,rfl,hv⟩:=I;obtain⟨ρ',lE,_,hlen,qJ⟩:=GI Z (1000000000100000+1000*d) 0 σ ρ C.toList (by omega) dX hv;rw[hd]
  refine O _ _ ⟨aD,ρ',lE.set ⟨C,rfl,by simpa using hlen,λj p hp=>?_⟩ DB⟩
  have hj:j<C.size:=by
   have:=(dQ.1 hp).1;rw[Nat.add_zero]at hlen;rw[<-hlen]at this
   simpa using this
  exact⟨C[j],Array.getElem?_eq_getElem hj,qJ j p _ hp (by rw[Array.getElem?_toList,Array.getElem?_eq_getElem hj])⟩
def aaN{f:Nat}{args:Array Operand}{E:Array TypeId}{c:je}{k:S->ah X}{ev:(aa Pt->ah X)->ah X}(I:o.op = .call { callee:=.value (.func f),args,argTypes:=E })(L:o.dst=some d)(O:enters P f)(T:iF P f c)
  (U:∀k,ev k=some r->∃ps,k ps=some r/\∀aj ρ a w,Rl w0 N aj ρ σ a w->oP w ps (args.toList.map a.eval).toArray) (h:rX N σ d c ev k=some r):∃D,k D=some r/\lA P w0 N o σ D:=by
 unfold rX at h;cases C:Nat.blt d N with
 |false=>rw[C]at h;cases h
 | true=>
  rw[C,aq]at h;obtain⟨ps,Y,Z⟩:=U _ h;exact anI I L O T (cK C) Z Y
end
def eF(aj:bI)(rs:aa (Nat×Nat))(nm:Nat->Nat):bI:=λb=>
 match aj b with
 |none=>none
 | some k=>match k.getLast? with
  |none=>none
  |some r=>(rs.lookup r).map λn=>k.dropLast++[nm n]
section
variable {P:Program} {w w':World} {w0:Wd} {B N:Nat} {aj aD:bI} {ρ ρ':Nat->Loc} {σ:S} {a:Act} {X:Type} {d:Nat} {r:X} {rs:aa (Nat×Nat)} {nm:Nat->Nat}
def zd{b:Nat}(h:aj b=none):eF aj rs nm b=none:=by simp[eF,h]
def RV.eF{p:aa Nat}{r n:Nat}{x:V}{v:Value}(h:RV w B aj (p++[r]) x v)(D:rs.lookup r=some n):RV w B (eF aj rs nm) (p++[nm n]) x v:=
 h.map (Q:=λq C=>∃ p,q=p++[r]/\C=p++[nm n]) (dJ _) (λb _ h=>⟨rfl,zd h⟩) (λb q C _ hl e=>by
  obtain⟨p,rfl,rfl⟩:=e;exact⟨rfl,by simp[Proofs.YtglnbhiaknohlaaGreat.eF,hl,D],λj i s=>⟨j::i::s::p,rfl,rfl⟩⟩) (.inr ⟨p,rfl,rfl⟩)
def TA{m:Nat -> ah aV}:∀ (xs:aa Lf) (off:Nat) (ys:aa V) (E:aa (Nat×Nat)),GG m off xs=some (ys,E) -> ys.length=xs.length /\ ∀ (j:Nat) x,xs[j]?=some x -> ∃ y,ys[j]?=some y/\y.loc=true/\((x = .v y/\y.aI=true) \/ ∃ r,x = .own [r]/\m r=some (.sl y)/\(r,off+j)∈E)
 | [],off,ys,E,h=>by
  simp only[GG,iQ,Prod.mk.injEq]at h;obtain⟨rfl,rfl⟩:=h;exact⟨rfl,λj x C=>by simp at C⟩
 | x :: xs,off,ys,E,h=>by
  have Y:∀ y z,Tw m x=some (y,z) -> y.loc=true/\((z=none/\x = .v y/\y.aI=true) \/ ∃ r,z=some r/\x = .own [r]/\m r=some (.sl y)):=by
   intro y z D;unfold Tw at D
   grind
  unfold GG at h;split at h
  ·rename_i y I L O T;simp only[iQ,Prod.mk.injEq]at h;obtain⟨rfl,rfl⟩:=h;obtain⟨U,Z⟩:=TA xs (off+1) I L T
   refine⟨by simp[U],λj x' C=>?_⟩
   cases j with
   | zero=>
    simp at C;subst C;obtain⟨hl,D|⟨r,D,_⟩⟩:=Y y none O
    ·simp_all
    ·cases D
   |succ j =>grind
  ·rename_i y r I L O T;simp only[iQ,Prod.mk.injEq]at h;obtain⟨rfl,rfl⟩:=h;obtain⟨U,Z⟩:=TA xs (off+1) I L T
   refine⟨by simp[U],λj x' C=>?_⟩
   cases j with
   | zero=>
    simp at C;subst C;obtain⟨hl,D|⟨r',D,e1,e2⟩⟩:=Y y (some r) O
    ·cases D.1
    ·simp_all
   |succ j =>grind
  ·cases h
def TB{m:Nat -> ah aV}(hm:∀ r x,m r=some x -> ei w B aj ρ r x):∀ (ps:aa (Bool×aa Lf)) (off:Nat) (I:aa Pt) (L:aa (Nat×Nat)) (C:aa Value),Dz m off ps=some (I,L) -> (∀ p∈L,rs.lookup p.1=some p.2) -> C.length=ps.length ->
  (∀(i:Nat) p v,ps[i]?=some p -> C[i]?=some v -> RP w B aj ρ p v) -> jQ w B (eF aj rs nm) nm off I C
 | [],off,I,L,C,h,_,hl,_=>by
  have:C=[]:=List.eq_nil_of_length_eq_zero hl;subst this;simp only[Dz,iQ,Prod.mk.injEq]at h;obtain⟨rfl,rfl⟩:=h;trivial
 | p :: ps,off,I,L,C,h,nu,hl,hp=>by
  cases C with
  |nil=>simp at hl
  | cons v C=>
   unfold Dz at h;split at h
   ·rename_i ys rs1 qs' Bf h1 h2;simp only[iQ,Prod.mk.injEq]at h;obtain⟨rfl,rfl⟩:=h;obtain⟨hlen,Ma⟩:=TA _ _ _ _ h1;have yY:=TB hm ps _ qs' Bf C h2 (λq Z=>nu q (List.mem_append_right _ Z)) (by simpa using hl) (λi q u Z hu=>hp (i+1) q u (by simpa using Z) (by simpa using hu));have ze:=hp 0 p v rfl rfl;have key:∀ us:Array Value,eK w B aj ρ p.2 us -> (us.size=ys.length /\ ∀ (j:Nat) x,ys[j]?=some x -> ∃ u,us[j]?=some u/\RV w B (eF aj rs nm) [nm (off+j)] x u):=by
     intro us O
     refine⟨by rw[hlen];exact O.1,λj y T=>?_⟩
     have U:j<p.2.length:=by rw[<- hlen];exact(dQ.1 T).1
     obtain⟨y',E,DD,hz⟩:=Ma j _ (bS U);rw[T]at E;injection E with E;subst E;obtain⟨u,hu,Y⟩:=O.2 j _ (bS U);refine⟨u,hu,?_⟩;rcases hz with ⟨e,hf⟩|⟨r,e,hmr,uO⟩
     ·rw[e]at Y;exact(Y.2.Me hf (λb=>zd)).key hf
     ·rw[e]at Y;have fF:=hm r _ hmr;generalize D:aV.sl y=z at fF;cases fF with
      |aC=>cases D
      |mp=>cases D
      |gh=>cases D
      | sl v' y' cO kj=>
       injection D with D;subst D;have GK:v'=u:=by
        have h4:=Y.2;simp only[cU,cO]at h4;simp_all
       subst GK;exact RV.eF (p:=[]) kj (nu (r,off+j) (List.mem_append_left _ uO))
    refine⟨⟨?_,?_⟩,?_⟩
    ·rw[cv];intro y T;obtain⟨j,U⟩:=List.mem_iff_getElem?.1 T;have wu:j<p.2.length:=by rw[<- hlen];exact(dQ.1 U).1
     obtain⟨y',E,DD,_⟩:=Ma j _ (bS wu);simp_all
    ·obtain⟨b,xs⟩:=p;cases b with
     | true=>
      obtain⟨us,e,O⟩:=ze;obtain⟨k1,k2⟩:=key us O;exact⟨us,e,k1,k2⟩
     | false=>
      obtain⟨k1,k2⟩:=key #[v] ze;exact⟨#[v],rfl,k1,k2⟩
    ·grind
   ·cases h
def anJ{t:TypeId}{x:A}{k:A->ah X}(h:nP P σ t x k=some r){u:Value}(C:RA w B aj ρ x u):∃ ad,u = .pointer (some ad):=by
 unfold nP at h;split at h
 ·cases h
 ·split at h
  ·obtain⟨b,off,_,rfl⟩:=C;exact⟨_,rfl⟩
  ·obtain⟨b,off,rfl,_⟩:=C;exact⟨_,rfl⟩
  ·obtain⟨ad,rfl,_⟩:=C;exact⟨_,rfl⟩
  ·cases h
def aaO{x:A}{p:Bool×aa Lf}(h:MH x=some p){u:Value}(D:RA w B aj ρ x u):RP w B aj ρ p u:=by
 unfold MH at h;split at h
 ·injection h with h;subst h
  refine⟨rfl,λj y C=>?_⟩
  cases j with
  |zero=>simp at C;subst C;exact⟨u,rfl,D⟩
  |succ j=>simp at C
 ·injection h with h;subst h;exact D
 ·cases h
def qK(tmps:Array Value):ResultVar->Sem Value
 |.tmp t=>pure (tmps.getD t undef)
 |.cell a t=>do loadVar t (<-asAddr (tmps.getD a undef))
def GL:∀ (l:aa ResultVar) (k:aa (Bool×aa Lf) -> ah X),rY P σ l k=some r -> ∃ ps,k ps=some r /\ ∀ aj ρ a w,Rl w0 N aj ρ σ a w -> ∃ C,(l.mapM (qK a.tmps)).run P w = .ok C w/\C.length=ps.length /\ ∀ (i:Nat) p v,ps[i]?=some p -> C[i]?=some v -> RP w w0.heap.size aj ρ p v
 |[],k,h=>⟨[],h,λ_ _ _ _ _=>⟨[],rfl,rfl,λi p v D=>by simp at D⟩⟩
 | .tmp t :: rest,k,h=>by
  simp only[rY]at h;split at h
  ·rename_i p D;obtain⟨ps,O,T⟩:=GL rest _ h
   refine⟨p::ps,O,λaj ρ a w hR=>?_⟩
   obtain⟨C,U,hl,hv⟩:=T aj ρ a w hR
   refine⟨a.tmps.getD t undef::C,?_,by simp[hl],λi q u E I=>?_⟩
   ·rw[List.mapM_cons];simp[qK,Sem.run_pure,mz,gk,U]
   ·cases i with
    |zero=>simp only[List.getElem?_cons_zero,iQ]at E I;subst E I;exact aaO D (hR.tmp t)
    |succ i=>grind
  ·cases h
 | .cell c ty :: rest,k,h=>by
  simp only[rY]at h;obtain⟨y,Y,hld⟩:=aah (w0:=w0) (N:=N) h;split at Y
  ·rename_i p D;obtain⟨ps,O,T⟩:=GL rest _ Y
   refine⟨p::ps,O,λaj ρ a w hR=>?_⟩
   obtain⟨C,U,hl,hv⟩:=T aj ρ a w hR;obtain⟨v,L,wK⟩:=hld aj ρ a w hR _ (hR.tmp c);obtain⟨ad,Z⟩:=anJ h (hR.tmp c);rw[Z]at L;have L:(loadVar ty ad).run P w = .ok v w:=by
    simpa [Instr.loadAt,Instr.sureAddr]using L
   refine⟨v::C,?_,by simp[hl],λi q u E I=>?_⟩
   ·rw[List.mapM_cons];simp[qK,Z,asAddr,Sem.run_pure,mz,gk,U,L]
   ·cases i with
    |zero=>simp at E I;subst E I;exact aaO D wK
    |succ i=>grind
  ·cases Y
def anK{fn:Func}{k:gf -> ah X}(h:GH P σ fn.results k=some r):∃ Z,k Z=some r /\ ∀ aj ρ a w,Rl w0 N aj ρ σ a w -> ∀ nm,∃ v aD,(results fn a.tmps).run P w = .ok v w/\(∀ b k,aD b=some k -> (w0.heap.size <= b \/ w0.L b≠none)/\b<w.heap.size/\k≠[])/\pJ w w0.heap.size aD nm Z v:=by
 unfold GH at h;obtain⟨ps,I,qJ⟩:=GL (w0:=w0) (N:=N) _ _ h;clear h;split at I
 ·rename_i T rs TD;cases ho:once rs with
  |false=>grind
  | true=>
   rw[ho,aq]at I;have nu:∀ p∈rs,rs.lookup p.1=some p.2:=by
    intro p hp;have:=cv.1 ho p hp;obtain⟨n,hn,he⟩:=(Option.any_eq_true _ _).1 this;simp_all
   have core:∀ aj ρ a w,Rl w0 N aj ρ σ a w -> ∀ nm:Nat -> Nat,∃ C:aa Value,(fn.results.mapM (qK a.tmps)).run P w = .ok C.toArray w/\(∀ b k,eF aj rs nm b=some k -> (w0.heap.size <= b \/ w0.L b≠none)/\b<w.heap.size/\k≠[])/\jQ w w0.heap.size (eF aj rs nm) nm 0 T C:=by
    intro aj ρ a w hR nm;obtain⟨C,O,hl,hv⟩:=qJ aj ρ a w hR
    refine⟨C,?_,λb k E=>?_,TB hR.root ps 0 T rs C TD nu hl hv⟩
    ·rw[Array.mapM_eq_mapM_toList];simp[O]
    ·unfold eF at E;split at E
     ·cases E
     ·rename_i k' oN;have:=hR.cV b k' oN;split at E
      ·cases E
      ·cases s7:rs.lookup _ with
       |none=>rw[s7]at E;cases E
       | some n=>
        rw[s7]at E;injection E with E;subst E;simp_all
   have kr:∀ (tmps:Array Value),results fn tmps=(do let C <- fn.results.mapM (qK tmps);pure (if h:C.size=1 then C[0]else .tuple C)):=λtmps=>by
    unfold results;congr 1
   split at I
   ·rename_i p
    refine⟨_,I,λaj ρ a w hR nm=>?_⟩
    obtain⟨C,O,U,D⟩:=core aj ρ a w hR nm
    match C,D with
    |[v],D=>exact⟨v,_,by rw[kr,gk,O];rfl,U,D⟩
    |[],D=>exact D.elim
    |_::_::_,D=>exact D.2.elim
   ·rename_i Y
    refine⟨_,I,λaj ρ a w hR nm=>?_⟩
    obtain⟨C,O,U,D⟩:=core aj ρ a w hR nm;have iN:C.toArray.size≠1:=by
     intro e
     match T,C,D,Y with
     |[q],[v],_,Y=>exact Y q rfl
     |[],[v],D,_=>exact D.elim
     |_::_::_,[v],D,_=>exact D.2.elim
    refine⟨.tuple C.toArray,_,?_,U,C.toArray,rfl,D⟩;rw[kr,gk,O,mz];simp only[iN,dif_neg,not_false_eq_true,Sem.run_pure]
 ·cases I
end
inductive In where
 |aC (cs:List V)
 |sl (y:V)
def nF(i:Nat):Nat:=20000+1000*i
def nC(i j:Nat)(x:V):Nat:=bif x.aI then 20001+1000*i+j else 60000+1000*i+j
def zf(i j:Nat)(x:V):Lf:=bif x.plain then .v x else .own [nC i j x]
def zg(i:Nat):Nat->aa V->aa Lf
 |_,[]=>[]
 |j,x::xs=>zf i j x::zg i (j+1) xs
def TE(i:Nat):Nat->aa V->(Nat->ah aV)->(Nat->ah aV)
 |_,[],m=>m
 |j,x::xs,m=>TE i (j+1) xs (bif x.plain then m else bW m (nC i j x) (some (.sl x)))
def MJ:Nat->aa In->(Nat->ah aV)->(Nat->ah aV)
 |_,[],m=>m
 |i,.aC cs::r,m=>MJ (i+1) r (TE i 0 cs (bW m (nF i) (some (.aC (zg i 0 cs)))))
 |i,.sl y::r,m=>MJ (i+1) r (bW m (nF i) (some (.sl y)))
inductive Ar where
 |pt (p:Pt)
 |mut (i off:Nat)
def TF(C:aa In):Ar->A
 |.pt (false,[x])=>.lf (.v x)
 |.pt (true,xs)=>.agg (xs.map .v)
 |.pt (false,.bool false::.int .i64 g::c::cs)=>.ng g.toNat (c::cs)
 |.pt _=>.undef
 | .mut i off=>match C[i]? with
  |some (.aC _)=>.aO (nF i) off
  |some (.sl _)=>.lf (.own [nF i])
  |none=>.undef
def wN(C:aa In)(args:aa Ar):S:=⟨λk=>match args[k]? with
 |some x=>TF C x
 |none=>.undef,MJ 0 C (λ_=>none)⟩
def qL(w w':World)(aD:bI)(ρ:Nat->Loc)(nm:Nat->Nat):Nat->Nat->aa In->aa In->Prop
 |_,_,[],[]=>True
 | i,D,.aC cs :: r,.aC eV :: I=>(∃ b off cells L e T,ρ (nF i) = .aC b off/\w.heap[b]?=some (.cells cells e (0,0))/\w'.heap[b]?=some (.cells L T (0,0))/\aD b=some [nm D]/\off+eV.length<=L.size/\eV.length=cs.length/\
   ∀(j:Nat) C,eV[j]?=some C->∃u,L[off+j]?=some u/\((C.plain=true/\∀(w:World) (B:Nat) (aj:bI) (q:aa Nat),RV w B aj q C u)\/(C = .nil/\u = .slice none 0 0/\∃E,cs[j]?=some E/\E.aI=false)\/(C.plain=false/\C.aI=true/\C.ki=true/\(∃E,cs[j]?=some E/\Wk E C)/\cells[off+j]?=some u)\/(C.aI=false/\RV w' w.heap.size aD [nm (D+1+j)] C u)))/\
   qL w w' aD ρ nm (i+1) (D+1+cs.length) r I
 |i,D,.sl y::r,.sl O::I=>(O = .nil\/∃v,ρ (nF i) = .dH v/\RV w' w.heap.size aD [nm D] O v)/\qL w w' aD ρ nm (i+1) (D+1) r I
 |_,_,_,_=>False
def GM(w w':World)(aD:bI)(ρ:Nat->Loc)(nm:Nat->Nat):Nat->Nat->aa In->aa In->Prop
 |_,_,[],[]=>True
 | i,D,.aC cs :: r,.aC eV :: E=>(∃ b off cells I e O,ρ (nF i) = .aC b off/\w.heap[b]?=some (.cells cells e (0,0))/\w'.heap[b]?=some (.cells I O (0,0))/\aD b=some [nm D]/\off+eV.length<=I.size/\eV.length=cs.length/\
   ∀(j:Nat) C,eV[j]?=some C->∃u,I[off+j]?=some u/\((C.plain=true/\∀(w:World) (B:Nat) (aj:bI) (q:aa Nat),RV w B aj q C u)\/(C.plain=false/\C.aI=true/\cells[off+j]?=some u)\/(C.aI=false/\RV w' w.heap.size aD [nm (D+1+j)] C u)))/\
   GM w w' aD ρ nm (i+1) (D+1+cs.length) r E
 |i,D,.sl y::r,.sl L::E=>(L = .nil\/∃v,ρ (nF i) = .dH v/\RV w' w.heap.size aD [nm D] L v)/\GM w w' aD ρ nm (i+1) (D+1) r E
 |_,_,_,_=>False
def gf.len:gf->Nat
 |.one p=>p.2.length
 |.eX ps=>(ps.map λp=>p.2.length).sum
def oR(w:World)(B:Nat)(aj:bI)(ρ:Nat->Loc):Nat->aa In->Prop
 |_,[]=>True
 |i,.aC cs::r=>ei w B aj ρ (nF i) (.aC (zg i 0 cs))/\(∀(j:Nat) x,cs[j]?=some x->x.plain=false->ei w B aj ρ (nC i j x) (.sl x))/\oR w B aj ρ (i+1) r
 |i,.sl y::r=>ei w B aj ρ (nF i) (.sl y)/\oR w B aj ρ (i+1) r
/-! The end: what is given back,and what the written parameters hold. -/
def TG(m:Nat->ah aV)(i j:Nat)(C:V):Lf->ah (V×ah Nat)
 |.v x=>bif x.plain then some (x,none)else (bif !x.ki && !C.aI then some (.nil,none)else none)
 | .own [r]=>match m r with
  |some (.sl y)=>bif y.aI then (bif !C.plain&&(C.aI&&C.ki)&&Nat.beq r (20001+1000*i+j)&&Nat.blt r 60000 then some (C,none)else none)else (bif y.loc then some (y,some r)else none)
  |_=>none
 |_=>none
def Bg(m:Nat->ah aV)(i C:Nat):Nat->aa V->aa Lf->ah (aa V×aa (Nat×Nat))
 |_,[],[]=>some ([],[])
 | j,D :: xs,l :: ls=>match TG m i j D l,Bg m i C (j+1) xs ls with
  |some (y,none),some (ys,rs)=>some (y::ys,rs)
  |some (y,some r),some (ys,rs)=>some (y::ys,(r,C+1+j)::rs)
  |_,_=>none
 |_,_,_=>none
def V.gone:V->Bool
 |.sl _ o _ _=>Nat.ble 1000000 o
 |_=>false
def zh(m:Nat->ah aV):Nat->Nat->aa In->ah (aa In×aa (Nat×Nat))
 |_,_,[]=>some ([],[])
 | i,C,.aC cs :: r=>match bif Nat.blt (nF i) 60000 then m (nF i)else none with
  | some (.aC ls)=>match Bg m i C 0 cs ls,zh m (i+1) (C+1+cs.length) r with
   |some (eV,rs),some (os,D)=>some (.aC eV::os,(nF i,C)::(rs++D))
   |_,_=>none
  |_=>none
 | i,C,.sl I :: r=>bif I.gone then (match zh m (i+1) (C+1) r with
   |some (os,D)=>some (.sl .nil::os,D)
   |none=>none)else match bif Nat.blt (nF i) 60000 then m (nF i)else none with
  | some (.sl E)=>bif E.loc && !E.aI then (match zh m (i+1) (C+1) r with
   |some (os,D)=>some (.sl E::os,(nF i,C)::D)
   |none=>none)else none
  |_=>none
def GN{X:Type}(P:Program)(σ:S)(fn:Array ResultVar)(C:aa In)(k:aa In->gf->ah X):ah X:=
 rY P σ fn.toList λps=>match Dz σ.m 0 ps with
  | some (qs,rs)=>match zh σ.m 0 (qs.map λp=>p.2.length).sum C with
   | some (os,D)=>bif once (rs++D)then (match qs with
    |[p]=>k os (.one p)
    |qs=>k os (.eX qs))else none
   |none=>none
  |none=>none
/-! Types of parameters and results. -/
def iV:aa (Bool×TC×Nat)->Type
 |[]=>af
 |[(_,t,_)]=>T t
 |(_,t,_)::r=>T t×iV r
def s8:(l:aa (Bool×TC×Nat))->iV l->aa Pt
 |[],_=>[]
 |[(b,t,g)],x=>[(b,enc t g x)]
 |(b,t,g)::q::r,x=>(b,enc t g x.1)::s8 (q::r) x.2
def pK:(l:aa (Bool×TC×Nat))->aa Pt->ah (iV l)
 |[],[]=>some ()
 |[(b,t,g)],[(C,D)]=>bif b==C then dec t g D else none
 | (b,t,g) :: q :: r,(C,D) :: ps=>bif b==C then (match dec t g D,pK (q :: r) ps with
  |some x,some xs=>some (x,xs)
  |_,_=>none)else none
 |_,_=>none
def l7(l:aa (Bool×TC×Nat)):gf->ah (iV l)
 |.one p=>pK l [p]
 |.eX ps=>bif Nat.beq ps.length 1 then none else pK l ps
def eU(l:aa (Bool×TC×Nat))(x:iV l):gf:=
 match s8 l x with
 |[p]=>.one p
 |ps=>.eX ps
inductive PK where
 |v (b:Bool) (t:TC)
 |p (t:TC) (g off:Nat)
 |s (t:TC) (g:Nat)
def lF:aa PK->Type
 |[]=>af
 |.v _ t::r=>T t×lF r
 |.p t _ _::r=>T t×lF r
 |.s t _::r=>aa (T t)×lF r
def qM:aa (Bool×TC×Nat)->Type
 |[]=>af
 |(true,t,_)::r=>T t×qM r
 |(false,t,_)::r=>aa (T t)×qM r
def jf:(l:aa (Bool×TC×Nat))->qM l->aa In
 |[],_=>[]
 |(true,t,g)::r,x=>.aC (enc t g x.1)::jf r x.2
 |(false,t,g)::r,x=>.sl (bif Nat.ble 1000000 g then .nil else .sl t (g+2) false x.1)::jf r x.2
def eG:aa PK->aa (Bool×TC×Nat)
 |[]=>[]
 |.v _ _::r=>eG r
 |.p t g _::r=>(true,t,g)::eG r
 |.s t g::r=>(false,t,g)::eG r
def ny:(l:aa PK)->lF l->aa In
 |[],_=>[]
 |.v _ _::r,x=>ny r x.2
 |.p t g _::r,x=>.aC (enc t g x.1)::ny r x.2
 |.s t g::r,x=>.sl (.sl t (g+2) false x.1)::ny r x.2
def ku:(l:aa PK)->Nat->lF l->aa Ar
 |[],_,_=>[]
 |.v b t::r,i,x=>.pt (b,enc t 0 x.1)::ku r i x.2
 |.p _ _ off::r,i,x=>.mut i off::ku r (i+1) x.2
 |.s _ _::r,i,x=>.mut i 0::ku r (i+1) x.2
structure nA where
 ps:List PK
 ro:List (Bool×TC×Nat)
 F:lF ps->Option (iV ro×qM (eG ps))
def uP(P:Program)(f:Nat)(c:nA):Prop:=
 ∀ x y,c.F x=some y->∀ (nm:Nat->Nat) (w:World) (aj:bI) (ρ:Nat->Loc) (bT:Array Value),oR w w.heap.size aj ρ 0 (ny c.ps x)->(∀ b k,aj b=some k->b<w.heap.size/\k≠[])->
     bT.size=c.ps.length->(∀i,RA w w.heap.size aj ρ ((wN (ny c.ps x) (ku c.ps 0 x)).t i) (bT.getD i undef))->∀C:Hd w aj,
     Calls P f bT w λe w'=>∃v aD,e = .returned v/\jq ⟨w,aj,λ_=>none,C,λ_ _=>rfl⟩ w w'/\(∀b k,aD b=some k->(w.heap.size<=b\/aj b≠none)/\b<w'.heap.size/\k≠[])/\pJ w' w.heap.size aD nm (eU c.ro y.1) v/\GM w w' aD ρ nm 0 (eU c.ro y.1).len (ny c.ps x) (jf (eG c.ps) y.2)
def GO(w:World)(ρ:Nat->Loc):Nat->aa In->Prop
 |_,[]=>True
 |i,.aC cs::r=>(∃b off cells e,ρ (nF i) = .aC b off/\w.heap[b]?=some (.cells cells e (0,0))/\∀(j:Nat) x,cs[j]?=some x->x.plain=false->x.aI=true->∃u,cells[off+j]?=some u/\ρ (20001+1000*i+j) = .dH u)/\GO w ρ (i+1) r
 |i,.sl y::r=>(∃v,ρ (nF i) = .dH v)/\GO w ρ (i+1) r
section
variable {P:Program} {w w':World} {w0:Wd} {B N:Nat} {aj aD:bI} {ρ ρ':Nat->Loc} {σ:S} {a:Act} {X:Type} {d:Nat} {r:X} {rs:aa (Nat×Nat)} {nm:Nat->Nat}
def TH{m:Nat -> ah aV}{i pos:Nat}:∀ (xs:aa V) (ls:aa Lf) (D:Nat) (ys:aa V) (O:aa (Nat×Nat)),Bg m i pos D xs ls=some (ys,O) -> ys.length=xs.length/\ls.length=xs.length /\
  ∀(j:Nat) y,ys[j]?=some y -> ∃l x0,ls[j]?=some l/\xs[j]?=some x0/\((l = .v y/\y.plain=true) \/ (l = .v .nil/\y = .nil/\x0.aI=false) \/ (l = .own [20001+1000*i+(D+j)]/\y=x0/\y.plain=false/\(y.aI&&y.ki)=true/\20001+1000*i+(D+j)<60000) \/ (∃q,l = .own [q]/\m q=some (.sl y)/\y.aI=false/\(q,pos+1+(D+j))∈O))
 | [],[],D,ys,O,h=>by
  simp only[Bg,iQ,Prod.mk.injEq]at h;obtain⟨rfl,rfl⟩:=h;exact⟨rfl,rfl,λj y U=>by simp at U⟩
 |[],_::_,D,ys,O,h=>by simp[Bg]at h
 |_::_,[],D,ys,O,h=>by simp[Bg]at h
 | x0 :: xs,l :: ls,D,ys,O,h=>by
  have hc:∀ y z,TG m i D x0 l=some (y,z) -> (z=none/\l = .v y/\y.plain=true) \/ (z=none/\l = .v .nil/\y = .nil/\x0.aI=false) \/ (z=none/\l = .own [20001+1000*i+D]/\y=x0/\y.plain=false/\(y.aI&&y.ki)=true/\20001+1000*i+D<60000) \/ (∃ q,z=some q/\l = .own [q]/\m q=some (.sl y)/\y.aI=false):=by
   intro y z C;unfold TG at C;split at C
   ·rename_i x;cases hp:x.plain with
    | false=>
     rw[hp,au]at C;cases hb:(!x.ki && !x0.aI)with
     |false=>rw[hb]at C;cases C
     | true=>
      rw[hb,aq]at C;simp only[iQ,Prod.mk.injEq]at C;obtain⟨rfl,rfl⟩:=C;rw[aQ,iq,iq]at hb;have hx:x = .nil:=by
       cases x<;>first|rfl|(exact absurd hb.1 (by simp[V.ki]))
      subst hx;exact .inr (.inl ⟨rfl,rfl,rfl,hb.2⟩)
    |true =>grind
   ·rename_i q;split at C
    ·rename_i y1 hy1;cases hf:y1.aI with
     | true=>
      rw[hf,aq]at C;cases hb:(!x0.plain&&(x0.aI&&x0.ki)&&Nat.beq q (20001+1000*i+D)&&Nat.blt q 60000)with
      |false=>rw[hb]at C;cases C
      | true=>
       rw[hb,aq]at C;simp only[iQ,Prod.mk.injEq]at C;obtain⟨rfl,rfl⟩:=C;rw[aQ,aQ,aQ,iq]at hb;obtain⟨⟨⟨b1,b2⟩,b3⟩,b4⟩:=hb;obtain rfl:=cB b3;exact .inr (.inr (.inl ⟨rfl,rfl,rfl,b1,b2,by have:=cK b4;omega⟩))
     | false=>
      rw[hf,au]at C;cases hl:y1.loc with
      |false=>rw[hl]at C;cases C
      |true =>grind
    ·cases C
   ·cases C
  unfold Bg at h;split at h
  ·rename_i y TI TJ U GD;simp only[iQ,Prod.mk.injEq]at h;obtain⟨rfl,rfl⟩:=h;obtain⟨h1,h2,h3⟩:=TH xs ls (D+1) TI TJ GD
   refine⟨by simp[h1],by simp[h2],λj y' E=>?_⟩
   cases j with
   | zero=>
    simp at E;subst E;refine⟨l,x0,rfl,rfl,?_⟩;rcases hc y none U with ⟨_,I,L⟩|⟨_,I,L,T⟩|⟨_,I,L,T,e4,e5⟩|⟨q,Y,_⟩
    ·simp[*]
    ·simp[*]
    ·exact .inr (.inr (.inl ⟨I,L,T,e4,e5⟩))
    ·cases Y
   | succ j=>
    obtain⟨l',x',g1,g2,Z⟩:=h3 j y' (by simpa using E);rw[show D+1+j=D+(j+1) by omega]at Z;exact⟨l',x',by simpa using g1,by simpa using g2,Z⟩
  ·rename_i y q TI TJ U GD;simp only[iQ,Prod.mk.injEq]at h;obtain⟨rfl,rfl⟩:=h;obtain⟨h1,h2,h3⟩:=TH xs ls (D+1) TI TJ GD
   refine⟨by simp[h1],by simp[h2],λj y' E=>?_⟩
   cases j with
   | zero=>
    simp at E;subst E;refine⟨l,x0,rfl,rfl,?_⟩;rcases hc y (some q) U with ⟨e0,_⟩|⟨e0,_⟩|⟨e0,_⟩|⟨q',Y,I,L,T⟩
    ·cases e0
    ·cases e0
    ·cases e0
    ·injection Y with Y;subst Y;exact .inr (.inr (.inr ⟨q,I,L,T,.head _⟩))
   | succ j=>
    obtain⟨l',x',g1,g2,Z⟩:=h3 j y' (by simpa using E);rw[show D+1+j=D+(j+1) by omega]at Z;exact⟨l',x',by simpa using g1,by simpa using g2,Z.imp id (λg=>g.imp id (λg=>g.imp id λ⟨q',I,L,T,e4⟩=>⟨q',I,L,T,.tail _ e4⟩))⟩
  ·cases h
def MK{w1:World}{TK:Nat -> Loc}{m:Nat -> ah aV}(O:∀ r,20000 <= r -> r<60000 -> ρ r=TK r)(T:∀ r x,m r=some x -> ei w w1.heap.size aj ρ r x):
  ∀(ins:aa In) (i Y:Nat) (outs:aa In) (Z:aa (Nat×Nat)),zh m i Y ins=some (outs,Z) -> (∀p∈Z,rs.lookup p.1=some p.2) -> GO w1 TK i ins -> qL w1 w (eF aj rs nm) TK nm i Y ins outs
 | [],i,Y,outs,Z,h,I,he=>by
  simp only[zh,iQ,Prod.mk.injEq]at h;obtain⟨rfl,rfl⟩:=h;trivial
 | .aC cs :: r,i,Y,outs,Z,h,I,he=>by
  unfold zh at h;cases hi:Nat.blt (nF i) 60000 with
  |false=>grind
  | true=>
   rw[hi,aq]at h;have hi:=cK hi;split at h
   ·rename_i ls TL;split at h
    ·rename_i eV rs1 os Bf h1 h2;simp only[iQ,Prod.mk.injEq]at h;obtain⟨rfl,rfl⟩:=h;obtain⟨⟨b,off,cells,e,aaP,Tq,s9⟩,GP⟩:=he;obtain⟨k1,k2,k3⟩:=TH _ _ _ _ _ h1
     refine⟨?_,MK O T r (i+1) _ os Bf h2 (λp D=>I p (.tail _ (List.mem_append_right _ D))) GP⟩
     have L:=T _ _ TL;have TM:=O (nF i) (by unfold nF;omega) (by omega);generalize C:aV.aC ls=x at L;cases L with
     |sl=>cases C
     |mp=>cases C
     |gh=>cases C
     | aC b' A0 wO e' ls' us E hl hh hs hc=>
      injection C with C;subst C;rw[TM,aaP]at E;injection E with e1 e2;subst e1 e2
      refine⟨b,off,cells,wO,e,e',aaP,Tq,hh,?_,by rw[k1,<- k2];exact hs,k1,λj y hy=>?_⟩
      ·have:=I _ (List.Mem.head _);simp[eF,hl,this]
      ·obtain⟨l,x0,g1,g2,g3⟩:=k3 j y hy;obtain⟨c1,c2⟩:=hc j l g1;refine⟨_,c1,?_⟩;rw[fh]at g3;rcases g3 with ⟨rfl,D⟩ | ⟨rfl,rfl,Mz⟩ | ⟨rfl,rfl,D,yV,dW⟩ | ⟨q,rfl,hq,hf,uO⟩
       ·exact .inl ⟨D,λ_ _ _ _=>c2.2.sS D⟩
       ·exact .inr (.inl ⟨rfl,by have h9:=c2.2;generalize us j=u9 at h9 ⊢;cases h9;rfl,x0,g2,Mz⟩)
       ·rw[aQ]at yV;obtain⟨hf,ML⟩:=yV;obtain⟨u,hu,anL⟩:=s9 j y g2 D hf;refine .inr (.inr (.inl ⟨D,hf,ML,⟨y,g2,.same _⟩,?_⟩));have U:=c2.2;have TN:=O (20001+1000*i+j) (by omega) dW;simp only[cU,TN,anL]at U;simp_all
       ·refine .inr (.inr (.inr ⟨hf,?_⟩));have L:=T _ _ hq;generalize C:aV.sl y=x at L;cases L with
        |aC=>cases C
        |mp=>cases C
        |gh=>cases C
        | sl v y' E hr=>
         injection C with C;subst C;have U:=c2.2;simp only[cU,E]at U;injection U with U;rw[<- U];exact RV.eF (p:=[]) hr (I _ (.tail _ (List.mem_append_left _ uO)))
    ·cases h
   ·cases h
 | .sl y :: r,i,Y,outs,Z,h,I,he=>by
  unfold zh at h;cases hg:y.gone with
  | true=>
   rw[hg,aq]at h;split at h
   next os Bf h2=>simp at h;obtain⟨rfl,rfl⟩:=h;exact⟨.inl rfl,MK O T r _ _ os Bf h2 I he.2⟩
   ·cases h
  |false=>
  rw[hg,au]at h;cases hi:Nat.blt (nF i) 60000 with
  |false=>grind
  | true=>
   rw[hi,aq]at h;have hi:=cK hi;split at h
   ·rename_i y' GA;cases hl:(y'.loc && !y'.aI)with
    |false=>grind
    | true=>
     rw[hl,aq]at h;split at h
     ·rename_i os Bf h2;simp only[iQ,Prod.mk.injEq]at h;obtain⟨rfl,rfl⟩:=h;obtain⟨⟨v,hv⟩,GP⟩:=he
      refine⟨.inr ⟨v,hv,?_⟩,MK O T r (i+1) _ os Bf h2 (λp D=>I p (.tail _ D)) GP⟩
      have TM:=O (nF i) (by unfold nF;omega) (by omega);have L:=T _ _ GA;generalize C:aV.sl y'=x at L;cases L with
      |aC=>cases C
      |mp=>cases C
      |gh=>cases C
      | sl v' y'' E hr=>
       injection C with C;subst C;rw[TM,hv]at E;injection E with E;subst E;exact RV.eF (p:=[]) hr (I _ (.head _))
     ·cases h
   ·cases h
def anM{w1:World}{U:Nat -> Loc}{fn:Func}{O:aa In}{k:aa In -> gf -> ah X}(hw:w0.w=w1)(hF:∀ r,20000 <= r -> r<60000 -> w0.F r=some (U r))(he:GO w1 U 0 O)(h:GN P σ fn.results O k=some r):
  ∃outs res,k outs res=some r /\ ∀aj ρ a w,Rl w0 N aj ρ σ a w -> ∀nm,∃v aD,(results fn a.tmps).run P w = .ok v w/\(∀b k,aD b=some k -> (w0.heap.size <= b \/ w0.L b≠none)/\b<w.heap.size/\k≠[])/\pJ w w0.heap.size aD nm res v/\qL w1 w aD U nm 0 res.len O outs:=by
 unfold GN at h;obtain⟨ps,E,qJ⟩:=GL (w0:=w0) (N:=N) _ _ h;clear h;split at E
 ·rename_i qs TO TD;split at E
  ·rename_i os TP hos;cases ho:once (TO++TP)with
   |false=>rw[ho]at E;cases E
   | true=>
    rw[ho,aq]at E;generalize aaQ:TO++TP=rs at ho;have nu:∀ p∈rs,rs.lookup p.1=some p.2:=by
     intro p Y;have:=cv.1 ho p Y;obtain⟨n,hn,he⟩:=(Option.any_eq_true _ _).1 this;simp_all
    have core:∀ aj ρ a w,Rl w0 N aj ρ σ a w -> ∀ nm:Nat -> Nat,∃ C:aa Value,(fn.results.mapM (qK a.tmps)).run P w = .ok C.toArray w/\(∀ b k,eF aj rs nm b=some k -> (w0.heap.size <= b \/ w0.L b≠none)/\b<w.heap.size/\k≠[])/\jQ w w0.heap.size (eF aj rs nm) nm 0 qs C /\
      qL w1 w (eF aj rs nm) U nm 0 (qs.map λp=>p.2.length).sum O os:=by
     intro aj ρ a w hR nm;obtain⟨C,Z,hl,hv⟩:=qJ aj ρ a w hR
     refine⟨C,?_,λb k I=>?_,TB hR.root ps 0 qs TO C TD (λp Y=>nu p (by rw[<- aaQ];exact List.mem_append_left _ Y)) hl hv,
      MK (λr h1 E=>hR.fix r _ (hF r h1 E)) (by rw[<- hw];exact hR.root) O 0 _ os TP hos (λp Y=>nu p (by rw[<- aaQ];exact List.mem_append_right _ Y)) he⟩
     ·rw[Array.mapM_eq_mapM_toList];simp[Z]
     ·unfold eF at I;split at I
      ·cases I
      ·rename_i k' oN;have:=hR.cV b k' oN;split at I
       ·cases I
       ·cases s7:rs.lookup _ with
        |none=>rw[s7]at I;cases I
        | some n=>
         rw[s7]at I;injection I with I;subst I;simp_all
    have kr:∀ (tmps:Array Value),results fn tmps=(do let C <- fn.results.mapM (qK tmps);pure (if h:C.size=1 then C[0]else .tuple C)):=λtmps=>by
     unfold results;congr 1
    split at E
    ·rename_i p
     refine⟨_,_,E,λaj ρ a w hR nm=>?_⟩
     obtain⟨C,Z,nW,D,T⟩:=core aj ρ a w hR nm;have T:qL w1 w (eF aj rs nm) U nm 0 (gf.one p).len O os:=by simpa [gf.len]using T
     match C,D with
     |[v],D=>exact⟨v,_,by rw[kr,gk,Z];rfl,nW,D,T⟩
     |[],D=>exact D.elim
     |_::_::_,D=>exact D.2.elim
    ·rename_i cL
     refine⟨_,_,E,λaj ρ a w hR nm=>?_⟩
     obtain⟨C,Z,nW,D,T⟩:=core aj ρ a w hR nm;have iN:C.toArray.size≠1:=by
      intro e;clear T;have e:C.length=1:=by simpa using e
      match qs,C,D,cL,e with
      |[q],[v],_,cL,_=>exact cL q rfl
      |[],[v],D,_,_=>exact D.elim
      |_::_::_,[v],D,_,_=>exact D.2.elim
     refine⟨.tuple C.toArray,_,?_,nW,⟨C.toArray,rfl,D⟩,T⟩;rw[kr,gk,Z,mz];simp only[iN,dif_neg,not_false_eq_true,Sem.run_pure]
  ·cases E
 ·cases E
def aaR{i:Nat}:∀ (cs:aa V) (D:Nat) (m:Nat -> ah aV) (r:Nat) (x:aV),TE i D cs m r=some x -> m r=some x \/ ∃ j y,cs[j]?=some y/\y.plain=false/\r=nC i (D+j) y/\x = .sl y
 |[],D,m,r,x,h=>.inl h
 | c :: cs,D,m,r,x,h=>by
  rcases aaR cs _ _ r x h with C|⟨j,y,C,L,O,T⟩
  ·cases E:c.plain with
   |true=>simp_all
   | false=>
    rw[E,au]at C;by_cases I:r=nC i D c
    ·subst I;rw[bZ]at C;injection C with C;exact .inr ⟨0,c,rfl,E,rfl,C.symm⟩
    ·rw[cH _ _ _ I]at C;simp_all
  ·exact .inr ⟨j+1,y,by simpa using C,L,by rw[O];congr 1;omega,T⟩
def oR.roots:∀ (C:aa In) (i:Nat) (m:Nat -> ah aV),oR w B aj ρ i C -> (∀ r x,m r=some x -> ei w B aj ρ r x) -> ∀ r x,MJ i C m r=some x -> ei w B aj ρ r x
 |[],i,m,_,I,r,x,h=>I r x h
 | .aC cs :: C,i,m,L,I,r,x,h=>by
  obtain⟨U,Y,O⟩:=L
  refine oR.roots C _ _ O (λr x E=>?_) r x h
  rcases aaR cs 0 _ r x E with T|⟨j,y,Z,g2,g3,g4⟩
  ·by_cases D:r=nF i
   ·subst D;rw[bZ]at T;simp_all
   ·rw[cH _ _ _ D]at T;simp_all
  ·simp_all
 | .sl y :: C,i,m,L,I,r,x,h=>by
  obtain⟨U,O⟩:=L
  refine oR.roots C _ _ O (λr x E=>?_) r x h
  by_cases D:r=nF i
  ·subst D;rw[bZ]at E;simp_all
  ·rw[cH _ _ _ D]at E;simp_all
def TQ{i:Nat}:∀ (cs:aa V) (C j:Nat) x,cs[j]?=some x->(zg i C cs)[j]?=some (zf i (C+j) x)
 |[],C,j,x,h=>by simp at h
 |c::cs,C,0,x,h=>by simp at h;subst h;rfl
 | c :: cs,C,j+1,x,h=>by
  simp only[zg,List.getElem?_cons_succ];rw[TQ cs (C+1) j x (by simpa using h)];congr 2;omega
def oR.TR:∀ (C:aa In) (i:Nat),oR w B aj ρ i C -> GO w ρ i C
 |[],_,_=>trivial
 | .aC cs :: C,i,I=>by
  obtain⟨E,_,L⟩:=I;refine⟨?_,oR.TR C (i+1) L⟩;generalize D:aV.aC (zg i 0 cs)=x at E;cases E with
  |sl=>cases D
  |mp=>cases D
  |gh=>cases D
  | aC b off cells e ls us U hl Y hs Z=>
   injection D with D;subst D
   refine⟨b,off,cells,e,U,Y,λj x hj hp hf=>?_⟩
   obtain⟨c1,O⟩:=Z j _ (TQ cs 0 j x hj);rw[fh]at O;refine⟨_,c1,?_⟩;have e1:zf i j x = .own [20001+1000*i+j]:=by simp[zf,hp,nC,hf]
   rw[e1]at O;have T:=O.2;simp only[cU]at T;split at T
   ·simp_all
   ·cases T
 | .sl y :: C,i,I=>by
  obtain⟨E,L⟩:=I;refine⟨?_,oR.TR C (i+1) L⟩;cases E with
  |sl v y' U hr=>simp_all
end
def cW(n:Nat):aa Nat->Bool
 |[]=>false
 |m::l=>Nat.beq n m ||cW n l
def ta{n:Nat}:∀ {l:aa Nat},cW n l=true ↔ n∈l
 |[]=>by simp[cW]
 | m :: l=>by
  simp only[cW,eA,gJ,ta];simp_all
def aaS{n:Nat}{l:aa Nat}(h:cW n l=false):n ∉ l:=λk=>by rw[ta.2 k]at h;cases h
def fW(k l:aa Nat):Bool:=match k.getLast? with
 |some r=>cW r l
 |none=>false
def uQ(ns cn:aa Nat):nh:=⟨λk=>fW k cn ||(fW k ns && !(Nat.beq k.length 1)),λk=>fW k cn ||fW k ns,λr=>cW r cn⟩
def Lf.di(ns cn:aa Nat):Lf->Lf:=Lf.cE (uQ ns cn).l
def A.di(ns cn:aa Nat):A->A:=A.cE (uQ ns cn)
def aV.di(ns cn:aa Nat):aV->aV:=aV.cE (uQ ns cn)
def S.di(σ:S)(ns cn:aa Nat)(nr:aa (Nat×aV)):S:=⟨λk=>(σ.t k).di ns cn,λr=>match nr.lookup r with
 |some x=>some x
 |none=>bif cW r ns ||cW r cn then none else (σ.m r).map (aV.di ns cn)⟩
structure td (w w':World) (aj dA:bI) (ρ eZ:Nat->Loc) (ns cn:List Nat):Prop where
 size:w.heap.size<=w'.heap.size
 same:∀b,b<w.heap.size->(∀k,aj b=some k->fW k ns=false)->w'.heap[b]?=w.heap[b]?/\dA b=aj b
 eY:∀r,cW r cn=false->eZ r=ρ r
 aj:∀b k,aj b=some k->b<w.heap.size/\k≠[]
section
variable {P:Program} {w w':World} {w0:Wd} {B N:Nat} {aj dA aD:bI} {ρ eZ:Nat->Loc} {σ:S} {a:Act} {X:Type} {d:Nat} {r:X} {ns cn:aa Nat}
def aaT{j i s:Nat}{q l:aa Nat}(h:q≠[]):fW (j :: i :: s :: q) l=fW q l:=by
 cases q with
 |nil=>simp_all
 |cons x q=>simp[fW]
def td.tr(C:td w w' aj dA ρ eZ ns cn):Tr w w' aj dA ρ eZ (λk=>fW k ns) (λr=>cW r cn):=
 ⟨C.size,λb hb hl=>let e:=C.same b hb (λk D=>by rw[hl]at D;cases D);⟨e.1,e.2.trans hl⟩,λb k hl D=>let e:=C.same b (C.aj b k hl).1 (λI E=>by rw[hl]at E;injection E with E;subst E;exact D);⟨e.1,e.2.trans hl⟩,C.eY,λj i s x q=>aaT (by simp),λb hb=>absurd rfl (C.aj b [] hb).2⟩
def TS:(uQ ns cn).OK (λk=>fW k ns) (λr=>cW r cn):=by
 refine⟨λk D=>?_,λk D=>?_,λ_ h=>h⟩
 ·obtain⟨E,C⟩:=pq.1 D;refine⟨?_,E⟩;cases I:fW k ns with
  |false=>exact .inr rfl
  | true=>
   rw[I,cm,Bool.not_eq_false']at C;exact .inl (cB C)
 ·obtain⟨E,C⟩:=pq.1 D;exact⟨C,E⟩
def RV.tf(C:td w w' aj dA ρ eZ ns cn){q:aa Nat}{x:V}{v:Value}(h:RV w B aj q x v)(D:fW q ns=false\/x.aI=true):RV w' B dA q x v:=h.tr C.tr D.symm
def RA.tf(C:td w w' aj dA ρ eZ ns cn){x:A}{u:Value}(h:RA w B aj ρ x u):RA w' B dA eZ (x.di ns cn) u:=h.tr C.tr TS
def dR.tf(C:td w w' aj dA ρ eZ ns cn){x:Lf}{u:Value}(h:dR w B aj ρ x u):dR w' B dA eZ (x.di ns cn) u:=h.tr C.tr TS
def ei.tf(C:td w w' aj dA ρ eZ ns cn){n:Nat}{x:aV}(h:ei w B aj ρ n x)(D:cW n ns=false)(E:cW n cn=false):ei w' B dA eZ n (x.di ns cn):=h.tr C.tr TS D E
def Rl.tf(h:Rl w0 N aj ρ σ a w)(D:td w w' aj dA ρ eZ ns cn)(hb:jq w0 w w')(hl:∀ b k,dA b=some k -> (w0.heap.size <= b \/ w0.L b≠none)/\b<w'.heap.size/\k≠[])(T:∀ r,cW r cn=true -> w0.F r=none){nr:aa (Nat×aV)}
  (U:∀r x,nr.lookup r=some x -> ei w' w0.heap.size dA eZ r x):Rl w0 N dA eZ (σ.di ns cn nr) a w':=by
 refine⟨h.below.trans hb,hl,λr x C=>?_,λk=>(h.tmp k).tf D,h.size,h.defers,λr l I=>?_,h.dm⟩
 ·simp only[S.di]at C;split at C
  ·simp_all
  ·cases hm:(cW r ns || cW r cn)with
   |true=>simp_all
   | false=>
    rw[hm]at C;rw[pq]at hm;cases E:σ.m r with
    |none=>simp_all
    | some y=>
     rw[E]at C;injection C with C;subst C;exact(h.root r y E).tf D hm.1 hm.2
 ·have O:cW r cn=false:=by
   grind
  exact(D.eY r O).trans (h.fix r l I)
end
inductive Mu where
 |aC (r:Nat) (cs:List Lf) (vs:List (V×Option Nat))
 |sl (q:Nat) (y:V)
def Mu.root:Mu->Nat
 |.aC r _ _=>r
 |.sl q _=>q
def uR(m:Nat->ah aV):Lf->ah (V×ah Nat)
 |.v x=>some (x.gG,none)
 | .own [q]=>match m q with
  |some (.sl y)=>bif y.aI then some (y.gG,none)else some (y,some q)
  |_=>none
 |_=>none
def qN(m:Nat->ah aV):aa Lf->ah (aa (V×ah Nat))
 |[]=>some []
 | l :: ls=>match uR m l,qN m ls with
  |some v,some C=>some (v::C)
  |_,_=>none
def uS(σ:S):PK->A->ah (ah Mu)
 |.v _ _,_=>some none
 | .p _ _ off,.aO r j=>(match (bif Nat.beq j off then σ.m r else none)with
  | some (.aC cs)=>(match qN σ.m cs with
   |some C=>bif Nat.blt cs.length 999 then some (some (.aC r cs C))else none
   |none=>none)
  |_=>none)
 | .s _ _,.lf (.own [q])=>(match σ.m q with
  |some (.sl y)=>bif y.aI then none else some (some (.sl q y))
  |_=>none)
 |_,_=>none
def jC(σ:S):aa PK->aa Operand->ah (aa Mu)
 |[],[]=>some []
 | p :: ps,x :: xs=>(match uS σ p (aK σ x),jC σ ps xs with
  |some (some D),some C=>some (D::C)
  |some none,some C=>some C
  |_,_=>none)
 |_,_=>none
def DE(i:Nat):Nat->aa (V×ah Nat)->aa (Nat×Nat)
 |_,[]=>[]
 |j,(_,some q)::C=>(q,60000+1000*i+j)::DE i (j+1) C
 |j,(_,none)::C=>DE i (j+1) C
def lG:Nat->aa Mu->aa (Nat×Nat)
 |_,[]=>[]
 |i,.aC r _ D::C=>(r,nF i)::(DE i 0 D++lG (i+1) C)
 |i,.sl q _::C=>(q,nF i)::lG (i+1) C
def TT(ns:aa Nat):Lf->Bool
 |.own k=>!fW k ns
 |_=>true
def rZ{X:Type}(σ:S)(ns:aa Nat):aa Lf->(aa V->ah X)->ah X
 |[],k=>k []
 |x::xs,k=>bif TT ns x then oH σ x λy=>rZ σ ns xs λys=>k (y.gG::ys)else none
def qO{X:Type}(σ:S)(ns:aa Nat)(x:A)(k:Pt->ah X):ah X:=
 match x with
 |.lf y=>rZ σ ns [y] λC=>k (false,C)
 |.agg ys=>rZ σ ns ys λC=>k (true,C)
 |.ng f (c::cs)=>k (false,.bool false::.int .i64 (f:Int)::c.gG::cs.map V.gG)
 | .fn f [(r,j)]=>bif cW r ns then none else (match σ.m r with
  | some (.aC cs)=>(match qC (cs.drop j)with
   |some (c::C)=>k (false,.bool false::.int .i64 (f:Int)::c::C)
   |_=>none)
  |_=>none)
 |_=>none
def jD{X:Type}(σ:S)(ns:aa Nat):(ps:aa PK)->aa Operand->aa Mu->(lF ps->ah X)->ah X
 |[],[],[],k=>k ()
 | .v b t :: ps,x :: xs,C,k=>qO σ ns (aK σ x) λp=>bif p.1==b then (match dec t 0 p.2 with
  |some y=>jD σ ns ps xs C λys=>k (y,ys)
  |none=>none)else none
 | .p t g _ :: ps,_ :: xs,.aC _ _ D :: C,k=>(match (bif Nat.beq (g % 2) 0 then dec t g (D.map (·.1))else none)with
  |some y=>jD σ ns ps xs C λys=>k (y,ys)
  |none=>none)
 | .s t g :: ps,_ :: xs,.sl _ y :: C,k=>(match (bif Nat.beq (g % 2) 0 then y.fl t (g+2)else none)with
  |some z=>jD σ ns ps xs C λys=>k (z,ys)
  |none=>none)
 |_,_,_,_=>none
def wP(w:World)(ρ:Nat->Loc)(rs:aa Nat):Nat->Loc:=λn=>
 if n<60000 then (if (n-20000) % 1000=0 then ρ (rs.getD ((n-20000) / 1000) 0)else (match ρ (rs.getD ((n-20000) / 1000) 0)with
  |.aC b off=>.dH ((w.cell? ⟨b,off+((n-20000) % 1000-1),none⟩).getD undef)
  |.dH v=>.dH v
  |.bT us=>.bT us))
 else (match ρ (rs.getD ((n-60000) / 1000) 0)with
  |.aC b off=>.dH ((w.cell? ⟨b,off+(n-60000) % 1000,none⟩).getD undef)
  |.dH v=>.dH v
  |.bT us=>.bT us)
def GQ{w:World}{ρ:Nat -> Loc}{rs:aa Nat}{i r:Nat}(h:rs[i]?=some r)(hi:i<40):wP w ρ rs (nF i)=ρ r:=by
 have C:nF i<60000:=by unfold nF;omega
 have D:(nF i-20000) % 1000=0:=by unfold nF;omega
 have E:(nF i-20000) / 1000=i:=by unfold nF;omega
 have I:rs.getD i 0=r:=by rw[fj,h];rfl
 unfold wP;simp_all
def anN{w:World}{ρ:Nat -> Loc}{rs:aa Nat}{i j r b off:Nat}{u:Value}{x:V}(h:rs[i]?=some r)(hi:i<40)(C:j<999)(D:ρ r = .aC b off)(E:w.cell? ⟨b,off+j,none⟩=some u):wP w ρ rs (nC i j x) = .dH u:=by
 have I:rs.getD i 0=r:=by rw[fj,h];rfl
 unfold wP nC;cases x.aI with
 |true =>grind
 |false =>grind
def V.MM:V->Bool
 |.sl _ o _ _=>Nat.beq (o % 2) 0
 |_=>true
section
variable {P:Program} {w w':World} {w0:Wd} {B N:Nat} {aj dA aD:bI} {ρ eZ:Nat->Loc} {σ:S} {a:Act} {X:Type} {d:Nat} {r:X} {ns cn:aa Nat}
def RV.reB{B':Nat}{q:aa Nat}{x:V}{v:Value}(h:RV w B aj q x v)(D:x.MM=true):RV w B' aj q x v:=by
 induction h with
 |int=>exact .int _ _ _
 |bool=>exact .bool _ _
 |str=>exact .str _ _
 |nil=>exact .nil _
 |eE=>exact .eE _ _ _
 |fI=>exact .fI _ _ _ _ _ (by first|assumption|omega)
 |fV=>exact .fV _ _ _ _ _ (by first|assumption|omega)
 | aI q t o O l b off cap u T hl hb h1 U E Y I=>
  have D:=cB D;have Z:o=0:=by omega
  subst Z
  refine .aI _ _ _ _ _ _ _ _ u T hl hb (by omega) U E (λi h j x C=>I i h j x C ?_)
  have:=yG t 0 l[i] x (gX C);cases x with
  | sl t' L q' l'=>
   have:L=0:=by simpa [V.gr]using this
   subst this;rfl
  |_=>rfl
 | own q t o O l b cap cs u hl hh hs hn hm E Y I=>
  have D:=cB D
  refine .own _ _ _ _ _ _ _ cs u hl hh hs hn hm E (λi h j x C=>I i h j x C ?_)
  have:=yG t o l[i] x (gX C);cases x with
  | sl t' L q' l'=>
   have:L=o:=by simpa [V.gr]using this
   show Nat.beq _ 0=true;simp_all
  |_=>rfl
def RV.out{q I:aa Nat}{x:V}{v:Value}(h:RV w B aj q x v)(U:∀ b,aj b=none -> aD b=none)(Y:∀ b k,aj b=some k -> k≠[]/\(fW k ns=false -> aD b=none))(hq:x.aI=true \/ fW q ns=false){B':Nat}:RV w B' aD I x.gG v:=by
 induction h generalizing I with
 |int=>exact .int _ _ _
 |bool=>exact .bool _ _
 |str=>exact .str _ _
 |nil=>exact .nil _
 |eE=>exact .eE _ _ _
 |fI=>exact .fI _ _ _ _ _ (by first|assumption|omega)
 |fV=>exact .fV _ _ _ _ _ (by first|assumption|omega)
 | aI q t o Z l b off cap u ho hl hb Z7 lX L hr E=>
  refine .aI _ _ _ _ _ _ _ _ u (by omega) (U b hl) hb (by omega) lX (λi h j x C=>?_) (λi h j x C=>?_)
  ·obtain⟨y,D,_⟩:=wh t o l[i] j x C;simp_all
  ·obtain⟨y,D,rfl⟩:=wh t o l[i] j x C;exact E i h j y D (.inl (pE t o l[i] ho j y D))
 | own q t o Z l b cap cs u hl O hs hn hm L hr E=>
  have T:fW q ns=false:=by
   rcases hq with hq|hq
   ·simp[V.aI]at hq;omega
   ·exact hq
  obtain⟨cL,pG⟩:=Y b q hl
  refine .aI _ _ _ _ _ _ _ _ u (by omega) (pG T) (iO.1 O).1 (by omega) hn (λi h j x C=>?_) (λi h j x C=>?_)
  ·obtain⟨y,D,_⟩:=wh t o l[i] j x C;have:=L i h j y D;rw[fh,cell_of_row w b _ cs _ _ O];exact this
  ·obtain⟨y,D,rfl⟩:=wh t o l[i] j x C;exact E i h j y D (.inr (by rw[aaT cL];exact T))
def anO{x:Lf}{k:V -> ah X}(h:oH σ x k=some r):∃ y,k y=some r /\ ∀ aj ρ a w,Rl w0 N aj ρ σ a w -> ∀ u,dR w w0.heap.size aj ρ x u -> ∃ q,(x = .own q \/ y.aI=true)/\RV w w0.heap.size aj q y u:=by
 cases x with
 |v y=>exact⟨y,h,λaj ρ a w hR u C=>⟨[],.inr C.1,C.2⟩⟩
 |dead=>cases h
 | own q=>
  obtain⟨y,D,E⟩:=rP q k h
  refine⟨y,E,λaj ρ a w hR u C=>⟨q,.inl rfl,?_⟩⟩
  obtain⟨v,I,L⟩:=D.ok hR.root;have:v=u:=by
   have O:=C.2;simp_all
  simp_all
structure Bh (ns:List Nat) (aj aD:bI):Prop where
 none:∀b,aj b=none->aD b=none
 rest:∀b k,aj b=some k->k≠[]/\(fW k ns=false->aD b=Option.none)
def TU:∀ (xs:aa Lf) (k:aa V -> ah X),rZ σ ns xs k=some r -> ∃ C,k C=some r/\C.length=xs.length /\ ∀ aj ρ a w aD,Rl w0 N aj ρ σ a w -> Bh ns aj aD -> ∀ (j:Nat) x y u,xs[j]?=some x -> C[j]?=some y -> dR w w0.heap.size aj ρ x u -> RV w w.heap.size aD [] y u
 |[],k,h=>⟨[],h,rfl,λ_ _ _ _ _ _ _ j x y u O=>by simp at O⟩
 | x :: xs,k,h=>by
  unfold rZ at h;cases D:TT ns x with
  |false=>simp_all
  | true=>
   rw[D,aq]at h;obtain⟨y,T,U⟩:=anO (w0:=w0) (N:=N) h;obtain⟨ys,Y,hl,hr⟩:=TU xs _ T
   refine⟨y.gG::ys,Y,by simp[hl],λaj ρ a w aD hR E j x' y' u I L Z=>?_⟩
   cases j with
   | zero=>
    simp at I L;subst I L;obtain⟨q,hq,kj⟩:=U aj ρ a w hR u Z;refine kj.out E.none E.rest ?_;rcases hq with rfl|hq
    ·exact .inr (by simpa [TT]using D)
    ·simp_all
   |succ j=>grind
inductive PM (w:World) (aD:bI):Pt->Value->Prop
 |v (p:Pt) (u:Value) (h:PV w w.heap.size aD (λ_=>[]) p u):PM w aD p u
 |f (g:Nat) (c:V) (cs:List V) (u:Value) (h:RF w w.heap.size aD (c::cs) u):PM w aD (false,.bool false::.int .i64 (g:Int)::c::cs) (.func (.func g) #[] #[u])
def anP{g:Nat}{c:V}{cs ys:aa V}(hl:(V.bool false :: .int .i64 (g:Int) :: c :: cs).length=ys.length)(h:∀ (j:Nat) x z,(V.bool false :: .int .i64 (g:Int) :: c :: cs)[j]?=some x -> ys[j]?=some z -> Wk x z):∃ C eV,ys = .bool false :: .int .i64 (g:Int) :: C :: eV/\lu (c :: cs) (C :: eV):=by
 match ys,hl,h with
 | a :: b :: C :: eV,hl,h=>
  have D:=h 0 _ a rfl rfl;have E:=h 1 _ b rfl rfl;cases D;cases E;exact⟨C,eV,rfl,by simpa using hl,λj x z I L=>h (j+2) x z (by simpa using I) (by simpa using L)⟩
def RF.th{cs C:aa V}{u:Value}(h:RF w B aj cs u)(E:lu cs C)(L:∀ (j:Nat) z,C[j]?=some z->z.aI=true):RF w B aj C u:=by
 obtain⟨b,off,rfl,hb,hl,O⟩:=h
 refine⟨b,off,rfl,hb,hl,λj x D=>?_⟩
 have I:j<cs.length:=by rw[E.1];exact(dQ.1 D).1
 obtain⟨_,v,T,U⟩:=O j _ (bS I);exact⟨L j x D,v,T,U.wk (E.2 j _ x (bS I) D)⟩
def RF.gG{cs:aa V}{u:Value}(h:RF w B aj cs u)(D:∀ b,aj b=none -> aD b=none)(I:∀ b k,aj b=some k -> k≠[]/\(fW k ns=false -> aD b=none)){B':Nat}:RF w B' aD (cs.map V.gG) u:=by
 obtain⟨b,off,rfl,hb,hl,L⟩:=h
 refine⟨b,off,rfl,hb,D b hl,λj x C=>?_⟩
 rw[eJ]at C;cases E:cs[j]? with
 |none=>simp_all
 | some y=>
  rw[E]at C;injection C with C;subst C;obtain⟨O,v,T,U⟩:=L j y E;exact⟨V.amP y,v,T,U.out D I (.inl O)⟩
def anQ{x:A}{k:Pt -> ah X}(h:qO σ ns x k=some r):∃ p,k p=some r /\ ∀ aj ρ a w aD,Rl w0 N aj ρ σ a w -> Bh ns aj aD -> ∀ u,RA w w0.heap.size aj ρ x u -> PM w aD p u:=by
 unfold qO at h;split at h
 ·rename_i y;obtain⟨U,L,hl,O⟩:=TU (w0:=w0) (N:=N) _ _ h
  refine⟨_,L,λaj ρ a w aD hR C u D=>.v _ _ ⟨#[u],rfl,by simp[hl],λj x E=>?_⟩⟩
  have I:j=0:=by
   grind
  subst I;exact⟨u,rfl,O aj ρ a w aD hR C 0 y x u rfl E D⟩
 ·rename_i ys;obtain⟨U,L,hl,O⟩:=TU (w0:=w0) (N:=N) _ _ h
  refine⟨_,L,λaj ρ a w aD hR C u D=>?_⟩
  obtain⟨us,rfl,T⟩:=D
  refine .v _ _ ⟨us,rfl,by rw[hl];exact T.1,λj x E=>?_⟩
  have I:j<ys.length:=by rw[<- hl];exact(dQ.1 E).1
  obtain⟨v,hv,fJ⟩:=T.2 j _ (bS I);exact⟨v,hv,O aj ρ a w aD hR C j _ x v (bS I) E fJ⟩
 ·rename_i f c cs
  refine⟨_,h,λaj ρ a w aD hR C u D=>?_⟩
  obtain⟨pv,rfl,uT⟩:=D;exact .f f _ _ _ (uT.gG C.none C.rest)
 ·rename_i f Y j;cases Z:cW Y ns with
  |true=>grind
  | false=>
   rw[Z,au]at h;split at h
   ·rename_i cs hm;split at h
    ·rename_i c U uG;obtain⟨e,hp⟩:=Mn _ _ uG
     refine⟨_,h,λaj ρ a w aD hR C u D=>?_⟩
     obtain⟨us,rfl,mE,lX⟩:=D;obtain⟨b,off,cO,Ba⟩:=lX 0 _ rfl;have Ba:us[0]?=some (.pointer (some ⟨b,off+j,none⟩)):=Ba;have aFO:us.size=1:=mE;have anR:us = #[.pointer (some ⟨b,off+j,none⟩)]:=by
      apply Array.ext';apply List.ext_getElem?;intro i;cases i with
      |zero=>grind
      |succ i=>grind
     subst anR;refine .f f _ _ _ ?_;cases hR.root Y _ hm with
     | aC b' A0 cells e' _ Mr jd nW hh T hc=>
      rw[cO]at jd;injection jd with q1 q2;subst q1 q2
      refine⟨b,off+j,rfl,(iO.1 hh).1,(C.rest b _ nW).2 (by simpa [fW]using Z),λi x E=>?_⟩
      have hpx:=hp x (gX E);have hcd:(cs.drop j)[i]?=some (.v x):=by rw[e,eJ,E];rfl
      rw[List.getElem?_drop]at hcd;obtain⟨k1,k2⟩:=hc _ _ hcd;refine⟨(by cases x<;>first|rfl|cases hpx),Mr (j+i),?_,k2.2.sS hpx⟩;rw[Nat.add_assoc,cell_of_row w b _ cells _ _ hh];exact k1
    ·cases h
   ·cases h
 ·cases h
def zi(σ:S):Mu->Prop
 |.aC r cs C=>σ.m r=some (.aC cs)/\qN σ.m cs=some C/\cs.length<999
 |.sl q y=>σ.m q=some (.sl y)/\y.aI=false
def GR:aa Mu->aa In->Prop
 |[],[]=>True
 |.aC _ _ I::C,.aC xs::D=>(lu (I.map (·.1)) xs/\∀x∈xs,x.ki=true/\x.MM=true)/\GR C D
 |.sl _ y::C,.sl E::D=>(Wk y E/\E.MM=true)/\GR C D
 |_,_=>False
def DF(w:World)(B:Nat)(aj:bI)(ρ:Nat->Loc)(C:aa In):aa Ar->aa Value->Prop
 |[],[]=>True
 |x::xs,v::D=>RA w B aj ρ (TF C x) v/\DF w B aj ρ C xs D
 |_,_=>False
def DF.get{D:aa In}:∀ (xs:aa Ar) (C:aa Value),DF w B aj ρ D xs C -> C.length=xs.length /\ ∀ i,RA w B aj ρ ((wN D xs).t i) (C.toArray.getD i undef)
 |[],[],_=>⟨rfl,λi=>trivial⟩
 | x :: xs,v :: C,h=>by
  obtain⟨E,I⟩:=DF.get xs C h.2
  refine⟨by simp[E],λi=>?_⟩
  cases i with
  |zero=>exact h.1
  | succ i=>
   have:=I i;simp at this ⊢;exact this
def anS{t:TC}{g:Nat}{x:T t}(D:Nat.beq (g % 2) 0=true):∀ y∈enc t g x,y.ki=true/\y.MM=true:=by
 intro y C;refine⟨SL t g x y C,?_⟩;have:=yG t g x y C;cases y with
 | sl I E L O=>
  have:E=g:=by simpa [V.gr]using this
  subst this;exact D
 |_=>rfl
def anT(σ:S):PK->A->ah Mu->Prop
 |.v _ _,_,none=>True
 |.p _ _ off,x,some (.aC r cs C)=>x = .aO r off/\zi σ (.aC r cs C)
 |.s _ _,x,some (.sl q y)=>x = .lf (.own [q])/\zi σ (.sl q y)
 |_,_,_=>False
def uU{p:PK}{x:A}{z:ah Mu}(h:uS σ p x=some z):anT σ p x z:=by
 cases p with
 | v b t=>
  injection h with h;subst h;trivial
 | p t g off=>
  cases x with
  | aO r j=>
   have h:(match (bif Nat.beq j off then σ.m r else none)with
    | some (.aC cs)=>(match qN σ.m cs with
     |some E=>bif Nat.blt cs.length 999 then some _ else none
     |none=>none)
    |_=>none)=some z:=h
   cases C:Nat.beq j off with
   |false=>rw[C]at h;cases h
   | true=>
    obtain rfl:=cB C;rw[C,aq]at h;split at h
    ·rename_i cs I;split at h
     ·rename_i E L;cases hl:Nat.blt cs.length 999 with
      |false=>rw[hl]at h;cases h
      | true=>
       rw[hl]at h;injection h with h;subst h;exact⟨rfl,I,L,by have:=cK hl;omega⟩
     ·cases h
    ·cases h
  |_=>cases h
 | s t g=>
  have O:(∃ q,x = .lf (.own [q])):=by
   unfold uS at h;split at h
   next e=>cases e
   next e=>cases e
   ·simp[*]
   ·cases h
  obtain⟨q,rfl⟩:=O;have h:(match σ.m q with
   |some (.sl y)=>bif y.aI then none else some _
   |_=>none)=some z:=h
  split at h
  ·rename_i y T;cases D:y.aI with
   |true=>rw[D]at h;cases h
   | false=>
    rw[D]at h;injection h with h;subst h;exact⟨rfl,T,D⟩
  ·cases h
def MN:∀ (ps:aa PK) (xs:aa Operand) (D:aa Mu),jC σ ps xs=some D -> ∀ L∈D,zi σ L
 |[],[],D,h=>by injection h with h;subst h;simp
 | p :: ps,x :: xs,D,h=>by
  unfold jC at h;split at h
  ·rename_i L E C I;injection h with h;subst h;have O:=MN ps xs E I;have C:=uU C;intro z hz;rcases gJ.1 hz with rfl | hz
   ·cases p with
    |v=>exact C.elim
    | p=>
     cases z with
     |aC=>exact C.2
     |sl=>exact C.elim
    | s=>
     cases z with
     |aC=>exact C.elim
     |sl=>exact C.2
   ·simp_all
  next E C I=>injection h with h;subst h;exact MN ps xs E I
  ·cases h
 |[],_::_,D,h=>by cases h
 |_::_,[],D,h=>by cases h
def GS:∀ {ps:aa PK} (i C:Nat) (x:lF ps),(ku ps i x).length=(ku ps C x).length
 |[],_,_,_=>rfl
 |.v _ _::ps,i,C,x=>by simp[ku,List.length_cons];rw[GS]
 |.p _ _ _::ps,i,C,x=>by simp only[ku,List.length_cons];rw[GS (i+1) (C+1)]
 |.s _ _::ps,i,C,x=>by simp only[ku,List.length_cons];rw[GS (i+1) (C+1)]
def MO:∀ (ps:aa PK) (xs:aa Operand) (L:aa Mu) (k:lF ps -> ah X),jC σ ps xs=some L -> jD σ ns ps xs L k=some r -> ∃ x,k x=some r/\GR L (ny ps x)/\(ku ps 0 x).length=xs.length /\
  ∀aj ρ a w aD ρ',Rl w0 N aj ρ σ a w -> Bh ns aj aD -> ∀(O:aa In) (i:Nat),(∀j z,(ny ps x)[j]?=some z -> O[i+j]?=some z) -> (∀j T,L[j]?=some T -> ρ' (nF (i+j))=ρ T.root) -> DF w w.heap.size aD ρ' O (ku ps i x) (xs.map a.eval)
 | [],[],L,k,C,h=>by
  injection C with C;subst C;exact⟨(),h,trivial,rfl,λ_ _ _ _ _ _ _ _ _ _ _ _=>trivial⟩
 | .v b t :: ps,x :: xs,L,k,C,h=>by
  have rS:jC σ ps xs=some L:=by
   unfold jC at C;split at C
   next T Y D I=>exact(uU D).elim
   next Y D I=>rw[I];exact C
   ·cases C
  unfold jD at h;obtain⟨p,I,hp⟩:=anQ (w0:=w0) (N:=N) h;cases hb:p.1==b with
  |false=>rw[hb]at I;cases I
  | true=>
   rw[hb,aq]at I;have hb:p.1=b:=by simpa using hb
   subst hb;split at I
   ·rename_i y U;obtain⟨ys,h3,h4,h5,h6⟩:=MO ps xs L _ rS I
    refine⟨(y,ys),h3,h4,?_,λaj ρ a w aD ρ' hR hS O i hi Z=>⟨?_,h6 aj ρ a w aD ρ' hR hS O i hi Z⟩⟩
    ·simp[ku,h5]
    ·have uT:=hp aj ρ a w aD hR hS _ (hR.aK x);have hk:=lW t 0 p.2 y U;generalize a.eval x=ux at uT ⊢;rcases uT with ⟨_,_,us,hu,hs,hr⟩ | ⟨g,c,cs,pv,uT⟩
     case f=>
      have he:∀(j:Nat) z,(enc t 0 y)[j]?=some z -> z.aI=true:=λj z E=>pE t 0 y (by omega) j z E
      obtain⟨c',eV,e,hw⟩:=anP hk.1 hk.2;rw[e]at he ⊢;exact⟨pv,rfl,uT.th hw λj z E=>he (j+2) z (by simpa using E)⟩
     have nq:∀ (j:Nat) z,(enc t 0 y)[j]?=some z -> ∃ v,us[j]?=some v/\z.aI=true/\RV w w.heap.size aD [] z v:=by
      intro j z E;have hj:j<p.2.length:=by rw[hk.1];exact(dQ.1 E).1
      obtain⟨v,hv,fJ⟩:=hr j _ (bS hj);exact⟨v,hv,pE t 0 y (by omega) j z E,fJ.wk (hk.2 j _ z (bS hj) E)⟩
     have hlen:us.size=(enc t 0 y).length:=hs.trans hk.1;obtain⟨b,vs⟩:=p;cases b with
     | true=>
      show RA _ _ _ _ (.agg ((enc t 0 y).map .v)) _
      refine⟨us,hu,by rw[eM];exact hlen,λj z E=>?_⟩
      rw[eJ]at E;cases Dh:(enc t 0 y)[j]? with
      |none=>rw[Dh]at E;cases E
      | some z'=>
       rw[Dh]at E;injection E with E;subst E;obtain⟨v,hv,g1,g2⟩:=nq j z' Dh;exact⟨v,hv,g1,g2⟩
     | false=>
      have hu:us = #[ux]:=hu;subst hu;show RA _ _ _ _ (TF O (.pt (false,enc t 0 y))) _
      match he:enc t 0 y,nq,hlen with
      | [z],nq,_=>
       obtain⟨v,hv,g1,g2⟩:=nq 0 z rfl;have:ux=v:=by simpa using hv
       rw[this];exact⟨g1,g2⟩
      |[],_,_=>trivial
      |_::_::_,_,hlen=>exact absurd hlen (by simp)
   ·cases I
 | .p t g off :: ps,x :: xs,L,k,C,h=>by
  unfold jC at C;split at C
  ·rename_i T Y D I;injection C with C;subst C;have D:=uU D;cases T with
   |sl=>exact D.elim
   | aC r cs vs=>
    have D:aK σ x = .aO r off/\zi σ (.aC r cs vs):=D;unfold jD at h;split at h
    ·rename_i y U;cases hg:Nat.beq (g % 2) 0 with
     |false=>rw[hg]at U;cases U
     | true=>
      rw[hg,aq]at U;obtain⟨ys,h3,h4,h5,h6⟩:=MO ps xs Y _ I h
      refine⟨(y,ys),h3,⟨⟨lW t g _ y U,anS hg⟩,h4⟩,by simp[ku,GS 1 0,h5],λaj ρ a w aD ρ' hR hS O i hi Z=>⟨?_,?_⟩⟩
      ·have GU:=hi 0 _ rfl;rw[Nat.add_zero]at GU;have hx:=hR.aK x;rw[D.1]at hx;obtain⟨b,o,e1,e2⟩:=hx;show RA _ _ _ _ (match O[i]? with|some (.aC _)=>.aO (nF i) off|some (.sl _)=>.lf (.own [nF i])|none=>.undef) _;rw[GU];have iU:=Z 0 _ rfl;rw[Nat.add_zero]at iU;exact⟨b,o,iU.trans e1,e2⟩
      ·refine h6 aj ρ a w aD ρ' hR hS O (i+1) (λj z E=>?_) (λj T jS=>?_)
       ·rw[show i+1+j=i+(j+1) by omega];exact hi _ z E
       ·rw[show i+1+j=i+(j+1) by omega];exact Z _ T jS
    ·cases h
  next Y D I=>exact(uU D).elim
  ·cases C
 | .s t g :: ps,x :: xs,L,k,C,h=>by
  unfold jC at C;split at C
  ·rename_i T Y D I;injection C with C;subst C;have D:=uU D;cases T with
   |aC=>exact D.elim
   | sl q y0=>
    have D:aK σ x = .lf (.own [q])/\zi σ (.sl q y0):=D;unfold jD at h;split at h
    ·rename_i y U;cases hg:Nat.beq (g % 2) 0 with
     |false=>rw[hg]at U;cases U
     | true=>
      rw[hg,aq]at U;obtain⟨ys,h3,h4,h5,h6⟩:=MO ps xs Y _ I h
      refine⟨(y,ys),h3,⟨⟨V.F3 U,?_⟩,h4⟩,by simp[ku,GS 1 0,h5],λaj ρ a w aD ρ' hR hS O i hi Z=>⟨?_,?_⟩⟩
      ·show Nat.beq ((g+2) % 2) 0=true;simp[*]
      ·have GU:=hi 0 _ rfl;rw[Nat.add_zero]at GU;have hx:=hR.aK x;rw[D.1]at hx;show RA _ _ _ _ (match O[i]? with|some (.aC _)=>.aO (nF i) 0|some (.sl _)=>.lf (.own [nF i])|none=>.undef) _;rw[GU];have iU:=Z 0 _ rfl;rw[Nat.add_zero]at iU;refine⟨hx.1,?_⟩;have I:=hx.2;simp only[cU]at I ⊢;rw[iU];exact I
      ·refine h6 aj ρ a w aD ρ' hR hS O (i+1) (λj z E=>?_) (λj T jS=>?_)
       ·rw[show i+1+j=i+(j+1) by omega];exact hi _ z E
       ·rw[show i+1+j=i+(j+1) by omega];exact Z _ T jS
    ·cases h
  next Y D I=>exact(uU D).elim
  ·cases C
 |[],_::_,L,k,C,h=>by cases C
 |_::_,[],L,k,C,h=>by cases C
end
def mH(c0:Nat):Nat->aa (V×ah Nat)->aa Nat
 |_,[]=>[]
 |n,(_,some q)::C=>q::mH c0 (n+1) C
 |n,(_,none)::C=>(c0+n)::mH c0 (n+1) C
def zj(c0:Nat):Nat->aa Mu->aa Nat
 |_,[]=>[]
 |pos,.aC r _ D::C=>r::(mH c0 (pos+1) D++zj c0 (pos+1+D.length) C)
 |pos,.sl q _::C=>q::zj c0 (pos+1) C
def uV:aa Nat->aa V->aa Nat
 |n::C,x::xs=>bif x.aI then uV C xs else n::uV C xs
 |_,_=>[]
def nB(c0:Nat):Nat->aa Mu->aa In->aa Nat
 |pos,.aC _ _ D::C,.aC xs::outs=>uV (mH c0 (pos+1) D) xs++nB c0 (pos+1+D.length) C outs
 |pos,.sl _ _::C,.sl _::outs=>nB c0 (pos+1) C outs
 |_,_,_=>[]
def oS(ns cn:aa Nat):aa Nat->aa Lf->aa V->aa Lf
 |n::C,l::ls,x::xs=>(bif x.plain then .v x else bif x.aI then l.di ns cn else .own [n])::oS ns cn C ls xs
 |_,_,_=>[]
def tj:aa Nat->aa V->aa (Nat×aV)
 |n::C,x::xs=>bif x.aI then tj C xs else (n,.sl x)::tj C xs
 |_,_=>[]
def lH(ns cn:aa Nat)(c0:Nat):Nat->aa Mu->aa In->aa (Nat×aV)
 |pos,.aC r cs D::C,.aC xs::outs=>(r,.aC (oS ns cn (mH c0 (pos+1) D) cs xs))::(tj (mH c0 (pos+1) D) xs++lH ns cn c0 (pos+1+D.length) C outs)
 |pos,.sl q _::C,.sl y::outs=>bif y.ki then (q,.sl y)::lH ns cn c0 (pos+1) C outs else lH ns cn c0 (pos+1) C outs
 |_,_,_=>[]
def MP:aa Nat->Bool
 |[]=>true
 |n::l=>!cW n l&&MP l
def aaU:In->Bool
 |.aC xs=>xs.all λx=>x.aI ||x.loc
 |.sl y=>y.loc
def iG:ah Tmp->Nat
 |some d=>1000000000100000+1000*d
 |none=>90000
def pL{X:Type}(N:Nat)(σ:S)(C:ah Tmp)(D:gf)(k:S->ah X):ah X:=
 match C with
 |none=>k σ
 |some d=>bif Nat.blt d N then nt σ d D k else none
def DG(N:Nat)(C:aa Mu)(outs:aa In)(cn:aa Nat):Bool:=
 MP cn&&(C.all λD=>!cW D.root cn)&&(cn.all λn=>Nat.blt n N ||Nat.ble 60000 n)&&outs.all aaU
def DH{X:Type}(N:Nat)(σ:S)(C:ah Tmp)(D:aa Mu)(ns cn:aa Nat)(E:gf)(outs:aa In)(k:S->ah X):ah X:=
 bif DG N D outs cn then pL N (σ.di ns cn (lH ns cn (iG C) E.len D outs)) C E k else none
def nX{X:Type}(N:Nat)(σ:S)(D:ah Tmp)(c:nA)(args:aa Operand)(k:S->ah X):ah X:=
 match jC σ c.ps args with
 | some C=>bif once (lG 0 C)&&Nat.ble C.length 40 then
   jD σ ((lG 0 C).map (·.1)) c.ps args C λx=>(match c.F x with
    |some y=>DH N σ D C ((lG 0 C).map (·.1)) (nB (iG D) (eU c.ro y.1).len C (jf (eG c.ps) y.2)) (eU c.ro y.1) (jf (eG c.ps) y.2) k
    |none=>none)else none
 |none=>none
section
variable {P:Program} {w w':World} {w0:Wd} {B N:Nat} {aj dA aD:bI} {ρ eZ ρ':Nat->Loc} {σ:S} {a:Act} {X:Type} {d:Nat} {r:X} {ns cn:aa Nat} {o:Oper} {rs:aa Nat} {ep:aa (Nat×Nat)}
def aaV{n:Nat}:∀ {l:aa (Nat×Nat)},cW n (l.map (·.1))=false -> l.lookup n=none
 |[],_=>rfl
 | p :: l,h=>by
  simp[List.map_cons,cW,pq]at h;rw[List.lookup_cons];have:(n==p.1)=false:=by
   cases hb:n==p.1 with
   |false=>rfl
   |true =>simp_all
  rw[this];exact aaV h.2
def anU{b:Nat}{k:aa Nat}{n m:Nat}(h:aj b=some k)(C:k.getLast?=some n)(D:ep.lookup n=some m):eF aj ep id b=some (k.dropLast++[m]):=by
 simp[eF,h,C,D]
def anV(C:∀ b k,aj b=some k -> k≠[]):Bh (ep.map (·.1)) aj (eF aj ep id):=by
 refine⟨λb h=>zd h,λb k h=>⟨C b k h,λhl=>?_⟩⟩
 simp[eF,h];cases D:k.getLast? with
 |none=>rfl
 | some n=>
  simp[fW,D]at hl;simp[aaV hl]
def TV{m:Nat -> ah aV}:∀ (cs:aa Lf) (C:aa (V×ah Nat)),qN m cs=some C -> C.length=cs.length /\ ∀ (j:Nat) l,cs[j]?=some l -> ∃ v,C[j]?=some v/\uR m l=some v
 |[],C,h=>by injection h with h;subst h;exact⟨rfl,λj l hl=>by simp at hl⟩
 | c :: cs,C,h=>by
  unfold qN at h;split at h
  ·rename_i v D I E;injection h with h;subst h;obtain⟨L,O⟩:=TV cs D E
   grind
  ·cases h
def anW{l:Lf}{v:V}{E:ah Nat}(h:uR σ.m l=some (v,E))(hR:Rl w0 N aj ρ σ a w)(D:Bh ns aj aD){u:Value}(I:dR w w0.heap.size aj ρ l u):
  (E=none /\ ∀B' L,RV w B' aD L v u) \/ (∃q,E=some q/\v.aI=false/\RV w w0.heap.size aj [q] v u):=by
 unfold uR at h;split at h
 ·simp at h;obtain⟨rfl,rfl⟩:=h;exact .inl ⟨rfl,λB' L=>I.2.out D.none D.rest (.inl I.1)⟩
 ·rename_i q;split at h
  ·rename_i y U;have O:=hR.root q _ U;generalize C:aV.sl y=x at O;cases O with
   |aC=>cases C
   |mp=>cases C
   |gh=>cases C
   | sl Y y' Z hr=>
    injection C with C;subst C;have GK:Y=u:=by
     have h2:=I.2;simp only[cU,Z]at h2;simp_all
    subst GK;cases T:y.aI with
    | true=>
     rw[T,aq]at h;obtain⟨rfl,rfl⟩:=h;exact .inl ⟨rfl,λB' L=>hr.out D.none D.rest (.inl T)⟩
    |false =>grind
  ·cases h
 ·cases h
def aaW{i:Nat}{v:V}{q:Nat}:∀ (D:aa (V×ah Nat)) (C j:Nat),D[j]?=some (v,some q) -> (q,60000+1000*i+(C+j))∈DE i C D
 |[],C,j,h=>by simp at h
 | (I,E) :: D,C,j,h=>by
  cases j with
  | zero=>
   obtain⟨rfl,rfl⟩:=h;exact .head _
  | succ j=>
   have:=aaW (i:=i) D (C+1) j (by simpa using h);rw[show C+1+j=C+(j+1) by omega]at this;cases E with
   |none=>exact this
   |some L=>exact .tail _ this
def TW{i:Nat}:∀ (cs:aa V) (C:Nat),(zg i C cs).length=cs.length
 |[],_=>rfl
 |c::cs,C=>by simp[zg,TW cs]
def RV.mD{q:aa Nat}{x:V}{u:Value}(h:RV w B aj q x u)(C:x.plain=false)(D:x.ki=true):mD u=true:=by
 cases h<;>first|rfl|cases C|cases D
def Wk.TX{x y:V}(h:Wk x y)(C:x.aI=false):y.aI=false:=by
 cases h with
 |same=>exact C
 |nil=>cases C
 |q=>exact C
 |gr t o D E l I L=>simp[V.aI];omega
def TY(hR:Rl w0 N aj ρ σ a w)(hS:Bh ns aj (eF aj ep id)):∀ (I:aa Mu) (O:aa In) (i:Nat),(∀ p∈lG i I,ep.lookup p.1=some p.2) -> (∀ j E,I[j]?=some E -> rs[i+j]?=some E.root) -> (∀ E∈I,zi σ E) -> GR I O -> i+I.length <= 40 ->
  oR w w.heap.size (eF aj ep id) (wP w ρ rs) i O
 |[],[],_,_,_,_,_,_=>trivial
 |[],_::_,_,_,_,_,h,_=>h.elim
 |.aC _ _ _::_,[],_,_,_,_,h,_=>h.elim
 |.sl _ _::_,[],_,_,_,_,h,_=>h.elim
 |.aC _ _ _::_,.sl _::_,_,_,_,_,h,_=>h.elim
 |.sl _ _::_,.aC _::_,_,_,_,_,h,_=>h.elim
 | .aC r cs vs :: I,.aC xs :: O,i,T,Z,jS,hrel,hi=>by
  obtain⟨hm,hg,hlen⟩:=jS _ (.head _);obtain⟨⟨hw,hx⟩,Bi⟩:=hrel;obtain⟨g1,g2⟩:=TV cs vs hg;have U:=Z 0 _ rfl;rw[Nat.add_zero]at U;simp only[List.length_cons]at hi;have oI:xs.length=cs.length:=by rw[<- hw.1,eM,g1]
  have fF:=hR.root r _ hm;generalize C:aV.aC cs=z at fF;cases fF with
  |sl=>cases C
  |mp=>cases C
  |gh=>cases C
  | aC b off cells e eV us cO hl hh hs hc=>
   injection C with C;subst C;have nq:∀ (j:Nat) x,xs[j]?=some x -> cells[off+j]?=some (us j)/\RV w w.heap.size (eF aj ep id) [nC i j x] x (us j)/\(x.plain=false -> wP w ρ rs (nC i j x) = .dH (us j)):=by
    intro j x L;have wu:j<cs.length:=by rw[<- oI];exact(dQ.1 L).1
    obtain⟨v,hv,GV⟩:=g2 j _ (bS wu);obtain⟨c1,Y⟩:=hc j _ (bS wu);obtain⟨v,qo⟩:=v;have TZ:Wk v x:=hw.2 j v x (by rw[eJ,hv];rfl) L;obtain⟨T0,Gi⟩:=hx x (gX L)
    refine⟨c1,?_,λD=>?_⟩
    ·rcases anW GV hR hS Y with ⟨rfl,h1⟩ | ⟨q,rfl,hf,h1⟩
     ·exact(h1 _ _).wk TZ
     ·have TN:=TZ.TX hf;have hq:=T _ (.tail _ (List.mem_append_left _ (aaW vs 0 j hv)));rw[fh]at hq;have h2:=(RV.eF (nm:=id) (p:=[]) h1 hq).wk TZ;have e1:nC i j x=60000+1000*i+j:=by simp[nC,TN]
      rw[e1];exact h2.reB Gi
    ·exact anN U (by omega) (by omega) cO (by rw[cell_of_row w b _ cells _ _ hh];exact c1)
   refine⟨.aC b off cells e _ us ((GQ U (by omega)).trans cO) ?_ hh (by rw[TW,oI];exact hs) (λj z C=>?_),λj x L D=>?_,TY hR hS I O (i+1) (λp D=>T p (.tail _ (List.mem_append_right _ D))) (λj E Bj=>?_) (λE h=>jS E (.tail _ h)) Bi (by omega)⟩
   ·exact anU hl rfl (T _ (.head _))
   ·have L:j<xs.length:=by rw[<- TW (i:=i) xs 0];exact(dQ.1 C).1
    have zk:=TQ (i:=i) xs 0 j _ (bS L);rw[C]at zk;injection zk with zk;subst zk;rw[fh];obtain⟨c1,Y,c3⟩:=nq j _ (bS L);refine⟨c1,?_⟩;cases D:(xs[j]).plain with
    | true=>
     have e1:zf i j xs[j] = .v xs[j]:=by simp[zf,D]
     rw[e1];exact⟨V.Ge D,Y.sS D⟩
    | false=>
     have e1:zf i j xs[j] = .own [nC i j xs[j]]:=by simp[zf,D]
     rw[e1];exact⟨Y.mD D (hx _ (cS _)).1,by simp only[cU,c3 D]⟩
   ·obtain⟨c1,Y,c3⟩:=nq j x L;exact .sl _ x (c3 D) Y
   ·have:=Z (j+1) E (by simpa using Bj);rw[show i+(j+1)=i+1+j by omega]at this;exact this
 | .sl q y :: I,.sl y' :: O,i,T,Z,jS,hrel,hi=>by
  obtain⟨hm,hf⟩:=jS _ (.head _);obtain⟨⟨hw,hx⟩,Bi⟩:=hrel;have U:=Z 0 _ rfl;rw[Nat.add_zero]at U;simp only[List.length_cons]at hi;have fF:=hR.root q _ hm;generalize C:aV.sl y=z at fF;cases fF with
  |aC=>cases C
  |mp=>cases C
  |gh=>cases C
  | sl v y0 cO hr=>
   injection C with C;subst C
   refine⟨.sl v y' ((GQ U (by omega)).trans cO) ?_,TY hR hS I O (i+1) (λp D=>T p (.tail _ D)) (λj E Bj=>?_) (λE h=>jS E (.tail _ h)) Bi (by omega)⟩
   ·exact((RV.eF (p:=[]) hr (T _ (.head _))).wk hw).reB hx
   ·have:=Z (j+1) E (by simpa using Bj);rw[show i+(j+1)=i+1+j by omega]at this;exact this
end
def T1:Loc->Nat×Nat
 |.aC b off=>(b,off)
 |.dH _=>(0,0)
 |.bT _=>(0,0)
def zl(w:World)(b off:Nat):Nat->aa Nat->aa V->aa (Nat×Value)
 |j,n::C,x::xs=>bif x.aI then zl w b off (j+1) C xs else (n,(w.cell? ⟨b,off+j,none⟩).getD undef)::zl w b off (j+1) C xs
 |_,_,_=>[]
def r3(w:World)(ρ:Nat->Loc)(c0:Nat):Nat->aa Mu->aa In->aa (Nat×Value)
 |pos,.aC r _ D::C,.aC xs::outs=>zl w (T1 (ρ r)).1 (T1 (ρ r)).2 0 (mH c0 (pos+1) D) xs++r3 w ρ c0 (pos+1+D.length) C outs
 |pos,.sl _ _::C,.sl _::outs=>r3 w ρ c0 (pos+1) C outs
 |_,_,_=>[]
def aaX(l:aa (Nat×Value))(ρ:Nat->Loc):Nat->Loc:=λn=>match l.lookup n with
 |some v=>.dH v
 |none=>ρ n
def T2{w:World}{b off:Nat}:∀ (C:aa Nat) (xs:aa V) (j:Nat),(zl w b off j C xs).map (·.1)=uV C xs
 |[],[],_=>rfl
 |[],_::_,_=>rfl
 |_::_,[],_=>rfl
 | n :: C,x :: xs,j=>by
  simp[zl,uV];cases x.aI with
  |true=>exact T2 C xs _
  |false=>simp;rw[T2]
def MQ{w:World}{ρ:Nat -> Loc}{c0:Nat}:∀ (C:aa Mu) (outs:aa In) (D:Nat),(r3 w ρ c0 D C outs).map (·.1)=nB c0 D C outs
 | .aC r _ E :: C,.aC xs :: outs,D=>by
  simp[r3,nB,List.map_append];rw[T2,MQ]
 | .sl _ _ :: C,.sl _ :: outs,D=>by
  simp only[r3,nB];exact MQ C outs _
 |[],_,_=>by simp[r3,nB]
 |.aC _ _ _::_,[],_=>rfl
 |.sl _ _::_,[],_=>rfl
 |.aC _ _ _::_,.sl _::_,_=>rfl
 |.sl _ _::_,.aC _::_,_=>rfl
def aaY{n:Nat}:∀ {l:aa (Nat×Value)},cW n (l.map (·.1))=false -> l.lookup n=none
 |[],_=>rfl
 | p :: l,h=>by
  simp[List.map_cons,cW,pq]at h;rw[List.lookup_cons];cases hb:n==p.1 with
  |false=>exact aaY h.2
  |true =>simp_all
def aaZ:∀ {l:aa (Nat×Value)},MP (l.map (·.1))=true -> ∀ p∈l,l.lookup p.1=some p.2
 |[],_,p,hp=>by cases hp
 | q :: l,h,p,hp=>by
  simp[List.map_cons,MP,aQ,iq]at h;rw[List.lookup_cons];rcases gJ.1 hp with rfl|hp
  ·simp
  ·cases hb:p.1==q.1 with
   |false=>exact aaZ h.2 p hp
   | true=>
    have e:p.1=q.1:=by simpa using hb
    exact absurd (List.mem_map_of_mem (f:=(·.1)) hp) (by rw[e];exact aaS h.1)
def GW{c0:Nat}:∀ (C:aa (V×ah Nat)) (n:Nat),(mH c0 n C).length=C.length
 |[],_=>rfl
 |(_,some _)::C,n=>by simp[mH,GW]
 |(_,none)::C,n=>by simp[mH,GW C]
def aa0{ns cn:aa Nat}:∀ (C:aa Nat) (ls:aa Lf) (xs:aa V),C.length=ls.length -> xs.length=ls.length -> (oS ns cn C ls xs).length=ls.length /\
  ∀(j:Nat) z,(oS ns cn C ls xs)[j]?=some z -> ∃n l x,C[j]?=some n/\ls[j]?=some l/\xs[j]?=some x/\z=(bif x.plain then .v x else bif x.aI then l.di ns cn else .own [n])
 |[],[],[],_,_=>⟨rfl,λj z D=>by simp[oS]at D⟩
 | n :: C,l :: ls,x :: xs,E,I=>by
  obtain⟨L,O⟩:=aa0 (ns:=ns) (cn:=cn) C ls xs (by simpa using E) (by simpa using I)
  refine⟨by simp[oS,L],λj z D=>?_⟩
  cases j with
  |zero=>simp[oS,List.getElem?_cons_zero,iQ]at D;exact⟨n,l,x,rfl,rfl,rfl,D.symm⟩
  |succ j=>exact O j z (by simpa [oS]using D)
def aa1:∀ (C:aa Nat) (xs:aa V),∀ p∈tj C xs,∃ (j:Nat) (x:V),C[j]?=some p.1/\xs[j]?=some x/\x.aI=false/\p.2 = .sl x
 |[],[],p,hp=>by cases hp
 |[],_::_,p,hp=>by cases hp
 | n :: C,x :: xs,p,hp=>by
  simp[tj]at hp;have rest:p∈tj C xs -> ∃ (j:Nat) (y:V),(n :: C)[j]?=some p.1/\(x :: xs)[j]?=some y/\y.aI=false/\p.2 = .sl y:=λhp=>by
   obtain⟨j,y,E,I,L,O⟩:=aa1 C xs p hp;exact⟨j+1,y,by simpa using E,by simpa using I,L,O⟩
  cases D:x.aI with
  |true=>grind
  | false=>
   rw[D]at hp;rcases gJ.1 hp with rfl|hp
   ·exact⟨0,x,rfl,rfl,D,rfl⟩
   ·grind
def aa2{w:World}{b off n:Nat}{x:V}:∀ (D:aa Nat) (xs:aa V) (C j:Nat),D[j]?=some n -> xs[j]?=some x -> x.aI=false -> (n,(w.cell? ⟨b,off+(C+j),none⟩).getD undef)∈zl w b off C D xs
 |[],_,_,j,h,_,_=>by simp at h
 | m :: D,y :: xs,C,j,E,I,L=>by
  cases j with
  | zero=>
   simp at E I;subst E I;simp only[zl,L];simp_all
  | succ j=>
   have:=aa2 (w:=w) (b:=b) (off:=off) D xs (C+1) j (by simpa using E) (by simpa using I) L;rw[show C+1+j=C+(j+1) by omega]at this;simp[zl]
   grind
section
variable {P:Program} {w w':World} {w0:Wd} {B N:Nat} {aj dA aD:bI} {ρ eZ ρ':Nat->Loc} {σ:S} {a:Act} {X:Type} {d:Nat} {r:X} {ns cn:aa Nat} {o:Oper} {rs:aa Nat} {ep:aa (Nat×Nat)} {nm MR:Nat->Nat} {c0:Nat}
def jQ.zc{nm:Nat -> Nat}:∀ (ps:aa Pt) (off:Nat) (C:aa Value) {B':Nat},jQ w B aj nm off ps C -> B' <= B -> (∀ b,B <= b -> aD b=aj b) -> (∀ b k,aj b=some k -> aD b=some k) -> (∀ n,off <= n -> n<off+(ps.map λp=>p.2.length).sum -> nm n=MR n) -> jQ w B' aD MR off ps C
 |[],_,[],_,h,_,_,_,_=>h
 | p :: ps,off,v :: C,B',h,hB,hl,I,D=>by
  obtain⟨⟨L,us,T,U,Y⟩,Z⟩:=h;simp only[List.map_cons,List.sum_cons]at D
  refine⟨⟨L,us,T,U,λj x E=>?_⟩,jQ.zc ps _ C Z hB hl I (λn h1 h2=>D n (by omega) (by omega))⟩
  obtain⟨O,wq,fJ⟩:=Y j x E;have hj:j<p.2.length:=(dQ.1 E).1;refine⟨O,wq,?_⟩;show RV w B' aD [MR (off+j)] x O;rw[<- D (off+j) (by omega) (by omega)];exact fJ.zc hB hl I (cv.1 L x (gX E))
def T3(hR:Rl w0 N aj ρ σ a w)(hv:td w w' aj dA ρ eZ ns cn)(nW:∀ b k,aD b=some k -> dA b=some k)(oF:∀ b,w.heap.size <= b -> dA b=aD b)(hB:w0.heap.size <= w.heap.size):
  ∀(E:aa Mu) (ins outs:aa In) (i C:Nat),(∀j D,E[j]?=some D -> rs[i+j]?=some D.root) -> (∀D∈E,zi σ D) -> GR E ins -> i+E.length <= 40 -> GM w w' aD (wP w ρ rs) nm i C ins outs ->
  (∀k n,(zj c0 C E)[k]?=some n -> nm (C+k)=n) -> (∀p∈r3 w' ρ c0 C E outs,eZ p.1 = .dH p.2) -> (∀D∈E,cW D.root cn=false) -> outs.all aaU=true -> ∀p∈lH ns cn c0 C E outs,ei w' w0.heap.size dA eZ p.1 p.2
 |[],[],[],_,_,_,_,_,_,_,_,_,_,_,p,hp=>by simp[lH]at hp
 |[],[],_::_,_,_,_,_,_,_,h,_,_,_,_,_,_=>h.elim
 |[],_::_,_,_,_,_,_,h,_,_,_,_,_,_,_,_=>h.elim
 |.aC _ _ _::_,[],_,_,_,_,_,h,_,_,_,_,_,_,_,_=>h.elim
 |.sl _ _::_,[],_,_,_,_,_,h,_,_,_,_,_,_,_,_=>h.elim
 |.aC _ _ _::_,.sl _::_,_,_,_,_,_,h,_,_,_,_,_,_,_,_=>h.elim
 |.sl _ _::_,.aC _::_,_,_,_,_,_,h,_,_,_,_,_,_,_,_=>h.elim
 |.aC _ _ _::_,.aC _::_,[],_,_,_,_,_,_,h,_,_,_,_,_,_=>h.elim
 |.sl _ _::_,.sl _::_,[],_,_,_,_,_,_,h,_,_,_,_,_,_=>h.elim
 |.aC _ _ _::_,.aC _::_,.sl _::_,_,_,_,_,_,_,h,_,_,_,_,_,_=>h.elim
 |.sl _ _::_,.sl _::_,.aC _::_,_,_,_,_,_,_,h,_,_,_,_,_,_=>h.elim
 | .aC r cs I :: E,.aC xs0 :: ins,.aC xs :: outs,i,C,nu,jS,hrel,hi,hO,l8,Bk,oO,U,p,hp=>by
  obtain⟨hm,hg,hlen⟩:=jS _ (.head _);obtain⟨⟨hw,hx⟩,Bi⟩:=hrel;obtain⟨g1,g2⟩:=TV cs I hg;have nQ:=nu 0 _ rfl;rw[Nat.add_zero]at nQ;simp only[List.length_cons]at hi;have T4:xs0.length=cs.length:=by rw[<- hw.1,eM,g1]
  obtain⟨⟨b,off,cells,wO,e,e',Y,h2,h3,h4,h5,h6,h7⟩,T5⟩:=hO;have fF:=hR.root r _ hm;generalize Z:aV.aC cs=z at fF;cases fF with
  |sl=>cases Z
  |mp=>cases Z
  |gh=>cases Z
  | aC b0 T aa3 e0 eV us cO hl hh hs hc=>
   injection Z with Z;subst Z;rw[GQ nQ (by omega)]at Y;have Y:ρ r = .aC b off:=Y;rw[cO]at Y;injection Y with e1 e2;subst e1 e2;have anX:aa3=cells:=by
    rw[hh]at h2;injection h2 with h2;injection h2
   subst anX;have iU:=oO _ (.head _);have DI:eZ r = .aC b0 T:=(hv.eY r iU).trans cO;have sW:nm C=r:=by have:=l8 0 r rfl;rwa [Nat.add_zero]at this
   have anY:∀ (j:Nat) n,(mH c0 (C+1) I)[j]?=some n -> nm (C+1+j)=n:=by
    intro j n hn;have hj:j<(mH c0 (C+1) I).length:=(dQ.1 hn).1;have:=l8 (j+1) n (by simp only[zj,List.getElem?_cons_succ];rw[List.getElem?_append_left hj];exact hn);rw[show C+1+j=C+(j+1) by omega];exact this
   have nq:∀ (j:Nat) x,xs[j]?=some x -> ∃ u,wO[T+j]?=some u/\w'.cell? ⟨b0,T+j,none⟩=some u/\((x.plain=true /\ ∀ (w:World) (B:Nat) (aj:bI) (q:aa Nat),RV w B aj q x u) \/ (x.plain=false/\x.aI=true/\aa3[T+j]?=some u) \/ (x.aI=false/\RV w' w.heap.size aD [nm (C+1+j)] x u)):=by
    intro j x hj;obtain⟨u,hu,hd⟩:=h7 j x hj;exact⟨u,hu,by rw[cell_of_row w' b0 _ wO _ _ h3];exact hu,hd⟩
   have yR:∀ (j:Nat) n x u,(mH c0 (C+1) I)[j]?=some n -> xs[j]?=some x -> x.aI=false -> w'.cell? ⟨b0,T+j,none⟩=some u -> eZ n = .dH u:=by
    intro j n x u hn hxj hf hu;have uO:=aa2 (w:=w') (b:=b0) (off:=T) _ xs 0 j hn hxj hf;rw[fh,hu]at uO;exact Bk (n,u) (by simp only[r3,cO,T1];exact List.mem_append_left _ uO)
   simp only[lH]at hp;rcases gJ.1 hp with rfl|hp
   ·obtain⟨k1,k2⟩:=aa0 (ns:=ns) (cn:=cn) (mH c0 (C+1) I) cs xs (by rw[GW,g1]) (by rw[h6,T4])
    refine .aC b0 T wO e' _ (λj=>wO.getD (T+j) undef) DI (nW _ _ (by rw[h4,sW])) h3 (by show T+(oS _ _ _ _ _).length <= _;rw[k1,<- T4,<- h6];exact h5) (λj z Z=>?_)
    obtain⟨n,l,x,n1,n2,n3,rfl⟩:=k2 j z Z;obtain⟨u,hu,T6,hd⟩:=nq j x n3;have eu:wO.getD (T+j) undef=u:=by rw[iE,hu];rfl
    rw[eu];refine⟨hu,?_⟩;rcases hd with ⟨L,O⟩|⟨L,O,d3⟩|⟨L,O⟩
    ·rw[L,aq];exact⟨V.Ge L,O _ _ _ _⟩
    ·rw[L,O,au,aq];obtain⟨c1,c2⟩:=hc j l n2;rw[c1]at d3;injection d3 with d3;rw[<- d3];exact c2.tf hv
    ·have ze:x.plain=false:=by
      cases ze:x.plain with
      |false=>rfl
      |true=>rw[V.Ge ze]at L;cases L
     rw[ze,L,au,au];exact⟨O.SM L,by simp only[cU,yR j n x u n1 n3 L T6]⟩
   ·rcases List.mem_append.1 hp with hp | hp
    ·obtain⟨j,x,n1,n2,n3,n4⟩:=aa1 _ _ p hp;obtain⟨u,hu,T6,hd⟩:=nq j x n2;rw[n4];refine .sl u x (yR j p.1 x u n1 n2 n3 T6) ?_;rcases hd with ⟨L,O⟩ | ⟨L,O,d3⟩ | ⟨L,O⟩
     ·simp[*]
     ·rw[n3]at O;cases O
     ·rw[anY j _ n1]at O;refine O.zc hB oF nW ?_;rw[List.all_cons,aQ]at U;have:=cv.1 U.1 x (gX n2)
      rwa [n3,Bool.false_or]at this
    ·rw[List.all_cons,aQ]at U
     refine T3 hR hv nW oF hB E ins outs (i+1) (C+1+I.length) (λj D Bj=>?_) (λD h=>jS D (.tail _ h)) Bi (by omega) ?_ (λk n hn=>?_) (λp hp=>Bk p ?_) (λD h=>oO D (.tail _ h)) U.2 p hp
     ·have:=nu (j+1) D (by simpa using Bj);rw[show i+(j+1)=i+1+j by omega]at this;exact this
     ·rw[g1,<- T4];exact T5
     ·have:=l8 (1+I.length+k) n (by
       rw[show 1+I.length+k=(I.length+k)+1 by omega];simp only[zj,List.getElem?_cons_succ];rw[List.getElem?_append_right (by rw[GW];omega),GW];rw[show I.length+k-I.length=k by omega];exact hn)
      rw[show C+1+I.length+k=C+(1+I.length+k) by omega];exact this
     ·simp only[r3];exact List.mem_append_right _ hp
 | .sl q y0 :: E,.sl y1 :: ins,.sl y :: outs,i,C,nu,jS,hrel,hi,hO,l8,Bk,oO,U,p,hp=>by
  obtain⟨hm,hf⟩:=jS _ (.head _);obtain⟨_,Bi⟩:=hrel;have nQ:=nu 0 _ rfl;rw[Nat.add_zero]at nQ;simp only[List.length_cons]at hi;obtain⟨hO1,T5⟩:=hO;rw[List.all_cons,aQ]at U;have sW:nm C=q:=by have:=l8 0 q rfl;rwa [Nat.add_zero]at this
  have hp:(p=(q,.sl y)/\y.ki=true) \/ p∈lH ns cn c0 (C+1) E outs:=by
   simp only[lH]at hp;cases hy:y.ki with
   |false=>rw[hy]at hp;exact .inr hp
   | true=>
    rw[hy]at hp;rcases gJ.1 hp with h|h
    ·grind
    ·simp[*]
  rcases hp with ⟨rfl,hy⟩|hp
  ·obtain⟨v,Y,h2⟩:=hO1.resolve_left (by rintro rfl;cases hy);rw[GQ nQ (by omega)]at Y;rw[sW]at h2;exact .sl v y ((hv.eY q (oO _ (.head _))).trans Y) (h2.zc hB oF nW U.1)
  ·refine T3 hR hv nW oF hB E ins outs (i+1) (C+1) (λj D Bj=>?_) (λD h=>jS D (.tail _ h)) Bi (by omega) T5 (λk n hn=>?_) (λp hp=>Bk p hp) (λD h=>oO D (.tail _ h)) U.2 p hp
   ·have:=nu (j+1) D (by simpa using Bj);rw[show i+(j+1)=i+1+j by omega]at this;exact this
   ·have:=l8 (k+1) n (by simpa [zj]using hn);rw[show C+1+k=C+(k+1) by omega];exact this
end
section
variable {P:Program} {w w':World} {w0:Wd} {B N:Nat} {aj dA aD:bI} {ρ eZ ρ':Nat->Loc} {σ:S} {a:Act} {X:Type} {d:Nat} {r:X} {ns cn:aa Nat} {o:Oper} {rs:aa Nat} {ep:aa (Nat×Nat)} {nm MR:Nat->Nat} {c0:Nat}
def anZ{C:ah Tmp}{D:gf}{k:S -> ah X}(h:pL N σ C D k=some r):∃ Y,k Y=some r /\ ∀ aj ρ a w v,Rl w0 N aj ρ σ a w -> pJ w w0.heap.size aj (λn=>iG C+n) D v -> ∃ ρ',Rl w0 N aj ρ' Y (a.put C v) w /\ ∀ r,r<iG C -> ρ' r=ρ r:=by
 unfold pL at h;cases C with
 |none=>exact⟨σ,h,λaj ρ a w v hR _=>⟨ρ,hR,λ_ _=>rfl⟩⟩
 | some d=>
  have h:(bif Nat.blt d N then (match D with
   | .one p=>(match yM (p.1,nT (1000000000100000+1000*d) p.2)with
    |some y=>k ((mG _ σ p.2).set d y)
    |none=>none)
   |.eX ps=>k ((nU _ σ ps).set d _))else none)=some r:=h
  cases I:Nat.blt d N with
  |false=>rw[I]at h;cases h
  | true=>
   rw[I,aq]at h;have Z:d<N:=cK I;cases D with
   | one p=>
    simp only at h;split at h
    ·rename_i y hy
     refine⟨_,h,λaj ρ a w v hR L=>?_⟩
     obtain⟨ρ',O,T,_,U⟩:=GI [p] (1000000000100000+1000*d) 0 σ ρ [v] (by omega) hR L;have Tz:=U 0 _ v rfl rfl;exact⟨ρ',O.set (S1 hy Tz) Z,T⟩
    ·cases h
   | eX GX=>
    refine⟨_,h,λaj ρ a w v hR L=>?_⟩
    obtain⟨E,rfl,hv⟩:=L;obtain⟨ρ',O,T,hlen,U⟩:=GI GX (1000000000100000+1000*d) 0 σ ρ E.toList (by omega) hR hv
    refine⟨ρ',O.set ⟨E,rfl,by simpa using hlen,λj p hp=>?_⟩ Z,T⟩
    have hj:j<E.size:=by
     have:=(dQ.1 hp).1
     grind
    exact⟨E[j],Array.getElem?_eq_getElem hj,U j p _ hp (by rw[Array.getElem?_toList,Array.getElem?_eq_getElem hj])⟩
def T7{f:Nat}{args:Array Operand}{jR:Array TypeId}{c:nA}{k:S -> ah X}(ho:o.op = .call { callee:=.value (.func f),args,argTypes:=jR })(he:enters P f)(hc:uP P f c)(h:nX N σ o.dst c args.toList k=some r):∃ cY C cn,k cY=some r/\jC σ c.ps args.toList=some C/\(∀ n,cW n cn=true -> n<N \/ 60000 <= n)/\(∀ I∈C,cW I.root cn=false) /\
  ∀a w K Q aj ρ,Rl w0 N aj ρ σ a w -> (∀v w' dA eZ uW,Rl w0 N dA uW cY (a.put o.dst v) w' -> td w w' aj dA ρ eZ ((lG 0 C).map (·.1)) cn -> jq w0 w w' -> (∀r,r<iG o.dst -> uW r=eZ r) -> K (a.put o.dst v) w') -> o.wp P a w K Q:=by
 unfold nX at h;split at h
 ·rename_i C tq;generalize aa4:lG 0 C=ep at h;cases l9:(once ep&&Nat.ble C.length 40)with
  |false=>rw[l9]at h;cases h
  | true=>
   rw[l9,aq]at h;rw[aQ]at l9;have aFP:=cK l9.2;have s7:∀ p∈lG 0 C,ep.lookup p.1=some p.2:=by
    intro p hp;rw[aa4]at hp;have:=cv.1 l9.1 p hp;obtain⟨n,O,he⟩:=(Option.any_eq_true _ _).1 this;simp_all
   obtain⟨x,U,hrel,aFQ,oQ⟩:=MO (w0:=w0) (N:=N) _ _ C _ tq h;clear h;split at U
   ·rename_i y hy;unfold DH at U;generalize oO:nB (iG o.dst) (eU c.ro y.1).len C (jf (eG c.ps) y.2)=cn at U;generalize AY:ep.map (·.1)=ns at U oQ;cases jg:DG N C (jf (eG c.ps) y.2) cn with
    |false=>rw[jg]at U;cases U
    | true=>
     rw[jg,aq]at U;simp only[DG,aQ]at jg;obtain⟨⟨⟨ok1,ok2⟩,ok3⟩,ok4⟩:=jg;obtain⟨cY,h3,MS⟩:=anZ (w0:=w0) U
     refine⟨cY,C,cn,h3,tq,λn O=>?_,λI jS=>by simpa using cv.1 ok2 I jS,λa w K Q aj ρ hR hK=>?_⟩
     ·have:=cv.1 ok3 n (ta.1 O);rw[eA]at this;rcases this with h | h
      ·exact .inl (by have:=cK h;omega)
      ·exact .inr (cK h)
     have Z:Bh ns aj (eF aj ep id):=by rw[<- AY];exact anV (λb k hb=>(hR.cV b k hb).2.2)
     have aa5:=MN _ _ _ tq;let rs:=C.map Mu.root
     have nu:∀ j I,C[j]?=some I -> rs[0+j]?=some I.root:=by
      intro j I hj;rw[fh,eJ,hj];rfl
     have hE:=TY (rs:=rs) hR Z C (ny c.ps x) 0 s7 nu aa5 hrel (by omega);have hA:=oQ aj ρ a w (eF aj ep id) (wP w ρ rs) hR Z (ny c.ps x) 0 (λj z T=>by rw[fh];exact T) (λj I hj=>by
      have h1:=nu j I hj;rw[fh]at h1 ⊢;exact GQ h1 (by have:=(dQ.1 hj).1;omega))
     obtain⟨hA1,Te⟩:=DF.get _ _ hA;let nm:Nat -> Nat:=λn=>if n<(eU c.ro y.1).len then iG o.dst+n else (zj (iG o.dst) (eU c.ro y.1).len C).getD (n-(eU c.ro y.1).len) 0
     have qJ:∀ (ps:aa PK) (i:Nat) (x:lF ps),(ku ps i x).length=ps.length:=by
      intro ps
      induction ps with
      |nil=>intro i x;rfl
      | cons p ps ih=>
       intro i x;cases p with
       |v=>exact bx (· + 1) (ih _ _)
       |p=>exact bx (· + 1) (ih _ _)
       |s=>exact bx (· + 1) (ih _ _)
     unfold Oper.wp;rw[MI w o a f args jR ho he,Oper.upon_enter];have wM:(args.map a.eval)=(args.toList.map a.eval).toArray:=by apply Array.ext';rw[Array.toList_map]
     rw[wM];have MT:∀ b k,eF aj ep id b=some k -> (∃ E,aj b=some E/\fW E ns=true)/\k≠[]:=by
      intro b k hb;cases hl:aj b with
      |none=>rw[Z.none b hl]at hb;cases hb
      | some E=>
       refine⟨⟨E,rfl,?_⟩,?_⟩
       ·cases hq:fW E ns with
        |true=>rfl
        |false=>rw[(Z.rest b E hl).2 hq]at hb;cases hb
       ·simp only[eF,hl]at hb;split at hb
        ·cases hb
        ·cases aa6:ep.lookup _ with
         |none=>rw[aa6]at hb;cases hb
         |some n=>rw[aa6]at hb;injection hb with hb;subst hb;simp
     have hQ:Hd w (eF aj ep id):=w0.on hR.below (λb k hb=>by obtain⟨⟨E,hl,_⟩,_⟩:=MT b k hb;exact(hR.cV b E hl).1)
     refine(hc x y hy nm w (eF aj ep id) (wP w ρ rs) _ hE (λb k hb=>⟨?_,(MT b k hb).2⟩) ?_ Te hQ).mono λe w' qI=>?_
     ·obtain⟨⟨E,hl,_⟩,_⟩:=MT b k hb;exact(hR.cV b E hl).2.1
     ·rw[List.size_toArray,hA1,qJ]
     ·obtain⟨v,D,rfl,Y,DJ,kr,T8⟩:=qI;have hB:=hR.below.size;let dA:bI:=λb=>match eF aj ep id b with
       |none=>if b<w.heap.size then aj b else D b
       |some _=>D b
      have e1:∀ b k,D b=some k -> dA b=some k:=by
       intro b k hb;show (match eF aj ep id b with|none=>if b<w.heap.size then aj b else D b|some _=>D b)=some k;split
       next iU=>have:=(DJ b k hb).1;have oF:=this.resolve_right (λh=>h iU);rw[bO];exact hb
       ·exact hb
      have e2:∀ b,w.heap.size <= b -> dA b=D b:=by
       intro b hb;show (match eF aj ep id b with|none=>if b<w.heap.size then aj b else D b|some _=>D b)=D b;split
       ·rw[bO]
       ·rfl
      have aa7:∀ p∈r3 w' ρ (iG o.dst) (eU c.ro y.1).len C (jf (eG c.ps) y.2),(r3 w' ρ (iG o.dst) (eU c.ro y.1).len C (jf (eG c.ps) y.2)).lookup p.1=some p.2:=
       aaZ (by rw[MQ,oO];exact ok1)
      generalize Bk:r3 w' ρ (iG o.dst) (eU c.ro y.1).len C (jf (eG c.ps) y.2)=hd at aa7;have an0:hd.map (·.1)=cn:=by rw[<- Bk,MQ,oO]
      have hv:td w w' aj dA ρ (aaX hd ρ) ns cn:=by
       refine⟨Y.size,λb hb hk=>?_,λn O=>?_,λb k hb=>(hR.cV b k hb).2⟩
       ·have iU:eF aj ep id b=none:=by
         cases hl:aj b with
         |none=>exact Z.none b hl
         |some k=>exact(Z.rest b k hl).2 (hk k hl)
        refine⟨Y.block b hb iU,?_⟩;show (match eF aj ep id b with|none=>if b<w.heap.size then aj b else D b|some _=>D b)=aj b;rw[iU];exact bN hb
       ·show (match hd.lookup n with|some v=>Loc.dH v|none=>ρ n)=ρ n;rw[aaY (by rw[an0];exact O)]
      have zm:∀I∈C,cW I.root cn=false:=λI jS=>by simpa using cv.1 ok2 I jS
      have GY:=T3 (c0:=iG o.dst) (nm:=nm) hR hv e1 e2 hB C (ny c.ps x) (jf (eG c.ps) y.2) 0 (eU c.ro y.1).len nu aa5 hrel (by omega) T8 (λk n O=>?_) (λp hp=>?_) zm ok4
      ·have aa8:jq w0 w w':=by
        refine⟨Y.os,Y.tape,Y.output,Y.size,λk hk hL=>Y.block k (Nat.lt_of_lt_of_le hk hB) ?_⟩
        cases hl:aj k with
        |none=>exact Z.none k hl
        |some E=>exact absurd hL ((hR.cV k E hl).1.resolve_left (by omega))
       have lE:Rl w0 N dA (aaX hd ρ) (σ.di ns cn (lH ns cn (iG o.dst) (eU c.ro y.1).len C (jf (eG c.ps) y.2))) a w':=by
        refine hR.tf hv aa8 (λb k hb=>?_) (λn O=>?_) (λn z T=>?_)
        ·have hb:(match eF aj ep id b with | none=>if b<w.heap.size then aj b else D b | some _=>D b)=some k:=hb;have aa9:D b=some k -> (w0.heap.size <= b \/ w0.L b≠none)/\b<w'.heap.size/\k≠[]:=by
          intro h1;obtain⟨g1,g2,g3⟩:=DJ b k h1;refine⟨?_,g2,g3⟩;rcases g1 with g1|g1
          ·exact .inl (Nat.le_trans hB g1)
          ·cases iU:eF aj ep id b with
           |none=>exact absurd iU g1
           | some k2=>
            obtain⟨⟨E,hl,_⟩,_⟩:=MT b k2 iU;exact(hR.cV b E hl).1
         split at hb
         ·split at hb
          ·have:=hR.cV b k hb;exact⟨this.1,Nat.lt_of_lt_of_le this.2.1 Y.size,this.2.2⟩
          ·exact aa9 hb
         ·exact aa9 hb
        ·have:=cv.1 ok3 n (ta.1 O);rw[eA]at this;refine hR.dm n ?_;rcases this with h | h
         ·exact .inl (by have:=cK h;omega)
         ·exact .inr (cK h)
        ·have uO:(n,z)∈lH ns cn (iG o.dst) (eU c.ro y.1).len C (jf (eG c.ps) y.2):=by
          clear GY;generalize lH ns cn (iG o.dst) (eU c.ro y.1).len C (jf (eG c.ps) y.2)=l at T
          induction l with
          |nil=>cases T
          | cons p l ih=>
           rw[List.lookup_cons]at T;cases hb:n==p.1 with
           | true=>
            rw[hb]at T;have e:n=p.1:=by simpa using hb
            injection T with T;rw[e,<- T]
            grind
           | false=>
            rw[hb]at T;exact .tail _ (ih T)
         exact GY (n,z) uO
       have an1:pJ w' w0.heap.size dA (λn=>iG o.dst+n) (eU c.ro y.1) v:=?_
       ·obtain⟨uW,GZ,wQ⟩:=MS dA _ a w' v lE an1;exact hK v w' dA _ uW GZ (by rw[aa4,AY];exact hv) aa8 wQ
       have T9:∀(L:Nat),L=(eU c.ro y.1).len -> ∀n,n<L -> nm n=iG o.dst+n:=λL hL n O=>bN
       generalize aFR:eU c.ro y.1=res at kr T9;cases res with
       | one p=>
        have kr:jQ w' w.heap.size D nm 0 [p] [v]:=kr;exact jQ.zc [p] 0 [v] kr hB e2 e1 (λn _ O=>T9 _ rfl n (by simpa [gf.len]using O))
       | eX GX=>
        obtain⟨vs,e,l6⟩:=kr;exact⟨vs,e,jQ.zc GX 0 vs.toList l6 hB e2 e1 (λn _ O=>T9 _ rfl n (by simpa [gf.len]using O))⟩
      ·show (if (eU c.ro y.1).len+k<(eU c.ro y.1).len then iG o.dst+((eU c.ro y.1).len+k)else (zj _ (eU c.ro y.1).len C).getD ((eU c.ro y.1).len+k-(eU c.ro y.1).len) 0)=n;rw[bO,show (eU c.ro y.1).len+k-(eU c.ro y.1).len=k by omega,fj,O];rfl
      ·rw[Bk]at hp;show (match hd.lookup p.1 with|some v=>Loc.dH v|none=>ρ p.1) = .dH p.2;rw[aa7 p hp]
   ·cases U
 ·cases h
def an2{f:Nat}{args:Array Operand}{D:Array TypeId}{c:nA}{k:S -> ah X}(E:o.op = .call { callee:=.value (.func f),args,argTypes:=D })(I:enters P f)(L:uP P f c)(h:nX N σ o.dst c args.toList k=some r):∃ C,k C=some r/\lA P w0 N o σ C:=by
 obtain⟨C,Ua,cn,O,_,_,_,T⟩:=T7 E I L h
 refine⟨C,O,λa w K Q hR U=>?_⟩
 obtain⟨aj,ρ,hR⟩:=hR;exact T a w K Q aj ρ hR λv w' dA eZ Y Z _ _ _=>U _ _ ⟨dA,Y,Z⟩
end
end Go.Proofs.YtglnbhiaknohlaaGreat
