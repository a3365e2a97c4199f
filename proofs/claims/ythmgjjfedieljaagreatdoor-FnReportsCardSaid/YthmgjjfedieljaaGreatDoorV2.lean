/-
  Running the program over pure contents, and that it follows (part 2). Nothing here is a claim.
-/
import Derived.Laws.StructEq
import Derived.Test.YthmgjjfedieljaaGreatDoorV1
set_option linter.unusedSimpArgs false
namespace Go.Proofs.YthmgjjfedieljaaGreatDoor
set_option linter.defProp false
open Go.RowKit
set_option linter.unusedVariables false
def awy{X:Type}(N:Nat)(σ:S)(C:ah Tmp)(c x y:A)(k:S->ah X):ah X:=
 match c with
 |.lf (.v (.bool b))=>bif b then gk N σ C x k else gk N σ C y k
 |_=>none
def EL{X:Type}(P:Program)(s:TypeId)(x:A)(f:Nat)(k:A->ah X):ah X:=
 match EA P s f,x with
 | some C,.agg cs=>(match iB P C.type,BR P C.type with
  |some n,some true=>if C.offset+n<=cs.length then k (.agg ((cs.drop C.offset).take n))else none
  | some _,some false=>(match cs[C.offset]? with
   |some y=>k (.lf y)
   |none=>none)
  |_,_=>none)
 |_,_=>none
def B2{X:Type}(C:Bool)(x y:A)(k:A->ah X):ah X:=
 match x,y with
 |.lf (.v (.int D a)),.lf (.v (.int _ b))=>k (.lf (.v (.int D (bif C then (if b > a then b else a)else (if b<a then b else a)))))
 |_,_=>none
def EM{X:Type}(P:Program)(t:TypeId)(x i:A)(k:A->ah X):ah X:=
 match x,i with
 | .lf (.v (.str s)),.lf (.v (.int _ C))=>(match P.underlying t with
  |some .string=>if h:0<=C/\C.toNat<s.size then k (.lf (.v (.int .u8 ((s[C.toNat]'h.2).toNat:Int))))else none
  |_=>none)
 |_,_=>none
def rK{X:Type}(x:ah A)(d:Int)(k:Int->ah X):ah X:=
 match x with
 |none=>k d
 |some (.lf (.v (.int _ n)))=>k n
 |_=>none
def uV{X:Type}(P:Program)(t:TypeId)(x:A)(lo hi:ah A)(k:A->ah X):ah X:=
 match x with
 | .lf (.v (.str s))=>(match P.underlying t with
  |some .string=>rK lo 0 λl=>rK hi (s.size:Int) λh=>if 0<=l/\l<=h/\h<=(s.size:Int)then k (.lf (.v (.str (s.extract l.toNat h.toNat))))else none
  |_=>none)
 | .lf (.v (.sl C g D l))=>(match oq P t with
  | some e=>(match iB P e with
   |some n=>if n=aA C then (bif Nat.blt g 2 then rK lo 0 λa=>rK hi (l.length:Int) λb=>if 0<=a/\a<=b/\b<=(l.length:Int)then k (.lf (.v (.sl C g false ((l.take b.toNat).drop a.toNat))))else none else none)else none
   |none=>none)
  |none=>none)
 |_=>none
def B3(P:Program)(C D:TypeId):Bool:=
 match P.underlying C,P.underlying D with
 | some (.slice e),some .string=>(match P.underlying e with
  |some (.int .u8)=>true
  |_=>false)
 |_,_=>false
def JX{X:Type}(P:Program)(C D:TypeId)(z:V)(k:A->ah X):ah X:=
 match z with
 |.sl .u8 _ _ l=>bif B3 P C D then k (.lf (.v (.str (strOfNums l))))else none
 |.nil=>bif B3 P C D then k (.lf (.v (.str (strOfNums []))))else none
 |_=>none
def w5{X:Type}(P:Program)(σ:S)(C D:TypeId)(x:A)(k:A->ah X):ah X:=
 match x with
 | .lf (.v (.int _ n))=>(match P.underlying C,P.underlying D with
  |some _,some (.int E)=>k (.lf (.v (.int E (E.wrap n))))
  |_,_=>none)
 |.lf y=>nK σ y λz=>JX P C D z k
 |_=>none
section
variable {P:Program} {w w':World} {w0:Wd} {B N:Nat} {lab ax:bg} {ρ ρ':Nat->Loc} {σ:S} {a:Act} {X:Type} {d:Nat} {r:X} {o:Oper}
def awz{α:Type}(f:α -> aa Value)(s:Nat)(C:∀ x,(f x).length=s)(l:aa α):(l.flatMap f).length=l.length*s:=by
 induction l with
 |nil=>simp
 |cons a l D=>grind
def aha{α:Type}(f:α -> aa Value)(s:Nat)(D:∀ x,(f x).length=s):∀ (l:aa α) (k:Nat) (C:k<l.length) (j:Nat),j<s -> (l.flatMap f)[k*s+j]?=(f l[k])[j]?:=by
 intro l
 induction l with
 |nil=>simp_all
 | cons a l E=>
  intro k C j F;rw[List.flatMap_cons];cases k with
  |zero=>grind
  |succ k =>grind
def Wa(z:Array Value)(s n:Nat)(C:z.size=s)(E:0<s):(madeCells z (n*s)).toList=(List.replicate n z.toList).flatten:=by
 have e:(List.replicate n z.toList).flatten=(List.replicate n ()).flatMap (λ_=>z.toList):=by
  rw[List.flatMap_def,List.map_replicate]
 rw[e];have hl:((List.replicate n ()).flatMap (λ_=>z.toList)).length=n*s:=by
  simp_all
 apply List.ext_getElem?;intro i;rcases Nat.lt_or_ge i _ with hi|hi
 ·have F:i / s<n:=Nat.div_lt_of_lt_mul (by rw[Nat.mul_comm];exact hi);have I:i % s<s:=Nat.mod_lt _ E;have L:i=i / s*s+i % s:=by rw[Nat.mul_comm];exact(Nat.div_add_mod i s).symm
  have D:=aha (λ_=>z.toList) s (λ_=>by simpa using C) (List.replicate n ()) (i / s) (by simpa using F) (i % s) I;rw[<- L]at D;rw[D];have O:i % s<z.size:=by omega
  simp only[madeCells,Array.toList_map,Array.toList_range,dI,List.getElem?_range hi,Option.map_some,C];simp[O]
 ·rw[List.getElem?_eq_none (by rw[jr,size_madeCells];exact hi),List.getElem?_eq_none (by rw[hl];exact hi)]
def ahb{t:TypeId}{len:Nat}{parts:Array (Nat×Operand)}{k:S -> ah X}(h:w4 P N σ d t len parts.toList k=some r):∃ cN,k cN=some r /\ ∀ lab ρ a w,Rl w0 N lab ρ σ a w ->
  ∃w' ax ρ' v,(Instr.buildSlice t len (parts.map λ(i,x)=>(i,a.eval x))).run P w = .ok v w'/\Rl w0 N ax ρ' cN (a.put (some d) v) w':=by
 unfold w4 at h;split at h
 ·rename_i e C nM;obtain⟨fK,ht,i,hi,U,ir⟩:=uQ nM;split at h
  ·rename_i z hz;cases O:(Nat.beq (full C) 0&&Nat.beq z.cells.size (aA C)&&Nat.blt (len*aA C) 16777217)with
   |false=>rw[O]at h;cases h
   | true=>
    rw[O,aj]at h;simp only[aH]at O;have hf:=cv O.1.1;have lH:=cv O.1.2;have hsm:len*aA C<16777217:=by have:=cr O.2;omega
    have nN:i.zero=some z:=by unfold zeroOf at hz;simpa [hi]using hz
    split at h
    ·rename_i cs kH;split at h
     ·rename_i vs jX;split at h
      ·rename_i l hl;obtain⟨hd,h⟩:=kJ h
       refine⟨_,h,λlab ρ a w hR=>?_⟩
       obtain⟨zE,uO,fT⟩:=JW C 0 len vs l hl;have Pn:dR w w0.heap.size lab ρ (List.replicate len (z.cells.toList.map mw)).flatten (madeCells z.cells (len*aA C)):=by
        have e1:(List.replicate len (z.cells.toList.map mw)).flatten=((List.replicate len z.cells.toList).flatten).map mw:=by
         rw[List.map_flatten,List.map_replicate]
        rw[e1,<- Wa z.cells (aA C) len lH (mh C)]
        refine⟨by simp,λj x D=>?_⟩
        rw[dI]at D;cases F:(madeCells z.cells (len*aA C)).toList[j]? with
        |none=>rw[F]at D;cases D
        | some v=>
         rw[F]at D;injection D with D;subst D;exact⟨v,by simpa using F,JP v⟩
       obtain⟨I,uW,eG⟩:=JV (w:=w) (B:=w0.heap.size) (lab:=lab) (ρ:=ρ) _ _ _ (parts.toList.map λp=>(p.1,a.eval p.2)) cs kH Pn (by simp) (λj p q L Y=>by
        rw[dI]at L Y;cases D:parts.toList[j]? with
        |none=>rw[D]at L;cases L
        | some x=>
         rw[D]at L Y;injection L with L;injection Y with Y;subst L Y;exact⟨rfl,hR.aE x.2⟩)
       have EN:=EK cs vs jX;have Po:I.size=len*aA C:=by rw[eG.1,EN,eE,uO]
       have dZ:(Instr.buildSlice t len (parts.map λ(i,x)=>(i,a.eval x))).run P w = .ok (.slice (some ⟨w.heap.size,0,none⟩) len len) (w.alloc (.cells I e)):=by
        have EJ:(parts.map λ(i,x)=>(i,a.eval x)).toList=parts.toList.map λp=>(p.1,a.eval p.2):=by simp
        by_cases h0:len*aA C=0
        ·have hm:madeCells z.cells (len*aA C) = #[]:=by rw[h0];simp[madeCells]
         rw[hm]at uW;have Pp:len*i.size=0:=by rw[U];exact h0
         rw[<- U]at uW;have e0:∀f:Nat -> Value,Array.map f (Array.range 0) = #[]:=λf=>by simp
         simp only[Instr.buildSlice,fA,fW fK,sizeOf,typeInfo];simp[hi,Pp];rw[e0,uW];simp[newRow]
        ·exact run_buildSlice (P:=P) w t e len _ I i z fK hi nN (by rw[U];omega) (by rw[U];exact h0) (by rw[U,EJ];exact uW)
       refine⟨_,bE lab w.heap.size (some [d]),bE ρ d (.cO (.slice (some ⟨w.heap.size,0,none⟩) len len)),_,dZ,(hR.zw (hR.cY d (.inl hd)) (λr Z=>bZ _ _ _ Z) (.sl _ _ (bF _ _ _) ?_)).set ⟨rfl,by simp[cC,bF]⟩ hd⟩
       have nL:∀ E (T:E<l.length) j x,(enc C 0 l[E])[j]?=some x -> ∃ v,I[E*aA C+j]?=some v /\ ∀ (w':World) (B':Nat) (ax:bg) (q':aa Nat),RV w' B' ax q' x v:=by
        intro E T j x D;obtain⟨y,hy,hw⟩:=fT E T j x D;obtain⟨v,F,Z⟩:=eG.2 (E*aA C+j) (.v y) (by rw[EN,dI,hy];rfl);exact⟨v,F,λw' B' ax q'=>(Z.2.wk hw).rz (wM C 0 l[E] hf x (fP D))⟩
       have:=RV.own (w:=w.alloc (.cells I e)) (B:=w0.heap.size) (lab:=bE lab w.heap.size (some [d])) [d] C 0 true l w.heap.size len I (λi j=>(I[i*aA C+j]?).getD undef)
        (bF _ _ _) (by rw[ht];exact heap_alloc_new w _) Po (by omega) ⟨by have:=Nat.le_mul_of_pos_right len (mh C);unfold maxLen;omega,λ_=>zE.symm⟩ (λE T j x D=>?_) (λE T j x D=>?_)
       ·rw[zE]at this;exact this
       ·obtain⟨v,F,_⟩:=nL E T j x D;rw[F];rfl
       ·obtain⟨v,F,Z⟩:=nL E T j x D;rw[F];exact Z _ _ _ _
      ·cases h
     ·cases h
    ·cases h
  ·cases h
 ·cases h
def Wb{C:Bool}{x y:A}{k:A->ah X}(h:B2 C x y k=some r):∃ z,k z=some r/\∀ (w:World) (B:Nat) (lab:bg) (ρ:Nat->Loc) (t ty:TypeId) (u v:Value),RA w B lab ρ x u->RA w B lab ρ y v->
  ∃D,((bif C then Builtin.max_ #[t,t] ty #[u,v]else Builtin.min_ #[t,t] ty #[u,v]):Sem Value).run P w = .ok D w/\RA w B lab ρ z D:=by
 unfold B2 at h;split at h
 ·refine⟨_,h,λw B lab ρ t ty u v E F=>?_⟩
  obtain rfl:=E.2.fS;obtain rfl:=F.2.fS;cases C with
  |true=>exact⟨_,by simp[Builtin.max_,Builtin.max2],rfl,.int _ _ _⟩
  |false=>exact⟨_,by simp[Builtin.min_,Builtin.min2],rfl,.int _ _ _⟩
 ·cases h
def ahc{t:TypeId}{x i:A}{k:A->ah X}(h:EM P t x i k=some r):∃ z,k z=some r/\∀ (w:World) (B:Nat) (lab:bg) (ρ:Nat->Loc) (u v:Value),RA w B lab ρ x u->RA w B lab ρ i v->
  ∃C,(Instr.index t u v).run P w = .ok C w/\RA w B lab ρ z C:=by
 unfold EM at h;split at h
 ·rename_i s I L;split at h
  ·rename_i D;split at h
   ·rename_i hb
    refine⟨_,h,λw B lab ρ u v E F=>?_⟩
    obtain rfl:=E.2.om;obtain rfl:=F.2.fS;exact⟨_,by simp[Instr.index,asIntOf,fW D,hb.1,hb.2],rfl,.int _ _ _⟩
   ·cases h
  ·cases h
 ·cases h
def Wc{C D:TypeId}(h:B3 P C D=true):∃ e,P.underlying C=some (.slice e)/\P.underlying D=some .string/\P.underlying e=some (.int .u8):=by
 unfold B3 at h
 grind
def getD_at(l:aa Int)(i:Nat)(hi:i<l.length):l.getD i 0=l[i]:=by rw[fQ,bQ hi];rfl
def RV.toStr{F I e:TypeId}(O:P.underlying F=some (.slice e))(U:P.underlying I=some .string)(Y:P.underlying e=some (.int .u8)){o:Nat}{qn:Bool}{l:aa (T .u8)}{q:aa Nat}{B:Nat}{u:Value}(h:RV w B lab q (.sl .u8 o qn l) u):
  (convert F I u).run P w = .ok (.string (strOfNums l)) w:=by
 generalize C:V.sl .u8 o qn l=y at h;cases h with
 |int=>cases C
 |bool=>cases C
 |str=>cases C
 |nil=>cases C
 | dN q t Z=>
  injection C with D e2 e3 E;subst D;obtain rfl:=eq_of_heq E;rw[run_convert_bytes_nil w F e O Y 0 0 I U];rfl
 | eX q t Z A c ho=>
  injection C with D e2 e3 E;subst D;obtain rfl:=eq_of_heq E;have hl:=run_loadCells_list (P:=P) w A [] (λj v hj=>by simp at hj);rw[run_convert_bytes_string w F I e _ 0 c O Y U];rfl
 | fB q t Z A c ho=>
  injection C with D e2 e3 E;subst D;obtain rfl:=eq_of_heq E;have hl:(loadCells A 0).run P w = .ok (([]:aa Int).map (Value.int .u8)).toArray w:=run_loadCells_list (P:=P) w A [] (λj v hj=>by simp at hj);rw[run_convert_bytes_string w F I e _ 0 c O Y U,run_bytesToString w A 0 c [] hl];rfl
 | aF q t Z Pr l' b off cap uu ho hl hb h1 hcap hc hr=>
  injection C with D e2 e3 E;subst D;obtain rfl:=eq_of_heq E
  refine run_convert_bytes_arg w F e O Y b off _ cap l rfl (λi hi=>?_) I U
  have L:=hc i hi 0 (.int .u8 l[i]) rfl;have h3:=(hr i hi 0 (.int .u8 l[i]) rfl).fS;simp only[aA,Nat.mul_one,Nat.add_zero]at L;have hg:=getD_at (show aa Int from l) i hi;rw[L,h3];exact bu (λz=>some (Value.int .u8 z)) hg.symm
 | own q t Z Pr l' b cap cs uu hl hh nJ hn hm hc hr=>
  injection C with D e2 e3 E;subst D;obtain rfl:=eq_of_heq E
  refine run_convert_bytes_arg w F e O Y b 0 _ cap l rfl (λi hi=>?_) I U
  have L:=hc i hi 0 (.int .u8 l[i]) rfl;have h3:=(hr i hi 0 (.int .u8 l[i]) rfl).fS;simp only[aA,Nat.mul_one,Nat.add_zero]at L;have hg:=getD_at (show aa Int from l) i hi;rw[h3]at L;have h4:w.cell? ⟨b,0+i,none⟩=some (.int .u8 l[i]):=by simp[World.cell?,hh,L]
  rw[h4];exact bu (λz=>some (Value.int .u8 z)) hg.symm
def ahd{E F:TypeId}{x:A}{k:A -> ah X}(h:w5 P σ E F x k=some r):∃ z,k z=some r /\ ∀ lab ρ a w,Rl w0 N lab ρ σ a w -> ∀ u,RA w w0.heap.size lab ρ x u ->
  ∃Z,(convert E F u).run P w = .ok Z w/\RA w w0.heap.size lab ρ z Z:=by
 unfold w5 at h;split at h
 ·rename_i kk n;split at h
  ·rename_i d1 kd hs hd
   refine⟨_,h,λlab ρ a w _ u C=>?_⟩
   obtain rfl:=C.2.fS;exact⟨_,by simp[convert,fW hs,fW hd,Conv.intToInt],rfl,.int _ _ _⟩
  ·cases h
 ·rename_i y _;have key:∃ z,(∀ lab ρ a w,Rl w0 N lab ρ σ a w -> ∀ u,di w w0.heap.size lab ρ y u -> ∃ q,RV w w0.heap.size lab q z u)/\JX P E F z k=some r:=by
   cases y with
   |v z=>exact⟨z,λlab ρ a w _ u C=>⟨[],C.2⟩,h⟩
   |dead=>cases h
   | own q=>
    obtain⟨z,L,h⟩:=qq q _ h
    refine⟨z,λlab ρ a w hR u C=>?_,h⟩
    obtain⟨v,hv,O⟩:=L.ok hR.root;have h3:=C.2
    grind
  obtain⟨z,L,D⟩:=key;clear h;unfold JX at D;split at D
  ·rename_i o qn l;cases I:B3 P E F with
   |false=>simp_all
   | true=>
    rw[I]at D;obtain⟨e,T,U,Y⟩:=Wc I
    refine⟨_,D,λlab ρ a w hR u C=>?_⟩
    obtain⟨q,O⟩:=L lab ρ a w hR u C;exact⟨_,O.toStr T U Y,rfl,.str _ _⟩
  ·cases I:B3 P E F with
   |false=>simp_all
   | true=>
    rw[I,aj]at D;obtain⟨e,T,U,Y⟩:=Wc I
    refine⟨_,D,λlab ρ a w hR u C=>?_⟩
    obtain⟨q,O⟩:=L lab ρ a w hR u C;cases O;exact⟨_,by rw[run_convert_bytes_nil w E e T Y 0 0 F U];rfl,rfl,.str _ _⟩
  ·cases D
 ·cases h
def ahe{s:TypeId}{x:A}{f:Nat}{k:A -> ah X}(h:EL P s x f k=some r):∃ z,k z=some r /\ ∀ (w:World) (B:Nat) (lab:bg) (ρ:Nat -> Loc) (u:Value),RA w B lab ρ x u ->
  ∃U,(Instr.field s u f).run P w = .ok U w/\RA w B lab ρ z U:=by
 unfold EL at h;split at h
 ·rename_i E cs F;have jB:∃ I,P.underlying s=some (.struct I)/\I[f]?=some E:=by
   unfold EA at F;split at F
   ·simp_all
   ·cases F
  obtain⟨I,Y,Z⟩:=jB;split at h
  ·rename_i n L C;split at h
   ·rename_i hle
    refine⟨_,h,λw B lab ρ u D=>?_⟩
    obtain⟨us,rfl,hR⟩:=D;have O:(isAgg E.type).run P w = .ok true w:=by
     unfold BR at C;split at C
     next fs' D=>unfold isAgg;rw[fA,fW D];rfl
     next c e D=>unfold isAgg;rw[fA,fW D];rfl
     ·cases C
     ·cases C
    unfold iB at L;cases hi:P.info? E.type with
    |none=>simp_all
    | some i=>
     have zk:i.size=n:=by simpa [hi]using L
     refine⟨.agg (us.extract E.offset (E.offset+n)),by simp[Instr.field,fW Y,Z,asAgg,part,fA,O,sizeOf,typeInfo,hi,zk],_,rfl,?_,λj y T=>?_⟩
     ·have:=hR.1
      grind
     ·obtain⟨hj,EO⟩:=JG _ _ _ _ _ T;obtain⟨v,hv,hr⟩:=hR.2 _ y EO
      grind
   ·cases h
  ·rename_i n L C;split at h
   ·rename_i y T
    refine⟨_,h,λw B lab ρ u D=>?_⟩
    obtain⟨us,rfl,hR⟩:=D;obtain⟨v,hv,hr⟩:=hR.2 _ y T;have O:(isAgg E.type).run P w = .ok false w:=by
     unfold BR at C;split at C
     ·cases C
     ·cases C
     next d hs ha D=>unfold isAgg;rw[fA,fW D];simp_all
     ·cases C
    exact⟨v,by simp[Instr.field,fW Y,Z,asAgg,part,fA,O,hv],hr⟩
   ·cases h
  ·cases h
 ·cases h
end
def V.val:V->Value
 |.int k n=>.int k n
 |.bool b=>.bool b
 |.str s=>.string s
 |_=>undef
def JY:TypeDesc->V->V->ah Bool
 |.int _,.int k a,.int C b=>if k=C then some (a==b)else none
 |.bool,.bool a,.bool b=>some (a==b)
 |.string,.str a,.str b=>some (a.toList==b.toList)
 |_,_,_=>none
def EP(P:Program)(g:TypeId->aa V->aa V->ah Bool)(xs ys:aa V):aa Field->ah Bool
 |[]=>some true
 | f :: C=>bif f.name == "_" then EP P g xs ys C else (match iB P f.type with
  | some n=>bif Nat.ble (f.offset+n) xs.length then (match g f.type ((xs.drop f.offset).take n) ((ys.drop f.offset).take n),EP P g xs ys C with
   |some a,some b=>some (a&&b)
   |_,_=>none)else none
  |none=>none)
def w6(P:Program):Nat->TypeId->aa V->aa V->ah Bool
 |0,_,_,_=>none
 | n+1,t,xs,ys=>match P.underlying t with
  |some (.struct C)=>bif P.stoodInHeld t ||!Nat.beq xs.length ys.length then none else EP P (w6 P n) xs ys C.toList
  | some d=>(match xs,ys with
   |[x],[y]=>JY d x y
   |_,_=>none)
  |none=>none
def JZ:BinOp->ah Bool
 |.eql=>some false
 |.neq=>some true
 |_=>none
def jC{α:Type}:aa α->Bool
 |[]=>true
 |_=>false
def isStr(P:Program)(t:TypeId):Bool:=match P.underlying t with
 |some (.struct _)=>true
 |_=>false
def w7{X:Type}(P:Program)(σ:S)(D:BinOp)(t:TypeId)(x y:A)(k:A->ah X):ah X:=
 match JZ D,x,y with
 | some C,.agg cs,.agg E=>(match oY cs,oY E with
  | some xs,some ys=>bif P.eqGuardType P.depth t || !isStr P t then none else (match w6 P 20 t xs ys with
   |some b=>k (.lf (.v (.bool (bif C then !b else b))))
   |none=>none)
  |_,_=>none)
 | some C,.lf l,.lf (.v .nil)=>(match oq P t with
  | some _=>nK σ l λz=>(match z with
   |.nil=>k (.lf (.v (.bool (bif C then false else true))))
   |.sl _ _ true _=>k (.lf (.v (.bool (bif C then true else false))))
   |.sl _ _ false l=>bif jC l then none else k (.lf (.v (.bool (bif C then true else false))))
   |_=>none)
  |none=>none)
 |_,_,_=>vK x λa=>vK y λb=>Ex P t D a b λz=>k (.lf (.v z))
section
variable {P:Program} {w w':World} {w0:Wd} {B N:Nat} {lab ax:bg} {ρ ρ':Nat->Loc} {σ:S} {a:Act} {X:Type} {d:Nat} {r:X} {o:Oper}
def ahf{D:TypeDesc}{x y:V}{b:Bool}{t:TypeId}{n:Nat}(C:P.underlying t=some D)(h:JY D x y=some b):(Op.equalIn (n+1) t x.val y.val).run P w = .ok b w:=by
 unfold JY at h;split at h
 ·split at h
  next F _ a k I E=>subst E;injection h with h;subst h;exact run_equalIn_int w n t _ _ _ _ C
  ·cases h
 ·injection h with h;subst h;exact run_equalIn_bool' w n t _ _ C
 ·injection h with h;subst h;exact run_equalIn_string w n t _ _ C
 ·cases h
def rL(P:Program)(t:TypeId)(xs:aa V)(u:Value):Prop:=
 match P.underlying t with
 |some (.struct _)=>u = .agg (xs.map V.val).toArray
 |_=>∃x,xs=[x]/\u=x.val
def We{t:TypeId}{n off:Nat}{xs:aa V}(I:iB P t=some n)(hle:off+n <= xs.length)(L:∃ d,P.underlying t=some d/\(∀ c e,d ≠ .array c e)/\((∀ C,d ≠ .struct C) -> n=1)):
  ∃u,(part t (xs.map V.val).toArray off).run P w = .ok u w/\rL P t ((xs.drop off).take n) u:=by
 obtain⟨d,D,O,T⟩:=L;unfold iB at I;cases hi:P.info? t with
 |none=>grind
 | some i=>
  have U:i.size=n:=by simpa [hi]using I
  by_cases E:∃C,d = .struct C
  ·obtain⟨C,rfl⟩:=E;have F:(isAgg t).run P w = .ok true w:=by
    unfold isAgg;rw[fA,fW D];rfl
   refine⟨.agg ((xs.map V.val).toArray.extract off (off+n)),by simp[part,fA,F,sizeOf,typeInfo,hi,U],?_⟩;unfold rL;rw[D];simp only;congr 1;apply Array.ext';simp[List.map_drop,List.map_take]
  ·have F:(isAgg t).run P w = .ok false w:=by
    unfold isAgg;rw[fA,fW D w];cases d<;>first|rfl|(exfalso;exact E ⟨_,rfl⟩)|(exfalso;exact O _ _ rfl)
   have Y:n=1:=T λC e=>E ⟨C,e⟩
   subst Y;have Z:off<xs.length:=by omega
   have nL:(xs.map V.val).toArray[off]?=some (xs[off]).val:=by simp[Z]
   refine⟨(xs[off]).val,by simp[part,fA,F,nL],?_⟩;have e1:(xs.drop off).take 1=[xs[off]]:=by
    rw[List.drop_eq_getElem_cons];rfl
   unfold rL;rw[D];split
   ·grind
   ·grind
def ahg{n:Nat}{t:TypeId}{xs ys:aa V}{b:Bool}(h:w6 P n t xs ys=some b):∃ d,P.underlying t=some d/\(∀ c e,d ≠ .array c e)/\((∀ C,d ≠ .struct C) -> xs.length=1):=by
 cases n with
 |zero=>cases h
 | succ n=>
  unfold w6 at h;split at h
  ·simp_all
  ·rename_i d F D;split at h
   next x y=>exact⟨d,D,(λc e E=>by subst E;simp[JY]at h),λ_=>rfl⟩
   ·cases h
  ·cases h
def Pu{n:Nat}{xs ys:aa V}(hlen:xs.length=ys.length)(F:∀ t xs ys b,w6 P n t xs ys=some b -> ∀ u v,rL P t xs u -> rL P t ys v -> ∀ k,(Op.equalIn (k+n) t u v).run P w = .ok b w)(k:Nat):∀ (C:aa Field) (b:Bool),EP P (w6 P n) xs ys C=some b ->
  (Op.eqFields (k+n) (xs.map V.val).toArray (ys.map V.val).toArray C).run P w = .ok b w
 | [],b,h=>by
  injection h with h;subst h;simp[Op.eqFields]
 | f :: C,b,h=>by
  unfold EP at h;cases D:f.name == "_" with
  | true=>
   rw[D]at h;have:f.name = "_":=by simpa using D
   simp[Op.eqFields,this,not_true];exact Pu hlen F k C b h
  | false=>
   rw[D,au]at h;have cS:f.name ≠ "_":=by simpa using D
   split at h
   ·rename_i s I;cases E:Nat.ble (f.offset+s) xs.length with
    |false=>simp_all
    | true=>
     rw[E,aj]at h;have E:=cr E;split at h
     ·rename_i c e L h2;injection h with h;subst h;obtain⟨O,T,U,Y⟩:=ahg L;have Z:((xs.drop f.offset).take s).length=s:=by simp;omega
      obtain⟨u,Pv,pg⟩:=We (w:=w) I E ⟨O,T,U,λh=>Z.symm.trans (Y h)⟩;obtain⟨v,ER,uX⟩:=We (w:=w) (xs:=ys) (off:=f.offset) I (by omega) ⟨O,T,U,λh=>Z.symm.trans (Y h)⟩;have hr:=F _ _ _ c L u v pg uX k;have ES:=Pu hlen F k C e h2;simp only[Op.eqFields,cS,ne_eq,not_false_eq_true,if_true,fA,Pv,ER,hr,jO];cases c
      ·simp
      ·simp_all
     ·cases h
   ·cases h
def Wf:∀ (n:Nat) (t:TypeId) (xs ys:aa V) (b:Bool),w6 P n t xs ys=some b -> ∀ u v,rL P t xs u -> rL P t ys v -> ∀ k,(Op.equalIn (k+n) t u v).run P w = .ok b w
 |0,t,xs,ys,b,h=>by cases h
 | n+1,t,xs,ys,b,h=>by
  intro u v C D k;unfold w6 at h;split at h
  ·rename_i O F;cases E:(P.stoodInHeld t || !Nat.beq xs.length ys.length)with
   |true=>simp_all
   | false=>
    rw[E,au]at h;rw[oe,Bool.not_eq_false']at E;have hlen:=cv E.2;unfold rL at C D;rw[F]at C D;simp only at C D;subst C D;have T:P.fieldsOf t=O:=by simp[Program.fieldsOf,F]
    rw[<- Nat.add_assoc,run_equalIn_struct w (k+n) t _ _ (by rw[T];exact F) E.1,T];exact Pu hlen (Wf n) k O.toList b h
  ·rename_i d Y U;split at h
   ·rename_i x y;unfold rL at C D;rw[U]at C D;split at C
    ·simp_all
    ·split at D
     ·simp_all
     ·obtain⟨Z,I,rfl⟩:=C;obtain⟨y',L,rfl⟩:=D;injection I with I;injection L with L;subst I L;exact ahf U h
   ·cases h
  ·cases h
def Wg{cs:aa Lf}{xs:aa V}(h:oY cs=some xs){u:Value}(D:RA w B lab ρ (.agg cs) u):u = .agg (xs.map V.val).toArray:=by
 obtain⟨e,E⟩:=JH _ _ h;obtain⟨us,rfl,T,F⟩:=D;congr 1;apply Array.ext';apply List.ext_getElem?;intro j;rw[ dI,Array.getElem?_toList];cases C:xs[j]? with
 |none =>simp_all
 | some x=>
  obtain⟨v,I,L⟩:=F j _ (by rw[e,dI,C];rfl);rw[I];have:=E x (fP C);have O:=L.2;cases O<;>first|rfl|cases this
def B4{C:BinOp}{D:Bool}(E:JZ C=some D){t e:TypeId}(F:P.underlying t=some (.slice e))(I L:Operand)(A:ah Addr)(n c:Nat):
  (do eqGuard C t I L (.slice A n c) (.slice none 0 0);binOp C t (.slice A n c) (.slice none 0 0):Sem Value).run P w = .ok (.bool (bif D then !A.isNone else A.isNone)) w:=by
 have O:(Op.equal t (.slice A n c) (.slice none 0 0)).run P w = .ok A.isNone w:=by
  have h:∀ d,(Op.equalIn (d+1) t (.slice A n c) (.slice none 0 0)).run P w = .ok A.isNone w:=by
   intro d;cases A<;>simp[Op.equalIn,fW F]
  exact h 9999
 cases C<;>simp[JZ]at E<;>subst E<;>simp[eqGuard,binOp,O]
def ahh{Y:BinOp}{t:TypeId}{x y:A}{k:A -> ah X}(h:w7 P σ Y t x y k=some r):∃ z,k z=some r /\ ∀ lab ρ a w,Rl w0 N lab ρ σ a w -> ∀ C D u v,RA w w0.heap.size lab ρ x u -> RA w w0.heap.size lab ρ y v ->
  ∃Z,(do eqGuard Y t C D u v;binOp Y t u v:Sem Value).run P w = .ok Z w/\RA w w0.heap.size lab ρ z Z:=by
 unfold w7 at h;split at h
 ·rename_i L cs ds I;split at h
  ·rename_i xs ys oZ ET;cases hg:(P.eqGuardType P.depth t || !isStr P t)with
   |true=>simp_all
   | false=>
    rw[hg,au]at h;rw[oe,Bool.not_eq_false']at hg;obtain⟨hg,jB⟩:=hg;split at h
    ·rename_i b hb
     refine⟨_,h,λlab ρ a w hR C D u v E F=>?_⟩
     have E:=Wg oZ E;have F:=Wg ET F;subst E F;have hs:∃ fs,P.underlying t=some (.struct fs):=by
      unfold isStr at jB;split at jB
      ·simp_all
      ·cases jB
     obtain⟨fs,EU⟩:=hs;have T:=Wf (w:=w) 20 t xs ys b hb (.agg (xs.map V.val).toArray) (.agg (ys.map V.val).toArray) (by unfold rL;rw[EU]) (by unfold rL;rw[EU]) 9980;refine⟨.bool (bif L then !b else b),?_,rfl,.bool _ _⟩;rw[fA,run_eqGuard_agg w Y t C D _ _ hg,jO];cases Y<;>simp[JZ]at I<;>subst I
     ·rw[run_eql_struct,T];rfl
     ·rw[run_neq_struct,T];rfl
    ·cases h
  ·cases h
 ·rename_i L l I;split at h
  ·rename_i e he;have U:P.underlying t=some (.slice e):=by
    unfold oq at he;split at he
    ·simp_all
    ·cases he
   obtain⟨z,hz,O⟩:=Pj (w0:=w0) (N:=N) h;clear h;split at O
   ·refine⟨_,O,λlab ρ a w hR C D u v E F=>?_⟩
    obtain⟨q,hq⟩:=hz lab ρ a w hR u E;cases hq;cases F.2;exact⟨_,B4 I U C D none 0 0,rfl,by cases L<;>exact .bool _ _⟩
   ·refine⟨_,O,λlab ρ a w hR C D u v E F=>?_⟩
    obtain⟨q,hq⟩:=hz lab ρ a w hR u E;cases F.2;cases hq with
    |aF _ _ _ _ _ b off cap us ho hl hb h1 hcap hc T=>exact⟨_,B4 I U C D _ _ _,rfl,by cases L<;>exact .bool _ _⟩
    |own=>exact⟨_,B4 I U C D _ _ _,rfl,by cases L<;>exact .bool _ _⟩
    |fB=>exact⟨_,B4 I U C D _ _ _,rfl,by cases L<;>exact .bool _ _⟩
   ·rename_i Z o' l';cases hl:jC l' with
    |true=>simp_all
    | false=>
     rw[hl,au]at O
     refine⟨_,O,λlab ρ a w hR C D u v E F=>?_⟩
     obtain⟨q,hq⟩:=hz lab ρ a w hR u E;cases F.2;cases hq with
     |dN=>cases hl
     |eX=>cases hl
     |aF _ _ _ _ _ b off cap us ho zD hb h1 hcap hc T=>exact⟨_,B4 I U C D _ _ _,rfl,by cases L<;>exact .bool _ _⟩
     |own=>exact⟨_,B4 I U C D _ _ _,rfl,by cases L<;>exact .bool _ _⟩
   ·cases O
  ·cases h
 ·obtain⟨u0,hx,h1⟩:=O2 h;obtain⟨v0,hy,O⟩:=O2 h1;obtain⟨z,h3,hp,hs⟩:=agM O;subst hx hy
  refine⟨_,h3,λlab ρ a w hR C D u v E F=>?_⟩
  obtain⟨Z,dZ,T⟩:=hs w _ lab C D [] [] _ _ E.2 F.2;exact⟨Z,dZ,V.Ez hp,T⟩
/-! Parts of slices that nobody writes. -/
def B5{x:ah A}{C:Int}{k:Int->ah X}(h:rK x C k=some r):∃ n,k n=some r/\(∀ (E:Type) (D:Int->ah E),rK x C D=D n)/\((x=none/\n=C)\/∃ F,x=some (.lf (.v (.int F n)))):=by
 unfold rK at h;split at h
 ·exact⟨_,h,λ_ _=>rfl,.inl ⟨rfl,rfl⟩⟩
 ·exact⟨_,h,λ_ _=>rfl,.inr ⟨_,rfl⟩⟩
 ·cases h
def ahi{t:TypeId}{x:A}{lo hi:ah A}{k:A -> ah X}(h:uV P t x lo hi k=some r):∃ y,k y=some r/\(∀ (I:Type) (F:A -> ah I),uV P t x lo hi F=F y) /\
  ((∃ (s:ByteArray) (l h:Int),x = .lf (.v (.str s))/\P.underlying t=some .string/\((lo=none/\l=0) \/ ∃ C,lo=some (.lf (.v (.int C l))))/\((hi=none/\h=s.size) \/ ∃ C,hi=some (.lf (.v (.int C h))))/\0 <= l/\l <= h/\h <= (s.size:Int)/\y = .lf (.v (.str (s.extract l.toNat h.toNat)))) \/
   ∃(E:TC) (g:Nat) (L:Bool) (xs:aa (T E)) (e:TypeId) (l h:Int),x = .lf (.v (.sl E g L xs))/\oq P t=some e/\iB P e=some (aA E)/\g<2/\((lo=none/\l=0) \/ ∃C,lo=some (.lf (.v (.int C l))))/\((hi=none/\h=xs.length) \/ ∃C,hi=some (.lf (.v (.int C h))))/\0 <= l/\l <= h/\h <= (xs.length:Int)/\y = .lf (.v (.sl E g false ((xs.take h.toNat).drop l.toNat)))):=by
 unfold uV at h;split at h
 ·rename_i s;split at h
  ·rename_i hu;obtain⟨l,O,d1,U⟩:=B5 h;obtain⟨m,D,d2,Y⟩:=B5 O;split at D
   ·rename_i hb
    refine⟨_,D,λI F=>?_,.inl ⟨s,l,m,rfl,hu,U,Y,hb.1,hb.2.1,hb.2.2,rfl⟩⟩
    simp[uV,hu];simp_all
   ·cases D
  ·cases h
 ·rename_i E g L xs;split at h
  ·rename_i e he;split at h
   ·rename_i n hn;split at h
    ·rename_i wW;subst wW;cases Z:Nat.blt g 2 with
     |false=>simp_all
     | true=>
      rw[Z,aj]at h;obtain⟨l,O,d1,U⟩:=B5 h;obtain⟨m,D,d2,Y⟩:=B5 O;split at D
      ·rename_i hb
       refine⟨_,D,λI F=>?_,.inr ⟨E,g,L,xs,e,l,m,rfl,he,hn,cr Z,U,Y,hb.1,hb.2.1,hb.2.2,rfl⟩⟩
       simp[uV,he,hn,if_true,Z,aj];simp_all
      ·cases D
    ·cases h
   ·cases h
  ·cases h
 ·cases h
def ahj{t:TypeId}{x:A}{lo hi:ah A}{k:A->ah X}(h:uV P t x lo hi k=some r):∃ y,k y=some r/\(∀ (X':Type) (k':A->ah X'),uV P t x lo hi k'=k' y)/\
  ∀ (w:World) (B:Nat) (lab:bg) (ρ:Nat->Loc) (u:Value) (O C:ah Value),RA w B lab ρ x u->(∀ a,lo=some a->∃ v,O=some v/\RA w B lab ρ a v)->(lo=none->O=none)->(∀ a,hi=some a->∃ v,C=some v/\RA w B lab ρ a v)->(hi=none->C=none)->
   ∃t',(Instr.sliceAt t u O C none).run P w = .ok t' w/\RA w B lab ρ y t':=by
 obtain⟨y,h1,hd,hc⟩:=ahi h
 refine⟨y,h1,hd,λw B lab ρ u O C U s8 jY J0 B6=>?_⟩
 have bl:∀ {o:ah A} {E:ah Value} {n Y:Int},(∀ a,o=some a->∃ v,E=some v/\RA w B lab ρ a v)->(o=none->E=none)->((o=none/\n=Y)\/∃ F,o=some (.lf (.v (.int F n))))->(E=none/\n=Y)\/∃ F,E=some (.int F n):=by
  intro o E n Y g1 g2 g3;rcases g3 with ⟨e,e'⟩|⟨F,e⟩
  ·exact .inl ⟨g2 e,e'⟩
  ·obtain⟨v,C,hr⟩:=g1 _ e;exact .inr ⟨F,by rw[C,hr.2.fS]⟩
 rcases hc with ⟨s,l,m,rfl,I,Z,e2,b1,b2,b3,rfl⟩|⟨tc,g,qn,xs,e,l,m,rfl,D,hn,hg,Z,e2,b1,b2,b3,rfl⟩
 ·have h5:=bl s8 jY Z;have h6:=bl J0 B6 e2;obtain rfl:=U.2.om;have em:(m.toNat:Int)=m:=Int.toNat_of_nonneg (by omega);refine⟨.string (s.extract l.toNat m.toNat),?_,rfl,.str _ _⟩;rw[run_sliceAt_string w t _ _ _ _ I];have hb0:0<=m:=by omega
  rcases h5 with ⟨rfl,h7⟩|⟨kl,rfl⟩<;>rcases h6 with ⟨rfl,h8⟩|⟨kh,rfl⟩
  all_goals simp_all [Instr.slice,fW I,Instr.sliceBounds,run_sliceBound]
 ·have h5:=bl s8 jY Z;have h6:=bl J0 B6 e2;have I:P.underlying t=some (.slice e):=by
   unfold oq at D;split at D
   next e' s5=>injection D with D;rw[<-D];exact s5
   ·cases D
  have fT:P.elem t=e:=by simp[Program.elem,I]
  have L:P.underlying t=some (.slice (P.elem t)):=by rw[fT];exact I
  have T:(sizeOf (P.elem t)).run P w = .ok (aA tc) w:=by
   unfold iB at hn;cases hi:P.info? e with
   |none=>simp[hi]at hn
   | some i=>
    have:i.size=aA tc:=by simpa [hi]using hn
    simp[sizeOf,typeInfo,fT,hi,this]
  have iL:∃ A n c,u = .slice A n c:=by
   cases U.2 with
   |dN=>exact⟨_,_,_,rfl⟩
   |eX=>exact⟨_,_,_,rfl⟩
   |fB=>exact⟨_,_,_,rfl⟩
   |aF=>exact⟨_,_,_,rfl⟩
   |own=>exact⟨_,_,_,rfl⟩
  obtain⟨A,n,c,rfl⟩:=iL;obtain⟨hp,B7,Pw⟩:=U.2.part (a:=l.toNat) (h:=m.toNat) hg (by omega) (by omega);refine⟨_,?_,by simp[V.aF,hg],hp⟩;rw[run_sliceAt_slice w t _ _ _ _ L];rcases h5 with ⟨rfl,rfl⟩|⟨kl,rfl⟩<;>rcases h6 with ⟨rfl,rfl⟩|⟨kh,rfl⟩
  ·rw[run_slice_all w t A n c L,T,B7];simp
  ·rw[run_slice_h w t A n c L kh m (by omega) (by omega),T];simp
  ·rw[run_slice_l w t A n c L kl l (by omega) (by omega),T,B7];simp
  ·rw[run_slice_lh w t A n c L kl kh l m (by omega) (by omega) (by omega),T];simp
/-! Parts of slices that are owned. -/
def B8{X:Type}(n:Nat)(q:aa Nat)(C:ah Nat)(lo hi:ah A)(y:V)(k:A->ah X):ah X:=
 match y with
 |.sl D _ _ l=>if n=aA D then rK lo 0 λa=>rK hi ((C.getD l.length:Nat):Int) λb=>if 0<=a/\a<=b/\b<=(l.length:Int)then k (.view q n a.toNat b.toNat)else none else none
 |_=>none
def zF{X:Type}(P:Program)(σ:S)(t:TypeId)(q:aa Nat)(C:ah Nat)(lo hi:ah A)(k:A->ah X):ah X:=
 match oq P t with
 | some e=>(match iB P e with
  |some n=>iq σ.m q λy=>B8 n q C lo hi y k
  |none=>none)
 |none=>none
def w8{X:Type}(P:Program)(σ:S)(t:TypeId)(x:A)(lo hi:ah A)(k:A->ah X):ah X:=
 match x with
 |.lf (.own q)=>zF P σ t q none lo hi k
 |.view q _ 0 j=>zF P σ t q (some j) lo hi k
 |x=>uV P t x lo hi k
def ahk{n:Nat}{q:aa Nat}{D:ah Nat}{lo hi:ah A}{y:V}{k:A -> ah X}(h:B8 n q D lo hi y k=some r):∃ (C:TC) (g:Nat) (E:Bool) (xs:aa (T C)) (l h:Int),y = .sl C g E xs/\n=aA C /\
  ((lo=none/\l=0) \/ ∃F,lo=some (.lf (.v (.int F l))))/\((hi=none/\h=((D.getD xs.length:Nat):Int)) \/ ∃F,hi=some (.lf (.v (.int F h))))/\0 <= l/\l <= h/\h <= (xs.length:Int)/\k (.view q n l.toNat h.toNat)=some r /\
  ∀(O:Type) (I:A -> ah O),B8 n q D lo hi y I=I (.view q n l.toNat h.toNat):=by
 unfold B8 at h;split at h
 ·rename_i C g E xs;split at h
  ·rename_i U;obtain⟨l,Y,d1,Z⟩:=B5 h;obtain⟨m,L,d2,e2⟩:=B5 Y;split at L
   ·rename_i hb
    refine⟨C,g,E,xs,l,m,rfl,U,Z,e2,hb.1,hb.2.1,hb.2.2,L,λO I=>?_⟩
    simp[B8,bJ U];simp_all
   ·cases L
  ·cases h
 ·cases h
def Wh{t:TypeId}{q:aa Nat}{Y:ah Nat}{lo hi:ah A}{k:A -> ah X}(h:zF P σ t q Y lo hi k=some r):∃ y,k y=some r /\
  ∀ lab ρ a w,Rl w0 N lab ρ σ a w -> ∀ (D:ah Addr) (n c C:Nat) (O E:ah Value),cC w lab ρ q=some (.slice D n c) -> C=Y.getD n -> C <= n -> (∀ a,lo=some a -> ∃ v,O=some v/\RA w w0.heap.size lab ρ a v) -> (lo=none -> O=none) -> (∀ a,hi=some a -> ∃ v,E=some v/\RA w w0.heap.size lab ρ a v) -> (hi=none -> E=none) ->
   ∃t',(Instr.sliceAt t (.slice D C c) O E none).run P w = .ok t' w/\RA w w0.heap.size lab ρ y t':=by
 unfold zF at h;split at h
 ·rename_i e Z;split at h
  ·rename_i n hn;obtain⟨y0,Px,h2⟩:=qq q _ h;obtain⟨tc,g,qn,xs,l,m,rfl,wW,e1,e2,b1,b2,b3,h3,_⟩:=ahk h2
   refine⟨_,h3,λlab ρ a w hR D n' c C O E iX Py hle s8 jY J0 B6=>?_⟩
   have bl:∀ {o:ah A} {F:ah Value} {n Pz:Int},(∀ a,o=some a -> ∃ v,F=some v/\RA w w0.heap.size lab ρ a v) -> (o=none -> F=none) -> ((o=none/\n=Pz) \/ ∃ I,o=some (.lf (.v (.int I n)))) -> (F=none/\n=Pz) \/ ∃ I,F=some (.int I n):=by
    intro o F n Pz g1 g2 g3;rcases g3 with ⟨e,e'⟩|⟨I,e⟩
    ·grind
    ·obtain⟨v,E,hr⟩:=g1 _ e;exact .inr ⟨I,by rw[E,hr.2.fS]⟩
   have h5:=bl s8 jY e1;have h6:=bl J0 B6 e2;have fK:P.underlying t=some (.slice e):=by
    unfold oq at Z;split at Z
    ·grind
    ·cases Z
   have fT:P.elem t=e:=by simp[Program.elem,fK]
   have L:P.underlying t=some (.slice (P.elem t)):=by rw[fT];exact fK
   have T:(sizeOf (P.elem t)).run P w = .ok n w:=by
    unfold iB at hn;cases hi:P.info? e with
    |none=>grind
    | some i=>
     have:i.size=n:=by simpa [hi]using hn
     simp[sizeOf,typeInfo,fT,hi,this]
   obtain⟨v0,U,jZ⟩:=Px.ok hR.root;rw[iX]at U;injection U with U;subst U;have hf:RV w 0 (λ_=>none) [] (.sl tc 0 qn xs) (.slice D n' c):=jZ.fJ;obtain⟨hp,B7,Pw⟩:=hf.part (a:=l.toNat) (h:=m.toNat) (by omega) (by omega) (by omega);have ahl:((Y.getD xs.length:Nat):Int)=(C:Int):=by rw[Py,B7]
   rw[ahl]at h6;refine⟨sliced D l.toNat m.toNat c n,?_,D,n',c,iX,by omega,by omega,rfl⟩;rw[run_sliceAt_slice w t _ _ _ _ L];rcases h5 with ⟨rfl,rfl⟩|⟨kl,rfl⟩<;>rcases h6 with ⟨rfl,rfl⟩|⟨kh,rfl⟩
   ·rw[run_slice_all w t D C c L,T];simp
   ·rw[run_slice_h w t D C c L kh m (by omega) (by omega),T];simp
   ·rw[run_slice_l w t D C c L kl l (by omega) (by omega),T];simp
   ·rw[run_slice_lh w t D C c L kl kh l m (by omega) (by omega) (by omega),T];simp
  ·cases h
 ·cases h
def ahm{t:TypeId}{x:A}{lo hi:ah A}{k:A -> ah X}(h:w8 P σ t x lo hi k=some r):∃ y,k y=some r /\
  ∀ lab ρ a w,Rl w0 N lab ρ σ a w -> ∀ (u:Value) (C D:ah Value),RA w w0.heap.size lab ρ x u -> (∀ a,lo=some a -> ∃ v,C=some v/\RA w w0.heap.size lab ρ a v) -> (lo=none -> C=none) -> (∀ a,hi=some a -> ∃ v,D=some v/\RA w w0.heap.size lab ρ a v) -> (hi=none -> D=none) ->
   ∃Y,(Instr.sliceAt t u C D none).run P w = .ok Y w/\RA w w0.heap.size lab ρ y Y:=by
 unfold w8 at h;split at h
 ·rename_i q;obtain⟨y,E,F⟩:=Wh h
  refine⟨y,E,λlab ρ a w hR u C D I L O T U=>?_⟩
  have Z:∃ A n c,u = .slice A n c:=by
   have:=I.1;cases u<;>first|cases this;done|exact⟨_,_,_,rfl⟩
  obtain⟨A,n,c,rfl⟩:=Z;exact F lab ρ a w hR A n c n C D I.2 rfl (c9 _) L O T U
 ·rename_i q s j;obtain⟨y,E,F⟩:=Wh h
  refine⟨y,E,λlab ρ a w hR u C D I L O T U=>?_⟩
  obtain⟨A,n,c,iX,_,a2,rfl⟩:=I;have e:sliced A 0 j c s = .slice A j c:=by cases A<;>simp[sliced,Addr.add]
  rw[e];exact F lab ρ a w hR A n c j C D iX rfl a2 L O T U
 ·obtain⟨y,E,_,F⟩:=ahj h;exact⟨y,E,λlab ρ a w _ u C D=>F w _ lab ρ u C D⟩
end
abbrev Pt:=Bool×aa V
def PV(w:World)(B:Nat)(lab:bg)(key:Nat->aa Nat)(p:Pt)(u:Value):Prop:=
 ∃us:Array Value,(match p.1 with|true=>u = .agg us|false=>us = #[u])/\us.size=p.2.length/\∀(j:Nat) x,p.2[j]?=some x->∃v,us[j]?=some v/\RV w B lab (key j) x v
def xb(w:World)(cs:aa V)(u:Value):Prop:=
 ∃b off,u = .pointer (some ⟨b,off,none⟩)/\b<w.heap.size/\∀(j:Nat) x,cs[j]?=some x->∃v,w.cell? ⟨b,off+j,none⟩=some v/\RV w w.heap.size (λ_=>none) [] x v
inductive PA (w:World):Pt->Value->Prop
 |v (p:Pt) (u:Value) (h:PV w w.heap.size (λ_=>none) (λ_=>[]) p u):PA w p u
 |p (c:V) (cs:List V) (u:Value) (h:xb w (c::cs) u):PA w (false,.bool true::c::cs) u
 |f (g:Nat) (c:V) (cs:List V) (u:Value) (h:xb w (c::cs) u):PA w (false,.bool false::.int .i64 (g:Int)::c::cs) (.func (.func g) #[] #[u])
def pn(w:World)(args:aa Pt)(bB:Array Value):Prop:=
 bB.size=args.length/\∀(i:Nat) p,args[i]?=some p->∃u,bB[i]?=some u/\PA w p u
def PA.pv{w:World}{x:V}{u:Value}(h:PA w (false,[x]) u):PV w w.heap.size (λ_=>none) (λ_=>[]) (false,[x]) u:=by
 cases h with
 |v _ _ h=>exact h
def PA.Wi{w:World}{xs:aa V}{u:Value}(h:PA w (true,xs) u):PV w w.heap.size (λ_=>none) (λ_=>[]) (true,xs) u:=by
 cases h with
 |v _ _ h=>exact h
inductive fq where
 |one (p:Pt)
 |ez (ps:List Pt)
def xd(t:TC):Nat->Bool
 |0=>false
 |1=>true
 |o+2=>Nat.ble (full t) o ||Nat.beq (o % 2) 1
def V.loc:V->Bool
 |.sl t o _ _=>xd t o
 |_=>true
def iN(w:World)(B:Nat)(lab:bg)(nm:Nat->Nat):Nat->aa Pt->aa Value->Prop
 |_,[],[]=>True
 |off,p::ps,v::C=>(p.2.all V.loc=true/\PV w B lab (λj=>[nm (off+j)]) p v)/\iN w B lab nm (off+p.2.length) ps C
 |_,_,_=>False
def mz(w:World)(B:Nat)(lab:bg)(nm:Nat->Nat):fq->Value->Prop
 |.one p,v=>iN w B lab nm 0 [p] [v]
 |.ez ps,v=>∃C:Array Value,v = .tuple C/\iN w B lab nm 0 ps C.toList
structure ji where
 run:(X:Type)->List Pt->(fq->Option X)->Option X
def iY(P:Program)(f:Nat)(c:ji):Prop:=
 (∀ args,cu λX k=>c.run X args k)/\∀ args C,c.run fq args some=some C->∀ (nm:Nat->Nat) (w:World) (bB:Array Value),pn w args bB->Hd w (λ_=>none)->
  Calls P f bB w λe w'=>∃v ax,e = .returned v/\Below w.heap.size w w'/\(∀b k,ax b=some k->w.heap.size<=b/\b<w'.heap.size/\k≠[])/\mz w' w.heap.size ax nm C v
def pq{X:Type}(σ:S):aa Lf->(aa V->ah X)->ah X
 |[],k=>k []
 |x::xs,k=>nK σ x λy=>pq σ xs λys=>k (y.fJ::ys)
def mA{X:Type}(σ:S)(x:A)(k:Pt->ah X):ah X:=
 match x with
 |.lf y=>pq σ [y] λC=>k (false,C)
 |.agg ys=>pq σ ys λC=>k (true,C)
 |.view q s i j=>sZ σ q s i j λy=>k (false,[y])
 |.ij (c::cs)=>k (false,.bool true::c.fJ::cs.map V.fJ)
 |_=>none
def td{X:Type}(σ:S)(x:A)(k:Pt->ah X):ah X:=
 match x with
 |.ij (c::cs)=>k (false,.bool true::c.fJ::cs.map V.fJ)
 |.lN f (c::cs)=>k (false,.bool false::.int .i64 (f:Int)::c.fJ::cs.map V.fJ)
 | .aI r j=>(match σ.m r with
  | some (.blk cs)=>pq σ (cs.drop j) λC=>(match C with
   |c::cs=>k (false,.bool true::c::cs)
   |[]=>none)
  |_=>none)
 | .fn f [(r,j)]=>(match σ.m r with
  | some (.blk cs)=>pq σ (cs.drop j) λC=>(match C with
   |c::cs=>k (false,.bool false::.int .i64 (f:Int)::c::cs)
   |[]=>none)
  |_=>none)
 |x=>mA σ x k
def tf{X:Type}(f:A->(Pt->ah X)->ah X)(σ:S):aa Operand->(aa Pt->ah X)->ah X
 |[],k=>k []
 |x::xs,k=>f (aE σ x) λp=>tf f σ xs λps=>k (p::ps)
def zG{X:Type}(σ:S)(xs:aa Operand)(k:aa Pt->ah X):ah X:=tf (td σ) σ xs k
def qx{X:Type}(σ:S)(xs:aa Operand)(k:aa Pt->ah X):ah X:=tf (mA σ) σ xs k
def mB(c:Nat):aa V->aa Lf
 |[]=>[]
 |x::xs=>(bif x.aF then .v x else .own [c])::mB (c+1) xs
def kK(c:Nat)(σ:S):aa V->S
 |[]=>σ
 |x::xs=>kK (c+1) (bif x.aF then σ else (σ.drop c).root c (.sl x)) xs
def qy(c:Nat):aa Pt->aa (Bool×aa Lf)
 |[]=>[]
 |p::ps=>(p.1,mB c p.2)::qy (c+p.2.length) ps
def mC(c:Nat)(σ:S):aa Pt->S
 |[]=>σ
 |p::ps=>mC (c+p.2.length) (kK c σ p.2) ps
def lR{X:Type}(σ:S)(d:Nat)(C:fq)(k:S->ah X):ah X:=match C with
 | .one p=>(match wV (p.1,mB (1000000000100000+1000*d) p.2)with
  |some y=>k ((kK (1000000000100000+1000*d) σ p.2).set d y)
  |none=>none)
 |.ez ps=>k ((mC (1000000000100000+1000*d) σ ps).set d (.ez (qy (1000000000100000+1000*d) ps)))
def qz{X:Type}(N:Nat)(σ:S)(d:Nat)(c:ji)(ev:(aa Pt->ah X)->ah X)(k:S->ah X):ah X:=
 bif Nat.blt d N then ev λps=>c.run X ps λC=>lR σ d C k else none
def ahn{X:Type}(N:Nat)(σ:S)(d:Nat)(c:ji)(args:aa Operand)(k:S->ah X):ah X:=qz N σ d c (zG σ args) k
def aho{X:Type}(N:Nat)(σ:S)(d:Nat)(c:ji)(args:aa Operand)(k:S->ah X):ah X:=qz N σ d c (qx σ args) k
section
variable {P:Program} {w w':World} {w0:Wd} {B N:Nat} {lab ax:bg} {ρ ρ':Nat->Loc} {σ:S} {a:Act} {X:Type} {d:Nat} {r:X} {o:Oper}
def EV:∀ (xs:aa Lf) (k:aa V -> ah X),pq σ xs k=some r -> ∃ C,k C=some r/\C.length=xs.length /\ ∀ lab ρ a w,Rl w0 N lab ρ σ a w -> ∀ (j:Nat) x y u,xs[j]?=some x -> C[j]?=some y -> di w w0.heap.size lab ρ x u -> RV w w.heap.size (λ_=>none) [] y u
 |[],k,h=>⟨[],h,rfl,λ_ _ _ _ _ j x y u F=>by simp at F⟩
 | x :: xs,k,h=>by
  obtain⟨y,I,L⟩:=Pj h;obtain⟨ys,O,hl,Y⟩:=EV xs _ L
  refine⟨y.fJ::ys,O,by simp[hl],λlab ρ a w hR j Z y' u D E T=>?_⟩
  cases j with
  | zero=>
   simp at D E;subst D E;obtain⟨q,U⟩:=I lab ρ a w hR u T;exact U.fJ
  |succ j=>grind
def Wj{D C:Nat}{cs:aa Lf}{E:aa V}(T:σ.m D=some (.blk cs))(hl:E.length=(cs.drop C).length)
  (U:∀lab ρ a w,Rl w0 N lab ρ σ a w->∀(j:Nat) x y u,(cs.drop C)[j]?=some x->E[j]?=some y->di w w0.heap.size lab ρ x u->RV w w.heap.size (λ_=>none) [] y u)
  {lab:bg} {ρ:Nat->Loc} {a:Act} {w:World} {u:Value} (hR:Rl w0 N lab ρ σ a w) (Y:RA w w0.heap.size lab ρ (.aI D C) u):xb w E u:=by
 obtain⟨b,off,Z,rfl⟩:=Y;cases hR.root D _ T with
 | blk b' zn cells e _ us F mD I hs hc=>
  rw[Z]at F;injection F with q1 q2;subst q1 q2
  refine⟨b,off+C,rfl,(gD.1 I).1,λj x L=>?_⟩
  have hj:j<(cs.drop C).length:=by rw[<-hl];exact(de.1 L).1
  have O:=bQ hj;have ahp:cs[C+j]?=some (cs.drop C)[j]:=by rw[<-List.getElem?_drop];exact O
  obtain⟨k1,k2⟩:=hc _ _ ahp;refine⟨us (C+j),?_,U lab ρ a w hR j _ x _ O L k2⟩;rw[Nat.add_assoc,cell_of_row w b _ cells _ _ I];exact k1
def PB{cs:aa V}{u:Value}(E:RF w B lab cs u):xb w (cs.map V.fJ) u:=by
 obtain⟨b,off,rfl,F,T,I⟩:=E
 refine⟨b,off,rfl,F,λj x C=>?_⟩
 rw[dI]at C;cases D:cs[j]? with
 |none=>simp_all
 | some y=>
  rw[D]at C;injection C with C;subst C;obtain⟨_,v,L,O⟩:=I j y D;exact⟨v,L,O.fJ⟩
def Wl{x:A}{k:Pt -> ah X}(h:mA σ x k=some r):∃ p,k p=some r /\ ∀ lab ρ a w,Rl w0 N lab ρ σ a w -> ∀ u,RA w w0.heap.size lab ρ x u -> PA w p u:=by
 unfold mA at h;split at h
 ·rename_i y;obtain⟨O,E,hl,I⟩:=EV (w0:=w0) (N:=N) _ _ h
  refine⟨_,E,λlab ρ a w hR u C=>.v _ _ ⟨#[u],rfl,by simp[hl],λj x D=>?_⟩⟩
  have F:j=0:=by
   grind
  subst F;exact⟨u,rfl,I lab ρ a w hR 0 y x u rfl D C⟩
 ·rename_i ys;obtain⟨O,E,hl,I⟩:=EV (w0:=w0) (N:=N) _ _ h
  refine⟨_,E,λlab ρ a w hR u C=>?_⟩
  obtain⟨us,rfl,L⟩:=C
  refine .v _ _ ⟨us,rfl,by rw[hl];exact L.1,λj x D=>?_⟩
  have F:j<ys.length:=by rw[<- hl];exact(de.1 D).1
  obtain⟨v,U,Y⟩:=L.2 j _ (bQ F)
  grind
 ·obtain⟨z,E,_,T⟩:=VN h
  refine⟨_,E,λlab ρ a w hR u C=>.v _ _ ⟨#[u],rfl,rfl,λj x D=>?_⟩⟩
  cases j with
  | zero=>
   simp at D;subst D;exact⟨u,rfl,T _ _ _ _ _ _ hR u C _⟩
  |succ j=>simp at D
 next c cs=>exact⟨_,h,λlab ρ a w hR u C=>.p _ _ _ (PB C)⟩
 ·cases h
def ahq{x:A}{k:Pt -> ah X}(h:td σ x k=some r):∃ p,k p=some r /\ ∀ lab ρ a w,Rl w0 N lab ρ σ a w -> ∀ u,RA w w0.heap.size lab ρ x u -> PA w p u:=by
 unfold td at h;split at h
 ·rename_i c cs
  refine⟨_,h,λlab ρ a w hR u C=>?_⟩
  exact .p _ _ _ (PB C)
 ·rename_i f c cs
  refine⟨_,h,λlab ρ a w hR u C=>?_⟩
  obtain⟨pv,rfl,E⟩:=C;exact .f _ _ _ _ (PB E)
 ·rename_i O L;split at h
  ·rename_i cs F;obtain⟨T,D,hl,I⟩:=EV (w0:=w0) (N:=N) _ _ h;split at D
   ·rename_i c eo
    refine⟨_,D,λlab ρ a w hR u C=>?_⟩
    exact .p _ _ _ (Wj F hl I hR C)
   ·cases D
  ·cases h
 ·rename_i f O L;split at h
  ·rename_i cs F;obtain⟨T,D,hl,I⟩:=EV (w0:=w0) (N:=N) _ _ h;split at D
   ·rename_i c eo
    refine⟨_,D,λlab ρ a w hR u C=>?_⟩
    obtain⟨ps,rfl,Y,E⟩:=C;obtain⟨b,off,U,Z⟩:=E 0 _ rfl;have e:ps = #[.pointer (some ⟨b,off+L,none⟩)]:=by
     grind
    subst e;exact .f _ _ _ _ (Wj F hl I hR ⟨b,off,U,rfl⟩)
   ·cases D
  ·cases h
 ·exact Wl h
def PC{f:A->(Pt->ah X)->ah X}(E:∀ x k,f x k=some r->∃ p,k p=some r/\∀ lab ρ a w,Rl w0 N lab ρ σ a w->∀ u,RA w w0.heap.size lab ρ x u->PA w p u):
  ∀(xs:aa Operand) (k:aa Pt->ah X),tf f σ xs k=some r->∃ps,k ps=some r/\∀lab ρ a w,Rl w0 N lab ρ σ a w->pn w ps (xs.map a.eval).toArray
 |[],k,h=>⟨[],h,λ_ _ _ _ _=>⟨rfl,λi p C=>by simp at C⟩⟩
 | x :: xs,k,h=>by
  unfold tf at h;obtain⟨p,I,C⟩:=E _ _ h;obtain⟨ps,L,F⟩:=PC E xs _ I
  refine⟨p::ps,L,λlab ρ a w hR=>⟨?_,λi q D=>?_⟩⟩
  ·have:=(F lab ρ a w hR).1;simp at this;simp[this]
  ·cases i with
   | zero=>
    simp at D;subst D;exact⟨_,rfl,C lab ρ a w hR _ (hR.aE x)⟩
   | succ i=>
    obtain⟨u,O,T⟩:=(F lab ρ a w hR).2 i q (by simpa using D);exact⟨u,by simpa using O,T⟩
def ahr(xs:aa Operand)(k:aa Pt->ah X)(h:zG σ xs k=some r):∃ps,k ps=some r/\∀lab ρ a w,Rl w0 N lab ρ σ a w->pn w ps (xs.map a.eval).toArray:=PC (λ_ _=>ahq) xs k h
def Wm(xs:aa Operand)(k:aa Pt->ah X)(h:qx σ xs k=some r):∃ps,k ps=some r/\∀lab ρ a w,Rl w0 N lab ρ σ a w->pn w ps (xs.map a.eval).toArray:=PC (λ_ _=>Wl) xs k h
def ahs{t:TC}{o:Nat}(h:xd t (o+2)=true)(x:T t):∀ y∈enc t o x,y.loc=true:=by
 intro y D;have F:=wN t o x y D;cases y with
 | sl E C q l=>
  have I:C=o:=by simpa [V.gr]using F
  subst I;have L:full E+2 <= full t:=cr (Jx t C x _ D);show xd E C=true;simp only[xd,dA]at h;rcases h with h|h
  ·have h:=cr h
   match C,h with
   |0,h=>omega
   |1,h=>rfl
   | n+2,h=>
    simp only[xd,dA];left;exact gP (by omega)
  ·have h:=cv h
   match C,h with
   |0,h=>omega
   |1,h=>rfl
   | n+2,h=>
    simp only[xd,dA];simp_all
 |_=>rfl
def RV.xe{q:aa Nat}{x:V}{v:Value}(h:RV w B lab q x v){B':Nat}(hB:B' <= B)(hl:∀ b,B <= b -> ax b=lab b)(T:∀ b k,lab b=some k -> ax b=some k)(I:x.loc=true):RV w B' ax q x v:=by
 induction h with
 |int=>exact .int _ _ _
 |bool=>exact .bool _ _
 |str=>exact .str _ _
 |nil=>exact .nil _
 |dN=>exact .dN _ _ _
 |eX=>exact .eX _ _ _ _ _ (by first|assumption|omega)
 |fB=>exact .fB _ _ _ _ _ (by first|assumption|omega)
 | aF q t o U l b off cap u L D hb Y Z E hr F=>
  have zH:o=1:=by
   match o,L,I with
   |1,_,_=>rfl
  subst zH;have O:=Y rfl
  refine .aF _ _ _ _ _ _ _ _ u L ((hl b O).trans D) hb (λ_=>Nat.le_trans hB O) Z E (λi h j x C=>F i h j x C ?_)
  have:=wN t 1 l[i] x (fP C);cases x with
  | sl t' o' q' l'=>
   have:o'=1:=by simpa [V.gr]using this
   subst this;rfl
  |_=>rfl
 | own q t o U l b cap cs u D hh hs hn hm E hr F=>
  exact .own _ _ _ _ _ _ _ cs u (T b q D) hh hs hn hm E (λi h j x C=>F i h j x C (ahs I l[i] x (fP C)))
def RV.home{q:aa Nat}{x:V}{v:Value}(h:RV w B lab q x v){B':Nat}(hB:B'<=B)(hl:∀ b,B<=b->ax b=lab b)(C:∀ b k,lab b=some k->B<=b)(D:x.loc=true):RV w B' ax q x v:=
 h.xe hB hl (λb k h=>(hl b (C b k h)).trans h) D
def PD:∀ (xs:aa V) (c:Nat) (σ:S) (ρ:Nat -> Loc) (us:aa Value),60000 <= c -> Rl w0 N lab ρ σ a w -> us.length=xs.length -> (∀ (j:Nat) x u,xs[j]?=some x -> us[j]?=some u -> RV w w0.heap.size lab [c+j] x u) ->
  ∃ρ',Rl w0 N lab ρ' (kK c σ xs) a w/\(∀r,r<c -> ρ' r=ρ r) /\ ∀(j:Nat) x u,(mB c xs)[j]?=some x -> us[j]?=some u -> di w w0.heap.size lab ρ' x u
 |[],c,σ,ρ,us,_,h,hl,E=>⟨ρ,h,λ_ _=>rfl,λj x u U=>by simp[mB]at U⟩
 | x :: xs,c,σ,ρ,us,hc,h,hl,E=>by
  cases us with
  |nil=>simp at hl
  | cons u us=>
   have I:=E 0 x u rfl rfl;rw[Nat.add_zero]at I;have Z:∀ (j:Nat) L O,xs[j]?=some L -> us[j]?=some O -> RV w w0.heap.size lab [c+1+j] L O:=λj L O U hu=>by
    have:=E (j+1) L O (by simpa using U) (by simpa using hu)
    grind
   cases C:x.aF with
   | true=>
    obtain⟨ρ',Y,T,uY⟩:=PD xs (c+1) σ ρ us (by omega) h (by simpa using hl) Z
    refine⟨ρ',?_,λr E=>T r (by omega),λj y v D F=>?_⟩
    ·simp[kK,C];exact Y
    ·simp only[mB,C,aj]at D;cases j with
     | zero=>
      simp at D F;subst D F;exact⟨C,I.key C⟩
     |succ j=>grind
   | false=>
    have fo:=I.OT C;obtain⟨ρ',Y,T,uY⟩:=PD xs (c+1) _ _ us (by omega) (h.new (d:=c) (x:=.sl x) (.cO u) (.sl u x (bF _ _ _) I) (h.cY c (.inr hc))) (by simpa using hl) Z
    refine⟨ρ',?_,λr E=>?_,λj y v D F=>?_⟩
    ·simp[kK,C];exact Y
    ·rw[T r (by omega)];exact bZ _ _ _ (by omega)
    ·simp only[mB,C,au]at D;cases j with
     | zero=>
      simp at D F;subst D F;refine⟨fo,?_⟩;have:ρ' c = .cO u:=by rw[T c (by omega)];exact bF _ _ _
      simp[cC,this]
     |succ j=>grind
def aht(xs:aa V):∀ c,(mB c xs).length=xs.length:=by
 induction xs with
 |nil=>intro c;rfl
 |cons x xs C=>intro c;simp[mB,C]
end
def enters(P:Program)(f:Nat):Prop:=∃fn,P.funcs[f]?=some fn/\(fn.name == "runtime.NumGoroutine")=false/\fn.body.isNone=false
/-! What a function gives back. -/
def J1:A->ah (Bool×aa Lf)
 |.lf x=>some (false,[x])
 |.agg xs=>some (true,xs)
 |_=>none
def qA{X:Type}(P:Program)(σ:S):aa ResultVar->(aa (Bool×aa Lf)->ah X)->ah X
 |[],k=>k []
 | .tmp t :: rest,k=>(match J1 (σ.t t)with
  |some p=>qA P σ rest λps=>k (p::ps)
  |none=>none)
 | .cell p ty :: rest,k=>mm P σ ty (σ.t p) λx=>(match J1 x with
  |some p=>qA P σ rest λps=>k (p::ps)
  |none=>none)
def PE(m:Nat->ah aM):Lf->ah (V×ah Nat)
 |.v x=>bif x.loc&&x.aF then some (x,none)else none
 | .own [r]=>match m r with
  |some (.sl y)=>bif y.loc then some (y,some r)else none
  |_=>none
 |_=>none
def EW(m:Nat->ah aM)(off:Nat):aa Lf->ah (aa V×aa (Nat×Nat))
 |[]=>some ([],[])
 | x :: xs=>match PE m x,EW m (off+1) xs with
  |some (y,none),some (ys,rs)=>some (y::ys,rs)
  |some (y,some r),some (ys,rs)=>some (y::ys,(r,off)::rs)
  |_,_=>none
def B9(m:Nat->ah aM)(off:Nat):aa (Bool×aa Lf)->ah (aa Pt×aa (Nat×Nat))
 |[]=>some ([],[])
 | p :: ps=>match EW m off p.2,B9 m (off+p.2.length) ps with
  |some (C,rs),some (D,E)=>some ((p.1,C)::D,rs++E)
  |_,_=>none
def once(rs:aa (Nat×Nat)):Bool:=rs.all λp=>(rs.lookup p.1).any λn=>Nat.beq n p.2
def EX{X:Type}(P:Program)(σ:S)(fn:Array ResultVar)(k:fq->ah X):ah X:=
 qA P σ fn.toList λps=>match B9 σ.m 0 ps with
  | some (qs,rs)=>bif once rs then (match qs with
   |[p]=>k (.one p)
   |qs=>k (.ez qs))else none
  |none=>none
section
variable {P:Program} {w w':World} {w0:Wd} {B N:Nat} {lab ax:bg} {ρ ρ':Nat->Loc} {σ:S} {a:Act} {X:Type} {d:Nat} {r:X} {o:Oper}
def Wn:∀ (xs:aa V) (c:Nat) (j:Nat) x u,(mB c xs)[j]?=some x -> di w B lab ρ x u -> (∀ r,r<c+xs.length -> ρ' r=ρ r) -> di w B lab ρ' x u
 |[],c,j,x,u,D,_,_=>by simp[mB]at D
 | y :: ys,c,j,x,u,D,C,E=>by
  cases j with
  | zero=>
   simp[mB,List.getElem?_cons_zero,gG]at D;subst D;cases F:y.aF with
   |true=>rw[F]at C;simp;exact C
   | false=>
    rw[F]at C;refine⟨C.1,?_⟩;have:=C.2;simp[cC,E c (by simp)]at this ⊢;exact this
  | succ j=>
   exact Wn ys _ j x u D C (λr h=>E r (by simp;omega))
def PV.cells{key:Nat -> aa Nat}{p:Pt}{u:Value}(h:PV w B lab key p u):∃ us:aa Value,us.length=p.2.length/\(∀ (j:Nat) x v,p.2[j]?=some x -> us[j]?=some v -> RV w B lab (key j) x v) /\
  ∀(ρ:Nat -> Loc) (C:aa Lf),C.length=p.2.length -> (∀(j:Nat) x v,C[j]?=some x -> us[j]?=some v -> di w B lab ρ x v) -> RP w B lab ρ (p.1,C) u:=by
 obtain⟨us,D,E,T⟩:=h;obtain⟨b,xs⟩:=p
 refine⟨us.toList,by simpa using E,λj x v F U=>?_,λρ C hl O=>?_⟩
 ·grind
 ·have I:dR w B lab ρ C us:=⟨by rw[E,hl],λj x F=>by
   have L:j<us.size:=by rw[E,<- hl];exact(de.1 F).1
   exact⟨us[j],Array.getElem?_eq_getElem L,O j x _ F (by rw[Array.getElem?_toList,Array.getElem?_eq_getElem L])⟩⟩
  cases b with
  |true=>exact⟨us,D,I⟩
  |false=>have D:=D;subst D;exact I
def EY:∀ (ps:aa Pt) (c0 off:Nat) (σ:S) (ρ:Nat -> Loc) (C:aa Value),60000 <= c0 -> Rl w0 N lab ρ σ a w -> iN w w0.heap.size lab (λn=>c0+n) off ps C ->
  ∃ρ',Rl w0 N lab ρ' (mC (c0+off) σ ps) a w/\(∀r,r<c0+off -> ρ' r=ρ r)/\C.length=(qy (c0+off) ps).length /\ ∀(i:Nat) p v,(qy (c0+off) ps)[i]?=some p -> C[i]?=some v -> RP w w0.heap.size lab ρ' p v
 | [],c0,off,σ,ρ,C,_,h,D=>by
  cases C with
  |nil=>exact⟨ρ,h,λ_ _=>rfl,rfl,λi p v L=>by simp[qy]at L⟩
  |cons v C=>exact D.elim
 | p :: ps,c0,off,σ,ρ,C,Y,h,D=>by
  cases C with
  |nil=>exact D.elim
  | cons v C=>
   obtain⟨⟨_,L⟩,D⟩:=D;obtain⟨us,hl,Z,uZ⟩:=L.cells;obtain⟨Ca,h1,PF,uY⟩:=PD p.2 (c0+off) σ ρ us (by omega) h hl (λj x u F E=>by
    have:RV w _ lab [c0+(off+j)] x u:=Z j x u F E;rw[<- Nat.add_assoc]at this;exact this)
   obtain⟨eB,T,O,hlen,U⟩:=EY ps c0 (off+p.2.length) (kK (c0+off) σ p.2) Ca C Y h1 D;rw[<- Nat.add_assoc]at T O hlen U
   refine⟨eB,T,λr D=>(O r (by omega)).trans (PF r D),by simp[qy,hlen],λi q u I E=>?_⟩
   cases i with
   | zero=>
    simp[qy,List.getElem?_cons_zero,gG]at I E;subst I E
    refine uZ eB _ (aht _ _) (λj x u F E=>Wn p.2 _ j x u F (uY j x u F E) O)
   | succ i=>
    simp[ List.getElem?_cons_succ]at I E;exact U i q u I E
def iN.home{nm:Nat -> Nat}:∀ (ps:aa Pt) (off:Nat) (C:aa Value) {B':Nat},iN w B lab nm off ps C -> B' <= B -> (∀ b,B <= b -> ax b=lab b) -> (∀ b k,lab b=some k -> B <= b) -> iN w B' ax nm off ps C
 |[],_,[],_,h,_,_,_=>h
 | p :: ps,off,v :: C,B',h,hB,hl,D=>by
  obtain⟨⟨E,us,I,L,O⟩,T⟩:=h
  refine⟨⟨E,us,I,L,λj x F=>?_⟩,iN.home ps _ C T hB hl D⟩
  obtain⟨U,Y,Z⟩:=O j x F;exact⟨U,Y,Z.home hB hl D (bW.1 E x (fP F))⟩
def J2(w:World)(o:Oper)(a:Act)(f:Nat)(args:Array Operand)(D:Array TypeId)(E:o.op = .call { callee:=.value (.func f),args,argTypes:=D })(F:enters P f):(execOp a.eval o).run P w = .ok (.enter f (args.map a.eval)) w:=by
 obtain⟨fn,I,L,C⟩:=F;have O:¬ fn.name = "runtime.NumGoroutine":=by simpa using L
 have T:¬ fn.body=none:=by intro e;rw[e]at C;cases C
 simp[execOp,E,resolve,Act.eval,Deferred.ofValue,invoke,callFunc,Sem.run,I,O,T]
def ahu{f:Nat}{args:Array Operand}{iO:Array TypeId}{c:ji}{k:S->ah X}(ho:o.op = .call { callee:=.value (.func f),args,argTypes:=iO })(hd:o.dst=some d)(he:enters P f)(hc:iY P f c)(Cb:d<N){ps:aa Pt}(nQ:∀ lab ρ a w,Rl w0 N lab ρ σ a w->pn w ps (args.toList.map a.eval).toArray)
  (h2:(c.run X ps λD=>lR σ d D k)=some r):∃cN,k cN=some r/\jA P w0 N o σ cN:=by
 obtain⟨D,E,PG⟩:=(hc.1 ps).jV h2;have EZ:=hc.2 ps D (PG _ _);unfold lR at E;have step:∀ a w K Q lab ρ,Rl w0 N lab ρ σ a w->(∀ v w' ax,Below w.heap.size w w'->Rl w0 N ax ρ σ a w'->mz w' w0.heap.size ax (λn=>1000000000100000+1000*d+n) D v->K (a.put o.dst v) w')->o.wp P a w K Q:=by
  intro a w K Q lab ρ hR L;unfold Oper.wp;rw[J2 w o a f args iO ho he,Oper.upon_enter];have va:(args.map a.eval)=(args.toList.map a.eval).toArray:=by apply Array.ext';rw[Array.toList_map]
  rw[va]
  refine(EZ (λn=>1000000000100000+1000*d+n) w _ (nQ lab ρ a w hR) (w0.on hR.below (λ_ _ h=>by cases h))).mono λe w' lS=>?_
  obtain⟨v,Cc,rfl,O,T,F⟩:=lS;have hB:=hR.below.size;let cT:bg:=λb=>if b<w.heap.size then lab b else Cc b
  have e1:∀b,b<w.heap.size->cT b=lab b:=λb hb=>bJ hb
  have U:∀b,w.heap.size<=b->cT b=Cc b:=λb hb=>bx
  refine L v w' cT O (hR.grow O e1 (λb k hb I=>?_)) ?_
  ·rw[U b hb]at I;exact(T b k I).2
  ·cases D with
   |one p=>exact iN.home [p] 0 [v] F hB U (λb k I=>(T b k I).1)
   | ez Y=>
    obtain⟨C,e,Z⟩:=F;exact⟨C,e,iN.home Y 0 C.toList Z hB U (λb k I=>(T b k I).1)⟩
 cases D with
 | one p=>
  simp only at E;split at E
  ·rename_i y hy
   refine⟨_,E,λa w K Q hR L=>?_⟩
   obtain⟨lab,ρ,hR⟩:=hR
   refine step a w K Q lab ρ hR λv w' ax O eG F=>?_
   obtain⟨ρ',jD,_,_,pz⟩:=EY [p] (1000000000100000+1000*d) 0 σ ρ [v] (by omega) eG F;rw[hd];have PI:=pz 0 _ v rfl rfl;exact L _ _ ⟨ax,ρ',jD.set (O8 hy PI) Cb⟩
  ·cases E
 | ez Y=>
  refine⟨_,E,λa w K Q hR L=>?_⟩
  obtain⟨lab,ρ,hR⟩:=hR
  refine step a w K Q lab ρ hR λv w' ax O eG F=>?_
  obtain⟨C,rfl,Z⟩:=F;obtain⟨ρ',jD,_,hlen,pz⟩:=EY Y (1000000000100000+1000*d) 0 σ ρ C.toList (by omega) eG Z;rw[hd]
  refine L _ _ ⟨ax,ρ',jD.set ⟨C,rfl,by simpa using hlen,λj p hp=>?_⟩ Cb⟩
  have hj:j<C.size:=by
   have:=(de.1 hp).1;rw[Nat.add_zero]at hlen;rw[<-hlen]at this
   simpa using this
  exact⟨C[j],Array.getElem?_eq_getElem hj,pz j p _ hp (by rw[Array.getElem?_toList,Array.getElem?_eq_getElem hj])⟩
def Wo{f:Nat}{args:Array Operand}{E:Array TypeId}{c:ji}{k:S->ah X}{ev:(aa Pt->ah X)->ah X}(F:o.op = .call { callee:=.value (.func f),args,argTypes:=E })(I:o.dst=some d)(L:enters P f)(O:iY P f c)
  (T:∀k,ev k=some r->∃ps,k ps=some r/\∀lab ρ a w,Rl w0 N lab ρ σ a w->pn w ps (args.toList.map a.eval).toArray) (h:qz N σ d c ev k=some r):∃D,k D=some r/\jA P w0 N o σ D:=by
 unfold qz at h;cases C:Nat.blt d N with
 |false=>rw[C]at h;cases h
 | true=>
  rw[C,aj]at h;obtain⟨ps,U,Y⟩:=T _ h;exact ahu F I L O (cr C) Y U
end
def dO(lab:bg)(rs:aa (Nat×Nat))(nm:Nat->Nat):bg:=λb=>
 match lab b with
 |none=>none
 | some k=>match k.getLast? with
  |none=>none
  |some r=>(rs.lookup r).map λn=>k.dropLast++[nm n]
section
variable {P:Program} {w w':World} {w0:Wd} {B N:Nat} {lab ax:bg} {ρ ρ':Nat->Loc} {σ:S} {a:Act} {X:Type} {d:Nat} {r:X} {rs:aa (Nat×Nat)} {nm:Nat->Nat}
def xg{b:Nat}(h:lab b=none):dO lab rs nm b=none:=by simp[dO,h]
def RV.dO{p:aa Nat}{r n:Nat}{x:V}{v:Value}(h:RV w B lab (p++[r]) x v)(D:rs.lookup r=some n):RV w B (dO lab rs nm) (p++[nm n]) x v:=
 h.map (Q:=λq C=>∃ p,q=p++[r]/\C=p++[nm n]) (c9 _) (λb _ h=>⟨rfl,xg h⟩) (λb q C _ hl e=>by
  obtain⟨p,rfl,rfl⟩:=e;exact⟨rfl,by simp[Proofs.YthmgjjfedieljaaGreatDoor.dO,hl,D],λj i s=>⟨j::i::s::p,rfl,rfl⟩⟩) (.inr ⟨p,rfl,rfl⟩)
def PJ{m:Nat -> ah aM}:∀ (xs:aa Lf) (off:Nat) (ys:aa V) (E:aa (Nat×Nat)),EW m off xs=some (ys,E) -> ys.length=xs.length /\ ∀ (j:Nat) x,xs[j]?=some x -> ∃ y,ys[j]?=some y/\y.loc=true/\((x = .v y/\y.aF=true) \/ ∃ r,x = .own [r]/\m r=some (.sl y)/\(r,off+j)∈E)
 | [],off,ys,E,h=>by
  simp only[EW,gG,Prod.mk.injEq]at h;obtain⟨rfl,rfl⟩:=h;exact⟨rfl,λj x C=>by simp at C⟩
 | x :: xs,off,ys,E,h=>by
  have U:∀ y z,PE m x=some (y,z) -> y.loc=true/\((z=none/\x = .v y/\y.aF=true) \/ ∃ r,z=some r/\x = .own [r]/\m r=some (.sl y)):=by
   intro y z D;unfold PE at D
   grind
  unfold EW at h;split at h
  ·rename_i y F I L O;simp only[gG,Prod.mk.injEq]at h;obtain⟨rfl,rfl⟩:=h;obtain⟨T,Y⟩:=PJ xs (off+1) F I O
   refine⟨by simp[T],λj Z C=>?_⟩
   cases j with
   | zero=>
    simp at C;subst C;obtain⟨hl,D|⟨r,D,_⟩⟩:=U y none L
    ·simp_all
    ·cases D
   |succ j =>grind
  ·rename_i y r F I L O;simp only[gG,Prod.mk.injEq]at h;obtain⟨rfl,rfl⟩:=h;obtain⟨T,Y⟩:=PJ xs (off+1) F I O
   refine⟨by simp[T],λj Z C=>?_⟩
   cases j with
   | zero=>
    simp at C;subst C;obtain⟨hl,D|⟨r',D,e1,e2⟩⟩:=U y (some r) L
    ·cases D.1
    ·simp_all
   |succ j =>grind
  ·cases h
def PL{m:Nat -> ah aM}(hm:∀ r x,m r=some x -> dz w B lab ρ r x):∀ (ps:aa (Bool×aa Lf)) (off:Nat) (F:aa Pt) (I:aa (Nat×Nat)) (C:aa Value),B9 m off ps=some (F,I) -> (∀ p∈I,rs.lookup p.1=some p.2) -> C.length=ps.length ->
  (∀(i:Nat) p v,ps[i]?=some p -> C[i]?=some v -> RP w B lab ρ p v) -> iN w B (dO lab rs nm) nm off F C
 | [],off,F,I,C,h,_,hl,_=>by
  have:C=[]:=List.eq_nil_of_length_eq_zero hl;subst this;simp only[B9,gG,Prod.mk.injEq]at h;obtain⟨rfl,rfl⟩:=h;trivial
 | p :: ps,off,F,I,C,h,lT,hl,hp=>by
  cases C with
  |nil=>simp at hl
  | cons v C=>
   unfold B9 at h;split at h
   ·rename_i ys rs1 qs' zI h1 h2;simp only[gG,Prod.mk.injEq]at h;obtain⟨rfl,rfl⟩:=h;obtain⟨hlen,hcells⟩:=PJ _ _ _ _ h1;have ES:=PL hm ps _ qs' zI C h2 (λq Y=>lT q (List.mem_append_right _ Y)) (by simpa using hl) (λi q u Y Z=>hp (i+1) q u (by simpa using Y) (by simpa using Z));have Cd:=hp 0 p v rfl rfl;have key:∀ us:Array Value,dR w B lab ρ p.2 us -> (us.size=ys.length /\ ∀ (j:Nat) x,ys[j]?=some x -> ∃ u,us[j]?=some u/\RV w B (dO lab rs nm) [nm (off+j)] x u):=by
     intro us L
     refine⟨by rw[hlen];exact L.1,λj y O=>?_⟩
     have T:j<p.2.length:=by rw[<- hlen];exact(de.1 O).1
     obtain⟨y',E,J3,hz⟩:=hcells j _ (bQ T);rw[O]at E;injection E with E;subst E;obtain⟨u,Z,U⟩:=L.2 j _ (bQ T);refine⟨u,Z,?_⟩;rcases hz with ⟨e,hf⟩|⟨r,e,hmr,xh⟩
     ·rw[e]at U;exact(U.2.Jy hf (λb=>xg)).key hf
     ·rw[e]at U;have eM:=hm r _ hmr;generalize D:aM.sl y=z at eM;cases eM with
      |blk=>cases D
      |mp=>cases D
      |gh=>cases D
      | sl v' y' cD kI=>
       injection D with D;subst D;have E0:v'=u:=by
        have h4:=U.2;simp only[cC,cD]at h4;simp_all
       subst E0;exact RV.dO (p:=[]) kI (lT (r,off+j) (List.mem_append_left _ xh))
    refine⟨⟨?_,?_⟩,?_⟩
    ·rw[bW];intro y O;obtain⟨j,T⟩:=List.mem_iff_getElem?.1 O;have uL:j<p.2.length:=by rw[<- hlen];exact(de.1 T).1
     obtain⟨y',E,J3,_⟩:=hcells j _ (bQ uL);simp_all
    ·obtain⟨b,xs⟩:=p;cases b with
     | true=>
      obtain⟨us,e,L⟩:=Cd;obtain⟨k1,k2⟩:=key us L;exact⟨us,e,k1,k2⟩
     | false=>
      obtain⟨k1,k2⟩:=key #[v] Cd;exact⟨#[v],rfl,k1,k2⟩
    ·grind
   ·cases h
def ahv{t:TypeId}{x:A}{k:A->ah X}(h:mm P σ t x k=some r){u:Value}(C:RA w B lab ρ x u):∃ ad,u = .pointer (some ad):=by
 unfold mm at h;split at h
 ·cases h
 ·split at h
  ·obtain⟨b,off,_,rfl⟩:=C;exact⟨_,rfl⟩
  ·obtain⟨b,off,rfl,_⟩:=C;exact⟨_,rfl⟩
  ·obtain⟨ad,rfl,_⟩:=C;exact⟨_,rfl⟩
  ·cases h
def Wp{x:A}{p:Bool×aa Lf}(h:J1 x=some p){u:Value}(D:RA w B lab ρ x u):RP w B lab ρ p u:=by
 unfold J1 at h;split at h
 ·injection h with h;subst h
  refine⟨rfl,λj y C=>?_⟩
  cases j with
  |zero=>simp at C;subst C;exact⟨u,rfl,D⟩
  |succ j=>simp at C
 ·injection h with h;subst h;exact D
 ·cases h
def pE(tmps:Array Value):ResultVar->Sem Value
 |.tmp t=>pure (tmps.getD t undef)
 |.cell a t=>do loadVar t (<-asAddr (tmps.getD a undef))
def E1:∀ (l:aa ResultVar) (k:aa (Bool×aa Lf) -> ah X),qA P σ l k=some r -> ∃ ps,k ps=some r /\ ∀ lab ρ a w,Rl w0 N lab ρ σ a w -> ∃ C,(l.mapM (pE a.tmps)).run P w = .ok C w/\C.length=ps.length /\ ∀ (i:Nat) p v,ps[i]?=some p -> C[i]?=some v -> RP w w0.heap.size lab ρ p v
 |[],k,h=>⟨[],h,λ_ _ _ _ _=>⟨[],rfl,rfl,λi p v D=>by simp at D⟩⟩
 | .tmp t :: rest,k,h=>by
  simp only[qA]at h;split at h
  ·rename_i p D;obtain⟨ps,L,O⟩:=E1 rest _ h
   refine⟨p::ps,L,λlab ρ a w hR=>?_⟩
   obtain⟨C,T,hl,Z⟩:=O lab ρ a w hR
   refine⟨a.tmps.getD t undef::C,?_,by simp[hl],λi q u E F=>?_⟩
   ·rw[List.mapM_cons];simp[pE,Sem.run_pure,jO,fA,T]
   ·cases i with
    |zero=>simp only[List.getElem?_cons_zero,gG]at E F;subst E F;exact Wp D (hR.tmp t)
    |succ i=>grind
  ·cases h
 | .cell c ty :: rest,k,h=>by
  simp only[qA]at h;obtain⟨y,U,hld⟩:=VP (w0:=w0) (N:=N) h;split at U
  ·rename_i p D;obtain⟨ps,L,O⟩:=E1 rest _ U
   refine⟨p::ps,L,λlab ρ a w hR=>?_⟩
   obtain⟨C,T,hl,Z⟩:=O lab ρ a w hR;obtain⟨v,I,uX⟩:=hld lab ρ a w hR _ (hR.tmp c);obtain⟨ad,Y⟩:=ahv h (hR.tmp c);rw[Y]at I;have I:(loadVar ty ad).run P w = .ok v w:=by
    simpa [Instr.loadAt,Instr.sureAddr]using I
   refine⟨v::C,?_,by simp[hl],λi q u E F=>?_⟩
   ·rw[List.mapM_cons];simp[pE,Y,asAddr,Sem.run_pure,jO,fA,T,I]
   ·cases i with
    |zero=>simp at E F;subst E F;exact Wp D uX
    |succ i=>grind
  ·cases U
def ahw{fn:Func}{k:fq -> ah X}(h:EX P σ fn.results k=some r):∃ Y,k Y=some r /\ ∀ lab ρ a w,Rl w0 N lab ρ σ a w -> ∀ nm,∃ v ax,(results fn a.tmps).run P w = .ok v w/\(∀ b k,ax b=some k -> (w0.heap.size <= b \/ w0.L b≠none)/\b<w.heap.size/\k≠[])/\mz w w0.heap.size ax nm Y v:=by
 unfold EX at h;obtain⟨ps,F,pz⟩:=E1 (w0:=w0) (N:=N) _ _ h;clear h;split at F
 ·rename_i O rs PN;cases Z:once rs with
  |false=>grind
  | true=>
   rw[Z,aj]at F;have lT:∀ p∈rs,rs.lookup p.1=some p.2:=by
    intro p hp;have:=bW.1 Z p hp;obtain⟨n,hn,he⟩:=(Option.any_eq_true _ _).1 this;simp_all
   have core:∀ lab ρ a w,Rl w0 N lab ρ σ a w -> ∀ nm:Nat -> Nat,∃ C:aa Value,(fn.results.mapM (pE a.tmps)).run P w = .ok C.toArray w/\(∀ b k,dO lab rs nm b=some k -> (w0.heap.size <= b \/ w0.L b≠none)/\b<w.heap.size/\k≠[])/\iN w w0.heap.size (dO lab rs nm) nm 0 O C:=by
    intro lab ρ a w hR nm;obtain⟨C,I,hl,hv⟩:=pz lab ρ a w hR
    refine⟨C,?_,λb k E=>?_,PL hR.root ps 0 O rs C PN lT hl hv⟩
    ·rw[Array.mapM_eq_mapM_toList];simp[I]
    ·unfold dO at E;split at E
     ·cases E
     ·rename_i k' nO;have:=hR.cE b k' nO;split at E
      ·cases E
      ·cases rM:rs.lookup _ with
       |none=>rw[rM]at E;cases E
       | some n=>
        rw[rM]at E;injection E with E;subst E;simp_all
   have iZ:∀ (tmps:Array Value),results fn tmps=(do let C <- fn.results.mapM (pE tmps);pure (if h:C.size=1 then C[0]else .tuple C)):=λtmps=>by
    unfold results;congr 1
   split at F
   ·rename_i p
    refine⟨_,F,λlab ρ a w hR nm=>?_⟩
    obtain⟨C,I,T,D⟩:=core lab ρ a w hR nm
    match C,D with
    |[v],D=>exact⟨v,_,by rw[iZ,fA,I];rfl,T,D⟩
    |[],D=>exact D.elim
    |_::_::_,D=>exact D.2.elim
   ·rename_i U
    refine⟨_,F,λlab ρ a w hR nm=>?_⟩
    obtain⟨C,I,T,D⟩:=core lab ρ a w hR nm;have hsz:C.toArray.size≠1:=by
     intro e
     match O,C,D,U with
     |[q],[v],_,U=>exact U q rfl
     |[],[v],D,_=>exact D.elim
     |_::_::_,[v],D,_=>exact D.2.elim
    refine⟨.tuple C.toArray,_,?_,T,C.toArray,rfl,D⟩;rw[iZ,fA,I,jO];simp only[hsz,dif_neg,not_false_eq_true,Sem.run_pure]
 ·cases F
end
inductive In where
 |blk (cs:List V)
 |sl (y:V)
def nF(i:Nat):Nat:=20000+1000*i
def nC(i j:Nat)(x:V):Nat:=bif x.aF then 20001+1000*i+j else 60000+1000*i+j
def xj(i j:Nat)(x:V):Lf:=bif x.plain then .v x else .own [nC i j x]
def xk(i:Nat):Nat->aa V->aa Lf
 |_,[]=>[]
 |j,x::xs=>xj i j x::xk i (j+1) xs
def PO(i:Nat):Nat->aa V->(Nat->ah aM)->(Nat->ah aM)
 |_,[],m=>m
 |j,x::xs,m=>PO i (j+1) xs (bif x.plain then m else bE m (nC i j x) (some (.sl x)))
def J4:Nat->aa In->(Nat->ah aM)->(Nat->ah aM)
 |_,[],m=>m
 |i,.blk cs::r,m=>J4 (i+1) r (PO i 0 cs (bE m (nF i) (some (.blk (xk i 0 cs)))))
 |i,.sl y::r,m=>J4 (i+1) r (bE m (nF i) (some (.sl y)))
inductive Ar where
 |pt (p:Pt)
 |mut (i off:Nat)
def PR(C:aa In):Ar->A
 |.pt (false,[x])=>.lf (.v x)
 |.pt (true,xs)=>.agg (xs.map .v)
 |.pt (false,.bool false::.int .i64 g::c::cs)=>.lN g.toNat (c::cs)
 |.pt _=>.undef
 | .mut i off=>match C[i]? with
  |some (.blk _)=>.aI (nF i) off
  |some (.sl _)=>.lf (.own [nF i])
  |none=>.undef
def vb(C:aa In)(args:aa Ar):S:=⟨λk=>match args[k]? with
 |some x=>PR C x
 |none=>.undef,J4 0 C (λ_=>none)⟩
def pF(w w':World)(ax:bg)(ρ:Nat->Loc)(nm:Nat->Nat):Nat->Nat->aa In->aa In->Prop
 |_,_,[],[]=>True
 | i,D,.blk cs :: r,.blk eo :: F=>(∃ b off cells I e O,ρ (nF i) = .blk b off/\w.heap[b]?=some (.cells cells e (0,0))/\w'.heap[b]?=some (.cells I O (0,0))/\ax b=some [nm D]/\off+eo.length<=I.size/\eo.length=cs.length/\
   ∀(j:Nat) C,eo[j]?=some C->∃u,I[off+j]?=some u/\((C.plain=true/\∀(w:World) (B:Nat) (lab:bg) (q:aa Nat),RV w B lab q C u)\/(C = .nil/\u = .slice none 0 0/\∃E,cs[j]?=some E/\E.aF=false)\/(C.plain=false/\C.aF=true/\C.iW=true/\(∃E,cs[j]?=some E/\Wk E C)/\cells[off+j]?=some u)\/(C.aF=false/\RV w' w.heap.size ax [nm (D+1+j)] C u)))/\
   pF w w' ax ρ nm (i+1) (D+1+cs.length) r F
 |i,D,.sl y::r,.sl L::F=>(L = .nil\/∃v,ρ (nF i) = .cO v/\RV w' w.heap.size ax [nm D] L v)/\pF w w' ax ρ nm (i+1) (D+1) r F
 |_,_,_,_=>False
def E2(w w':World)(ax:bg)(ρ:Nat->Loc)(nm:Nat->Nat):Nat->Nat->aa In->aa In->Prop
 |_,_,[],[]=>True
 | i,D,.blk cs :: r,.blk eo :: E=>(∃ b off cells F e L,ρ (nF i) = .blk b off/\w.heap[b]?=some (.cells cells e (0,0))/\w'.heap[b]?=some (.cells F L (0,0))/\ax b=some [nm D]/\off+eo.length<=F.size/\eo.length=cs.length/\
   ∀(j:Nat) C,eo[j]?=some C->∃u,F[off+j]?=some u/\((C.plain=true/\∀(w:World) (B:Nat) (lab:bg) (q:aa Nat),RV w B lab q C u)\/(C.plain=false/\C.aF=true/\cells[off+j]?=some u)\/(C.aF=false/\RV w' w.heap.size ax [nm (D+1+j)] C u)))/\
   E2 w w' ax ρ nm (i+1) (D+1+cs.length) r E
 |i,D,.sl y::r,.sl I::E=>(I = .nil\/∃v,ρ (nF i) = .cO v/\RV w' w.heap.size ax [nm D] I v)/\E2 w w' ax ρ nm (i+1) (D+1) r E
 |_,_,_,_=>False
def fq.len:fq->Nat
 |.one p=>p.2.length
 |.ez ps=>(ps.map λp=>p.2.length).sum
def nR(w:World)(B:Nat)(lab:bg)(ρ:Nat->Loc):Nat->aa In->Prop
 |_,[]=>True
 |i,.blk cs::r=>dz w B lab ρ (nF i) (.blk (xk i 0 cs))/\(∀(j:Nat) x,cs[j]?=some x->x.plain=false->dz w B lab ρ (nC i j x) (.sl x))/\nR w B lab ρ (i+1) r
 |i,.sl y::r=>dz w B lab ρ (nF i) (.sl y)/\nR w B lab ρ (i+1) r
/-! The end: what is given back,and what the written parameters hold. -/
def PS(m:Nat->ah aM)(i j:Nat)(C:V):Lf->ah (V×ah Nat)
 |.v x=>bif x.plain then some (x,none)else (bif !x.iW && !C.aF then some (.nil,none)else none)
 | .own [r]=>match m r with
  |some (.sl y)=>bif y.aF then (bif !C.plain&&(C.aF&&C.iW)&&Nat.beq r (20001+1000*i+j)&&Nat.blt r 60000 then some (C,none)else none)else (bif y.loc then some (y,some r)else none)
  |_=>none
 |_=>none
def zJ(m:Nat->ah aM)(i C:Nat):Nat->aa V->aa Lf->ah (aa V×aa (Nat×Nat))
 |_,[],[]=>some ([],[])
 | j,D :: xs,l :: E=>match PS m i j D l,zJ m i C (j+1) xs E with
  |some (y,none),some (ys,rs)=>some (y::ys,rs)
  |some (y,some r),some (ys,rs)=>some (y::ys,(r,C+1+j)::rs)
  |_,_=>none
 |_,_,_=>none
def V.gone:V->Bool
 |.sl _ o _ _=>Nat.ble 1000000 o
 |_=>false
def xl(m:Nat->ah aM):Nat->Nat->aa In->ah (aa In×aa (Nat×Nat))
 |_,_,[]=>some ([],[])
 | i,C,.blk cs :: r=>match bif Nat.blt (nF i) 60000 then m (nF i)else none with
  | some (.blk F)=>match zJ m i C 0 cs F,xl m (i+1) (C+1+cs.length) r with
   |some (eo,rs),some (os,D)=>some (.blk eo::os,(nF i,C)::(rs++D))
   |_,_=>none
  |_=>none
 | i,C,.sl I :: r=>bif I.gone then (match xl m (i+1) (C+1) r with
   |some (os,D)=>some (.sl .nil::os,D)
   |none=>none)else match bif Nat.blt (nF i) 60000 then m (nF i)else none with
  | some (.sl E)=>bif E.loc && !E.aF then (match xl m (i+1) (C+1) r with
   |some (os,D)=>some (.sl E::os,(nF i,C)::D)
   |none=>none)else none
  |_=>none
def E3{X:Type}(P:Program)(σ:S)(fn:Array ResultVar)(C:aa In)(k:aa In->fq->ah X):ah X:=
 qA P σ fn.toList λps=>match B9 σ.m 0 ps with
  | some (qs,rs)=>match xl σ.m 0 (qs.map λp=>p.2.length).sum C with
   | some (os,D)=>bif once (rs++D)then (match qs with
    |[p]=>k os (.one p)
    |qs=>k os (.ez qs))else none
   |none=>none
  |none=>none
/-! Types of parameters and results. -/
def gT:aa (Bool×TC×Nat)->Type
 |[]=>af
 |[(_,t,_)]=>T t
 |(_,t,_)::r=>T t×gT r
def rN:(l:aa (Bool×TC×Nat))->gT l->aa Pt
 |[],_=>[]
 |[(b,t,g)],x=>[(b,enc t g x)]
 |(b,t,g)::q::r,x=>(b,enc t g x.1)::rN (q::r) x.2
def ow:(l:aa (Bool×TC×Nat))->aa Pt->ah (gT l)
 |[],[]=>some ()
 |[(b,t,g)],[(C,D)]=>bif b==C then dec t g D else none
 | (b,t,g) :: q :: r,(C,D) :: ps=>bif b==C then (match dec t g D,ow (q :: r) ps with
  |some x,some xs=>some (x,xs)
  |_,_=>none)else none
 |_,_=>none
def qB(l:aa (Bool×TC×Nat)):fq->ah (gT l)
 |.one p=>ow l [p]
 |.ez ps=>bif Nat.beq ps.length 1 then none else ow l ps
def ek(l:aa (Bool×TC×Nat))(x:gT l):fq:=
 match rN l x with
 |[p]=>.one p
 |ps=>.ez ps
inductive PK where
 |v (b:Bool) (t:TC)
 |p (t:TC) (g off:Nat)
 |s (t:TC) (g:Nat)
def jE:aa PK->Type
 |[]=>af
 |.v _ t::r=>T t×jE r
 |.p t _ _::r=>T t×jE r
 |.s t _::r=>aa (T t)×jE r
def pG:aa (Bool×TC×Nat)->Type
 |[]=>af
 |(true,t,_)::r=>T t×pG r
 |(false,t,_)::r=>aa (T t)×pG r
def gU:(l:aa (Bool×TC×Nat))->pG l->aa In
 |[],_=>[]
 |(true,t,g)::r,x=>.blk (enc t g x.1)::gU r x.2
 |(false,t,g)::r,x=>.sl (bif Nat.ble 1000000 g then .nil else .sl t (g+2) false x.1)::gU r x.2
def dP:aa PK->aa (Bool×TC×Nat)
 |[]=>[]
 |.v _ _::r=>dP r
 |.p t g _::r=>(true,t,g)::dP r
 |.s t g::r=>(false,t,g)::dP r
def lU:(l:aa PK)->jE l->aa In
 |[],_=>[]
 |.v _ _::r,x=>lU r x.2
 |.p t g _::r,x=>.blk (enc t g x.1)::lU r x.2
 |.s t g::r,x=>.sl (.sl t (g+2) false x.1)::lU r x.2
def ja:(l:aa PK)->Nat->jE l->aa Ar
 |[],_,_=>[]
 |.v b t::r,i,x=>.pt (b,enc t 0 x.1)::ja r i x.2
 |.p _ _ off::r,i,x=>.mut i off::ja r (i+1) x.2
 |.s _ _::r,i,x=>.mut i 0::ja r (i+1) x.2
structure lV where
 ps:List PK
 ro:List (Bool×TC×Nat)
 F:jE ps->Option (gT ro×pG (dP ps))
def th(P:Program)(f:Nat)(c:lV):Prop:=
 ∀ x y,c.F x=some y->∀ (nm:Nat->Nat) (w:World) (lab:bg) (ρ:Nat->Loc) (bB:Array Value),nR w w.heap.size lab ρ 0 (lU c.ps x)->(∀ b k,lab b=some k->b<w.heap.size/\k≠[])->
     bB.size=c.ps.length->(∀i,RA w w.heap.size lab ρ ((vb (lU c.ps x) (ja c.ps 0 x)).t i) (bB.getD i undef))->∀C:Hd w lab,
     Calls P f bB w λe w'=>∃v ax,e = .returned v/\gQ ⟨w,lab,λ_=>none,C,λ_ _=>rfl⟩ w w'/\(∀b k,ax b=some k->(w.heap.size<=b\/lab b≠none)/\b<w'.heap.size/\k≠[])/\mz w' w.heap.size ax nm (ek c.ro y.1) v/\E2 w w' ax ρ nm 0 (ek c.ro y.1).len (lU c.ps x) (gU (dP c.ps) y.2)
def E4(w:World)(ρ:Nat->Loc):Nat->aa In->Prop
 |_,[]=>True
 |i,.blk cs::r=>(∃b off cells e,ρ (nF i) = .blk b off/\w.heap[b]?=some (.cells cells e (0,0))/\∀(j:Nat) x,cs[j]?=some x->x.plain=false->x.aF=true->∃u,cells[off+j]?=some u/\ρ (20001+1000*i+j) = .cO u)/\E4 w ρ (i+1) r
 |i,.sl y::r=>(∃v,ρ (nF i) = .cO v)/\E4 w ρ (i+1) r
section
variable {P:Program} {w w':World} {w0:Wd} {B N:Nat} {lab ax:bg} {ρ ρ':Nat->Loc} {σ:S} {a:Act} {X:Type} {d:Nat} {r:X} {rs:aa (Nat×Nat)} {nm:Nat->Nat}
def PT{m:Nat -> ah aM}{i pos:Nat}:∀ (xs:aa V) (L:aa Lf) (D:Nat) (ys:aa V) (O:aa (Nat×Nat)),zJ m i pos D xs L=some (ys,O) -> ys.length=xs.length/\L.length=xs.length /\
  ∀(j:Nat) y,ys[j]?=some y -> ∃l x0,L[j]?=some l/\xs[j]?=some x0/\((l = .v y/\y.plain=true) \/ (l = .v .nil/\y = .nil/\x0.aF=false) \/ (l = .own [20001+1000*i+(D+j)]/\y=x0/\y.plain=false/\(y.aF&&y.iW)=true/\20001+1000*i+(D+j)<60000) \/ (∃q,l = .own [q]/\m q=some (.sl y)/\y.aF=false/\(q,pos+1+(D+j))∈O))
 | [],[],D,ys,O,h=>by
  simp only[zJ,gG,Prod.mk.injEq]at h;obtain⟨rfl,rfl⟩:=h;exact⟨rfl,rfl,λj y U=>by simp at U⟩
 |[],_::_,D,ys,O,h=>by simp[zJ]at h
 |_::_,[],D,ys,O,h=>by simp[zJ]at h
 | x0 :: xs,l :: L,D,ys,O,h=>by
  have hc:∀ y z,PS m i D x0 l=some (y,z) -> (z=none/\l = .v y/\y.plain=true) \/ (z=none/\l = .v .nil/\y = .nil/\x0.aF=false) \/ (z=none/\l = .own [20001+1000*i+D]/\y=x0/\y.plain=false/\(y.aF&&y.iW)=true/\20001+1000*i+D<60000) \/ (∃ q,z=some q/\l = .own [q]/\m q=some (.sl y)/\y.aF=false):=by
   intro y z C;unfold PS at C;split at C
   ·rename_i x;cases hp:x.plain with
    | false=>
     rw[hp,au]at C;cases hb:(!x.iW && !x0.aF)with
     |false=>rw[hb]at C;cases C
     | true=>
      rw[hb,aj]at C;simp only[gG,Prod.mk.injEq]at C;obtain⟨rfl,rfl⟩:=C;rw[aH,gi,gi]at hb;have hx:x = .nil:=by
       cases x<;>first|rfl|(exact absurd hb.1 (by simp[V.iW]))
      subst hx;exact .inr (.inl ⟨rfl,rfl,rfl,hb.2⟩)
    |true =>grind
   ·rename_i q;split at C
    ·rename_i y1 hy1;cases hf:y1.aF with
     | true=>
      rw[hf,aj]at C;cases hb:(!x0.plain&&(x0.aF&&x0.iW)&&Nat.beq q (20001+1000*i+D)&&Nat.blt q 60000)with
      |false=>rw[hb]at C;cases C
      | true=>
       rw[hb,aj]at C;simp only[gG,Prod.mk.injEq]at C;obtain⟨rfl,rfl⟩:=C;rw[aH,aH,aH,gi]at hb;obtain⟨⟨⟨b1,b2⟩,b3⟩,b4⟩:=hb;obtain rfl:=cv b3;exact .inr (.inr (.inl ⟨rfl,rfl,rfl,b1,b2,by have:=cr b4;omega⟩))
     | false=>
      rw[hf,au]at C;cases hl:y1.loc with
      |false=>rw[hl]at C;cases C
      |true =>grind
    ·cases C
   ·cases C
  unfold zJ at h;split at h
  ·rename_i y PU PW U ET;simp only[gG,Prod.mk.injEq]at h;obtain⟨rfl,rfl⟩:=h;obtain⟨h1,h2,h3⟩:=PT xs L (D+1) PU PW ET
   refine⟨by simp[h1],by simp[h2],λj y' E=>?_⟩
   cases j with
   | zero=>
    simp at E;subst E;refine⟨l,x0,rfl,rfl,?_⟩;rcases hc y none U with ⟨_,F,I⟩|⟨_,F,I,T⟩|⟨_,F,I,T,e4,e5⟩|⟨q,Y,_⟩
    ·simp[*]
    ·simp[*]
    ·exact .inr (.inr (.inl ⟨F,I,T,e4,e5⟩))
    ·cases Y
   | succ j=>
    obtain⟨l',x',g1,g2,Z⟩:=h3 j y' (by simpa using E);rw[show D+1+j=D+(j+1) by omega]at Z;exact⟨l',x',by simpa using g1,by simpa using g2,Z⟩
  ·rename_i y q PU PW U ET;simp only[gG,Prod.mk.injEq]at h;obtain⟨rfl,rfl⟩:=h;obtain⟨h1,h2,h3⟩:=PT xs L (D+1) PU PW ET
   refine⟨by simp[h1],by simp[h2],λj y' E=>?_⟩
   cases j with
   | zero=>
    simp at E;subst E;refine⟨l,x0,rfl,rfl,?_⟩;rcases hc y (some q) U with ⟨e0,_⟩|⟨e0,_⟩|⟨e0,_⟩|⟨q',Y,F,I,T⟩
    ·cases e0
    ·cases e0
    ·cases e0
    ·injection Y with Y;subst Y;exact .inr (.inr (.inr ⟨q,F,I,T,.head _⟩))
   | succ j=>
    obtain⟨l',x',g1,g2,Z⟩:=h3 j y' (by simpa using E);rw[show D+1+j=D+(j+1) by omega]at Z;exact⟨l',x',by simpa using g1,by simpa using g2,Z.imp id (λg=>g.imp id (λg=>g.imp id λ⟨q',F,I,T,e4⟩=>⟨q',F,I,T,.tail _ e4⟩))⟩
  ·cases h
def J5{w1:World}{PX:Nat -> Loc}{m:Nat -> ah aM}(L:∀ r,20000 <= r -> r<60000 -> ρ r=PX r)(O:∀ r x,m r=some x -> dz w w1.heap.size lab ρ r x):
  ∀(ins:aa In) (i U:Nat) (outs:aa In) (Y:aa (Nat×Nat)),xl m i U ins=some (outs,Y) -> (∀p∈Y,rs.lookup p.1=some p.2) -> E4 w1 PX i ins -> pF w1 w (dO lab rs nm) PX nm i U ins outs
 | [],i,U,outs,Y,h,F,Z=>by
  simp only[xl,gG,Prod.mk.injEq]at h;obtain⟨rfl,rfl⟩:=h;trivial
 | .blk cs :: r,i,U,outs,Y,h,F,Z=>by
  unfold xl at h;cases hi:Nat.blt (nF i) 60000 with
  |false=>grind
  | true=>
   rw[hi,aj]at h;have hi:=cr hi;split at h
   ·rename_i ls PY;split at h
    ·rename_i eo rs1 os zI h1 h2;simp only[gG,Prod.mk.injEq]at h;obtain⟨rfl,rfl⟩:=h;obtain⟨⟨b,off,cells,e,Wq,Py,rO⟩,J6⟩:=Z;obtain⟨k1,k2,k3⟩:=PT _ _ _ _ _ h1
     refine⟨?_,J5 L O r (i+1) _ os zI h2 (λp D=>F p (.tail _ (List.mem_append_right _ D))) J6⟩
     have I:=O _ _ PY;have PZ:=L (nF i) (by unfold nF;omega) (by omega);generalize C:aM.blk ls=x at I;cases I with
     |sl=>cases C
     |mp=>cases C
     |gh=>cases C
     | blk b' zn vc e' ls' us E hl hh hs hc=>
      injection C with C;subst C;rw[PZ,Wq]at E;injection E with e1 e2;subst e1 e2
      refine⟨b,off,cells,vc,e,e',Wq,Py,hh,?_,by rw[k1,<- k2];exact hs,k1,λj y hy=>?_⟩
      ·have:=F _ (List.Mem.head _);simp[dO,hl,this]
      ·obtain⟨l,x0,g1,g2,g3⟩:=k3 j y hy;obtain⟨c1,c2⟩:=hc j l g1;refine⟨_,c1,?_⟩;rw[eS]at g3;rcases g3 with ⟨rfl,D⟩ | ⟨rfl,rfl,JT⟩ | ⟨rfl,rfl,D,EU,dV⟩ | ⟨q,rfl,hq,hf,xh⟩
       ·exact .inl ⟨D,λ_ _ _ _=>c2.2.rz D⟩
       ·exact .inr (.inl ⟨rfl,by have h9:=c2.2;generalize us j=u9 at h9 ⊢;cases h9;rfl,x0,g2,JT⟩)
       ·rw[aH]at EU;obtain⟨hf,J7⟩:=EU;obtain⟨u,hu,ahx⟩:=rO j y g2 D hf;refine .inr (.inr (.inl ⟨D,hf,J7,⟨y,g2,.same _⟩,?_⟩));have T:=c2.2;have P0:=L (20001+1000*i+j) (by omega) dV;simp only[cC,P0,ahx]at T;simp_all
       ·refine .inr (.inr (.inr ⟨hf,?_⟩));have I:=O _ _ hq;generalize C:aM.sl y=x at I;cases I with
        |blk=>cases C
        |mp=>cases C
        |gh=>cases C
        | sl v y' E hr=>
         injection C with C;subst C;have T:=c2.2;simp only[cC,E]at T;injection T with T;rw[<- T];exact RV.dO (p:=[]) hr (F _ (.tail _ (List.mem_append_left _ xh)))
    ·cases h
   ·cases h
 | .sl y :: r,i,U,outs,Y,h,F,Z=>by
  unfold xl at h;cases hg:y.gone with
  | true=>
   rw[hg,aj]at h;split at h
   next os zI h2=>simp at h;obtain⟨rfl,rfl⟩:=h;exact⟨.inl rfl,J5 L O r _ _ os zI h2 F Z.2⟩
   ·cases h
  |false=>
  rw[hg,au]at h;cases hi:Nat.blt (nF i) 60000 with
  |false=>grind
  | true=>
   rw[hi,aj]at h;have hi:=cr hi;split at h
   ·rename_i y' EO;cases hl:(y'.loc && !y'.aF)with
    |false=>grind
    | true=>
     rw[hl,aj]at h;split at h
     ·rename_i os zI h2;simp only[gG,Prod.mk.injEq]at h;obtain⟨rfl,rfl⟩:=h;obtain⟨⟨v,hv⟩,J6⟩:=Z
      refine⟨.inr ⟨v,hv,?_⟩,J5 L O r (i+1) _ os zI h2 (λp D=>F p (.tail _ D)) J6⟩
      have PZ:=L (nF i) (by unfold nF;omega) (by omega);have I:=O _ _ EO;generalize C:aM.sl y'=x at I;cases I with
      |blk=>cases C
      |mp=>cases C
      |gh=>cases C
      | sl v' y'' E hr=>
       injection C with C;subst C;rw[PZ,hv]at E;injection E with E;subst E;exact RV.dO (p:=[]) hr (F _ (.head _))
     ·cases h
   ·cases h
def ahy{w1:World}{U:Nat -> Loc}{fn:Func}{O:aa In}{k:aa In -> fq -> ah X}(hw:w0.w=w1)(hF:∀ r,20000 <= r -> r<60000 -> w0.F r=some (U r))(he:E4 w1 U 0 O)(h:E3 P σ fn.results O k=some r):
  ∃outs res,k outs res=some r /\ ∀lab ρ a w,Rl w0 N lab ρ σ a w -> ∀nm,∃v ax,(results fn a.tmps).run P w = .ok v w/\(∀b k,ax b=some k -> (w0.heap.size <= b \/ w0.L b≠none)/\b<w.heap.size/\k≠[])/\mz w w0.heap.size ax nm res v/\pF w1 w ax U nm 0 res.len O outs:=by
 unfold E3 at h;obtain⟨ps,E,pz⟩:=E1 (w0:=w0) (N:=N) _ _ h;clear h;split at E
 ·rename_i qs P1 PN;split at E
  ·rename_i os P2 hos;cases ho:once (P1++P2)with
   |false=>rw[ho]at E;cases E
   | true=>
    rw[ho,aj]at E;generalize Wr:P1++P2=rs at ho;have lT:∀ p∈rs,rs.lookup p.1=some p.2:=by
     intro p Y;have:=bW.1 ho p Y;obtain⟨n,hn,he⟩:=(Option.any_eq_true _ _).1 this;simp_all
    have core:∀ lab ρ a w,Rl w0 N lab ρ σ a w -> ∀ nm:Nat -> Nat,∃ C:aa Value,(fn.results.mapM (pE a.tmps)).run P w = .ok C.toArray w/\(∀ b k,dO lab rs nm b=some k -> (w0.heap.size <= b \/ w0.L b≠none)/\b<w.heap.size/\k≠[])/\iN w w0.heap.size (dO lab rs nm) nm 0 qs C /\
      pF w1 w (dO lab rs nm) U nm 0 (qs.map λp=>p.2.length).sum O os:=by
     intro lab ρ a w hR nm;obtain⟨C,Z,hl,hv⟩:=pz lab ρ a w hR
     refine⟨C,?_,λb k I=>?_,PL hR.root ps 0 qs P1 C PN (λp Y=>lT p (by rw[<- Wr];exact List.mem_append_left _ Y)) hl hv,
      J5 (λr h1 E=>hR.fix r _ (hF r h1 E)) (by rw[<- hw];exact hR.root) O 0 _ os P2 hos (λp Y=>lT p (by rw[<- Wr];exact List.mem_append_right _ Y)) he⟩
     ·rw[Array.mapM_eq_mapM_toList];simp[Z]
     ·unfold dO at I;split at I
      ·cases I
      ·rename_i k' nO;have:=hR.cE b k' nO;split at I
       ·cases I
       ·cases rM:rs.lookup _ with
        |none=>rw[rM]at I;cases I
        | some n=>
         rw[rM]at I;injection I with I;subst I;simp_all
    have iZ:∀ (tmps:Array Value),results fn tmps=(do let C <- fn.results.mapM (pE tmps);pure (if h:C.size=1 then C[0]else .tuple C)):=λtmps=>by
     unfold results;congr 1
    split at E
    ·rename_i p
     refine⟨_,_,E,λlab ρ a w hR nm=>?_⟩
     obtain⟨C,Z,mD,D,T⟩:=core lab ρ a w hR nm;have T:pF w1 w (dO lab rs nm) U nm 0 (fq.one p).len O os:=by simpa [fq.len]using T
     match C,D with
     |[v],D=>exact⟨v,_,by rw[iZ,fA,Z];rfl,mD,D,T⟩
     |[],D=>exact D.elim
     |_::_::_,D=>exact D.2.elim
    ·rename_i cS
     refine⟨_,_,E,λlab ρ a w hR nm=>?_⟩
     obtain⟨C,Z,mD,D,T⟩:=core lab ρ a w hR nm;have hsz:C.toArray.size≠1:=by
      intro e;clear T;have e:C.length=1:=by simpa using e
      match qs,C,D,cS,e with
      |[q],[v],_,cS,_=>exact cS q rfl
      |[],[v],D,_,_=>exact D.elim
      |_::_::_,[v],D,_,_=>exact D.2.elim
     refine⟨.tuple C.toArray,_,?_,mD,⟨C.toArray,rfl,D⟩,T⟩;rw[iZ,fA,Z,jO];simp only[hsz,dif_neg,not_false_eq_true,Sem.run_pure]
  ·cases E
 ·cases E
def Ws{i:Nat}:∀ (cs:aa V) (D:Nat) (m:Nat -> ah aM) (r:Nat) (x:aM),PO i D cs m r=some x -> m r=some x \/ ∃ j y,cs[j]?=some y/\y.plain=false/\r=nC i (D+j) y/\x = .sl y
 |[],D,m,r,x,h=>.inl h
 | c :: cs,D,m,r,x,h=>by
  rcases Ws cs _ _ r x h with C|⟨j,y,C,I,L,O⟩
  ·cases E:c.plain with
   |true=>simp_all
   | false=>
    rw[E,au]at C;by_cases F:r=nC i D c
    ·subst F;rw[bF]at C;injection C with C;exact .inr ⟨0,c,rfl,E,rfl,C.symm⟩
    ·rw[bZ _ _ _ F]at C;simp_all
  ·exact .inr ⟨j+1,y,by simpa using C,I,by rw[L];congr 1;omega,O⟩
def nR.roots:∀ (C:aa In) (i:Nat) (m:Nat -> ah aM),nR w B lab ρ i C -> (∀ r x,m r=some x -> dz w B lab ρ r x) -> ∀ r x,J4 i C m r=some x -> dz w B lab ρ r x
 |[],i,m,_,F,r,x,h=>F r x h
 | .blk cs :: C,i,m,I,F,r,x,h=>by
  obtain⟨T,U,L⟩:=I
  refine nR.roots C _ _ L (λr x E=>?_) r x h
  rcases Ws cs 0 _ r x E with O|⟨j,y,Y,Z,g3,g4⟩
  ·by_cases D:r=nF i
   ·subst D;rw[bF]at O;simp_all
   ·rw[bZ _ _ _ D]at O;simp_all
  ·simp_all
 | .sl y :: C,i,m,I,F,r,x,h=>by
  obtain⟨T,L⟩:=I
  refine nR.roots C _ _ L (λr x E=>?_) r x h
  by_cases D:r=nF i
  ·subst D;rw[bF]at E;simp_all
  ·rw[bZ _ _ _ D]at E;simp_all
def P3{i:Nat}:∀ (cs:aa V) (C j:Nat) x,cs[j]?=some x->(xk i C cs)[j]?=some (xj i (C+j) x)
 |[],C,j,x,h=>by simp at h
 |c::cs,C,0,x,h=>by simp at h;subst h;rfl
 | c :: cs,C,j+1,x,h=>by
  simp only[xk,List.getElem?_cons_succ];rw[P3 cs (C+1) j x (by simpa using h)];congr 2;omega
def nR.xm:∀ (C:aa In) (i:Nat),nR w B lab ρ i C -> E4 w ρ i C
 |[],_,_=>trivial
 | .blk cs :: C,i,F=>by
  obtain⟨E,_,I⟩:=F;refine⟨?_,nR.xm C (i+1) I⟩;generalize D:aM.blk (xk i 0 cs)=x at E;cases E with
  |sl=>cases D
  |mp=>cases D
  |gh=>cases D
  | blk b off cells e ls us T hl U hs Y=>
   injection D with D;subst D
   refine⟨b,off,cells,e,T,U,λj x Z hp hf=>?_⟩
   obtain⟨c1,L⟩:=Y j _ (P3 cs 0 j x Z);rw[eS]at L;refine⟨_,c1,?_⟩;have e1:xj i j x = .own [20001+1000*i+j]:=by simp[xj,hp,nC,hf]
   rw[e1]at L;have O:=L.2;simp only[cC]at O;split at O
   ·simp_all
   ·cases O
 | .sl y :: C,i,F=>by
  obtain⟨E,I⟩:=F;refine⟨?_,nR.xm C (i+1) I⟩;cases E with
  |sl v y' T hr=>simp_all
end
def cI(n:Nat):aa Nat->Bool
 |[]=>false
 |m::l=>Nat.beq n m ||cI n l
def rP{n:Nat}:∀ {l:aa Nat},cI n l=true ↔ n∈l
 |[]=>by simp[cI]
 | m :: l=>by
  simp only[cI,dA,fH,rP];simp_all
def Wt{n:Nat}{l:aa Nat}(h:cI n l=false):n ∉ l:=λk=>by rw[rP.2 k]at h;cases h
def fh(k l:aa Nat):Bool:=match k.getLast? with
 |some r=>cI r l
 |none=>false
def tj(ns cn:aa Nat):lO:=⟨λk=>fh k cn ||(fh k ns && !(Nat.beq k.length 1)),λk=>fh k cn ||fh k ns,λr=>cI r cn⟩
def Lf.cL(ns cn:aa Nat):Lf->Lf:=Lf.cm (tj ns cn).l
def A.cL(ns cn:aa Nat):A->A:=A.cm (tj ns cn)
def aM.cL(ns cn:aa Nat):aM->aM:=aM.cm (tj ns cn)
def S.cL(σ:S)(ns cn:aa Nat)(nr:aa (Nat×aM)):S:=⟨λk=>(σ.t k).cL ns cn,λr=>match nr.lookup r with
 |some x=>some x
 |none=>bif cI r ns ||cI r cn then none else (σ.m r).map (aM.cL ns cn)⟩
structure rQ (w w':World) (lab cT:bg) (ρ eB:Nat->Loc) (ns cn:List Nat):Prop where
 size:w.heap.size<=w'.heap.size
 same:∀b,b<w.heap.size->(∀k,lab b=some k->fh k ns=false)->w'.heap[b]?=w.heap[b]?/\cT b=lab b
 eA:∀r,cI r cn=false->eB r=ρ r
 lab:∀b k,lab b=some k->b<w.heap.size/\k≠[]
section
variable {P:Program} {w w':World} {w0:Wd} {B N:Nat} {lab cT ax:bg} {ρ eB:Nat->Loc} {σ:S} {a:Act} {X:Type} {d:Nat} {r:X} {ns cn:aa Nat}
def Wu{j i s:Nat}{q l:aa Nat}(h:q≠[]):fh (j :: i :: s :: q) l=fh q l:=by
 cases q with
 |nil=>simp_all
 |cons x q=>simp[fh]
def rQ.tr(C:rQ w w' lab cT ρ eB ns cn):Tr w w' lab cT ρ eB (λk=>fh k ns) (λr=>cI r cn):=
 ⟨C.size,λb hb hl=>let e:=C.same b hb (λk D=>by rw[hl]at D;cases D);⟨e.1,e.2.trans hl⟩,λb k hl D=>let e:=C.same b (C.lab b k hl).1 (λF E=>by rw[hl]at E;injection E with E;subst E;exact D);⟨e.1,e.2.trans hl⟩,C.eA,λj i s x q=>Wu (by simp),λb hb=>absurd rfl (C.lab b [] hb).2⟩
def P4:(tj ns cn).OK (λk=>fh k ns) (λr=>cI r cn):=by
 refine⟨λk D=>?_,λk D=>?_,λ_ h=>h⟩
 ·obtain⟨E,C⟩:=oe.1 D;refine⟨?_,E⟩;cases F:fh k ns with
  |false=>exact .inr rfl
  | true=>
   rw[F,cM,Bool.not_eq_false']at C;exact .inl (cv C)
 ·obtain⟨E,C⟩:=oe.1 D;exact⟨C,E⟩
def RV.rR(C:rQ w w' lab cT ρ eB ns cn){q:aa Nat}{x:V}{v:Value}(h:RV w B lab q x v)(D:fh q ns=false\/x.aF=true):RV w' B cT q x v:=h.tr C.tr D.symm
def RA.rR(C:rQ w w' lab cT ρ eB ns cn){x:A}{u:Value}(h:RA w B lab ρ x u):RA w' B cT eB (x.cL ns cn) u:=h.tr C.tr P4
def di.rR(C:rQ w w' lab cT ρ eB ns cn){x:Lf}{u:Value}(h:di w B lab ρ x u):di w' B cT eB (x.cL ns cn) u:=h.tr C.tr P4
def dz.rR(C:rQ w w' lab cT ρ eB ns cn){n:Nat}{x:aM}(h:dz w B lab ρ n x)(D:cI n ns=false)(E:cI n cn=false):dz w' B cT eB n (x.cL ns cn):=h.tr C.tr P4 D E
def Rl.rR(h:Rl w0 N lab ρ σ a w)(D:rQ w w' lab cT ρ eB ns cn)(hb:gQ w0 w w')(hl:∀ b k,cT b=some k -> (w0.heap.size <= b \/ w0.L b≠none)/\b<w'.heap.size/\k≠[])(T:∀ r,cI r cn=true -> w0.F r=none){nr:aa (Nat×aM)}
  (U:∀r x,nr.lookup r=some x -> dz w' w0.heap.size cT eB r x):Rl w0 N cT eB (σ.cL ns cn nr) a w':=by
 refine⟨h.below.trans hb,hl,λr x C=>?_,λk=>(h.tmp k).rR D,h.size,h.defers,λr l I=>?_,h.cY⟩
 ·simp only[S.cL]at C;split at C
  ·simp_all
  ·cases hm:(cI r ns || cI r cn)with
   |true=>simp_all
   | false=>
    rw[hm]at C;rw[oe]at hm;cases E:σ.m r with
    |none=>simp_all
    | some y=>
     rw[E]at C;injection C with C;subst C;exact(h.root r y E).rR D hm.1 hm.2
 ·have O:cI r cn=false:=by
   grind
  exact(D.eA r O).trans (h.fix r l I)
end
inductive Mu where
 |blk (r:Nat) (cs:List Lf) (vs:List (V×Option Nat))
 |sl (q:Nat) (y:V)
def Mu.root:Mu->Nat
 |.blk r _ _=>r
 |.sl q _=>q
def tq(m:Nat->ah aM):Lf->ah (V×ah Nat)
 |.v x=>some (x.fJ,none)
 | .own [q]=>match m q with
  |some (.sl y)=>bif y.aF then some (y.fJ,none)else some (y,some q)
  |_=>none
 |_=>none
def pH(m:Nat->ah aM):aa Lf->ah (aa (V×ah Nat))
 |[]=>some []
 | l :: C=>match tq m l,pH m C with
  |some v,some D=>some (v::D)
  |_,_=>none
def tu(σ:S):PK->A->ah (ah Mu)
 |.v _ _,_=>some none
 | .p _ _ off,.aI r j=>(match (bif Nat.beq j off then σ.m r else none)with
  | some (.blk cs)=>(match pH σ.m cs with
   |some C=>bif Nat.blt cs.length 999 then some (some (.blk r cs C))else none
   |none=>none)
  |_=>none)
 | .s _ _,.lf (.own [q])=>(match σ.m q with
  |some (.sl y)=>bif y.aF then none else some (some (.sl q y))
  |_=>none)
 |_,_=>none
def iC(σ:S):aa PK->aa Operand->ah (aa Mu)
 |[],[]=>some []
 | p :: ps,x :: xs=>(match tu σ p (aE σ x),iC σ ps xs with
  |some (some D),some C=>some (D::C)
  |some none,some C=>some C
  |_,_=>none)
 |_,_=>none
def Ce(i:Nat):Nat->aa (V×ah Nat)->aa (Nat×Nat)
 |_,[]=>[]
 |j,(_,some q)::C=>(q,60000+1000*i+j)::Ce i (j+1) C
 |j,(_,none)::C=>Ce i (j+1) C
def jF:Nat->aa Mu->aa (Nat×Nat)
 |_,[]=>[]
 |i,.blk r _ D::C=>(r,nF i)::(Ce i 0 D++jF (i+1) C)
 |i,.sl q _::C=>(q,nF i)::jF (i+1) C
def P5(ns:aa Nat):Lf->Bool
 |.own k=>!fh k ns
 |_=>true
def qC{X:Type}(σ:S)(ns:aa Nat):aa Lf->(aa V->ah X)->ah X
 |[],k=>k []
 |x::xs,k=>bif P5 ns x then nK σ x λy=>qC σ ns xs λys=>k (y.fJ::ys)else none
def pI{X:Type}(σ:S)(ns:aa Nat)(x:A)(k:Pt->ah X):ah X:=
 match x with
 |.lf y=>qC σ ns [y] λC=>k (false,C)
 |.agg ys=>qC σ ns ys λC=>k (true,C)
 |.lN f (c::cs)=>k (false,.bool false::.int .i64 (f:Int)::c.fJ::cs.map V.fJ)
 | .fn f [(r,j)]=>bif cI r ns then none else (match σ.m r with
  | some (.blk cs)=>(match oY (cs.drop j)with
   |some (c::C)=>k (false,.bool false::.int .i64 (f:Int)::c::C)
   |_=>none)
  |_=>none)
 |_=>none
def iD{X:Type}(σ:S)(ns:aa Nat):(ps:aa PK)->aa Operand->aa Mu->(jE ps->ah X)->ah X
 |[],[],[],k=>k ()
 | .v b t :: ps,x :: xs,C,k=>pI σ ns (aE σ x) λp=>bif p.1==b then (match dec t 0 p.2 with
  |some y=>iD σ ns ps xs C λys=>k (y,ys)
  |none=>none)else none
 | .p t g _ :: ps,_ :: xs,.blk _ _ D :: C,k=>(match (bif Nat.beq (g % 2) 0 then dec t g (D.map (·.1))else none)with
  |some y=>iD σ ns ps xs C λys=>k (y,ys)
  |none=>none)
 | .s t g :: ps,_ :: xs,.sl _ y :: C,k=>(match (bif Nat.beq (g % 2) 0 then y.eF t (g+2)else none)with
  |some z=>iD σ ns ps xs C λys=>k (z,ys)
  |none=>none)
 |_,_,_,_=>none
def ve(w:World)(ρ:Nat->Loc)(rs:aa Nat):Nat->Loc:=λn=>
 if n<60000 then (if (n-20000) % 1000=0 then ρ (rs.getD ((n-20000) / 1000) 0)else (match ρ (rs.getD ((n-20000) / 1000) 0)with
  |.blk b off=>.cO ((w.cell? ⟨b,off+((n-20000) % 1000-1),none⟩).getD undef)
  |.cO v=>.cO v
  |.bB us=>.bB us))
 else (match ρ (rs.getD ((n-60000) / 1000) 0)with
  |.blk b off=>.cO ((w.cell? ⟨b,off+(n-60000) % 1000,none⟩).getD undef)
  |.cO v=>.cO v
  |.bB us=>.bB us)
def E5{w:World}{ρ:Nat -> Loc}{rs:aa Nat}{i r:Nat}(h:rs[i]?=some r)(hi:i<40):ve w ρ rs (nF i)=ρ r:=by
 have C:nF i<60000:=by unfold nF;omega
 have D:(nF i-20000) % 1000=0:=by unfold nF;omega
 have E:(nF i-20000) / 1000=i:=by unfold nF;omega
 have F:rs.getD i 0=r:=by rw[fQ,h];rfl
 unfold ve;simp_all
def ahz{w:World}{ρ:Nat -> Loc}{rs:aa Nat}{i j r b off:Nat}{u:Value}{x:V}(h:rs[i]?=some r)(hi:i<40)(C:j<999)(D:ρ r = .blk b off)(E:w.cell? ⟨b,off+j,none⟩=some u):ve w ρ rs (nC i j x) = .cO u:=by
 have F:rs.getD i 0=r:=by rw[fQ,h];rfl
 unfold ve nC;cases x.aF with
 |true =>grind
 |false =>grind
def V.J8:V->Bool
 |.sl _ o _ _=>Nat.beq (o % 2) 0
 |_=>true
section
variable {P:Program} {w w':World} {w0:Wd} {B N:Nat} {lab cT ax:bg} {ρ eB:Nat->Loc} {σ:S} {a:Act} {X:Type} {d:Nat} {r:X} {ns cn:aa Nat}
def RV.Wv{B':Nat}{q:aa Nat}{x:V}{v:Value}(h:RV w B lab q x v)(D:x.J8=true):RV w B' lab q x v:=by
 induction h with
 |int=>exact .int _ _ _
 |bool=>exact .bool _ _
 |str=>exact .str _ _
 |nil=>exact .nil _
 |dN=>exact .dN _ _ _
 |eX=>exact .eX _ _ _ _ _ (by first|assumption|omega)
 |fB=>exact .fB _ _ _ _ _ (by first|assumption|omega)
 | aF q t o L l b off cap u O hl hb h1 T E U F=>
  have D:=cv D;have Y:o=0:=by omega
  subst Y
  refine .aF _ _ _ _ _ _ _ _ u O hl hb (by omega) T E (λi h j x C=>F i h j x C ?_)
  have:=wN t 0 l[i] x (fP C);cases x with
  | sl Z I q' l'=>
   have:I=0:=by simpa [V.gr]using this
   subst this;rfl
  |_=>rfl
 | own q t o L l b cap cs u hl hh hs hn hm E U F=>
  have D:=cv D
  refine .own _ _ _ _ _ _ _ cs u hl hh hs hn hm E (λi h j x C=>F i h j x C ?_)
  have:=wN t o l[i] x (fP C);cases x with
  | sl Z I q' l'=>
   have:I=o:=by simpa [V.gr]using this
   show Nat.beq _ 0=true;simp_all
  |_=>rfl
def RV.out{q F:aa Nat}{x:V}{v:Value}(h:RV w B lab q x v)(T:∀ b,lab b=none -> ax b=none)(U:∀ b k,lab b=some k -> k≠[]/\(fh k ns=false -> ax b=none))(hq:x.aF=true \/ fh q ns=false){B':Nat}:RV w B' ax F x.fJ v:=by
 induction h generalizing F with
 |int=>exact .int _ _ _
 |bool=>exact .bool _ _
 |str=>exact .str _ _
 |nil=>exact .nil _
 |dN=>exact .dN _ _ _
 |eX=>exact .eX _ _ _ _ _ (by first|assumption|omega)
 |fB=>exact .fB _ _ _ _ _ (by first|assumption|omega)
 | aF q t o Y l b off cap u Z hl hb h1' hcap I hr E=>
  refine .aF _ _ _ _ _ _ _ _ u (by omega) (T b hl) hb (by omega) hcap (λi h j x C=>?_) (λi h j x C=>?_)
  ·obtain⟨y,D,_⟩:=uG t o l[i] j x C;simp_all
  ·obtain⟨y,D,rfl⟩:=uG t o l[i] j x C;exact E i h j y D (.inl (oh t o l[i] Z j y D))
 | own q t o Y l b cap cs u hl L hs hn hm I hr E=>
  have O:fh q ns=false:=by
   rcases hq with hq|hq
   ·simp[V.aF]at hq;omega
   ·exact hq
  obtain⟨cS,ot⟩:=U b q hl
  refine .aF _ _ _ _ _ _ _ _ u (by omega) (ot O) (gD.1 L).1 (by omega) hn (λi h j x C=>?_) (λi h j x C=>?_)
  ·obtain⟨y,D,_⟩:=uG t o l[i] j x C;have:=I i h j y D;rw[eS,cell_of_row w b _ cs _ _ L];exact this
  ·obtain⟨y,D,rfl⟩:=uG t o l[i] j x C;exact E i h j y D (.inr (by rw[Wu cS];exact O))
def ahA{x:Lf}{k:V -> ah X}(h:nK σ x k=some r):∃ y,k y=some r /\ ∀ lab ρ a w,Rl w0 N lab ρ σ a w -> ∀ u,di w w0.heap.size lab ρ x u -> ∃ q,(x = .own q \/ y.aF=true)/\RV w w0.heap.size lab q y u:=by
 cases x with
 |v y=>exact⟨y,h,λlab ρ a w hR u C=>⟨[],.inr C.1,C.2⟩⟩
 |dead=>cases h
 | own q=>
  obtain⟨y,D,E⟩:=qq q k h
  refine⟨y,E,λlab ρ a w hR u C=>⟨q,.inl rfl,?_⟩⟩
  obtain⟨v,F,I⟩:=D.ok hR.root;have:v=u:=by
   have L:=C.2;simp_all
  simp_all
structure zK (ns:List Nat) (lab ax:bg):Prop where
 none:∀b,lab b=none->ax b=none
 rest:∀b k,lab b=some k->k≠[]/\(fh k ns=false->ax b=Option.none)
def P6:∀ (xs:aa Lf) (k:aa V -> ah X),qC σ ns xs k=some r -> ∃ C,k C=some r/\C.length=xs.length /\ ∀ lab ρ a w ax,Rl w0 N lab ρ σ a w -> zK ns lab ax -> ∀ (j:Nat) x y u,xs[j]?=some x -> C[j]?=some y -> di w w0.heap.size lab ρ x u -> RV w w.heap.size ax [] y u
 |[],k,h=>⟨[],h,rfl,λ_ _ _ _ _ _ _ j x y u L=>by simp at L⟩
 | x :: xs,k,h=>by
  unfold qC at h;cases D:P5 ns x with
  |false=>simp_all
  | true=>
   rw[D,aj]at h;obtain⟨y,O,T⟩:=ahA (w0:=w0) (N:=N) h;obtain⟨ys,U,hl,hr⟩:=P6 xs _ O
   refine⟨y.fJ::ys,U,by simp[hl],λlab ρ a w ax hR E j x' y' u F I Y=>?_⟩
   cases j with
   | zero=>
    simp at F I;subst F I;obtain⟨q,hq,Z⟩:=T lab ρ a w hR u Y;refine Z.out E.none E.rest ?_;rcases hq with rfl|hq
    ·exact .inr (by simpa [P5]using D)
    ·simp_all
   |succ j=>grind
inductive PM (w:World) (ax:bg):Pt->Value->Prop
 |v (p:Pt) (u:Value) (h:PV w w.heap.size ax (λ_=>[]) p u):PM w ax p u
 |f (g:Nat) (c:V) (cs:List V) (u:Value) (h:RF w w.heap.size ax (c::cs) u):PM w ax (false,.bool false::.int .i64 (g:Int)::c::cs) (.func (.func g) #[] #[u])
def ahB{g:Nat}{c:V}{cs ys:aa V}(hl:(V.bool false :: .int .i64 (g:Int) :: c :: cs).length=ys.length)(h:∀ (j:Nat) x z,(V.bool false :: .int .i64 (g:Int) :: c :: cs)[j]?=some x -> ys[j]?=some z -> Wk x z):∃ C eo,ys = .bool false :: .int .i64 (g:Int) :: C :: eo/\jx (c :: cs) (C :: eo):=by
 match ys,hl,h with
 | a :: b :: C :: eo,hl,h=>
  have D:=h 0 _ a rfl rfl;have E:=h 1 _ b rfl rfl;cases D;cases E;exact⟨C,eo,rfl,by simpa using hl,λj x z F I=>h (j+2) x z (by simpa using F) (by simpa using I)⟩
def RF.rS{cs C:aa V}{u:Value}(h:RF w B lab cs u)(E:jx cs C)(I:∀ (j:Nat) z,C[j]?=some z->z.aF=true):RF w B lab C u:=by
 obtain⟨b,off,rfl,hb,hl,L⟩:=h
 refine⟨b,off,rfl,hb,hl,λj x D=>?_⟩
 have F:j<cs.length:=by rw[E.1];exact(de.1 D).1
 obtain⟨_,v,O,T⟩:=L j _ (bQ F);exact⟨I j x D,v,O,T.wk (E.2 j _ x (bQ F) D)⟩
def RF.fJ{cs:aa V}{u:Value}(h:RF w B lab cs u)(D:∀ b,lab b=none -> ax b=none)(F:∀ b k,lab b=some k -> k≠[]/\(fh k ns=false -> ax b=none)){B':Nat}:RF w B' ax (cs.map V.fJ) u:=by
 obtain⟨b,off,rfl,hb,hl,I⟩:=h
 refine⟨b,off,rfl,hb,D b hl,λj x C=>?_⟩
 rw[dI]at C;cases E:cs[j]? with
 |none=>simp_all
 | some y=>
  rw[E]at C;injection C with C;subst C;obtain⟨L,v,O,T⟩:=I j y E;exact⟨V.agF y,v,O,T.out D F (.inl L)⟩
def ahC{x:A}{k:Pt -> ah X}(h:pI σ ns x k=some r):∃ p,k p=some r /\ ∀ lab ρ a w ax,Rl w0 N lab ρ σ a w -> zK ns lab ax -> ∀ u,RA w w0.heap.size lab ρ x u -> PM w ax p u:=by
 unfold pI at h;split at h
 ·rename_i y;obtain⟨T,I,hl,L⟩:=P6 (w0:=w0) (N:=N) _ _ h
  refine⟨_,I,λlab ρ a w ax hR C u D=>.v _ _ ⟨#[u],rfl,by simp[hl],λj x E=>?_⟩⟩
  have F:j=0:=by
   grind
  subst F;exact⟨u,rfl,L lab ρ a w ax hR C 0 y x u rfl E D⟩
 ·rename_i ys;obtain⟨T,I,hl,L⟩:=P6 (w0:=w0) (N:=N) _ _ h
  refine⟨_,I,λlab ρ a w ax hR C u D=>?_⟩
  obtain⟨us,rfl,O⟩:=D
  refine .v _ _ ⟨us,rfl,by rw[hl];exact O.1,λj x E=>?_⟩
  have F:j<ys.length:=by rw[<- hl];exact(de.1 E).1
  obtain⟨v,hv,fC⟩:=O.2 j _ (bQ F);exact⟨v,hv,L lab ρ a w ax hR C j _ x v (bQ F) E fC⟩
 ·rename_i f c cs
  refine⟨_,h,λlab ρ a w ax hR C u D=>?_⟩
  obtain⟨pv,rfl,tv⟩:=D;exact .f f _ _ _ (tv.fJ C.none C.rest)
 ·rename_i f U j;cases Y:cI U ns with
  |true=>grind
  | false=>
   rw[Y,au]at h;split at h
   ·rename_i cs hm;split at h
    ·rename_i c T wQ;obtain⟨e,hp⟩:=JH _ _ wQ
     refine⟨_,h,λlab ρ a w ax hR C u D=>?_⟩
     obtain⟨us,rfl,iL,hcap⟩:=D;obtain⟨b,off,cD,Z⟩:=hcap 0 _ rfl;have Z:us[0]?=some (.pointer (some ⟨b,off+j,none⟩)):=Z;have awA:us.size=1:=iL;have ahD:us = #[.pointer (some ⟨b,off+j,none⟩)]:=by
      apply Array.ext';apply List.ext_getElem?;intro i;cases i with
      |zero=>grind
      |succ i=>grind
     subst ahD;refine .f f _ _ _ ?_;cases hR.root U _ hm with
     | blk b' zn cells e' _ JM gS mD hh O hc=>
      rw[cD]at gS;injection gS with q1 q2;subst q1 q2
      refine⟨b,off+j,rfl,(gD.1 hh).1,(C.rest b _ mD).2 (by simpa [fh]using Y),λi x E=>?_⟩
      have Ww:=hp x (fP E);have Wx:(cs.drop j)[i]?=some (.v x):=by rw[e,dI,E];rfl
      rw[List.getElem?_drop]at Wx;obtain⟨k1,k2⟩:=hc _ _ Wx;refine⟨(by cases x<;>first|rfl|cases Ww),JM (j+i),?_,k2.2.rz Ww⟩;rw[Nat.add_assoc,cell_of_row w b _ cells _ _ hh];exact k1
    ·cases h
   ·cases h
 ·cases h
def xo(σ:S):Mu->Prop
 |.blk r cs C=>σ.m r=some (.blk cs)/\pH σ.m cs=some C/\cs.length<999
 |.sl q y=>σ.m q=some (.sl y)/\y.aF=false
def E6:aa Mu->aa In->Prop
 |[],[]=>True
 |.blk _ _ F::C,.blk xs::D=>(jx (F.map (·.1)) xs/\∀x∈xs,x.iW=true/\x.J8=true)/\E6 C D
 |.sl _ y::C,.sl E::D=>(Wk y E/\E.J8=true)/\E6 C D
 |_,_=>False
def Cf(w:World)(B:Nat)(lab:bg)(ρ:Nat->Loc)(C:aa In):aa Ar->aa Value->Prop
 |[],[]=>True
 |x::xs,v::D=>RA w B lab ρ (PR C x) v/\Cf w B lab ρ C xs D
 |_,_=>False
def Cf.get{D:aa In}:∀ (xs:aa Ar) (C:aa Value),Cf w B lab ρ D xs C -> C.length=xs.length /\ ∀ i,RA w B lab ρ ((vb D xs).t i) (C.toArray.getD i undef)
 |[],[],_=>⟨rfl,λi=>trivial⟩
 | x :: xs,v :: C,h=>by
  obtain⟨E,F⟩:=Cf.get xs C h.2
  refine⟨by simp[E],λi=>?_⟩
  cases i with
  |zero=>exact h.1
  | succ i=>
   have:=F i;simp at this ⊢;exact this
def ahE{t:TC}{g:Nat}{x:T t}(D:Nat.beq (g % 2) 0=true):∀ y∈enc t g x,y.iW=true/\y.J8=true:=by
 intro y C;refine⟨OS t g x y C,?_⟩;have:=wN t g x y C;cases y with
 | sl F E I L=>
  have:E=g:=by simpa [V.gr]using this
  subst this;exact D
 |_=>rfl
def ahF(σ:S):PK->A->ah Mu->Prop
 |.v _ _,_,none=>True
 |.p _ _ off,x,some (.blk r cs C)=>x = .aI r off/\xo σ (.blk r cs C)
 |.s _ _,x,some (.sl q y)=>x = .lf (.own [q])/\xo σ (.sl q y)
 |_,_,_=>False
def tw{p:PK}{x:A}{z:ah Mu}(h:tu σ p x=some z):ahF σ p x z:=by
 cases p with
 | v b t=>
  injection h with h;subst h;trivial
 | p t g off=>
  cases x with
  | aI r j=>
   have h:(match (bif Nat.beq j off then σ.m r else none)with
    | some (.blk cs)=>(match pH σ.m cs with
     |some E=>bif Nat.blt cs.length 999 then some _ else none
     |none=>none)
    |_=>none)=some z:=h
   cases C:Nat.beq j off with
   |false=>rw[C]at h;cases h
   | true=>
    obtain rfl:=cv C;rw[C,aj]at h;split at h
    ·rename_i cs F;split at h
     ·rename_i E I;cases hl:Nat.blt cs.length 999 with
      |false=>rw[hl]at h;cases h
      | true=>
       rw[hl]at h;injection h with h;subst h;exact⟨rfl,F,I,by have:=cr hl;omega⟩
     ·cases h
    ·cases h
  |_=>cases h
 | s t g=>
  have L:(∃ q,x = .lf (.own [q])):=by
   unfold tu at h;split at h
   next e=>cases e
   next e=>cases e
   ·simp[*]
   ·cases h
  obtain⟨q,rfl⟩:=L;have h:(match σ.m q with
   |some (.sl y)=>bif y.aF then none else some _
   |_=>none)=some z:=h
  split at h
  ·rename_i y O;cases D:y.aF with
   |true=>rw[D]at h;cases h
   | false=>
    rw[D]at h;injection h with h;subst h;exact⟨rfl,O,D⟩
  ·cases h
def J9:∀ (ps:aa PK) (xs:aa Operand) (D:aa Mu),iC σ ps xs=some D -> ∀ I∈D,xo σ I
 |[],[],D,h=>by injection h with h;subst h;simp
 | p :: ps,x :: xs,D,h=>by
  unfold iC at h;split at h
  ·rename_i I E C F;injection h with h;subst h;have L:=J9 ps xs E F;have C:=tw C;intro z hz;rcases fH.1 hz with rfl | hz
   ·cases p with
    |v=>exact C.elim
    | p=>
     cases z with
     |blk=>exact C.2
     |sl=>exact C.elim
    | s=>
     cases z with
     |blk=>exact C.elim
     |sl=>exact C.2
   ·simp_all
  next E C F=>injection h with h;subst h;exact J9 ps xs E F
  ·cases h
 |[],_::_,D,h=>by cases h
 |_::_,[],D,h=>by cases h
def E7:∀ {ps:aa PK} (i C:Nat) (x:jE ps),(ja ps i x).length=(ja ps C x).length
 |[],_,_,_=>rfl
 |.v _ _::ps,i,C,x=>by simp[ja,kB];rw[E7]
 |.p _ _ _::ps,i,C,x=>by simp only[ja,kB];rw[E7 (i+1) (C+1)]
 |.s _ _::ps,i,C,x=>by simp only[ja,kB];rw[E7 (i+1) (C+1)]
def Ka:∀ (ps:aa PK) (xs:aa Operand) (I:aa Mu) (k:jE ps -> ah X),iC σ ps xs=some I -> iD σ ns ps xs I k=some r -> ∃ x,k x=some r/\E6 I (lU ps x)/\(ja ps 0 x).length=xs.length /\
  ∀lab ρ a w ax ρ',Rl w0 N lab ρ σ a w -> zK ns lab ax -> ∀(L:aa In) (i:Nat),(∀j z,(lU ps x)[j]?=some z -> L[i+j]?=some z) -> (∀j O,I[j]?=some O -> ρ' (nF (i+j))=ρ O.root) -> Cf w w.heap.size ax ρ' L (ja ps i x) (xs.map a.eval)
 | [],[],I,k,C,h=>by
  injection C with C;subst C;exact⟨(),h,trivial,rfl,λ_ _ _ _ _ _ _ _ _ _ _ _=>trivial⟩
 | .v b t :: ps,x :: xs,I,k,C,h=>by
  have rB:iC σ ps xs=some I:=by
   unfold iC at C;split at C
   next O U D F=>exact(tw D).elim
   next U D F=>rw[F];exact C
   ·cases C
  unfold iD at h;obtain⟨p,F,hp⟩:=ahC (w0:=w0) (N:=N) h;cases hb:p.1==b with
  |false=>rw[hb]at F;cases F
  | true=>
   rw[hb,aj]at F;have hb:p.1=b:=by simpa using hb
   subst hb;split at F
   ·rename_i y T;obtain⟨ys,h3,h4,h5,h6⟩:=Ka ps xs I _ rB F
    refine⟨(y,ys),h3,h4,?_,λlab ρ a w ax ρ' hR Z L i hi Y=>⟨?_,h6 lab ρ a w ax ρ' hR Z L i hi Y⟩⟩
    ·simp[ja,h5]
    ·have tv:=hp lab ρ a w ax hR Z _ (hR.aE x);have hk:=jU t 0 p.2 y T;generalize a.eval x=ux at tv ⊢;rcases tv with ⟨_,_,us,hu,hs,hr⟩ | ⟨g,c,cs,pv,tv⟩
     case f=>
      have he:∀(j:Nat) z,(enc t 0 y)[j]?=some z -> z.aF=true:=λj z E=>oh t 0 y (by omega) j z E
      obtain⟨c',eo,e,hw⟩:=ahB hk.1 hk.2;rw[e]at he ⊢;exact⟨pv,rfl,tv.rS hw λj z E=>he (j+2) z (by simpa using E)⟩
     have o9:∀ (j:Nat) z,(enc t 0 y)[j]?=some z -> ∃ v,us[j]?=some v/\z.aF=true/\RV w w.heap.size ax [] z v:=by
      intro j z E;have hj:j<p.2.length:=by rw[hk.1];exact(de.1 E).1
      obtain⟨v,hv,fC⟩:=hr j _ (bQ hj);exact⟨v,hv,oh t 0 y (by omega) j z E,fC.wk (hk.2 j _ z (bQ hj) E)⟩
     have hlen:us.size=(enc t 0 y).length:=hs.trans hk.1;obtain⟨b,vs⟩:=p;cases b with
     | true=>
      show RA _ _ _ _ (.agg ((enc t 0 y).map .v)) _
      refine⟨us,hu,by rw[eE];exact hlen,λj z E=>?_⟩
      rw[dI]at E;cases BS:(enc t 0 y)[j]? with
      |none=>rw[BS]at E;cases E
      | some z'=>
       rw[BS]at E;injection E with E;subst E;obtain⟨v,hv,g1,g2⟩:=o9 j z' BS;exact⟨v,hv,g1,g2⟩
     | false=>
      have hu:us = #[ux]:=hu;subst hu;show RA _ _ _ _ (PR L (.pt (false,enc t 0 y))) _
      match he:enc t 0 y,o9,hlen with
      | [z],o9,_=>
       obtain⟨v,hv,g1,g2⟩:=o9 0 z rfl;have:ux=v:=by simpa using hv
       rw[this];exact⟨g1,g2⟩
      |[],_,_=>trivial
      |_::_::_,_,hlen=>exact absurd hlen (by simp)
   ·cases F
 | .p t g off :: ps,x :: xs,I,k,C,h=>by
  unfold iC at C;split at C
  ·rename_i O U D F;injection C with C;subst C;have D:=tw D;cases O with
   |sl=>exact D.elim
   | blk r cs vs=>
    have D:aE σ x = .aI r off/\xo σ (.blk r cs vs):=D;unfold iD at h;split at h
    ·rename_i y T;cases hg:Nat.beq (g % 2) 0 with
     |false=>rw[hg]at T;cases T
     | true=>
      rw[hg,aj]at T;obtain⟨ys,h3,h4,h5,h6⟩:=Ka ps xs U _ F h
      refine⟨(y,ys),h3,⟨⟨jU t g _ y T,ahE hg⟩,h4⟩,by simp[ja,E7 1 0,h5],λlab ρ a w ax ρ' hR Z L i hi Y=>⟨?_,?_⟩⟩
      ·have E8:=hi 0 _ rfl;rw[Nat.add_zero]at E8;have hx:=hR.aE x;rw[D.1]at hx;obtain⟨b,o,e1,e2⟩:=hx;show RA _ _ _ _ (match L[i]? with|some (.blk _)=>.aI (nF i) off|some (.sl _)=>.lf (.own [nF i])|none=>.undef) _;rw[E8];have jZ:=Y 0 _ rfl;rw[Nat.add_zero]at jZ;exact⟨b,o,jZ.trans e1,e2⟩
      ·refine h6 lab ρ a w ax ρ' hR Z L (i+1) (λj z E=>?_) (λj O lW=>?_)
       ·rw[show i+1+j=i+(j+1) by omega];exact hi _ z E
       ·rw[show i+1+j=i+(j+1) by omega];exact Y _ O lW
    ·cases h
  next U D F=>exact(tw D).elim
  ·cases C
 | .s t g :: ps,x :: xs,I,k,C,h=>by
  unfold iC at C;split at C
  ·rename_i O U D F;injection C with C;subst C;have D:=tw D;cases O with
   |blk=>exact D.elim
   | sl q y0=>
    have D:aE σ x = .lf (.own [q])/\xo σ (.sl q y0):=D;unfold iD at h;split at h
    ·rename_i y T;cases hg:Nat.beq (g % 2) 0 with
     |false=>rw[hg]at T;cases T
     | true=>
      rw[hg,aj]at T;obtain⟨ys,h3,h4,h5,h6⟩:=Ka ps xs U _ F h
      refine⟨(y,ys),h3,⟨⟨V.Em T,?_⟩,h4⟩,by simp[ja,E7 1 0,h5],λlab ρ a w ax ρ' hR Z L i hi Y=>⟨?_,?_⟩⟩
      ·show Nat.beq ((g+2) % 2) 0=true;simp[*]
      ·have E8:=hi 0 _ rfl;rw[Nat.add_zero]at E8;have hx:=hR.aE x;rw[D.1]at hx;show RA _ _ _ _ (match L[i]? with|some (.blk _)=>.aI (nF i) 0|some (.sl _)=>.lf (.own [nF i])|none=>.undef) _;rw[E8];have jZ:=Y 0 _ rfl;rw[Nat.add_zero]at jZ;refine⟨hx.1,?_⟩;have F:=hx.2;simp only[cC]at F ⊢;rw[jZ];exact F
      ·refine h6 lab ρ a w ax ρ' hR Z L (i+1) (λj z E=>?_) (λj O lW=>?_)
       ·rw[show i+1+j=i+(j+1) by omega];exact hi _ z E
       ·rw[show i+1+j=i+(j+1) by omega];exact Y _ O lW
    ·cases h
  next U D F=>exact(tw D).elim
  ·cases C
 |[],_::_,I,k,C,h=>by cases C
 |_::_,[],I,k,C,h=>by cases C
end
def kL(c0:Nat):Nat->aa (V×ah Nat)->aa Nat
 |_,[]=>[]
 |n,(_,some q)::C=>q::kL c0 (n+1) C
 |n,(_,none)::C=>(c0+n)::kL c0 (n+1) C
def xq(c0:Nat):Nat->aa Mu->aa Nat
 |_,[]=>[]
 |pos,.blk r _ D::C=>r::(kL c0 (pos+1) D++xq c0 (pos+1+D.length) C)
 |pos,.sl q _::C=>q::xq c0 (pos+1) C
def tA:aa Nat->aa V->aa Nat
 |n::C,x::xs=>bif x.aF then tA C xs else n::tA C xs
 |_,_=>[]
def lX(c0:Nat):Nat->aa Mu->aa In->aa Nat
 |pos,.blk _ _ D::C,.blk xs::outs=>tA (kL c0 (pos+1) D) xs++lX c0 (pos+1+D.length) C outs
 |pos,.sl _ _::C,.sl _::outs=>lX c0 (pos+1) C outs
 |_,_,_=>[]
def nS(ns cn:aa Nat):aa Nat->aa Lf->aa V->aa Lf
 |n::C,l::D,x::xs=>(bif x.plain then .v x else bif x.aF then l.cL ns cn else .own [n])::nS ns cn C D xs
 |_,_,_=>[]
def rT:aa Nat->aa V->aa (Nat×aM)
 |n::C,x::xs=>bif x.aF then rT C xs else (n,.sl x)::rT C xs
 |_,_=>[]
def jG(ns cn:aa Nat)(c0:Nat):Nat->aa Mu->aa In->aa (Nat×aM)
 |pos,.blk r cs D::C,.blk xs::outs=>(r,.blk (nS ns cn (kL c0 (pos+1) D) cs xs))::(rT (kL c0 (pos+1) D) xs++jG ns cn c0 (pos+1+D.length) C outs)
 |pos,.sl q _::C,.sl y::outs=>bif y.iW then (q,.sl y)::jG ns cn c0 (pos+1) C outs else jG ns cn c0 (pos+1) C outs
 |_,_,_=>[]
def Kb:aa Nat->Bool
 |[]=>true
 |n::l=>!cI n l&&Kb l
def Wy:In->Bool
 |.blk xs=>xs.all λx=>x.aF ||x.loc
 |.sl y=>y.loc
def gy:ah Tmp->Nat
 |some d=>1000000000100000+1000*d
 |none=>90000
def ox{X:Type}(N:Nat)(σ:S)(C:ah Tmp)(D:fq)(k:S->ah X):ah X:=
 match C with
 |none=>k σ
 |some d=>bif Nat.blt d N then lR σ d D k else none
def Cg(N:Nat)(C:aa Mu)(outs:aa In)(cn:aa Nat):Bool:=
 Kb cn&&(C.all λD=>!cI D.root cn)&&(cn.all λn=>Nat.blt n N ||Nat.ble 60000 n)&&outs.all Wy
def Ch{X:Type}(N:Nat)(σ:S)(C:ah Tmp)(D:aa Mu)(ns cn:aa Nat)(E:fq)(outs:aa In)(k:S->ah X):ah X:=
 bif Cg N D outs cn then ox N (σ.cL ns cn (jG ns cn (gy C) E.len D outs)) C E k else none
def mE{X:Type}(N:Nat)(σ:S)(D:ah Tmp)(c:lV)(args:aa Operand)(k:S->ah X):ah X:=
 match iC σ c.ps args with
 | some C=>bif once (jF 0 C)&&Nat.ble C.length 40 then
   iD σ ((jF 0 C).map (·.1)) c.ps args C λx=>(match c.F x with
    |some y=>Ch N σ D C ((jF 0 C).map (·.1)) (lX (gy D) (ek c.ro y.1).len C (gU (dP c.ps) y.2)) (ek c.ro y.1) (gU (dP c.ps) y.2) k
    |none=>none)else none
 |none=>none
section
variable {P:Program} {w w':World} {w0:Wd} {B N:Nat} {lab cT ax:bg} {ρ eB ρ':Nat->Loc} {σ:S} {a:Act} {X:Type} {d:Nat} {r:X} {ns cn:aa Nat} {o:Oper} {rs:aa Nat} {dD:aa (Nat×Nat)}
def Wz{n:Nat}:∀ {l:aa (Nat×Nat)},cI n (l.map (·.1))=false -> l.lookup n=none
 |[],_=>rfl
 | p :: l,h=>by
  simp[List.map_cons,cI,oe]at h;rw[List.lookup_cons];have:(n==p.1)=false:=by
   cases hb:n==p.1 with
   |false=>rfl
   |true =>simp_all
  rw[this];exact Wz h.2
def ahG{b:Nat}{k:aa Nat}{n m:Nat}(h:lab b=some k)(C:k.getLast?=some n)(D:dD.lookup n=some m):dO lab dD id b=some (k.dropLast++[m]):=by
 simp[dO,h,C,D]
def ahH(C:∀ b k,lab b=some k -> k≠[]):zK (dD.map (·.1)) lab (dO lab dD id):=by
 refine⟨λb h=>xg h,λb k h=>⟨C b k h,λhl=>?_⟩⟩
 simp[dO,h];cases D:k.getLast? with
 |none=>rfl
 | some n=>
  simp[fh,D]at hl;simp[Wz hl]
def P7{m:Nat -> ah aM}:∀ (cs:aa Lf) (C:aa (V×ah Nat)),pH m cs=some C -> C.length=cs.length /\ ∀ (j:Nat) l,cs[j]?=some l -> ∃ v,C[j]?=some v/\tq m l=some v
 |[],C,h=>by injection h with h;subst h;exact⟨rfl,λj l hl=>by simp at hl⟩
 | c :: cs,C,h=>by
  unfold pH at h;split at h
  ·rename_i v D F E;injection h with h;subst h;obtain⟨I,L⟩:=P7 cs D E
   grind
  ·cases h
def ahI{l:Lf}{v:V}{E:ah Nat}(h:tq σ.m l=some (v,E))(hR:Rl w0 N lab ρ σ a w)(D:zK ns lab ax){u:Value}(F:di w w0.heap.size lab ρ l u):
  (E=none /\ ∀B' I,RV w B' ax I v u) \/ (∃q,E=some q/\v.aF=false/\RV w w0.heap.size lab [q] v u):=by
 unfold tq at h;split at h
 ·simp at h;obtain⟨rfl,rfl⟩:=h;exact .inl ⟨rfl,λB' I=>F.2.out D.none D.rest (.inl F.1)⟩
 ·rename_i q;split at h
  ·rename_i y T;have L:=hR.root q _ T;generalize C:aM.sl y=x at L;cases L with
   |blk=>cases C
   |mp=>cases C
   |gh=>cases C
   | sl U y' Y Z=>
    injection C with C;subst C;have E0:U=u:=by
     have h2:=F.2;simp only[cC,Y]at h2;simp_all
    subst E0;cases O:y.aF with
    | true=>
     rw[O,aj]at h;obtain⟨rfl,rfl⟩:=h;exact .inl ⟨rfl,λB' I=>Z.out D.none D.rest (.inl O)⟩
    |false =>grind
  ·cases h
 ·cases h
def WA{i:Nat}{v:V}{q:Nat}:∀ (D:aa (V×ah Nat)) (C j:Nat),D[j]?=some (v,some q) -> (q,60000+1000*i+(C+j))∈Ce i C D
 |[],C,j,h=>by simp at h
 | (F,E) :: D,C,j,h=>by
  cases j with
  | zero=>
   obtain⟨rfl,rfl⟩:=h;exact .head _
  | succ j=>
   have:=WA (i:=i) D (C+1) j (by simpa using h);rw[show C+1+j=C+(j+1) by omega]at this;cases E with
   |none=>exact this
   |some I=>exact .tail _ this
def P8{i:Nat}:∀ (cs:aa V) (C:Nat),(xk i C cs).length=cs.length
 |[],_=>rfl
 |c::cs,C=>by simp[xk,P8 cs]
def RV.jy{q:aa Nat}{x:V}{u:Value}(h:RV w B lab q x u)(C:x.plain=false)(D:x.iW=true):jy u=true:=by
 cases h<;>first|rfl|cases C|cases D
def Wk.P9{x y:V}(h:Wk x y)(C:x.aF=false):y.aF=false:=by
 cases h with
 |same=>exact C
 |nil=>cases C
 |q=>exact C
 |gr t o D E l F I=>simp[V.aF];omega
def Qa(hR:Rl w0 N lab ρ σ a w)(hS:zK ns lab (dO lab dD id)):∀ (F:aa Mu) (L:aa In) (i:Nat),(∀ p∈jF i F,dD.lookup p.1=some p.2) -> (∀ j E,F[j]?=some E -> rs[i+j]?=some E.root) -> (∀ E∈F,xo σ E) -> E6 F L -> i+F.length <= 40 ->
  nR w w.heap.size (dO lab dD id) (ve w ρ rs) i L
 |[],[],_,_,_,_,_,_=>trivial
 |[],_::_,_,_,_,_,h,_=>h.elim
 |.blk _ _ _::_,[],_,_,_,_,h,_=>h.elim
 |.sl _ _::_,[],_,_,_,_,h,_=>h.elim
 |.blk _ _ _::_,.sl _::_,_,_,_,_,h,_=>h.elim
 |.sl _ _::_,.blk _::_,_,_,_,_,h,_=>h.elim
 | .blk r cs vs :: F,.blk xs :: L,i,O,Y,Z,hrel,hi=>by
  obtain⟨hm,hg,hlen⟩:=Z _ (.head _);obtain⟨⟨hw,hx⟩,zL⟩:=hrel;obtain⟨g1,g2⟩:=P7 cs vs hg;have T:=Y 0 _ rfl;rw[Nat.add_zero]at T;simp only[kB]at hi;have oZ:xs.length=cs.length:=by rw[<- hw.1,eE,g1]
  have eM:=hR.root r _ hm;generalize C:aM.blk cs=z at eM;cases eM with
  |sl=>cases C
  |mp=>cases C
  |gh=>cases C
  | blk b off cells e eo us cD hl hh hs hc=>
   injection C with C;subst C;have o9:∀ (j:Nat) x,xs[j]?=some x -> cells[off+j]?=some (us j)/\RV w w.heap.size (dO lab dD id) [nC i j x] x (us j)/\(x.plain=false -> ve w ρ rs (nC i j x) = .cO (us j)):=by
    intro j x I;have uL:j<cs.length:=by rw[<- oZ];exact(de.1 I).1
    obtain⟨v,hv,E9⟩:=g2 j _ (bQ uL);obtain⟨c1,U⟩:=hc j _ (bQ uL);obtain⟨v,qo⟩:=v;have Qb:Wk v x:=hw.2 j v x (by rw[dI,hv];rfl) I;obtain⟨Qc,JI⟩:=hx x (fP I)
    refine⟨c1,?_,λD=>?_⟩
    ·rcases ahI E9 hR hS U with ⟨rfl,h1⟩ | ⟨q,rfl,hf,h1⟩
     ·exact(h1 _ _).wk Qb
     ·have P0:=Qb.P9 hf;have hq:=O _ (.tail _ (List.mem_append_left _ (WA vs 0 j hv)));rw[eS]at hq;have h2:=(RV.dO (nm:=id) (p:=[]) h1 hq).wk Qb;have e1:nC i j x=60000+1000*i+j:=by simp[nC,P0]
      rw[e1];exact h2.Wv JI
    ·exact ahz T (by omega) (by omega) cD (by rw[cell_of_row w b _ cells _ _ hh];exact c1)
   refine⟨.blk b off cells e _ us ((E5 T (by omega)).trans cD) ?_ hh (by rw[P8,oZ];exact hs) (λj z C=>?_),λj x I D=>?_,Qa hR hS F L (i+1) (λp D=>O p (.tail _ (List.mem_append_right _ D))) (λj E zM=>?_) (λE h=>Z E (.tail _ h)) zL (by omega)⟩
   ·exact ahG hl rfl (O _ (.head _))
   ·have I:j<xs.length:=by rw[<- P8 (i:=i) xs 0];exact(de.1 C).1
    have Ci:=P3 (i:=i) xs 0 j _ (bQ I);rw[C]at Ci;injection Ci with Ci;subst Ci;rw[eS];obtain⟨c1,U,c3⟩:=o9 j _ (bQ I);refine⟨c1,?_⟩;cases D:(xs[j]).plain with
    | true=>
     have e1:xj i j xs[j] = .v xs[j]:=by simp[xj,D]
     rw[e1];exact⟨V.Ez D,U.rz D⟩
    | false=>
     have e1:xj i j xs[j] = .own [nC i j xs[j]]:=by simp[xj,D]
     rw[e1];exact⟨U.jy D (hx _ (cR _)).1,by simp only[cC,c3 D]⟩
   ·obtain⟨c1,U,c3⟩:=o9 j x I;exact .sl _ x (c3 D) U
   ·have:=Y (j+1) E (by simpa using zM);rw[show i+(j+1)=i+1+j by omega]at this;exact this
 | .sl q y :: F,.sl y' :: L,i,O,Y,Z,hrel,hi=>by
  obtain⟨hm,hf⟩:=Z _ (.head _);obtain⟨⟨hw,hx⟩,zL⟩:=hrel;have T:=Y 0 _ rfl;rw[Nat.add_zero]at T;simp only[kB]at hi;have eM:=hR.root q _ hm;generalize C:aM.sl y=z at eM;cases eM with
  |blk=>cases C
  |mp=>cases C
  |gh=>cases C
  | sl v y0 cD hr=>
   injection C with C;subst C
   refine⟨.sl v y' ((E5 T (by omega)).trans cD) ?_,Qa hR hS F L (i+1) (λp D=>O p (.tail _ D)) (λj E zM=>?_) (λE h=>Z E (.tail _ h)) zL (by omega)⟩
   ·exact((RV.dO (p:=[]) hr (O _ (.head _))).wk hw).Wv hx
   ·have:=Y (j+1) E (by simpa using zM);rw[show i+(j+1)=i+1+j by omega]at this;exact this
end
def Qd:Loc->Nat×Nat
 |.blk b off=>(b,off)
 |.cO _=>(0,0)
 |.bB _=>(0,0)
def xu(w:World)(b off:Nat):Nat->aa Nat->aa V->aa (Nat×Value)
 |j,n::C,x::xs=>bif x.aF then xu w b off (j+1) C xs else (n,(w.cell? ⟨b,off+j,none⟩).getD undef)::xu w b off (j+1) C xs
 |_,_,_=>[]
def qD(w:World)(ρ:Nat->Loc)(c0:Nat):Nat->aa Mu->aa In->aa (Nat×Value)
 |pos,.blk r _ D::C,.blk xs::outs=>xu w (Qd (ρ r)).1 (Qd (ρ r)).2 0 (kL c0 (pos+1) D) xs++qD w ρ c0 (pos+1+D.length) C outs
 |pos,.sl _ _::C,.sl _::outs=>qD w ρ c0 (pos+1) C outs
 |_,_,_=>[]
def WB(l:aa (Nat×Value))(ρ:Nat->Loc):Nat->Loc:=λn=>match l.lookup n with
 |some v=>.cO v
 |none=>ρ n
def Qe{w:World}{b off:Nat}:∀ (C:aa Nat) (xs:aa V) (j:Nat),(xu w b off j C xs).map (·.1)=tA C xs
 |[],[],_=>rfl
 |[],_::_,_=>rfl
 |_::_,[],_=>rfl
 | n :: C,x :: xs,j=>by
  simp[xu,tA];cases x.aF with
  |true=>exact Qe C xs _
  |false=>simp;rw[Qe]
def Kc{w:World}{ρ:Nat -> Loc}{c0:Nat}:∀ (C:aa Mu) (outs:aa In) (D:Nat),(qD w ρ c0 D C outs).map (·.1)=lX c0 D C outs
 | .blk r _ E :: C,.blk xs :: outs,D=>by
  simp[qD,lX,jP];rw[Qe,Kc]
 | .sl _ _ :: C,.sl _ :: outs,D=>by
  simp only[qD,lX];exact Kc C outs _
 |[],_,_=>by simp[qD,lX]
 |.blk _ _ _::_,[],_=>rfl
 |.sl _ _::_,[],_=>rfl
 |.blk _ _ _::_,.sl _::_,_=>rfl
 |.sl _ _::_,.blk _::_,_=>rfl
def WC{n:Nat}:∀ {l:aa (Nat×Value)},cI n (l.map (·.1))=false -> l.lookup n=none
 |[],_=>rfl
 | p :: l,h=>by
  simp[List.map_cons,cI,oe]at h;rw[List.lookup_cons];cases hb:n==p.1 with
  |false=>exact WC h.2
  |true =>simp_all
def WD:∀ {l:aa (Nat×Value)},Kb (l.map (·.1))=true -> ∀ p∈l,l.lookup p.1=some p.2
 |[],_,p,hp=>by cases hp
 | q :: l,h,p,hp=>by
  simp[List.map_cons,Kb,aH,gi]at h;rw[List.lookup_cons];rcases fH.1 hp with rfl|hp
  ·simp
  ·cases hb:p.1==q.1 with
   |false=>exact WD h.2 p hp
   | true=>
    have e:p.1=q.1:=by simpa using hb
    exact absurd (List.mem_map_of_mem (f:=(·.1)) hp) (by rw[e];exact Wt h.1)
def Fa{c0:Nat}:∀ (C:aa (V×ah Nat)) (n:Nat),(kL c0 n C).length=C.length
 |[],_=>rfl
 |(_,some _)::C,n=>by simp[kL,Fa]
 |(_,none)::C,n=>by simp[kL,Fa C]
def WE{ns cn:aa Nat}:∀ (D:aa Nat) (C:aa Lf) (xs:aa V),D.length=C.length -> xs.length=C.length -> (nS ns cn D C xs).length=C.length /\
  ∀(j:Nat) z,(nS ns cn D C xs)[j]?=some z -> ∃n l x,D[j]?=some n/\C[j]?=some l/\xs[j]?=some x/\z=(bif x.plain then .v x else bif x.aF then l.cL ns cn else .own [n])
 |[],[],[],_,_=>⟨rfl,λj z E=>by simp[nS]at E⟩
 | n :: D,l :: C,x :: xs,F,I=>by
  obtain⟨L,O⟩:=WE (ns:=ns) (cn:=cn) D C xs (by simpa using F) (by simpa using I)
  refine⟨by simp[nS,L],λj z E=>?_⟩
  cases j with
  |zero=>simp[nS,List.getElem?_cons_zero,gG]at E;exact⟨n,l,x,rfl,rfl,rfl,E.symm⟩
  |succ j=>exact O j z (by simpa [nS]using E)
def WG:∀ (C:aa Nat) (xs:aa V),∀ p∈rT C xs,∃ (j:Nat) (x:V),C[j]?=some p.1/\xs[j]?=some x/\x.aF=false/\p.2 = .sl x
 |[],[],p,hp=>by cases hp
 |[],_::_,p,hp=>by cases hp
 | n :: C,x :: xs,p,hp=>by
  simp[rT]at hp;have rest:p∈rT C xs -> ∃ (j:Nat) (y:V),(n :: C)[j]?=some p.1/\(x :: xs)[j]?=some y/\y.aF=false/\p.2 = .sl y:=λhp=>by
   obtain⟨j,y,E,F,I,L⟩:=WG C xs p hp;exact⟨j+1,y,by simpa using E,by simpa using F,I,L⟩
  cases D:x.aF with
  |true=>grind
  | false=>
   rw[D]at hp;rcases fH.1 hp with rfl|hp
   ·exact⟨0,x,rfl,rfl,D,rfl⟩
   ·grind
def WH{w:World}{b off n:Nat}{x:V}:∀ (D:aa Nat) (xs:aa V) (C j:Nat),D[j]?=some n -> xs[j]?=some x -> x.aF=false -> (n,(w.cell? ⟨b,off+(C+j),none⟩).getD undef)∈xu w b off C D xs
 |[],_,_,j,h,_,_=>by simp at h
 | m :: D,y :: xs,C,j,E,F,I=>by
  cases j with
  | zero=>
   simp at E F;subst E F;simp only[xu,I];simp_all
  | succ j=>
   have:=WH (w:=w) (b:=b) (off:=off) D xs (C+1) j (by simpa using E) (by simpa using F) I;rw[show C+1+j=C+(j+1) by omega]at this;simp[xu]
   grind
section
variable {P:Program} {w w':World} {w0:Wd} {B N:Nat} {lab cT ax:bg} {ρ eB ρ':Nat->Loc} {σ:S} {a:Act} {X:Type} {d:Nat} {r:X} {ns cn:aa Nat} {o:Oper} {rs:aa Nat} {dD:aa (Nat×Nat)} {nm Ke:Nat->Nat} {c0:Nat}
def iN.xe{nm:Nat -> Nat}:∀ (ps:aa Pt) (off:Nat) (C:aa Value) {B':Nat},iN w B lab nm off ps C -> B' <= B -> (∀ b,B <= b -> ax b=lab b) -> (∀ b k,lab b=some k -> ax b=some k) -> (∀ n,off <= n -> n<off+(ps.map λp=>p.2.length).sum -> nm n=Ke n) -> iN w B' ax Ke off ps C
 |[],_,[],_,h,_,_,_,_=>h
 | p :: ps,off,v :: C,B',h,hB,hl,F,D=>by
  obtain⟨⟨I,us,O,T,U⟩,Y⟩:=h;simp only[List.map_cons,List.sum_cons]at D
  refine⟨⟨I,us,O,T,λj x E=>?_⟩,iN.xe ps _ C Y hB hl F (λn h1 h2=>D n (by omega) (by omega))⟩
  obtain⟨L,Z,fC⟩:=U j x E;have hj:j<p.2.length:=(de.1 E).1;refine⟨L,Z,?_⟩;show RV w B' ax [Ke (off+j)] x L;rw[<- D (off+j) (by omega) (by omega)];exact fC.xe hB hl F (bW.1 I x (fP E))
def Qf(hR:Rl w0 N lab ρ σ a w)(hv:rQ w w' lab cT ρ eB ns cn)(mD:∀ b k,ax b=some k -> cT b=some k)(nI:∀ b,w.heap.size <= b -> cT b=ax b)(hB:w0.heap.size <= w.heap.size):
  ∀(E:aa Mu) (ins outs:aa In) (i C:Nat),(∀j D,E[j]?=some D -> rs[i+j]?=some D.root) -> (∀D∈E,xo σ D) -> E6 E ins -> i+E.length <= 40 -> E2 w w' ax (ve w ρ rs) nm i C ins outs ->
  (∀k n,(xq c0 C E)[k]?=some n -> nm (C+k)=n) -> (∀p∈qD w' ρ c0 C E outs,eB p.1 = .cO p.2) -> (∀D∈E,cI D.root cn=false) -> outs.all Wy=true -> ∀p∈jG ns cn c0 C E outs,dz w' w0.heap.size cT eB p.1 p.2
 |[],[],[],_,_,_,_,_,_,_,_,_,_,_,p,hp=>by simp[jG]at hp
 |[],[],_::_,_,_,_,_,_,_,h,_,_,_,_,_,_=>h.elim
 |[],_::_,_,_,_,_,_,h,_,_,_,_,_,_,_,_=>h.elim
 |.blk _ _ _::_,[],_,_,_,_,_,h,_,_,_,_,_,_,_,_=>h.elim
 |.sl _ _::_,[],_,_,_,_,_,h,_,_,_,_,_,_,_,_=>h.elim
 |.blk _ _ _::_,.sl _::_,_,_,_,_,_,h,_,_,_,_,_,_,_,_=>h.elim
 |.sl _ _::_,.blk _::_,_,_,_,_,_,h,_,_,_,_,_,_,_,_=>h.elim
 |.blk _ _ _::_,.blk _::_,[],_,_,_,_,_,_,h,_,_,_,_,_,_=>h.elim
 |.sl _ _::_,.sl _::_,[],_,_,_,_,_,_,h,_,_,_,_,_,_=>h.elim
 |.blk _ _ _::_,.blk _::_,.sl _::_,_,_,_,_,_,_,h,_,_,_,_,_,_=>h.elim
 |.sl _ _::_,.sl _::_,.blk _::_,_,_,_,_,_,_,h,_,_,_,_,_,_=>h.elim
 | .blk r cs F :: E,.blk xs0 :: ins,.blk xs :: outs,i,C,lT,lW,hrel,hi,hO,ke,zN,nP,T,p,hp=>by
  obtain⟨hm,hg,hlen⟩:=lW _ (.head _);obtain⟨⟨hw,hx⟩,zL⟩:=hrel;obtain⟨g1,g2⟩:=P7 cs F hg;have mq:=lT 0 _ rfl;rw[Nat.add_zero]at mq;simp only[kB]at hi;have Qg:xs0.length=cs.length:=by rw[<- hw.1,eE,g1]
  obtain⟨⟨b,off,cells,vc,e,e',U,h2,h3,h4,h5,h6,h7⟩,Qh⟩:=hO;have eM:=hR.root r _ hm;generalize Y:aM.blk cs=z at eM;cases eM with
  |sl=>cases Y
  |mp=>cases Y
  |gh=>cases Y
  | blk b0 O WI e0 eo us cD hl hh hs hc=>
   injection Y with Y;subst Y;rw[E5 mq (by omega)]at U;have U:ρ r = .blk b off:=U;rw[cD]at U;injection U with e1 e2;subst e1 e2;have ahJ:WI=cells:=by
    rw[hh]at h2;injection h2 with h2;injection h2
   subst ahJ;have jZ:=nP _ (.head _);have Cj:eB r = .blk b0 O:=(hv.eA r jZ).trans cD;have rH:nm C=r:=by have:=ke 0 r rfl;rwa [Nat.add_zero]at this
   have ahK:∀ (j:Nat) n,(kL c0 (C+1) F)[j]?=some n -> nm (C+1+j)=n:=by
    intro j n Z;have hj:j<(kL c0 (C+1) F).length:=(de.1 Z).1;have:=ke (j+1) n (by simp only[xq,List.getElem?_cons_succ];rw[List.getElem?_append_left hj];exact Z);rw[show C+1+j=C+(j+1) by omega];exact this
   have o9:∀ (j:Nat) x,xs[j]?=some x -> ∃ u,vc[O+j]?=some u/\w'.cell? ⟨b0,O+j,none⟩=some u/\((x.plain=true /\ ∀ (w:World) (B:Nat) (lab:bg) (q:aa Nat),RV w B lab q x u) \/ (x.plain=false/\x.aF=true/\WI[O+j]?=some u) \/ (x.aF=false/\RV w' w.heap.size ax [nm (C+1+j)] x u)):=by
    intro j x hj;obtain⟨u,hu,hd⟩:=h7 j x hj;exact⟨u,hu,by rw[cell_of_row w' b0 _ vc _ _ h3];exact hu,hd⟩
   have rF:∀ (j:Nat) n x u,(kL c0 (C+1) F)[j]?=some n -> xs[j]?=some x -> x.aF=false -> w'.cell? ⟨b0,O+j,none⟩=some u -> eB n = .cO u:=by
    intro j n x u Z hxj hf hu;have xh:=WH (w:=w') (b:=b0) (off:=O) _ xs 0 j Z hxj hf;rw[eS,hu]at xh;exact zN (n,u) (by simp only[qD,cD,Qd];exact List.mem_append_left _ xh)
   simp only[jG]at hp;rcases fH.1 hp with rfl|hp
   ·obtain⟨k1,k2⟩:=WE (ns:=ns) (cn:=cn) (kL c0 (C+1) F) cs xs (by rw[Fa,g1]) (by rw[h6,Qg])
    refine .blk b0 O vc e' _ (λj=>vc.getD (O+j) undef) Cj (mD _ _ (by rw[h4,rH])) h3 (by show O+(nS _ _ _ _ _).length <= _;rw[k1,<- Qg,<- h6];exact h5) (λj z Y=>?_)
    obtain⟨n,l,x,n1,n2,n3,rfl⟩:=k2 j z Y;obtain⟨u,hu,Qi,hd⟩:=o9 j x n3;have eu:vc.getD (O+j) undef=u:=by rw[gw,hu];rfl
    rw[eu];refine⟨hu,?_⟩;rcases hd with ⟨I,L⟩|⟨I,L,d3⟩|⟨I,L⟩
    ·rw[I,aj];exact⟨V.Ez I,L _ _ _ _⟩
    ·rw[I,L,au,aj];obtain⟨c1,c2⟩:=hc j l n2;rw[c1]at d3;injection d3 with d3;rw[<- d3];exact c2.rR hv
    ·have Cd:x.plain=false:=by
      cases Cd:x.plain with
      |false=>rfl
      |true=>rw[V.Ez Cd]at I;cases I
     rw[Cd,I,au,au];exact⟨L.OT I,by simp only[cC,rF j n x u n1 n3 I Qi]⟩
   ·rcases List.mem_append.1 hp with hp | hp
    ·obtain⟨j,x,n1,n2,n3,n4⟩:=WG _ _ p hp;obtain⟨u,hu,Qi,hd⟩:=o9 j x n2;rw[n4];refine .sl u x (rF j p.1 x u n1 n2 n3 Qi) ?_;rcases hd with ⟨I,L⟩ | ⟨I,L,d3⟩ | ⟨I,L⟩
     ·simp[*]
     ·rw[n3]at L;cases L
     ·rw[ahK j _ n1]at L;refine L.xe hB nI mD ?_;rw[List.all_cons,aH]at T;have:=bW.1 T.1 x (fP n2)
      rwa [n3,Bool.false_or]at this
    ·rw[List.all_cons,aH]at T
     refine Qf hR hv mD nI hB E ins outs (i+1) (C+1+F.length) (λj D zM=>?_) (λD h=>lW D (.tail _ h)) zL (by omega) ?_ (λk n Z=>?_) (λp hp=>zN p ?_) (λD h=>nP D (.tail _ h)) T.2 p hp
     ·have:=lT (j+1) D (by simpa using zM);rw[show i+(j+1)=i+1+j by omega]at this;exact this
     ·rw[g1,<- Qg];exact Qh
     ·have:=ke (1+F.length+k) n (by
       rw[show 1+F.length+k=(F.length+k)+1 by omega];simp only[xq,List.getElem?_cons_succ];rw[List.getElem?_append_right (by rw[Fa];omega),Fa];rw[show F.length+k-F.length=k by omega];exact Z)
      rw[show C+1+F.length+k=C+(1+F.length+k) by omega];exact this
     ·simp only[qD];exact List.mem_append_right _ hp
 | .sl q y0 :: E,.sl y1 :: ins,.sl y :: outs,i,C,lT,lW,hrel,hi,hO,ke,zN,nP,T,p,hp=>by
  obtain⟨hm,hf⟩:=lW _ (.head _);obtain⟨_,zL⟩:=hrel;have mq:=lT 0 _ rfl;rw[Nat.add_zero]at mq;simp only[kB]at hi;obtain⟨hO1,Qh⟩:=hO;rw[List.all_cons,aH]at T;have rH:nm C=q:=by have:=ke 0 q rfl;rwa [Nat.add_zero]at this
  have hp:(p=(q,.sl y)/\y.iW=true) \/ p∈jG ns cn c0 (C+1) E outs:=by
   simp only[jG]at hp;cases hy:y.iW with
   |false=>rw[hy]at hp;exact .inr hp
   | true=>
    rw[hy]at hp;rcases fH.1 hp with h|h
    ·grind
    ·simp[*]
  rcases hp with ⟨rfl,hy⟩|hp
  ·obtain⟨v,U,h2⟩:=hO1.resolve_left (by rintro rfl;cases hy);rw[E5 mq (by omega)]at U;rw[rH]at h2;exact .sl v y ((hv.eA q (nP _ (.head _))).trans U) (h2.xe hB nI mD T.1)
  ·refine Qf hR hv mD nI hB E ins outs (i+1) (C+1) (λj D zM=>?_) (λD h=>lW D (.tail _ h)) zL (by omega) Qh (λk n Z=>?_) (λp hp=>zN p hp) (λD h=>nP D (.tail _ h)) T.2 p hp
   ·have:=lT (j+1) D (by simpa using zM);rw[show i+(j+1)=i+1+j by omega]at this;exact this
   ·have:=ke (k+1) n (by simpa [xq]using Z);rw[show C+1+k=C+(k+1) by omega];exact this
end
section
variable {P:Program} {w w':World} {w0:Wd} {B N:Nat} {lab cT ax:bg} {ρ eB ρ':Nat->Loc} {σ:S} {a:Act} {X:Type} {d:Nat} {r:X} {ns cn:aa Nat} {o:Oper} {rs:aa Nat} {dD:aa (Nat×Nat)} {nm Ke:Nat->Nat} {c0:Nat}
def ahL{C:ah Tmp}{D:fq}{k:S -> ah X}(h:ox N σ C D k=some r):∃ U,k U=some r /\ ∀ lab ρ a w v,Rl w0 N lab ρ σ a w -> mz w w0.heap.size lab (λn=>gy C+n) D v -> ∃ ρ',Rl w0 N lab ρ' U (a.put C v) w /\ ∀ r,r<gy C -> ρ' r=ρ r:=by
 unfold ox at h;cases C with
 |none=>exact⟨σ,h,λlab ρ a w v hR _=>⟨ρ,hR,λ_ _=>rfl⟩⟩
 | some d=>
  have h:(bif Nat.blt d N then (match D with
   | .one p=>(match wV (p.1,mB (1000000000100000+1000*d) p.2)with
    |some y=>k ((kK _ σ p.2).set d y)
    |none=>none)
   |.ez ps=>k ((mC _ σ ps).set d _))else none)=some r:=h
  cases F:Nat.blt d N with
  |false=>rw[F]at h;cases h
  | true=>
   rw[F,aj]at h;have Y:d<N:=cr F;cases D with
   | one p=>
    simp only at h;split at h
    ·rename_i y hy
     refine⟨_,h,λlab ρ a w v hR I=>?_⟩
     obtain⟨ρ',L,O,_,T⟩:=EY [p] (1000000000100000+1000*d) 0 σ ρ [v] (by omega) hR I;have PI:=T 0 _ v rfl rfl;exact⟨ρ',L.set (O8 hy PI) Y,O⟩
    ·cases h
   | ez Fb=>
    refine⟨_,h,λlab ρ a w v hR I=>?_⟩
    obtain⟨E,rfl,hv⟩:=I;obtain⟨ρ',L,O,hlen,T⟩:=EY Fb (1000000000100000+1000*d) 0 σ ρ E.toList (by omega) hR hv
    refine⟨ρ',L.set ⟨E,rfl,by simpa using hlen,λj p Z=>?_⟩ Y,O⟩
    have hj:j<E.size:=by
     have:=(de.1 Z).1
     grind
    exact⟨E[j],Array.getElem?_eq_getElem hj,T j p _ Z (by rw[Array.getElem?_toList,Array.getElem?_eq_getElem hj])⟩
def Qj{f:Nat}{args:Array Operand}{iO:Array TypeId}{c:lV}{k:S -> ah X}(ho:o.op = .call { callee:=.value (.func f),args,argTypes:=iO })(he:enters P f)(hc:th P f c)(h:mE N σ o.dst c args.toList k=some r):∃ cN C cn,k cN=some r/\iC σ c.ps args.toList=some C/\(∀ n,cI n cn=true -> n<N \/ 60000 <= n)/\(∀ F∈C,cI F.root cn=false) /\
  ∀a w K Q lab ρ,Rl w0 N lab ρ σ a w -> (∀v w' cT eB tC,Rl w0 N cT tC cN (a.put o.dst v) w' -> rQ w w' lab cT ρ eB ((jF 0 C).map (·.1)) cn -> gQ w0 w w' -> (∀r,r<gy o.dst -> tC r=eB r) -> K (a.put o.dst v) w') -> o.wp P a w K Q:=by
 unfold mE at h;split at h
 ·rename_i C rU;generalize WJ:jF 0 C=dD at h;cases kf:(once dD&&Nat.ble C.length 40)with
  |false=>rw[kf]at h;cases h
  | true=>
   rw[kf,aj]at h;rw[aH]at kf;have awB:=cr kf.2;have rM:∀ p∈jF 0 C,dD.lookup p.1=some p.2:=by
    intro p hp;rw[WJ]at hp;have:=bW.1 kf.1 p hp;obtain⟨n,I,he⟩:=(Option.any_eq_true _ _).1 this;simp_all
   obtain⟨x,T,hrel,awC,nQ⟩:=Ka (w0:=w0) (N:=N) _ _ C _ rU h;clear h;split at T
   ·rename_i y hy;unfold Ch at T;generalize nP:lX (gy o.dst) (ek c.ro y.1).len C (gU (dP c.ps) y.2)=cn at T;generalize zl:dD.map (·.1)=ns at T nQ;cases gV:Cg N C (gU (dP c.ps) y.2) cn with
    |false=>rw[gV]at T;cases T
    | true=>
     rw[gV,aj]at T;simp only[Cg,aH]at gV;obtain⟨⟨⟨ok1,WK⟩,WL⟩,ok4⟩:=gV;obtain⟨cN,h3,Kf⟩:=ahL (w0:=w0) T
     refine⟨cN,C,cn,h3,rU,λn I=>?_,λF lW=>by simpa using bW.1 WK F lW,λa w K Q lab ρ hR hK=>?_⟩
     ·have:=bW.1 WL n (rP.1 I);rw[dA]at this;rcases this with h | h
      ·exact .inl (by have:=cr h;omega)
      ·exact .inr (cr h)
     have Y:zK ns lab (dO lab dD id):=by rw[<- zl];exact ahH (λb k hb=>(hR.cE b k hb).2.2)
     have WM:=J9 _ _ _ rU;let rs:=C.map Mu.root
     have lT:∀ j F,C[j]?=some F -> rs[0+j]?=some F.root:=by
      intro j F hj;rw[eS,dI,hj];rfl
     have hE:=Qa (rs:=rs) hR Y C (lU c.ps x) 0 rM lT WM hrel (by omega);have hA:=nQ lab ρ a w (dO lab dD id) (ve w ρ rs) hR Y (lU c.ps x) 0 (λj z O=>by rw[eS];exact O) (λj F hj=>by
      have h1:=lT j F hj;rw[eS]at h1 ⊢;exact E5 h1 (by have:=(de.1 hj).1;omega))
     obtain⟨hA1,Pm⟩:=Cf.get _ _ hA;let nm:Nat -> Nat:=λn=>if n<(ek c.ro y.1).len then gy o.dst+n else (xq (gy o.dst) (ek c.ro y.1).len C).getD (n-(ek c.ro y.1).len) 0
     have pz:∀ (ps:aa PK) (i:Nat) (x:jE ps),(ja ps i x).length=ps.length:=by
      intro ps
      induction ps with
      |nil=>intro i x;rfl
      | cons p ps ih=>
       intro i x;cases p with
       |v=>exact bu (· + 1) (ih _ _)
       |p=>exact bu (· + 1) (ih _ _)
       |s=>exact bu (· + 1) (ih _ _)
     unfold Oper.wp;rw[J2 w o a f args iO ho he,Oper.upon_enter];have va:(args.map a.eval)=(args.toList.map a.eval).toArray:=by apply Array.ext';rw[Array.toList_map]
     rw[va];have Kg:∀ b k,dO lab dD id b=some k -> (∃ E,lab b=some E/\fh E ns=true)/\k≠[]:=by
      intro b k hb;cases hl:lab b with
      |none=>rw[Y.none b hl]at hb;cases hb
      | some E=>
       refine⟨⟨E,rfl,?_⟩,?_⟩
       ·cases hq:fh E ns with
        |true=>rfl
        |false=>rw[(Y.rest b E hl).2 hq]at hb;cases hb
       ·simp only[dO,hl]at hb;split at hb
        ·cases hb
        ·cases WN:dD.lookup _ with
         |none=>rw[WN]at hb;cases hb
         |some n=>rw[WN]at hb;injection hb with hb;subst hb;simp
     have hQ:Hd w (dO lab dD id):=w0.on hR.below (λb k hb=>by obtain⟨⟨E,hl,_⟩,_⟩:=Kg b k hb;exact(hR.cE b E hl).1)
     refine(hc x y hy nm w (dO lab dD id) (ve w ρ rs) _ hE (λb k hb=>⟨?_,(Kg b k hb).2⟩) ?_ Pm hQ).mono λe w' lS=>?_
     ·obtain⟨⟨E,hl,_⟩,_⟩:=Kg b k hb;exact(hR.cE b E hl).2.1
     ·rw[List.size_toArray,hA1,pz]
     ·obtain⟨v,D,rfl,U,Cl,iZ,Ql⟩:=lS;have hB:=hR.below.size;let cT:bg:=λb=>match dO lab dD id b with
       |none=>if b<w.heap.size then lab b else D b
       |some _=>D b
      have e1:∀ b k,D b=some k -> cT b=some k:=by
       intro b k hb;show (match dO lab dD id b with|none=>if b<w.heap.size then lab b else D b|some _=>D b)=some k;split
       next Z=>have:=(Cl b k hb).1;have nI:=this.resolve_right (λh=>h Z);rw[bx];exact hb
       ·exact hb
      have e2:∀ b,w.heap.size <= b -> cT b=D b:=by
       intro b hb;show (match dO lab dD id b with|none=>if b<w.heap.size then lab b else D b|some _=>D b)=D b;split
       ·rw[bx]
       ·rfl
      have WO:∀ p∈qD w' ρ (gy o.dst) (ek c.ro y.1).len C (gU (dP c.ps) y.2),(qD w' ρ (gy o.dst) (ek c.ro y.1).len C (gU (dP c.ps) y.2)).lookup p.1=some p.2:=
       WD (by rw[Kc,nP];exact ok1)
      generalize zN:qD w' ρ (gy o.dst) (ek c.ro y.1).len C (gU (dP c.ps) y.2)=hd at WO;have ahM:hd.map (·.1)=cn:=by rw[<- zN,Kc,nP]
      have hv:rQ w w' lab cT ρ (WB hd ρ) ns cn:=by
       refine⟨U.size,λb hb hk=>?_,λn I=>?_,λb k hb=>(hR.cE b k hb).2⟩
       ·have Z:dO lab dD id b=none:=by
         cases hl:lab b with
         |none=>exact Y.none b hl
         |some k=>exact(Y.rest b k hl).2 (hk k hl)
        refine⟨U.block b hb Z,?_⟩;show (match dO lab dD id b with|none=>if b<w.heap.size then lab b else D b|some _=>D b)=lab b;rw[Z];exact bJ hb
       ·show (match hd.lookup n with|some v=>Loc.cO v|none=>ρ n)=ρ n;rw[WC (by rw[ahM];exact I)]
      have xw:∀F∈C,cI F.root cn=false:=λF lW=>by simpa using bW.1 WK F lW
      have Fc:=Qf (c0:=gy o.dst) (nm:=nm) hR hv e1 e2 hB C (lU c.ps x) (gU (dP c.ps) y.2) 0 (ek c.ro y.1).len lT WM hrel (by omega) Ql (λk n I=>?_) (λp hp=>?_) xw ok4
      ·have WQ:gQ w0 w w':=by
        refine⟨U.os,U.tape,U.output,U.size,λk hk hL=>U.block k (Nat.lt_of_lt_of_le hk hB) ?_⟩
        cases hl:lab k with
        |none=>exact Y.none k hl
        |some E=>exact absurd hL ((hR.cE k E hl).1.resolve_left (by omega))
       have jD:Rl w0 N cT (WB hd ρ) (σ.cL ns cn (jG ns cn (gy o.dst) (ek c.ro y.1).len C (gU (dP c.ps) y.2))) a w':=by
        refine hR.rR hv WQ (λb k hb=>?_) (λn I=>?_) (λn z O=>?_)
        ·have hb:(match dO lab dD id b with | none=>if b<w.heap.size then lab b else D b | some _=>D b)=some k:=hb;have WR:D b=some k -> (w0.heap.size <= b \/ w0.L b≠none)/\b<w'.heap.size/\k≠[]:=by
          intro h1;obtain⟨g1,g2,g3⟩:=Cl b k h1;refine⟨?_,g2,g3⟩;rcases g1 with g1|g1
          ·exact .inl (Nat.le_trans hB g1)
          ·cases Z:dO lab dD id b with
           |none=>exact absurd Z g1
           | some k2=>
            obtain⟨⟨E,hl,_⟩,_⟩:=Kg b k2 Z;exact(hR.cE b E hl).1
         split at hb
         ·split at hb
          ·have:=hR.cE b k hb;exact⟨this.1,Nat.lt_of_lt_of_le this.2.1 U.size,this.2.2⟩
          ·exact WR hb
         ·exact WR hb
        ·have:=bW.1 WL n (rP.1 I);rw[dA]at this;refine hR.cY n ?_;rcases this with h | h
         ·exact .inl (by have:=cr h;omega)
         ·exact .inr (cr h)
        ·have xh:(n,z)∈jG ns cn (gy o.dst) (ek c.ro y.1).len C (gU (dP c.ps) y.2):=by
          clear Fc;generalize jG ns cn (gy o.dst) (ek c.ro y.1).len C (gU (dP c.ps) y.2)=l at O
          induction l with
          |nil=>cases O
          | cons p l ih=>
           rw[List.lookup_cons]at O;cases hb:n==p.1 with
           | true=>
            rw[hb]at O;have e:n=p.1:=by simpa using hb
            injection O with O;rw[e,<- O]
            grind
           | false=>
            rw[hb]at O;exact .tail _ (ih O)
         exact Fc (n,z) xh
       have ahN:mz w' w0.heap.size cT (λn=>gy o.dst+n) (ek c.ro y.1) v:=?_
       ·obtain⟨tC,Fe,vf⟩:=Kf cT _ a w' v jD ahN;exact hK v w' cT _ tC Fe (by rw[WJ,zl];exact hv) WQ vf
       have Qm:∀(L:Nat),L=(ek c.ro y.1).len -> ∀n,n<L -> nm n=gy o.dst+n:=λL hL n I=>bJ
       generalize awD:ek c.ro y.1=res at iZ Qm;cases res with
       | one p=>
        have iZ:iN w' w.heap.size D nm 0 [p] [v]:=iZ;exact iN.xe [p] 0 [v] iZ hB e2 e1 (λn _ I=>Qm _ rfl n (by simpa [fq.len]using I))
       | ez Fb=>
        obtain⟨vs,e,jX⟩:=iZ;exact⟨vs,e,iN.xe Fb 0 vs.toList jX hB e2 e1 (λn _ I=>Qm _ rfl n (by simpa [fq.len]using I))⟩
      ·show (if (ek c.ro y.1).len+k<(ek c.ro y.1).len then gy o.dst+((ek c.ro y.1).len+k)else (xq _ (ek c.ro y.1).len C).getD ((ek c.ro y.1).len+k-(ek c.ro y.1).len) 0)=n;rw[bx,show (ek c.ro y.1).len+k-(ek c.ro y.1).len=k by omega,fQ,I];rfl
      ·rw[zN]at hp;show (match hd.lookup p.1 with|some v=>Loc.cO v|none=>ρ p.1) = .cO p.2;rw[WO p hp]
   ·cases T
 ·cases h
def ahO{f:Nat}{args:Array Operand}{D:Array TypeId}{c:lV}{k:S -> ah X}(E:o.op = .call { callee:=.value (.func f),args,argTypes:=D })(F:enters P f)(I:th P f c)(h:mE N σ o.dst c args.toList k=some r):∃ C,k C=some r/\jA P w0 N o σ C:=by
 obtain⟨C,Z,cn,L,_,_,_,O⟩:=Qj E F I h
 refine⟨C,L,λa w K Q hR T=>?_⟩
 obtain⟨lab,ρ,hR⟩:=hR;exact O a w K Q lab ρ hR λv w' cT eB U Y _ _ _=>T _ _ ⟨cT,U,Y⟩
end
end Go.Proofs.YthmgjjfedieljaaGreatDoor
