/-
  Running the program over pure contents, and that it follows (part 2). Nothing here is a claim.
-/
import Derived.Laws.StructEq
import Derived.Test.YtnilicojgkhpnaaGreatV1
set_option linter.unusedSimpArgs false
namespace Go.Proofs.YtnilicojgkhpnaaGreat
set_option linter.defProp false
open Go.RowKit
set_option linter.unusedVariables false
def aG2{X:Type}(N:Nat)(σ:S)(C:ah Tmp)(c x y:A)(k:S->ah X):ah X:=
 match c with
 |.lf (.v (.bool b))=>bif b then gX N σ C x k else gX N σ C y k
 |_=>none
def G9{X:Type}(P:Program)(s:TypeId)(x:A)(f:Nat)(k:A->ah X):ah X:=
 match GS P s f,x with
 | some C,.agg cs=>(match jk P C.type,DP P C.type with
  |some n,some true=>if C.offset+n<=cs.length then k (.agg ((cs.drop C.offset).take n))else none
  | some _,some false=>(match cs[C.offset]? with
   |some y=>k (.lf y)
   |none=>none)
  |_,_=>none)
 |_,_=>none
def D1{X:Type}(C:Bool)(x y:A)(k:A->ah X):ah X:=
 match x,y with
 |.lf (.v (.int D a)),.lf (.v (.int _ b))=>k (.lf (.v (.int D (bif C then (if b > a then b else a)else (if b<a then b else a)))))
 |_,_=>none
def He{X:Type}(P:Program)(t:TypeId)(x i:A)(k:A->ah X):ah X:=
 match x,i with
 | .lf (.v (.str s)),.lf (.v (.int _ iv))=>(match P.underlying t with
  |some .string=>if h:0<=iv/\iv.toNat<s.size then k (.lf (.v (.int .u8 ((s[iv.toNat]'h.2).toNat:Int))))else none
  |_=>none)
 |_,_=>none
def s9{X:Type}(x:ah A)(d:Int)(k:Int->ah X):ah X:=
 match x with
 |none=>k d
 |some (.lf (.v (.int _ n)))=>k n
 |_=>none
def wZ{X:Type}(P:Program)(t:TypeId)(x:A)(lo hi:ah A)(k:A->ah X):ah X:=
 match x with
 | .lf (.v (.str s))=>(match P.underlying t with
  |some .string=>s9 lo 0 λl=>s9 hi (s.size:Int) λh=>if 0<=l/\l<=h/\h<=(s.size:Int)then k (.lf (.v (.str (s.extract l.toNat h.toNat))))else none
  |_=>none)
 | .lf (.v (.sl C g D l))=>(match pK P t with
  | some e=>(match jk P e with
   |some n=>if n=aD C then (bif Nat.blt g 2 then s9 lo 0 λa=>s9 hi (l.length:Int) λb=>if 0<=a/\a<=b/\b<=(l.length:Int)then k (.lf (.v (.sl C g false ((l.take b.toNat).drop a.toNat))))else none else none)else none
   |none=>none)
  |none=>none)
 |_=>none
def D2(P:Program)(C D:TypeId):Bool:=
 match P.underlying C,P.underlying D with
 | some (.slice e),some .string=>(match P.underlying e with
  |some (.int .u8)=>true
  |_=>false)
 |_,_=>false
def NB{X:Type}(P:Program)(C D:TypeId)(z:V)(k:A->ah X):ah X:=
 match z with
 |.sl .u8 _ _ l=>bif D2 P C D then k (.lf (.v (.str (strOfNums l))))else none
 |.nil=>bif D2 P C D then k (.lf (.v (.str (strOfNums []))))else none
 |_=>none
def yZ{X:Type}(P:Program)(σ:S)(C D:TypeId)(x:A)(k:A->ah X):ah X:=
 match x with
 | .lf (.v (.int _ n))=>(match P.underlying C,P.underlying D with
  |some _,some (.int E)=>k (.lf (.v (.int E (E.wrap n))))
  |_,_=>none)
 |.lf y=>oG σ y λz=>NB P C D z k
 |_=>none
section
variable {P:Program} {w w':World} {w0:Wd} {B N:Nat} {aj aA:bG} {ρ ρ':Nat->Loc} {σ:S} {a:Act} {X:Type} {d:Nat} {r:X} {o:Oper}
def aG3{α:Type}(f:α -> aa Value)(s:Nat)(C:∀ x,(f x).length=s)(l:aa α):(l.flatMap f).length=l.length*s:=by
 induction l with
 |nil=>simp
 |cons a l D=>grind
def anX{α:Type}(f:α -> aa Value)(s:Nat)(D:∀ x,(f x).length=s):∀ (l:aa α) (k:Nat) (C:k<l.length) (j:Nat),j<s -> (l.flatMap f)[k*s+j]?=(f l[k])[j]?:=by
 intro l
 induction l with
 |nil=>simp_all
 | cons a l E=>
  intro k C j L;rw[List.flatMap_cons];cases k with
  |zero=>grind
  |succ k =>grind
def abM(z:Array Value)(s n:Nat)(C:z.size=s)(E:0<s):(madeCells z (n*s)).toList=(List.replicate n z.toList).flatten:=by
 have e:(List.replicate n z.toList).flatten=(List.replicate n ()).flatMap (λ_=>z.toList):=by
  rw[List.flatMap_def,List.map_replicate]
 rw[e];have L:((List.replicate n ()).flatMap (λ_=>z.toList)).length=n*s:=by
  simp_all
 apply List.ext_getElem?;intro i;rcases Nat.lt_or_ge i _ with hi|hi
 ·have O:i / s<n:=Nat.div_lt_of_lt_mul (by rw[Nat.mul_comm];exact hi);have T:i % s<s:=Nat.mod_lt _ E;have U:i=i / s*s+i % s:=by rw[Nat.mul_comm];exact(Nat.div_add_mod i s).symm
  have D:=anX (λ_=>z.toList) s (λ_=>by simpa using C) (List.replicate n ()) (i / s) (by simpa using O) (i % s) T;rw[<- U]at D;rw[D];have Y:i % s<z.size:=by omega
  simp only[madeCells,Array.toList_map,Array.toList_range,eF,List.getElem?_range hi,Option.map_some,C];simp[Y]
 ·rw[List.getElem?_eq_none (by rw[kY,size_madeCells];exact hi),List.getElem?_eq_none (by rw[L];exact hi)]
def anY{t:TypeId}{len:Nat}{parts:Array (Nat×Operand)}{k:S -> ah X}(h:yY P N σ d t len parts.toList k=some r):∃ cS,k cS=some r /\ ∀ aj ρ a w,Rl w0 N aj ρ σ a w ->
  ∃w' aA ρ' v,(Instr.buildSlice t len (parts.map λ(i,x)=>(i,a.eval x))).run P w = .ok v w'/\Rl w0 N aA ρ' cS (a.put (some d) v) w':=by
 unfold yY at h;split at h
 ·rename_i e C oJ;obtain⟨fX,ht,i,hi,Z,jC⟩:=yV oJ;split at h
  ·rename_i z hz;cases U:(Nat.beq (full C) 0&&Nat.beq z.cells.size (aD C)&&Nat.blt (len*aD C) 16777217)with
   |false=>rw[U]at h;cases h
   | true=>
    rw[U,au]at h;simp only[aN]at U;have hf:=cD U.1.1;have mG:=cD U.1.2;have hsm:len*aD C<16777217:=by have:=cQ U.2;omega
    have oK:i.zero=some z:=by unfold zeroOf at hz;simpa [hi]using hz
    split at h
    ·rename_i cs gp;split at h
     ·rename_i vs jM;split at h
      ·rename_i l hl;obtain⟨hd,h⟩:=oH h
       refine⟨_,h,λaj ρ a w hR=>?_⟩
       obtain⟨D3,Be,iA⟩:=UL C 0 len vs l hl;have UM:eD w w0.heap.size aj ρ (List.replicate len (z.cells.toList.map nR)).flatten (madeCells z.cells (len*aD C)):=by
        have e1:(List.replicate len (z.cells.toList.map nR)).flatten=((List.replicate len z.cells.toList).flatten).map nR:=by
         rw[List.map_flatten,List.map_replicate]
        rw[e1,<- abM z.cells (aD C) len mG (oA C)]
        refine⟨by simp,λj x D=>?_⟩
        rw[eF]at D;cases L:(madeCells z.cells (len*aD C)).toList[j]? with
        |none=>rw[L]at D;cases D
        | some v=>
         rw[L]at D;injection D with D;subst D;exact⟨v,by simpa using L,Ns v⟩
       obtain⟨O,w5,dD⟩:=Ny (w:=w) (B:=w0.heap.size) (aj:=aj) (ρ:=ρ) _ _ _ (parts.toList.map λp=>(p.1,a.eval p.2)) cs gp UM (by simp) (λj p q T hq=>by
        rw[eF]at T hq;cases D:parts.toList[j]? with
        |none=>rw[D]at T;cases T
        | some x=>
         rw[D]at T hq;injection T with T;injection hq with hq;subst T hq;exact⟨rfl,hR.aK x.2⟩)
       have abN:=Nz cs vs jM;have anZ:O.size=len*aD C:=by rw[dD.1,abN,eG,Be]
       have dB:(Instr.buildSlice t len (parts.map λ(i,x)=>(i,a.eval x))).run P w = .ok (.slice (some ⟨w.heap.size,0,none⟩) len len) (w.alloc (.cells O e)):=by
        have G8:(parts.map λ(i,x)=>(i,a.eval x)).toList=parts.toList.map λp=>(p.1,a.eval p.2):=by simp
        by_cases h0:len*aD C=0
        ·have hm:madeCells z.cells (len*aD C) = #[]:=by rw[h0];simp[madeCells]
         rw[hm]at w5;have UN:len*i.size=0:=by rw[Z];exact h0
         rw[<- Z]at w5;have e0:∀f:Nat -> Value,Array.map f (Array.range 0) = #[]:=λf=>by simp
         simp only[Instr.buildSlice,fV,gO fX,sizeOf,typeInfo];simp[hi,UN];rw[e0,w5];simp[newRow]
        ·exact run_buildSlice (P:=P) w t e len _ O i z fX hi oK (by rw[Z];omega) (by rw[Z];exact h0) (by rw[Z,G8];exact w5)
       refine⟨_,cc aj w.heap.size (some [d]),cc ρ d (.dX (.slice (some ⟨w.heap.size,0,none⟩) len len)),_,dB,(hR.DW (hR.dz d (.inl hd)) (λr hr=>cM _ _ _ hr) (.sl _ _ (cm _ _ _) ?_)).set ⟨rfl,by simp[c8,cm]⟩ hd⟩
       have pL:∀ E (Y:E<l.length) j x,(enc C 0 l[E])[j]?=some x -> ∃ v,O[E*aD C+j]?=some v /\ ∀ (w':World) (B':Nat) (aA:bG) (q':aa Nat),RV w' B' aA q' x v:=by
        intro E Y j x D;obtain⟨y,hy,hw⟩:=iA E Y j x D;obtain⟨v,L,hr⟩:=dD.2 (E*aD C+j) (.v y) (by rw[abN,eF,hy];rfl);exact⟨v,L,λw' B' aA q'=>(hr.2.wk hw).sW (yK C 0 l[E] hf x (gN D))⟩
       have:=RV.own (w:=w.alloc (.cells O e)) (B:=w0.heap.size) (aj:=cc aj w.heap.size (some [d])) [d] C 0 true l w.heap.size len O (λi j=>(O[i*aD C+j]?).getD undef)
        (cm _ _ _) (by rw[ht];exact heap_alloc_new w _) anZ (by omega) ⟨by have:=Nat.le_mul_of_pos_right len (oA C);unfold maxLen;omega,λ_=>D3.symm⟩ (λE Y j x D=>?_) (λE Y j x D=>?_)
       ·rw[D3]at this;exact this
       ·obtain⟨v,L,_⟩:=pL E Y j x D;rw[L];rfl
       ·obtain⟨v,L,hr⟩:=pL E Y j x D;rw[L];exact hr _ _ _ _
      ·cases h
     ·cases h
    ·cases h
  ·cases h
 ·cases h
def abO{C:Bool}{x y:A}{k:A->ah X}(h:D1 C x y k=some r):∃ z,k z=some r/\∀ (w:World) (B:Nat) (aj:bG) (ρ:Nat->Loc) (t ty:TypeId) (u v:Value),RA w B aj ρ x u->RA w B aj ρ y v->
  ∃D,((bif C then Builtin.max_ #[t,t] ty #[u,v]else Builtin.min_ #[t,t] ty #[u,v]):Sem Value).run P w = .ok D w/\RA w B aj ρ z D:=by
 unfold D1 at h;split at h
 ·refine⟨_,h,λw B aj ρ t ty u v E L=>?_⟩
  obtain rfl:=E.2.gY;obtain rfl:=L.2.gY;cases C with
  |true=>exact⟨_,by simp[Builtin.max_,Builtin.max2],rfl,.int _ _ _⟩
  |false=>exact⟨_,by simp[Builtin.min_,Builtin.min2],rfl,.int _ _ _⟩
 ·cases h
def an0{t:TypeId}{x i:A}{k:A->ah X}(h:He P t x i k=some r):∃ z,k z=some r/\∀ (w:World) (B:Nat) (aj:bG) (ρ:Nat->Loc) (u v:Value),RA w B aj ρ x u->RA w B aj ρ i v->
  ∃C,(Instr.index t u v).run P w = .ok C w/\RA w B aj ρ z C:=by
 unfold He at h;split at h
 ·rename_i s T iv;split at h
  ·rename_i E;split at h
   ·rename_i D
    refine⟨_,h,λw B aj ρ u v L O=>?_⟩
    obtain rfl:=L.2.wQ;obtain rfl:=O.2.gY;exact⟨_,by simp[Instr.index,asIntOf,gO E,D.1,D.2],rfl,.int _ _ _⟩
   ·cases h
  ·cases h
 ·cases h
def abP{C D:TypeId}(h:D2 P C D=true):∃ e,P.underlying C=some (.slice e)/\P.underlying D=some .string/\P.underlying e=some (.int .u8):=by
 unfold D2 at h
 grind
def abQ(l:aa Int)(i:Nat)(hi:i<l.length):l.getD i 0=l[i]:=by rw[eY,bZ hi];rfl
def RV.toStr{L O e:TypeId}(Y:P.underlying L=some (.slice e))(Z:P.underlying O=some .string)(he:P.underlying e=some (.int .u8)){o:Nat}{qn:Bool}{l:aa (T .u8)}{q:aa Nat}{B:Nat}{u:Value}(h:RV w B aj q (.sl .u8 o qn l) u):
  (convert L O u).run P w = .ok (.string (strOfNums l)) w:=by
 generalize C:V.sl .u8 o qn l=y at h;cases h with
 |int=>cases C
 |bool=>cases C
 |str=>cases C
 |nil=>cases C
 | ep q t o'=>
  injection C with D e2 e3 E;subst D;obtain rfl:=eq_of_heq E;rw[run_convert_bytes_nil w L e Y he 0 0 O Z];rfl
 | fA q t o' A c ho=>
  injection C with D e2 e3 E;subst D;obtain rfl:=eq_of_heq E;have hl:=run_loadCells_list (P:=P) w A [] (λj v hj=>by simp at hj);rw[run_convert_bytes_string w L O e _ 0 c Y he Z];rfl
 | fK q t o' A c ho=>
  injection C with D e2 e3 E;subst D;obtain rfl:=eq_of_heq E;have hl:(loadCells A 0).run P w = .ok (([]:aa Int).map (Value.int .u8)).toArray w:=run_loadCells_list (P:=P) w A [] (λj v hj=>by simp at hj);rw[run_convert_bytes_string w L O e _ 0 c Y he Z,run_bytesToString w A 0 c [] hl];rfl
 | aF q t o' UO l' b off cap uu ho hl hb h1 iJ hc hr=>
  injection C with D e2 e3 E;subst D;obtain rfl:=eq_of_heq E
  refine run_convert_bytes_arg w L e Y he b off _ cap l rfl (λi hi=>?_) O Z
  have U:=hc i hi 0 (.int .u8 l[i]) rfl;have h3:=(hr i hi 0 (.int .u8 l[i]) rfl).gY;simp only[aD,Nat.mul_one,Nat.add_zero]at U;have hg:=abQ (show aa Int from l) i hi;rw[U,h3];exact aY (λz=>some (Value.int .u8 z)) hg.symm
 | own q t o' UO l' b cap cs uu hl hh oE hn hm hc hr=>
  injection C with D e2 e3 E;subst D;obtain rfl:=eq_of_heq E
  refine run_convert_bytes_arg w L e Y he b 0 _ cap l rfl (λi hi=>?_) O Z
  have U:=hc i hi 0 (.int .u8 l[i]) rfl;have h3:=(hr i hi 0 (.int .u8 l[i]) rfl).gY;simp only[aD,Nat.mul_one,Nat.add_zero]at U;have hg:=abQ (show aa Int from l) i hi;rw[h3]at U;have h4:w.cell? ⟨b,0+i,none⟩=some (.int .u8 l[i]):=by simp[World.cell?,hh,U]
  rw[h4];exact aY (λz=>some (Value.int .u8 z)) hg.symm
def an1{E L:TypeId}{x:A}{k:A -> ah X}(h:yZ P σ E L x k=some r):∃ z,k z=some r /\ ∀ aj ρ a w,Rl w0 N aj ρ σ a w -> ∀ u,RA w w0.heap.size aj ρ x u ->
  ∃t',(convert E L u).run P w = .ok t' w/\RA w w0.heap.size aj ρ z t':=by
 unfold yZ at h;split at h
 ·rename_i kk n;split at h
  ·rename_i d1 kd hs hd
   refine⟨_,h,λaj ρ a w _ u C=>?_⟩
   obtain rfl:=C.2.gY;exact⟨_,by simp[convert,gO hs,gO hd,Conv.intToInt],rfl,.int _ _ _⟩
  ·cases h
 ·rename_i y _;have key:∃ z,(∀ aj ρ a w,Rl w0 N aj ρ σ a w -> ∀ u,dU w w0.heap.size aj ρ y u -> ∃ q,RV w w0.heap.size aj q z u)/\NB P E L z k=some r:=by
   cases y with
   |v z=>exact⟨z,λaj ρ a w _ u C=>⟨[],C.2⟩,h⟩
   |dead=>cases h
   | own q=>
    obtain⟨z,U,h⟩:=rM q _ h
    refine⟨z,λaj ρ a w O u C=>?_,h⟩
    obtain⟨v,hv,Y⟩:=U.ok O.root;have h3:=C.2
    grind
  obtain⟨z,U,D⟩:=key;clear h;unfold NB at D;split at D
  ·rename_i o qn l;cases T:D2 P E L with
   |false=>simp_all
   | true=>
    rw[T]at D;obtain⟨e,Z,e2,e3⟩:=abP T
    refine⟨_,D,λaj ρ a w O u C=>?_⟩
    obtain⟨q,Y⟩:=U aj ρ a w O u C;exact⟨_,Y.toStr Z e2 e3,rfl,.str _ _⟩
  ·cases T:D2 P E L with
   |false=>simp_all
   | true=>
    rw[T,au]at D;obtain⟨e,Z,e2,e3⟩:=abP T
    refine⟨_,D,λaj ρ a w O u C=>?_⟩
    obtain⟨q,Y⟩:=U aj ρ a w O u C;cases Y;exact⟨_,by rw[run_convert_bytes_nil w E e Z e3 0 0 L e2];rfl,rfl,.str _ _⟩
  ·cases D
 ·cases h
def an2{s:TypeId}{x:A}{f:Nat}{k:A -> ah X}(h:G9 P s x f k=some r):∃ z,k z=some r /\ ∀ (w:World) (B:Nat) (aj:bG) (ρ:Nat -> Loc) (u:Value),RA w B aj ρ x u ->
  ∃t',(Instr.field s u f).run P w = .ok t' w/\RA w B aj ρ z t':=by
 unfold G9 at h;split at h
 ·rename_i E cs O;have jN:∃ T,P.underlying s=some (.struct T)/\T[f]?=some E:=by
   unfold GS at O;split at O
   ·simp_all
   ·cases O
  obtain⟨T,kr,za⟩:=jN;split at h
  ·rename_i n U C;split at h
   ·rename_i hle
    refine⟨_,h,λw B aj ρ u D=>?_⟩
    obtain⟨us,rfl,L⟩:=D;have Y:(isAgg E.type).run P w = .ok true w:=by
     unfold DP at C;split at C
     next fs' D=>unfold isAgg;rw[fV,gO D];rfl
     next c e D=>unfold isAgg;rw[fV,gO D];rfl
     ·cases C
     ·cases C
    unfold jk at U;cases hi:P.info? E.type with
    |none=>simp_all
    | some i=>
     have wP:i.size=n:=by simpa [hi]using U
     refine⟨.agg (us.extract E.offset (E.offset+n)),by simp[Instr.field,gO kr,za,asAgg,part,fV,Y,sizeOf,typeInfo,hi,wP],_,rfl,?_,λj y Z=>?_⟩
     ·have:=L.1
      grind
     ·obtain⟨hj,Hf⟩:=Nk _ _ _ _ _ Z;obtain⟨v,hv,hr⟩:=L.2 _ y Hf
      grind
   ·cases h
  ·rename_i n U C;split at h
   ·rename_i y Z
    refine⟨_,h,λw B aj ρ u D=>?_⟩
    obtain⟨us,rfl,L⟩:=D;obtain⟨v,hv,hr⟩:=L.2 _ y Z;have Y:(isAgg E.type).run P w = .ok false w:=by
     unfold DP at C;split at C
     ·cases C
     ·cases C
     next d hs ha D=>unfold isAgg;rw[fV,gO D];simp_all
     ·cases C
    exact⟨v,by simp[Instr.field,gO kr,za,asAgg,part,fV,Y,hv],hr⟩
   ·cases h
  ·cases h
 ·cases h
end
def V.val:V->Value
 |.int k n=>.int k n
 |.bool b=>.bool b
 |.str s=>.string s
 |_=>undef
def NC:TypeDesc->V->V->ah Bool
 |.int _,.int k a,.int C b=>if k=C then some (a==b)else none
 |.bool,.bool a,.bool b=>some (a==b)
 |.string,.str a,.str b=>some (a.toList==b.toList)
 |_,_,_=>none
def Hg(P:Program)(g:TypeId->aa V->aa V->ah Bool)(xs ys:aa V):aa Field->ah Bool
 |[]=>some true
 | f :: C=>bif f.name == "_" then Hg P g xs ys C else (match jk P f.type with
  | some n=>bif Nat.ble (f.offset+n) xs.length then (match g f.type ((xs.drop f.offset).take n) ((ys.drop f.offset).take n),Hg P g xs ys C with
   |some a,some b=>some (a&&b)
   |_,_=>none)else none
  |none=>none)
def zb(P:Program):Nat->TypeId->aa V->aa V->ah Bool
 |0,_,_,_=>none
 | n+1,t,xs,ys=>match P.underlying t with
  |some (.struct C)=>bif P.stoodInHeld t ||!Nat.beq xs.length ys.length then none else Hg P (zb P n) xs ys C.toList
  | some d=>(match xs,ys with
   |[x],[y]=>NC d x y
   |_,_=>none)
  |none=>none
def ND:BinOp->ah Bool
 |.eql=>some false
 |.neq=>some true
 |_=>none
def jt{α:Type}:aa α->Bool
 |[]=>true
 |_=>false
def isStr(P:Program)(t:TypeId):Bool:=match P.underlying t with
 |some (.struct _)=>true
 |_=>false
def zc{X:Type}(P:Program)(σ:S)(D:BinOp)(t:TypeId)(x y:A)(k:A->ah X):ah X:=
 match ND D,x,y with
 | some C,.agg cs,.agg E=>(match qB cs,qB E with
  | some xs,some ys=>bif P.eqGuardType P.depth t || !isStr P t then none else (match zb P 20 t xs ys with
   |some b=>k (.lf (.v (.bool (bif C then !b else b))))
   |none=>none)
  |_,_=>none)
 | some C,.lf l,.lf (.v .nil)=>(match pK P t with
  | some _=>oG σ l λz=>(match z with
   |.nil=>k (.lf (.v (.bool (bif C then false else true))))
   |.sl _ _ true _=>k (.lf (.v (.bool (bif C then true else false))))
   |.sl _ _ false l=>bif jt l then none else k (.lf (.v (.bool (bif C then true else false))))
   |_=>none)
  |none=>none)
 |_,_,_=>vK x λa=>vK y λb=>GP P t D a b λz=>k (.lf (.v z))
section
variable {P:Program} {w w':World} {w0:Wd} {B N:Nat} {aj aA:bG} {ρ ρ':Nat->Loc} {σ:S} {a:Act} {X:Type} {d:Nat} {r:X} {o:Oper}
def an3{D:TypeDesc}{x y:V}{b:Bool}{t:TypeId}{n:Nat}(C:P.underlying t=some D)(h:NC D x y=some b):(Op.equalIn (n+1) t x.val y.val).run P w = .ok b w:=by
 unfold NC at h;split at h
 ·split at h
  next L _ a k O E=>subst E;injection h with h;subst h;exact run_equalIn_int w n t _ _ _ _ C
  ·cases h
 ·injection h with h;subst h;exact run_equalIn_bool' w n t _ _ C
 ·injection h with h;subst h;exact run_equalIn_string w n t _ _ C
 ·cases h
def ta(P:Program)(t:TypeId)(xs:aa V)(u:Value):Prop:=
 match P.underlying t with
 |some (.struct _)=>u = .agg (xs.map V.val).toArray
 |_=>∃x,xs=[x]/\u=x.val
def abR{t:TypeId}{n off:Nat}{xs:aa V}(O:jk P t=some n)(hle:off+n <= xs.length)(T:∃ d,P.underlying t=some d/\(∀ c e,d ≠ .array c e)/\((∀ C,d ≠ .struct C) -> n=1)):
  ∃u,(part t (xs.map V.val).toArray off).run P w = .ok u w/\ta P t ((xs.drop off).take n) u:=by
 obtain⟨d,D,U,Y⟩:=T;unfold jk at O;cases hi:P.info? t with
 |none=>grind
 | some i=>
  have Z:i.size=n:=by simpa [hi]using O
  by_cases E:∃C,d = .struct C
  ·obtain⟨C,rfl⟩:=E;have L:(isAgg t).run P w = .ok true w:=by
    unfold isAgg;rw[fV,gO D];rfl
   refine⟨.agg ((xs.map V.val).toArray.extract off (off+n)),by simp[part,fV,L,sizeOf,typeInfo,hi,Z],?_⟩;unfold ta;rw[D];simp only;congr 1;apply Array.ext';simp[List.map_drop,List.map_take]
  ·have L:(isAgg t).run P w = .ok false w:=by
    unfold isAgg;rw[fV,gO D w];cases d<;>first|rfl|(exfalso;exact E ⟨_,rfl⟩)|(exfalso;exact U _ _ rfl)
   have zd:n=1:=Y λC e=>E ⟨C,e⟩
   subst zd;have dA:off<xs.length:=by omega
   have pL:(xs.map V.val).toArray[off]?=some (xs[off]).val:=by simp[dA]
   refine⟨(xs[off]).val,by simp[part,fV,L,pL],?_⟩;have e1:(xs.drop off).take 1=[xs[off]]:=by
    rw[List.drop_eq_getElem_cons];rfl
   unfold ta;rw[D];split
   ·grind
   ·grind
def an4{n:Nat}{t:TypeId}{xs ys:aa V}{b:Bool}(h:zb P n t xs ys=some b):∃ d,P.underlying t=some d/\(∀ c e,d ≠ .array c e)/\((∀ C,d ≠ .struct C) -> xs.length=1):=by
 cases n with
 |zero=>cases h
 | succ n=>
  unfold zb at h;split at h
  ·simp_all
  ·rename_i d L D;split at h
   next x y=>exact⟨d,D,(λc e E=>by subst E;simp[NC]at h),λ_=>rfl⟩
   ·cases h
  ·cases h
def UP{n:Nat}{xs ys:aa V}(hlen:xs.length=ys.length)(L:∀ t xs ys b,zb P n t xs ys=some b -> ∀ u v,ta P t xs u -> ta P t ys v -> ∀ k,(Op.equalIn (k+n) t u v).run P w = .ok b w)(k:Nat):∀ (C:aa Field) (b:Bool),Hg P (zb P n) xs ys C=some b ->
  (Op.eqFields (k+n) (xs.map V.val).toArray (ys.map V.val).toArray C).run P w = .ok b w
 | [],b,h=>by
  injection h with h;subst h;simp[Op.eqFields]
 | f :: C,b,h=>by
  unfold Hg at h;cases D:f.name == "_" with
  | true=>
   rw[D]at h;have:f.name = "_":=by simpa using D
   simp[Op.eqFields,this,not_true];exact UP hlen L k C b h
  | false=>
   rw[D,aq]at h;have dc:f.name ≠ "_":=by simpa using D
   split at h
   ·rename_i s O;cases E:Nat.ble (f.offset+s) xs.length with
    |false=>simp_all
    | true=>
     rw[E,au]at h;have E:=cQ E;split at h
     ·rename_i c e T h2;injection h with h;subst h;obtain⟨U,Y,Z,oN⟩:=an4 T;have qE:((xs.drop f.offset).take s).length=s:=by simp;omega
      obtain⟨u,UQ,qH⟩:=abR (w:=w) O E ⟨U,Y,Z,λh=>qE.symm.trans (oN h)⟩;obtain⟨v,UR,w6⟩:=abR (w:=w) (xs:=ys) (off:=f.offset) O (by omega) ⟨U,Y,Z,λh=>qE.symm.trans (oN h)⟩;have hr:=L _ _ _ c T u v qH w6 k;have vj:=UP hlen L k C e h2;simp only[Op.eqFields,dc,ne_eq,not_false_eq_true,if_true,fV,UQ,UR,hr,lS];cases c
      ·simp
      ·simp_all
     ·cases h
   ·cases h
def abS:∀ (n:Nat) (t:TypeId) (xs ys:aa V) (b:Bool),zb P n t xs ys=some b -> ∀ u v,ta P t xs u -> ta P t ys v -> ∀ k,(Op.equalIn (k+n) t u v).run P w = .ok b w
 |0,t,xs,ys,b,h=>by cases h
 | n+1,t,xs,ys,b,h=>by
  intro u v C D k;unfold zb at h;split at h
  ·rename_i U L;cases E:(P.stoodInHeld t || !Nat.beq xs.length ys.length)with
   |true=>simp_all
   | false=>
    rw[E,aq]at h;rw[Bool.or_eq_false_iff,Bool.not_eq_false']at E;have hlen:=cD E.2;unfold ta at C D;rw[L]at C D;simp only at C D;subst C D;have Y:P.fieldsOf t=U:=by simp[Program.fieldsOf,L]
    rw[<- Nat.add_assoc,run_equalIn_struct w (k+n) t _ _ (by rw[Y];exact L) E.1,Y];exact UP hlen (abS n) k U.toList b h
  ·rename_i d GO Z;split at h
   ·rename_i x y;unfold ta at C D;rw[Z]at C D;split at C
    ·simp_all
    ·split at D
     ·simp_all
     ·obtain⟨x',O,rfl⟩:=C;obtain⟨y',T,rfl⟩:=D;injection O with O;injection T with T;subst O T;exact an3 Z h
   ·cases h
  ·cases h
def abU{cs:aa Lf}{xs:aa V}(h:qB cs=some xs){u:Value}(D:RA w B aj ρ (.agg cs) u):u = .agg (xs.map V.val).toArray:=by
 obtain⟨e,E⟩:=Nl _ _ h;obtain⟨us,rfl,Y,L⟩:=D;congr 1;apply Array.ext';apply List.ext_getElem?;intro j;rw[ eF,Array.getElem?_toList];cases C:xs[j]? with
 |none =>simp_all
 | some x=>
  obtain⟨v,O,T⟩:=L j _ (by rw[e,eF,C];rfl);rw[O];have:=E x (gN C);have U:=T.2;cases U<;>first|rfl|cases this
def D4{C:BinOp}{D:Bool}(E:ND C=some D){t e:TypeId}(L:P.underlying t=some (.slice e))(O T:Operand)(A:ah Addr)(n c:Nat):
  (do eqGuard C t O T (.slice A n c) (.slice none 0 0);binOp C t (.slice A n c) (.slice none 0 0):Sem Value).run P w = .ok (.bool (bif D then !A.isNone else A.isNone)) w:=by
 have U:(Op.equal t (.slice A n c) (.slice none 0 0)).run P w = .ok A.isNone w:=by
  have h:∀ d,(Op.equalIn (d+1) t (.slice A n c) (.slice none 0 0)).run P w = .ok A.isNone w:=by
   intro d;cases A<;>simp[Op.equalIn,gO L]
  exact h 9999
 cases C<;>simp[ND]at E<;>subst E<;>simp[eqGuard,binOp,U]
def an5{op:BinOp}{t:TypeId}{x y:A}{k:A -> ah X}(h:zc P σ op t x y k=some r):∃ z,k z=some r /\ ∀ aj ρ a w,Rl w0 N aj ρ σ a w -> ∀ C D u v,RA w w0.heap.size aj ρ x u -> RA w w0.heap.size aj ρ y v ->
  ∃t',(do eqGuard op t C D u v;binOp op t u v:Sem Value).run P w = .ok t' w/\RA w w0.heap.size aj ρ z t':=by
 unfold zc at h;split at h
 ·rename_i T cs ds O;split at h
  ·rename_i xs ys mU Hh;cases hg:(P.eqGuardType P.depth t || !isStr P t)with
   |true=>simp_all
   | false=>
    rw[hg,aq]at h;rw[Bool.or_eq_false_iff,Bool.not_eq_false']at hg;obtain⟨hg,jN⟩:=hg;split at h
    ·rename_i b hb
     refine⟨_,h,λaj ρ a w Y C D u v E L=>?_⟩
     have E:=abU mU E;have L:=abU Hh L;subst E L;have hs:∃ fs,P.underlying t=some (.struct fs):=by
      unfold isStr at jN;split at jN
      ·simp_all
      ·cases jN
     obtain⟨fs,za⟩:=hs;have Z:=abS (w:=w) 20 t xs ys b hb (.agg (xs.map V.val).toArray) (.agg (ys.map V.val).toArray) (by unfold ta;rw[za]) (by unfold ta;rw[za]) 9980;refine⟨.bool (bif T then !b else b),?_,rfl,.bool _ _⟩;rw[fV,run_eqGuard_agg w op t C D _ _ hg,lS];cases op<;>simp[ND]at O<;>subst O
     ·rw[run_eql_struct,Z];rfl
     ·rw[run_neq_struct,Z];rfl
    ·cases h
  ·cases h
 ·rename_i T l O;split at h
  ·rename_i e he;have ht:P.underlying t=some (.slice e):=by
    unfold pK at he;split at he
    ·simp_all
    ·cases he
   obtain⟨z,hz,U⟩:=UI (w0:=w0) (N:=N) h;clear h;split at U
   ·refine⟨_,U,λaj ρ a w Y C D u v E L=>?_⟩
    obtain⟨q,hq⟩:=hz aj ρ a w Y u E;cases hq;cases L.2;exact⟨_,D4 O ht C D none 0 0,rfl,by cases T<;>exact .bool _ _⟩
   ·refine⟨_,U,λaj ρ a w Y C D u v E L=>?_⟩
    obtain⟨q,hq⟩:=hz aj ρ a w Y u E;cases L.2;cases hq with
    |aF _ _ _ _ _ b off cap us ho hl hb h1 iJ hc Z=>exact⟨_,D4 O ht C D _ _ _,rfl,by cases T<;>exact .bool _ _⟩
    |own=>exact⟨_,D4 O ht C D _ _ _,rfl,by cases T<;>exact .bool _ _⟩
    |fK=>exact⟨_,D4 O ht C D _ _ _,rfl,by cases T<;>exact .bool _ _⟩
   ·rename_i t' o' l';cases hl:jt l' with
    |true=>simp_all
    | false=>
     rw[hl,aq]at U
     refine⟨_,U,λaj ρ a w Y C D u v E L=>?_⟩
     obtain⟨q,hq⟩:=hz aj ρ a w Y u E;cases L.2;cases hq with
     |ep=>cases hl
     |fA=>cases hl
     |aF _ _ _ _ _ b off cap us ho wY hb h1 iJ hc Z=>exact⟨_,D4 O ht C D _ _ _,rfl,by cases T<;>exact .bool _ _⟩
     |own=>exact⟨_,D4 O ht C D _ _ _,rfl,by cases T<;>exact .bool _ _⟩
   ·cases U
  ·cases h
 ·obtain⟨u0,hx,h1⟩:=Uq h;obtain⟨v0,hy,U⟩:=Uq h1;obtain⟨z,h3,hp,hs⟩:=anw U;subst hx hy
  refine⟨_,h3,λaj ρ a w Y C D u v E L=>?_⟩
  obtain⟨t',dB,Z⟩:=hs w _ aj C D [] [] _ _ E.2 L.2;exact⟨t',dB,V.GR hp,Z⟩
/-! Parts of slices that nobody writes. -/
def D5{x:ah A}{C:Int}{k:Int->ah X}(h:s9 x C k=some r):∃ n,k n=some r/\(∀ (E:Type) (D:Int->ah E),s9 x C D=D n)/\((x=none/\n=C)\/∃ L,x=some (.lf (.v (.int L n)))):=by
 unfold s9 at h;split at h
 ·exact⟨_,h,λ_ _=>rfl,.inl ⟨rfl,rfl⟩⟩
 ·exact⟨_,h,λ_ _=>rfl,.inr ⟨_,rfl⟩⟩
 ·cases h
def an6{t:TypeId}{x:A}{lo hi:ah A}{k:A -> ah X}(h:wZ P t x lo hi k=some r):∃ y,k y=some r/\(∀ (U:Type) (O:A -> ah U),wZ P t x lo hi O=O y) /\
  ((∃ (s:ByteArray) (l h:Int),x = .lf (.v (.str s))/\P.underlying t=some .string/\((lo=none/\l=0) \/ ∃ C,lo=some (.lf (.v (.int C l))))/\((hi=none/\h=s.size) \/ ∃ C,hi=some (.lf (.v (.int C h))))/\0 <= l/\l <= h/\h <= (s.size:Int)/\y = .lf (.v (.str (s.extract l.toNat h.toNat)))) \/
   ∃(L:TC) (g:Nat) (Y:Bool) (xs:aa (T L)) (e:TypeId) (l h:Int),x = .lf (.v (.sl L g Y xs))/\pK P t=some e/\jk P e=some (aD L)/\g<2/\((lo=none/\l=0) \/ ∃C,lo=some (.lf (.v (.int C l))))/\((hi=none/\h=xs.length) \/ ∃C,hi=some (.lf (.v (.int C h))))/\0 <= l/\l <= h/\h <= (xs.length:Int)/\y = .lf (.v (.sl L g false ((xs.take h.toNat).drop l.toNat)))):=by
 unfold wZ at h;split at h
 ·rename_i s;split at h
  ·rename_i hu;obtain⟨l,Z,d1,e1⟩:=D5 h;obtain⟨m,D,d2,e2⟩:=D5 Z;split at D
   ·rename_i E
    refine⟨_,D,λU O=>?_,.inl ⟨s,l,m,rfl,hu,e1,e2,E.1,E.2.1,E.2.2,rfl⟩⟩
    simp[wZ,hu];simp_all
   ·cases D
  ·cases h
 ·rename_i L g Y xs;split at h
  ·rename_i e he;split at h
   ·rename_i n hn;split at h
    ·rename_i vf;subst vf;cases hg:Nat.blt g 2 with
     |false=>simp_all
     | true=>
      rw[hg,au]at h;obtain⟨l,Z,d1,e1⟩:=D5 h;obtain⟨m,D,d2,e2⟩:=D5 Z;split at D
      ·rename_i E
       refine⟨_,D,λU O=>?_,.inr ⟨L,g,Y,xs,e,l,m,rfl,he,hn,cQ hg,e1,e2,E.1,E.2.1,E.2.2,rfl⟩⟩
       simp[wZ,he,hn,if_true,hg,au];simp_all
      ·cases D
    ·cases h
   ·cases h
  ·cases h
 ·cases h
def an7{t:TypeId}{x:A}{lo hi:ah A}{k:A->ah X}(h:wZ P t x lo hi k=some r):∃ y,k y=some r/\(∀ (X':Type) (k':A->ah X'),wZ P t x lo hi k'=k' y)/\
  ∀ (w:World) (B:Nat) (aj:bG) (ρ:Nat->Loc) (u:Value) (U C:ah Value),RA w B aj ρ x u->(∀ a,lo=some a->∃ v,U=some v/\RA w B aj ρ a v)->(lo=none->U=none)->(∀ a,hi=some a->∃ v,C=some v/\RA w B aj ρ a v)->(hi=none->C=none)->
   ∃t',(Instr.sliceAt t u U C none).run P w = .ok t' w/\RA w B aj ρ y t':=by
 obtain⟨y,h1,hd,hc⟩:=an6 h
 refine⟨y,h1,hd,λw B aj ρ u U C Z qE ku NF ze=>?_⟩
 have bl:∀ {o:ah A} {E:ah Value} {n Bl:Int},(∀ a,o=some a->∃ v,E=some v/\RA w B aj ρ a v)->(o=none->E=none)->((o=none/\n=Bl)\/∃ L,o=some (.lf (.v (.int L n))))->(E=none/\n=Bl)\/∃ L,E=some (.int L n):=by
  intro o E n Bl g1 g2 g3;rcases g3 with ⟨e,e'⟩|⟨L,e⟩
  ·exact .inl ⟨g2 e,e'⟩
  ·obtain⟨v,C,hr⟩:=g1 _ e;exact .inr ⟨L,by rw[C,hr.2.gY]⟩
 rcases hc with ⟨s,l,m,rfl,O,e1,e2,b1,b2,b3,rfl⟩|⟨tc,g,qn,xs,e,l,m,rfl,D,hn,hg,e1,e2,b1,b2,b3,rfl⟩
 ·have h5:=bl qE ku e1;have h6:=bl NF ze e2;obtain rfl:=Z.2.wQ;have em:(m.toNat:Int)=m:=Int.toNat_of_nonneg (by omega);refine⟨.string (s.extract l.toNat m.toNat),?_,rfl,.str _ _⟩;rw[run_sliceAt_string w t _ _ _ _ O];have US:0<=m:=by omega
  rcases h5 with ⟨rfl,h7⟩|⟨kl,rfl⟩<;>rcases h6 with ⟨rfl,h8⟩|⟨kh,rfl⟩
  all_goals simp_all [Instr.slice,gO O,Instr.sliceBounds,run_sliceBound]
 ·have h5:=bl qE ku e1;have h6:=bl NF ze e2;have O:P.underlying t=some (.slice e):=by
   unfold pK at D;split at D
   next e' ve=>injection D with D;rw[<-D];exact ve
   ·cases D
  have iA:P.elem t=e:=by simp[Program.elem,O]
  have T:P.underlying t=some (.slice (P.elem t)):=by rw[iA];exact O
  have Y:(sizeOf (P.elem t)).run P w = .ok (aD tc) w:=by
   unfold jk at hn;cases hi:P.info? e with
   |none=>simp[hi]at hn
   | some i=>
    have:i.size=aD tc:=by simpa [hi]using hn
    simp[sizeOf,typeInfo,iA,hi,this]
  have kr:∃ A n c,u = .slice A n c:=by
   cases Z.2 with
   |ep=>exact⟨_,_,_,rfl⟩
   |fA=>exact⟨_,_,_,rfl⟩
   |fK=>exact⟨_,_,_,rfl⟩
   |aF=>exact⟨_,_,_,rfl⟩
   |own=>exact⟨_,_,_,rfl⟩
  obtain⟨A,n,c,rfl⟩:=kr;obtain⟨hp,zd,UT⟩:=Z.2.part (a:=l.toNat) (h:=m.toNat) hg (by omega) (by omega);refine⟨_,?_,by simp[V.aF,hg],hp⟩;rw[run_sliceAt_slice w t _ _ _ _ T];rcases h5 with ⟨rfl,rfl⟩|⟨kl,rfl⟩<;>rcases h6 with ⟨rfl,rfl⟩|⟨kh,rfl⟩
  ·rw[run_slice_all w t A n c T,Y,zd];simp
  ·rw[run_slice_h w t A n c T kh m (by omega) (by omega),Y];simp
  ·rw[run_slice_l w t A n c T kl l (by omega) (by omega),Y,zd];simp
  ·rw[run_slice_lh w t A n c T kl kh l m (by omega) (by omega) (by omega),Y];simp
/-! Parts of slices that are owned. -/
def D6{X:Type}(n:Nat)(q:aa Nat)(C:ah Nat)(lo hi:ah A)(y:V)(k:A->ah X):ah X:=
 match y with
 |.sl D _ _ l=>if n=aD D then s9 lo 0 λa=>s9 hi ((C.getD l.length:Nat):Int) λb=>if 0<=a/\a<=b/\b<=(l.length:Int)then k (.view q n a.toNat b.toNat)else none else none
 |_=>none
def Bm{X:Type}(P:Program)(σ:S)(t:TypeId)(q:aa Nat)(C:ah Nat)(lo hi:ah A)(k:A->ah X):ah X:=
 match pK P t with
 | some e=>(match jk P e with
  |some n=>jb σ.m q λy=>D6 n q C lo hi y k
  |none=>none)
 |none=>none
def zf{X:Type}(P:Program)(σ:S)(t:TypeId)(x:A)(lo hi:ah A)(k:A->ah X):ah X:=
 match x with
 |.lf (.own q)=>Bm P σ t q none lo hi k
 |.view q _ 0 j=>Bm P σ t q (some j) lo hi k
 |x=>wZ P t x lo hi k
def an8{n:Nat}{q:aa Nat}{D:ah Nat}{lo hi:ah A}{y:V}{k:A -> ah X}(h:D6 n q D lo hi y k=some r):∃ (C:TC) (g:Nat) (E:Bool) (xs:aa (T C)) (l h:Int),y = .sl C g E xs/\n=aD C /\
  ((lo=none/\l=0) \/ ∃L,lo=some (.lf (.v (.int L l))))/\((hi=none/\h=((D.getD xs.length:Nat):Int)) \/ ∃L,hi=some (.lf (.v (.int L h))))/\0 <= l/\l <= h/\h <= (xs.length:Int)/\k (.view q n l.toNat h.toNat)=some r /\
  ∀(Z:Type) (O:A -> ah Z),D6 n q D lo hi y O=O (.view q n l.toNat h.toNat):=by
 unfold D6 at h;split at h
 ·rename_i C g E xs;split at h
  ·rename_i vf;obtain⟨l,h1,d1,e1⟩:=D5 h;obtain⟨m,U,d2,e2⟩:=D5 h1;split at U
   ·rename_i Y
    refine⟨C,g,E,xs,l,m,rfl,vf,e1,e2,Y.1,Y.2.1,Y.2.2,U,λZ O=>?_⟩
    simp[D6,bL vf];simp_all
   ·cases U
  ·cases h
 ·cases h
def abV{t:TypeId}{q:aa Nat}{dh:ah Nat}{lo hi:ah A}{k:A -> ah X}(h:Bm P σ t q dh lo hi k=some r):∃ y,k y=some r /\
  ∀ aj ρ a w,Rl w0 N aj ρ σ a w -> ∀ (D:ah Addr) (n c C:Nat) (U E:ah Value),c8 w aj ρ q=some (.slice D n c) -> C=dh.getD n -> C <= n -> (∀ a,lo=some a -> ∃ v,U=some v/\RA w w0.heap.size aj ρ a v) -> (lo=none -> U=none) -> (∀ a,hi=some a -> ∃ v,E=some v/\RA w w0.heap.size aj ρ a v) -> (hi=none -> E=none) ->
   ∃t',(Instr.sliceAt t (.slice D C c) U E none).run P w = .ok t' w/\RA w w0.heap.size aj ρ y t':=by
 unfold Bm at h;split at h
 ·rename_i e he;split at h
  ·rename_i n hn;obtain⟨y0,UU,h2⟩:=rM q _ h;obtain⟨tc,g,qn,xs,l,m,rfl,vf,e1,e2,b1,b2,b3,h3,_⟩:=an8 h2
   refine⟨_,h3,λaj ρ a w hR D n' c C U E ic UW hle qE ku NF ze=>?_⟩
   have bl:∀ {o:ah A} {L:ah Value} {n Bl:Int},(∀ a,o=some a -> ∃ v,L=some v/\RA w w0.heap.size aj ρ a v) -> (o=none -> L=none) -> ((o=none/\n=Bl) \/ ∃ O,o=some (.lf (.v (.int O n)))) -> (L=none/\n=Bl) \/ ∃ O,L=some (.int O n):=by
    intro o L n Bl g1 g2 g3;rcases g3 with ⟨e,e'⟩|⟨O,e⟩
    ·grind
    ·obtain⟨v,E,hr⟩:=g1 _ e;exact .inr ⟨O,by rw[E,hr.2.gY]⟩
   have h5:=bl qE ku e1;have h6:=bl NF ze e2;have fX:P.underlying t=some (.slice e):=by
    unfold pK at he;split at he
    ·grind
    ·cases he
   have iA:P.elem t=e:=by simp[Program.elem,fX]
   have T:P.underlying t=some (.slice (P.elem t)):=by rw[iA];exact fX
   have Y:(sizeOf (P.elem t)).run P w = .ok n w:=by
    unfold jk at hn;cases hi:P.info? e with
    |none=>grind
    | some i=>
     have:i.size=n:=by simpa [hi]using hn
     simp[sizeOf,typeInfo,iA,hi,this]
   obtain⟨v0,Z,iB⟩:=UU.ok hR.root;rw[ic]at Z;injection Z with Z;subst Z;have hf:RV w 0 (λ_=>none) [] (.sl tc 0 qn xs) (.slice D n' c):=iB.gn;obtain⟨hp,zd,UT⟩:=hf.part (a:=l.toNat) (h:=m.toNat) (by omega) (by omega) (by omega);have an9:((dh.getD xs.length:Nat):Int)=(C:Int):=by rw[UW,zd]
   rw[an9]at h6;refine⟨sliced D l.toNat m.toNat c n,?_,D,n',c,ic,by omega,by omega,rfl⟩;rw[run_sliceAt_slice w t _ _ _ _ T];rcases h5 with ⟨rfl,rfl⟩|⟨kl,rfl⟩<;>rcases h6 with ⟨rfl,rfl⟩|⟨kh,rfl⟩
   ·rw[run_slice_all w t D C c T,Y];simp
   ·rw[run_slice_h w t D C c T kh m (by omega) (by omega),Y];simp
   ·rw[run_slice_l w t D C c T kl l (by omega) (by omega),Y];simp
   ·rw[run_slice_lh w t D C c T kl kh l m (by omega) (by omega) (by omega),Y];simp
  ·cases h
 ·cases h
def aoa{t:TypeId}{x:A}{lo hi:ah A}{k:A -> ah X}(h:zf P σ t x lo hi k=some r):∃ y,k y=some r /\
  ∀ aj ρ a w,Rl w0 N aj ρ σ a w -> ∀ (u:Value) (C D:ah Value),RA w w0.heap.size aj ρ x u -> (∀ a,lo=some a -> ∃ v,C=some v/\RA w w0.heap.size aj ρ a v) -> (lo=none -> C=none) -> (∀ a,hi=some a -> ∃ v,D=some v/\RA w w0.heap.size aj ρ a v) -> (hi=none -> D=none) ->
   ∃t',(Instr.sliceAt t u C D none).run P w = .ok t' w/\RA w w0.heap.size aj ρ y t':=by
 unfold zf at h;split at h
 ·rename_i q;obtain⟨y,E,L⟩:=abV h
  refine⟨y,E,λaj ρ a w T u C D O U Y Z ze=>?_⟩
  have fW:∃ A n c,u = .slice A n c:=by
   have:=O.1;cases u<;>first|cases this;done|exact⟨_,_,_,rfl⟩
  obtain⟨A,n,c,rfl⟩:=fW;exact L aj ρ a w T A n c n C D O.2 rfl (dM _) U Y Z ze
 ·rename_i q s j;obtain⟨y,E,L⟩:=abV h
  refine⟨y,E,λaj ρ a w T u C D O U Y Z ze=>?_⟩
  obtain⟨A,n,c,ic,_,a2,rfl⟩:=O;have e:sliced A 0 j c s = .slice A j c:=by cases A<;>simp[sliced,Addr.add]
  rw[e];exact L aj ρ a w T A n c j C D ic rfl a2 U Y Z ze
 ·obtain⟨y,E,_,L⟩:=an7 h;exact⟨y,E,λaj ρ a w _ u C D=>L w _ aj ρ u C D⟩
end
abbrev Pt:=Bool×aa V
def PV(w:World)(B:Nat)(aj:bG)(key:Nat->aa Nat)(p:Pt)(u:Value):Prop:=
 ∃us:Array Value,(match p.1 with|true=>u = .agg us|false=>us = #[u])/\us.size=p.2.length/\∀(j:Nat) x,p.2[j]?=some x->∃v,us[j]?=some v/\RV w B aj (key j) x v
def zg(w:World)(cs:aa V)(u:Value):Prop:=
 ∃b off,u = .pointer (some ⟨b,off,none⟩)/\b<w.heap.size/\∀(j:Nat) x,cs[j]?=some x->∃v,w.cell? ⟨b,off+j,none⟩=some v/\RV w w.heap.size (λ_=>none) [] x v
inductive PA (w:World):Pt->Value->Prop
 |v (p:Pt) (u:Value) (h:PV w w.heap.size (λ_=>none) (λ_=>[]) p u):PA w p u
 |p (c:V) (cs:List V) (u:Value) (h:zg w (c::cs) u):PA w (false,.bool true::c::cs) u
 |f (g:Nat) (c:V) (cs:List V) (u:Value) (h:zg w (c::cs) u):PA w (false,.bool false::.int .i64 (g:Int)::c::cs) (.func (.func g) #[] #[u])
def oO(w:World)(args:aa Pt)(bY:Array Value):Prop:=
 bY.size=args.length/\∀(i:Nat) p,args[i]?=some p->∃u,bY[i]?=some u/\PA w p u
def PA.pv{w:World}{x:V}{u:Value}(h:PA w (false,[x]) u):PV w w.heap.size (λ_=>none) (λ_=>[]) (false,[x]) u:=by
 cases h with
 |v _ _ h=>exact h
def PA.pvS{w:World}{xs:aa V}{u:Value}(h:PA w (true,xs) u):PV w w.heap.size (λ_=>none) (λ_=>[]) (true,xs) u:=by
 cases h with
 |v _ _ h=>exact h
inductive fR where
 |one (p:Pt)
 |eS (ps:List Pt)
def zh(t:TC):Nat->Bool
 |0=>false
 |1=>true
 |o+2=>Nat.ble (full t) o ||Nat.beq (o % 2) 1
def V.loc:V->Bool
 |.sl t o _ _=>zh t o
 |_=>true
def ju(w:World)(B:Nat)(aj:bG)(nm:Nat->Nat):Nat->aa Pt->aa Value->Prop
 |_,[],[]=>True
 |off,p::ps,v::C=>(p.2.all V.loc=true/\PV w B aj (λj=>[nm (off+j)]) p v)/\ju w B aj nm (off+p.2.length) ps C
 |_,_,_=>False
def pO(w:World)(B:Nat)(aj:bG)(nm:Nat->Nat):fR->Value->Prop
 |.one p,v=>ju w B aj nm 0 [p] [v]
 |.eS ps,v=>∃C:Array Value,v = .tuple C/\ju w B aj nm 0 ps C.toList
structure iK where
 run:(X:Type)->List Pt->(fR->Option X)->Option X
def ig(P:Program)(f:Nat)(c:iK):Prop:=
 (∀ args,cL λX k=>c.run X args k)/\∀ args C,c.run fR args some=some C->∀ (nm:Nat->Nat) (w:World) (bY:Array Value),oO w args bY->Hd w (λ_=>none)->
  Calls P f bY w λe w'=>∃v aA,e = .returned v/\Below w.heap.size w w'/\(∀b k,aA b=some k->w.heap.size<=b/\b<w'.heap.size/\k≠[])/\pO w' w.heap.size aA nm C v
def qI{X:Type}(σ:S):aa Lf->(aa V->ah X)->ah X
 |[],k=>k []
 |x::xs,k=>oG σ x λy=>qI σ xs λys=>k (y.gn::ys)
def nS{X:Type}(σ:S)(x:A)(k:Pt->ah X):ah X:=
 match x with
 |.lf y=>qI σ [y] λC=>k (false,C)
 |.agg ys=>qI σ ys λC=>k (true,C)
 |.view q s i j=>va σ q s i j λy=>k (false,[y])
 |.iZ (c::cs)=>k (false,.bool true::c.gn::cs.map V.gn)
 |_=>none
def vk{X:Type}(σ:S)(x:A)(k:Pt->ah X):ah X:=
 match x with
 |.iZ (c::cs)=>k (false,.bool true::c.gn::cs.map V.gn)
 |.mQ f (c::cs)=>k (false,.bool false::.int .i64 (f:Int)::c.gn::cs.map V.gn)
 | .aJ r j=>(match σ.m r with
  | some (.aC cs)=>qI σ (cs.drop j) λC=>(match C with
   |c::cs=>k (false,.bool true::c::cs)
   |[]=>none)
  |_=>none)
 | .fn f [(r,j)]=>(match σ.m r with
  | some (.aC cs)=>qI σ (cs.drop j) λC=>(match C with
   |c::cs=>k (false,.bool false::.int .i64 (f:Int)::c::cs)
   |[]=>none)
  |_=>none)
 |x=>nS σ x k
def vm{X:Type}(f:A->(Pt->ah X)->ah X)(σ:S):aa Operand->(aa Pt->ah X)->ah X
 |[],k=>k []
 |x::xs,k=>f (aK σ x) λp=>vm f σ xs λps=>k (p::ps)
def Bn{X:Type}(σ:S)(xs:aa Operand)(k:aa Pt->ah X):ah X:=vm (vk σ) σ xs k
def rP{X:Type}(σ:S)(xs:aa Operand)(k:aa Pt->ah X):ah X:=vm (nS σ) σ xs k
def nT(c:Nat):aa V->aa Lf
 |[]=>[]
 |x::xs=>(bif x.aF then .v x else .own [c])::nT (c+1) xs
def lY(c:Nat)(σ:S):aa V->S
 |[]=>σ
 |x::xs=>lY (c+1) (bif x.aF then σ else (σ.drop c).root c (.sl x)) xs
def rQ(c:Nat):aa Pt->aa (Bool×aa Lf)
 |[]=>[]
 |p::ps=>(p.1,nT c p.2)::rQ (c+p.2.length) ps
def oP(c:Nat)(σ:S):aa Pt->S
 |[]=>σ
 |p::ps=>oP (c+p.2.length) (lY c σ p.2) ps
def nU{X:Type}(σ:S)(d:Nat)(C:fR)(k:S->ah X):ah X:=match C with
 | .one p=>(match yR (p.1,nT (1000000000100000+1000*d) p.2)with
  |some y=>k ((lY (1000000000100000+1000*d) σ p.2).set d y)
  |none=>none)
 |.eS ps=>k ((oP (1000000000100000+1000*d) σ ps).set d (.eS (rQ (1000000000100000+1000*d) ps)))
def rR{X:Type}(N:Nat)(σ:S)(d:Nat)(c:iK)(ev:(aa Pt->ah X)->ah X)(k:S->ah X):ah X:=
 bif Nat.blt d N then ev λps=>c.run X ps λC=>nU σ d C k else none
def aob{X:Type}(N:Nat)(σ:S)(d:Nat)(c:iK)(args:aa Operand)(k:S->ah X):ah X:=rR N σ d c (Bn σ args) k
def aoc{X:Type}(N:Nat)(σ:S)(d:Nat)(c:iK)(args:aa Operand)(k:S->ah X):ah X:=rR N σ d c (rP σ args) k
section
variable {P:Program} {w w':World} {w0:Wd} {B N:Nat} {aj aA:bG} {ρ ρ':Nat->Loc} {σ:S} {a:Act} {X:Type} {d:Nat} {r:X} {o:Oper}
def Hi:∀ (xs:aa Lf) (k:aa V -> ah X),qI σ xs k=some r -> ∃ C,k C=some r/\C.length=xs.length /\ ∀ aj ρ a w,Rl w0 N aj ρ σ a w -> ∀ (j:Nat) x y u,xs[j]?=some x -> C[j]?=some y -> dU w w0.heap.size aj ρ x u -> RV w w.heap.size (λ_=>none) [] y u
 |[],k,h=>⟨[],h,rfl,λ_ _ _ _ _ j x y u L=>by simp at L⟩
 | x :: xs,k,h=>by
  obtain⟨y,O,T⟩:=UI h;obtain⟨ys,U,Y,hr⟩:=Hi xs _ T
  refine⟨y.gn::ys,U,by simp[Y],λaj ρ a w Z j x' y' u D E hu=>?_⟩
  cases j with
  | zero=>
   simp at D E;subst D E;obtain⟨q,hq⟩:=O aj ρ a w Z u hu;exact hq.gn
  |succ j=>grind
def abW{D C:Nat}{cs:aa Lf}{E:aa V}(Z:σ.m D=some (.aC cs))(hl:E.length=(cs.drop C).length)
  (hr:∀aj ρ a w,Rl w0 N aj ρ σ a w->∀(j:Nat) x y u,(cs.drop C)[j]?=some x->E[j]?=some y->dU w w0.heap.size aj ρ x u->RV w w.heap.size (λ_=>none) [] y u)
  {aj:bG} {ρ:Nat->Loc} {a:Act} {w:World} {u:Value} (L:Rl w0 N aj ρ σ a w) (hu:RA w w0.heap.size aj ρ (.aJ D C) u):zg w E u:=by
 obtain⟨b,off,e1,rfl⟩:=hu;cases L.root D _ Z with
 | aC b' GU cells e _ us O kP T hs hc=>
  rw[e1]at O;injection O with q1 q2;subst q1 q2
  refine⟨b,off+C,rfl,(iH.1 T).1,λj x U=>?_⟩
  have hj:j<(cs.drop C).length:=by rw[<-hl];exact(dQ.1 U).1
  have Y:=bZ hj;have aod:cs[C+j]?=some (cs.drop C)[j]:=by rw[<-List.getElem?_drop];exact Y
  obtain⟨k1,k2⟩:=hc _ _ aod;refine⟨us (C+j),?_,hr aj ρ a w L j _ x _ Y U k2⟩;rw[Nat.add_assoc,cell_of_row w b _ cells _ _ T];exact k1
def UX{cs:aa V}{u:Value}(E:RF w B aj cs u):zg w (cs.map V.gn) u:=by
 obtain⟨b,off,rfl,L,Y,O⟩:=E
 refine⟨b,off,rfl,L,λj x C=>?_⟩
 rw[eF]at C;cases D:cs[j]? with
 |none=>simp_all
 | some y=>
  rw[D]at C;injection C with C;subst C;obtain⟨_,v,T,U⟩:=O j y D;exact⟨v,T,U.gn⟩
def abX{x:A}{k:Pt -> ah X}(h:nS σ x k=some r):∃ p,k p=some r /\ ∀ aj ρ a w,Rl w0 N aj ρ σ a w -> ∀ u,RA w w0.heap.size aj ρ x u -> PA w p u:=by
 unfold nS at h;split at h
 ·rename_i y;obtain⟨Z,E,O,U⟩:=Hi (w0:=w0) (N:=N) _ _ h
  refine⟨_,E,λaj ρ a w L u C=>.v _ _ ⟨#[u],rfl,by simp[O],λj x D=>?_⟩⟩
  have T:j=0:=by
   grind
  subst T;exact⟨u,rfl,U aj ρ a w L 0 y x u rfl D C⟩
 ·rename_i ys;obtain⟨Z,E,O,U⟩:=Hi (w0:=w0) (N:=N) _ _ h
  refine⟨_,E,λaj ρ a w L u C=>?_⟩
  obtain⟨us,rfl,Y⟩:=C
  refine .v _ _ ⟨us,rfl,by rw[O];exact Y.1,λj x D=>?_⟩
  have T:j<ys.length:=by rw[<- O];exact(dQ.1 D).1
  obtain⟨v,hv,fl⟩:=Y.2 j _ (bZ T)
  grind
 ·obtain⟨z,E,_,hz⟩:=abp h
  refine⟨_,E,λaj ρ a w L u C=>.v _ _ ⟨#[u],rfl,rfl,λj x D=>?_⟩⟩
  cases j with
  | zero=>
   simp at D;subst D;exact⟨u,rfl,hz _ _ _ _ _ _ L u C _⟩
  |succ j=>simp at D
 next c cs=>exact⟨_,h,λaj ρ a w L u C=>.p _ _ _ (UX C)⟩
 ·cases h
def aoe{x:A}{k:Pt -> ah X}(h:vk σ x k=some r):∃ p,k p=some r /\ ∀ aj ρ a w,Rl w0 N aj ρ σ a w -> ∀ u,RA w w0.heap.size aj ρ x u -> PA w p u:=by
 unfold vk at h;split at h
 ·rename_i c cs
  refine⟨_,h,λaj ρ a w E u C=>?_⟩
  exact .p _ _ _ (UX C)
 ·rename_i f c cs
  refine⟨_,h,λaj ρ a w E u C=>?_⟩
  obtain⟨pv,rfl,L⟩:=C;exact .f _ _ _ _ (UX L)
 ·rename_i Z Y;split at h
  ·rename_i cs O;obtain⟨vs,D,T,U⟩:=Hi (w0:=w0) (N:=N) _ _ h;split at D
   ·rename_i c eA
    refine⟨_,D,λaj ρ a w E u C=>?_⟩
    exact .p _ _ _ (abW O T U E C)
   ·cases D
  ·cases h
 ·rename_i f Z Y;split at h
  ·rename_i cs O;obtain⟨vs,D,T,U⟩:=Hi (w0:=w0) (N:=N) _ _ h;split at D
   ·rename_i c eA
    refine⟨_,D,λaj ρ a w E u C=>?_⟩
    obtain⟨ps,rfl,hs,L⟩:=C;obtain⟨b,off,e1,e2⟩:=L 0 _ rfl;have e:ps = #[.pointer (some ⟨b,off+Y,none⟩)]:=by
     grind
    subst e;exact .f _ _ _ _ (abW O T U E ⟨b,off,e1,rfl⟩)
   ·cases D
  ·cases h
 ·exact abX h
def UY{f:A->(Pt->ah X)->ah X}(L:∀ x k,f x k=some r->∃ p,k p=some r/\∀ aj ρ a w,Rl w0 N aj ρ σ a w->∀ u,RA w w0.heap.size aj ρ x u->PA w p u):
  ∀(xs:aa Operand) (k:aa Pt->ah X),vm f σ xs k=some r->∃ps,k ps=some r/\∀aj ρ a w,Rl w0 N aj ρ σ a w->oO w ps (xs.map a.eval).toArray
 |[],k,h=>⟨[],h,λ_ _ _ _ _=>⟨rfl,λi p D=>by simp at D⟩⟩
 | x :: xs,k,h=>by
  unfold vm at h;obtain⟨p,T,D⟩:=L _ _ h;obtain⟨ps,U,O⟩:=UY L xs _ T
  refine⟨p::ps,U,λaj ρ a w C=>⟨?_,λi q E=>?_⟩⟩
  ·have:=(O aj ρ a w C).1;simp at this;simp[this]
  ·cases i with
   | zero=>
    simp at E;subst E;exact⟨_,rfl,D aj ρ a w C _ (C.aK x)⟩
   | succ i=>
    obtain⟨u,Y,Z⟩:=(O aj ρ a w C).2 i q (by simpa using E);exact⟨u,by simpa using Y,Z⟩
def aof(xs:aa Operand)(k:aa Pt->ah X)(h:Bn σ xs k=some r):∃ps,k ps=some r/\∀aj ρ a w,Rl w0 N aj ρ σ a w->oO w ps (xs.map a.eval).toArray:=UY (λ_ _=>aoe) xs k h
def abY(xs:aa Operand)(k:aa Pt->ah X)(h:rP σ xs k=some r):∃ps,k ps=some r/\∀aj ρ a w,Rl w0 N aj ρ σ a w->oO w ps (xs.map a.eval).toArray:=UY (λ_ _=>abX) xs k h
def aog{t:TC}{o:Nat}(h:zh t (o+2)=true)(x:T t):∀ y∈enc t o x,y.loc=true:=by
 intro y D;have L:=yL t o x y D;cases y with
 | sl E C q l=>
  have O:C=o:=by simpa [V.gr]using L
  subst O;have U:full E+2 <= full t:=cQ (Na t C x _ D);show zh E C=true;simp only[zh,eB]at h;rcases h with h|h
  ·have h:=cQ h
   match C,h with
   |0,h=>omega
   |1,h=>rfl
   | n+2,h=>
    simp only[zh,eB];left;exact js (by omega)
  ·have h:=cD h
   match C,h with
   |0,h=>omega
   |1,h=>rfl
   | n+2,h=>
    simp only[zh,eB];simp_all
 |_=>rfl
def RV.zi{q:aa Nat}{x:V}{v:Value}(h:RV w B aj q x v){B':Nat}(hB:B' <= B)(Y:∀ b,B <= b -> aA b=aj b)(Z:∀ b k,aj b=some k -> aA b=some k)(O:x.loc=true):RV w B' aA q x v:=by
 induction h with
 |int=>exact .int _ _ _
 |bool=>exact .bool _ _
 |str=>exact .str _ _
 |nil=>exact .nil _
 |ep=>exact .ep _ _ _
 |fA=>exact .fA _ _ _ _ _ (by first|assumption|omega)
 |fK=>exact .fK _ _ _ _ _ (by first|assumption|omega)
 | aF q t o qn l b off cap u T D hb h1 iJ E hr L=>
  have Bo:o=1:=by
   match o,T,O with
   |1,_,_=>rfl
  subst Bo;have U:=h1 rfl
  refine .aF _ _ _ _ _ _ _ _ u T ((Y b U).trans D) hb (λ_=>Nat.le_trans hB U) iJ E (λi h j x C=>L i h j x C ?_)
  have:=yL t 1 l[i] x (gN C);cases x with
  | sl t' o' q' l'=>
   have:o'=1:=by simpa [V.gr]using this
   subst this;rfl
  |_=>rfl
 | own q t o qn l b cap cs u D hh hs hn hm E hr L=>
  exact .own _ _ _ _ _ _ _ cs u (Z b q D) hh hs hn hm E (λi h j x C=>L i h j x C (aog O l[i] x (gN C)))
def RV.home{q:aa Nat}{x:V}{v:Value}(h:RV w B aj q x v){B':Nat}(hB:B'<=B)(C:∀ b,B<=b->aA b=aj b)(D:∀ b k,aj b=some k->B<=b)(E:x.loc=true):RV w B' aA q x v:=
 h.zi hB C (λb k h=>(C b (D b k h)).trans h) E
def UZ:∀ (xs:aa V) (c:Nat) (σ:S) (ρ:Nat -> Loc) (us:aa Value),60000 <= c -> Rl w0 N aj ρ σ a w -> us.length=xs.length -> (∀ (j:Nat) x u,xs[j]?=some x -> us[j]?=some u -> RV w w0.heap.size aj [c+j] x u) ->
  ∃ρ',Rl w0 N aj ρ' (lY c σ xs) a w/\(∀r,r<c -> ρ' r=ρ r) /\ ∀(j:Nat) x u,(nT c xs)[j]?=some x -> us[j]?=some u -> dU w w0.heap.size aj ρ' x u
 |[],c,σ,ρ,us,_,h,O,E=>⟨ρ,h,λ_ _=>rfl,λj x u hx=>by simp[nT]at hx⟩
 | x :: xs,c,σ,ρ,us,hc,h,O,E=>by
  cases us with
  |nil=>simp at O
  | cons u us=>
   have T:=E 0 x u rfl rfl;rw[Nat.add_zero]at T;have vj:∀ (j:Nat) U Y,xs[j]?=some U -> us[j]?=some Y -> RV w w0.heap.size aj [c+1+j] U Y:=λj U Y hx hu=>by
    have:=E (j+1) U Y (by simpa using hx) (by simpa using hu)
    grind
   cases C:x.aF with
   | true=>
    obtain⟨ρ',dD,Z,w7⟩:=UZ xs (c+1) σ ρ us (by omega) h (by simpa using O) vj
    refine⟨ρ',?_,λr E=>Z r (by omega),λj y v D L=>?_⟩
    ·simp[lY,C];exact dD
    ·simp only[nT,C,au]at D;cases j with
     | zero=>
      simp at D L;subst D L;exact⟨C,T.key C⟩
     |succ j=>grind
   | false=>
    have fW:=T.Uh C;obtain⟨ρ',dD,Z,w7⟩:=UZ xs (c+1) _ _ us (by omega) (h.new (d:=c) (x:=.sl x) (.dX u) (.sl u x (cm _ _ _) T) (h.dz c (.inr hc))) (by simpa using O) vj
    refine⟨ρ',?_,λr E=>?_,λj y v D L=>?_⟩
    ·simp[lY,C];exact dD
    ·rw[Z r (by omega)];exact cM _ _ _ (by omega)
    ·simp only[nT,C,aq]at D;cases j with
     | zero=>
      simp at D L;subst D L;refine⟨fW,?_⟩;have:ρ' c = .dX u:=by rw[Z c (by omega)];exact cm _ _ _
      simp[c8,this]
     |succ j=>grind
def aoh(xs:aa V):∀ c,(nT c xs).length=xs.length:=by
 induction xs with
 |nil=>intro c;rfl
 |cons x xs C=>intro c;simp[nT,C]
end
def enters(P:Program)(f:Nat):Prop:=∃fn,P.funcs[f]?=some fn/\(fn.name == "runtime.NumGoroutine")=false/\fn.body.isNone=false
/-! What a function gives back. -/
def NG:A->ah (Bool×aa Lf)
 |.lf x=>some (false,[x])
 |.agg xs=>some (true,xs)
 |_=>none
def rS{X:Type}(P:Program)(σ:S):aa ResultVar->(aa (Bool×aa Lf)->ah X)->ah X
 |[],k=>k []
 | .tmp t :: rest,k=>(match NG (σ.t t)with
  |some p=>rS P σ rest λps=>k (p::ps)
  |none=>none)
 | .cell p ty :: rest,k=>nP P σ ty (σ.t p) λx=>(match NG x with
  |some p=>rS P σ rest λps=>k (p::ps)
  |none=>none)
def U0(m:Nat->ah bg):Lf->ah (V×ah Nat)
 |.v x=>bif x.loc&&x.aF then some (x,none)else none
 | .own [r]=>match m r with
  |some (.sl y)=>bif y.loc then some (y,some r)else none
  |_=>none
 |_=>none
def Hj(m:Nat->ah bg)(off:Nat):aa Lf->ah (aa V×aa (Nat×Nat))
 |[]=>some ([],[])
 | x :: xs=>match U0 m x,Hj m (off+1) xs with
  |some (y,none),some (ys,rs)=>some (y::ys,rs)
  |some (y,some r),some (ys,rs)=>some (y::ys,(r,off)::rs)
  |_,_=>none
def D7(m:Nat->ah bg)(off:Nat):aa (Bool×aa Lf)->ah (aa Pt×aa (Nat×Nat))
 |[]=>some ([],[])
 | p :: ps=>match Hj m off p.2,D7 m (off+p.2.length) ps with
  |some (C,rs),some (D,E)=>some ((p.1,C)::D,rs++E)
  |_,_=>none
def once(rs:aa (Nat×Nat)):Bool:=rs.all λp=>(rs.lookup p.1).any λn=>Nat.beq n p.2
def Hl{X:Type}(P:Program)(σ:S)(fn:Array ResultVar)(k:fR->ah X):ah X:=
 rS P σ fn.toList λps=>match D7 σ.m 0 ps with
  | some (qs,rs)=>bif once rs then (match qs with
   |[p]=>k (.one p)
   |qs=>k (.eS qs))else none
  |none=>none
section
variable {P:Program} {w w':World} {w0:Wd} {B N:Nat} {aj aA:bG} {ρ ρ':Nat->Loc} {σ:S} {a:Act} {X:Type} {d:Nat} {r:X} {o:Oper}
def abZ:∀ (xs:aa V) (c:Nat) (j:Nat) x u,(nT c xs)[j]?=some x -> dU w B aj ρ x u -> (∀ r,r<c+xs.length -> ρ' r=ρ r) -> dU w B aj ρ' x u
 |[],c,j,x,u,D,_,_=>by simp[nT]at D
 | y :: ys,c,j,x,u,D,C,E=>by
  cases j with
  | zero=>
   simp[nT,List.getElem?_cons_zero,iu]at D;subst D;cases L:y.aF with
   |true=>rw[L]at C;simp;exact C
   | false=>
    rw[L]at C;refine⟨C.1,?_⟩;have:=C.2;simp[c8,E c (by simp)]at this ⊢;exact this
  | succ j=>
   exact abZ ys _ j x u D C (λr h=>E r (by simp;omega))
def PV.cells{key:Nat -> aa Nat}{p:Pt}{u:Value}(h:PV w B aj key p u):∃ us:aa Value,us.length=p.2.length/\(∀ (j:Nat) x v,p.2[j]?=some x -> us[j]?=some v -> RV w B aj (key j) x v) /\
  ∀(ρ:Nat -> Loc) (C:aa Lf),C.length=p.2.length -> (∀(j:Nat) x v,C[j]?=some x -> us[j]?=some v -> dU w B aj ρ x v) -> RP w B aj ρ (p.1,C) u:=by
 obtain⟨us,D,E,Z⟩:=h;obtain⟨b,xs⟩:=p
 refine⟨us.toList,by simpa using E,λj x v L hv=>?_,λρ C O Y=>?_⟩
 ·grind
 ·have T:eD w B aj ρ C us:=⟨by rw[E,O],λj x L=>by
   have U:j<us.size:=by rw[E,<- O];exact(dQ.1 L).1
   exact⟨us[j],Array.getElem?_eq_getElem U,Y j x _ L (by rw[Array.getElem?_toList,Array.getElem?_eq_getElem U])⟩⟩
  cases b with
  |true=>exact⟨us,D,T⟩
  |false=>have D:=D;subst D;exact T
def Ho:∀ (ps:aa Pt) (c0 off:Nat) (σ:S) (ρ:Nat -> Loc) (C:aa Value),60000 <= c0 -> Rl w0 N aj ρ σ a w -> ju w w0.heap.size aj (λn=>c0+n) off ps C ->
  ∃ρ',Rl w0 N aj ρ' (oP (c0+off) σ ps) a w/\(∀r,r<c0+off -> ρ' r=ρ r)/\C.length=(rQ (c0+off) ps).length /\ ∀(i:Nat) p v,(rQ (c0+off) ps)[i]?=some p -> C[i]?=some v -> RP w w0.heap.size aj ρ' p v
 | [],c0,off,σ,ρ,C,_,h,D=>by
  cases C with
  |nil=>exact⟨ρ,h,λ_ _=>rfl,rfl,λi p v T=>by simp[rQ]at T⟩
  |cons v C=>exact D.elim
 | p :: ps,c0,off,σ,ρ,C,hc,h,D=>by
  cases C with
  |nil=>exact D.elim
  | cons v C=>
   obtain⟨⟨_,T⟩,D⟩:=D;obtain⟨us,hl,jL,vn⟩:=T.cells;obtain⟨td,h1,U1,w7⟩:=UZ p.2 (c0+off) σ ρ us (by omega) h hl (λj x u L E=>by
    have:RV w _ aj [c0+(off+j)] x u:=jL j x u L E;rw[<- Nat.add_assoc]at this;exact this)
   obtain⟨eU,Y,U,hlen,Z⟩:=Ho ps c0 (off+p.2.length) (lY (c0+off) σ p.2) td C hc h1 D;rw[<- Nat.add_assoc]at Y U hlen Z
   refine⟨eU,Y,λr D=>(U r (by omega)).trans (U1 r D),by simp[rQ,hlen],λi q u O E=>?_⟩
   cases i with
   | zero=>
    simp[rQ,List.getElem?_cons_zero,iu]at O E;subst O E
    refine vn eU _ (aoh _ _) (λj x u L E=>abZ p.2 _ j x u L (w7 j x u L E) U)
   | succ i=>
    simp[ List.getElem?_cons_succ]at O E;exact Z i q u O E
def ju.home{nm:Nat -> Nat}:∀ (ps:aa Pt) (off:Nat) (C:aa Value) {B':Nat},ju w B aj nm off ps C -> B' <= B -> (∀ b,B <= b -> aA b=aj b) -> (∀ b k,aj b=some k -> B <= b) -> ju w B' aA nm off ps C
 |[],_,[],_,h,_,_,_=>h
 | p :: ps,off,v :: C,B',h,hB,D,E=>by
  obtain⟨⟨L,us,T,U,Y⟩,Z⟩:=h
  refine⟨⟨L,us,T,U,λj x O=>?_⟩,ju.home ps _ C Z hB D E⟩
  obtain⟨v',sV,fl⟩:=Y j x O;exact⟨v',sV,fl.home hB D E (cw.1 L x (gN O))⟩
def U2(w:World)(o:Oper)(a:Act)(f:Nat)(args:Array Operand)(D:Array TypeId)(E:o.op = .call { callee:=.value (.func f),args,argTypes:=D })(L:enters P f):(execOp a.eval o).run P w = .ok (.enter f (args.map a.eval)) w:=by
 obtain⟨fn,O,T,C⟩:=L;have U:¬ fn.name = "runtime.NumGoroutine":=by simpa using T
 have Y:¬ fn.body=none:=by intro e;rw[e]at C;cases C
 simp[execOp,E,resolve,Act.eval,Deferred.ofValue,invoke,callFunc,Sem.run,O,U,Y]
def aoi{f:Nat}{args:Array Operand}{kQ:Array TypeId}{c:iK}{k:S->ah X}(ho:o.op = .call { callee:=.value (.func f),args,argTypes:=kQ })(hd:o.dst=some d)(he:enters P f)(hc:ig P f c)(Bp:d<N){ps:aa Pt}(lE:∀ aj ρ a w,Rl w0 N aj ρ σ a w->oO w ps (args.toList.map a.eval).toArray)
  (h2:(c.run X ps λE=>nU σ d E k)=some r):∃cS,k cS=some r/\lA P w0 N o σ cS:=by
 obtain⟨E,L,U3⟩:=(hc.1 ps).mT h2;have Hp:=hc.2 ps E (U3 _ _);unfold nU at L;have step:∀ a w K Q aj ρ,Rl w0 N aj ρ σ a w->(∀ v w' aA,Below w.heap.size w w'->Rl w0 N aA ρ σ a w'->pO w' w0.heap.size aA (λn=>1000000000100000+1000*d+n) E v->K (a.put o.dst v) w')->o.wp P a w K Q:=by
  intro a w K Q aj ρ C U;unfold Oper.wp;rw[U2 w o a f args kQ ho he,Oper.upon_enter];have Bq:(args.map a.eval)=(args.toList.map a.eval).toArray:=by apply Array.ext';rw[Array.toList_map]
  rw[Bq]
  refine(Hp (λn=>1000000000100000+1000*d+n) w _ (lE aj ρ a w C) (w0.on C.below (λ_ _ h=>by cases h))).mono λe w' tf=>?_
  obtain⟨v,Hq,rfl,Y,kP,O⟩:=tf;have hB:=C.below.size;let dI:bG:=λb=>if b<w.heap.size then aj b else Hq b
  have e1:∀b,b<w.heap.size->dI b=aj b:=λb Z=>bL Z
  have e2:∀b,w.heap.size<=b->dI b=Hq b:=λb Z=>bX
  refine U v w' dI Y (C.grow Y e1 (λb k Z T=>?_)) ?_
  ·rw[e2 b Z]at T;exact(kP b k T).2
  ·cases E with
   |one p=>exact ju.home [p] 0 [v] O hB e2 (λb k T=>(kP b k T).1)
   | eS w8=>
    obtain⟨D,e,hv⟩:=O;exact⟨D,e,ju.home w8 0 D.toList hv hB e2 (λb k T=>(kP b k T).1)⟩
 cases E with
 | one p=>
  simp only at L;split at L
  ·rename_i y hy
   refine⟨_,L,λa w K Q C U=>?_⟩
   obtain⟨aj,ρ,C⟩:=C
   refine step a w K Q aj ρ C λv w' aA Y dD O=>?_
   obtain⟨ρ',oQ,_,_,qJ⟩:=Ho [p] (1000000000100000+1000*d) 0 σ ρ [v] (by omega) dD O;rw[hd];have U4:=qJ 0 _ v rfl rfl;exact U _ _ ⟨aA,ρ',oQ.set (Uw hy U4) Bp⟩
  ·cases L
 | eS w8=>
  refine⟨_,L,λa w K Q C U=>?_⟩
  obtain⟨aj,ρ,C⟩:=C
  refine step a w K Q aj ρ C λv w' aA Y dD O=>?_
  obtain⟨D,rfl,hv⟩:=O;obtain⟨ρ',oQ,_,hlen,qJ⟩:=Ho w8 (1000000000100000+1000*d) 0 σ ρ D.toList (by omega) dD hv;rw[hd]
  refine U _ _ ⟨aA,ρ',oQ.set ⟨D,rfl,by simpa using hlen,λj p hp=>?_⟩ Bp⟩
  have hj:j<D.size:=by
   have:=(dQ.1 hp).1;rw[Nat.add_zero]at hlen;rw[<-hlen]at this
   simpa using this
  exact⟨D[j],Array.getElem?_eq_getElem hj,qJ j p _ hp (by rw[Array.getElem?_toList,Array.getElem?_eq_getElem hj])⟩
def ab0{f:Nat}{args:Array Operand}{E:Array TypeId}{c:iK}{k:S->ah X}{ev:(aa Pt->ah X)->ah X}(L:o.op = .call { callee:=.value (.func f),args,argTypes:=E })(O:o.dst=some d)(T:enters P f)(U:ig P f c)
  (Y:∀k,ev k=some r->∃ps,k ps=some r/\∀aj ρ a w,Rl w0 N aj ρ σ a w->oO w ps (args.toList.map a.eval).toArray) (h:rR N σ d c ev k=some r):∃D,k D=some r/\lA P w0 N o σ D:=by
 unfold rR at h;cases C:Nat.blt d N with
 |false=>rw[C]at h;cases h
 | true=>
  rw[C,au]at h;obtain⟨ps,Z,lE⟩:=Y _ h;exact aoi L O T U (cQ C) lE Z
end
def ey(aj:bG)(rs:aa (Nat×Nat))(nm:Nat->Nat):bG:=λb=>
 match aj b with
 |none=>none
 | some k=>match k.getLast? with
  |none=>none
  |some r=>(rs.lookup r).map λn=>k.dropLast++[nm n]
section
variable {P:Program} {w w':World} {w0:Wd} {B N:Nat} {aj aA:bG} {ρ ρ':Nat->Loc} {σ:S} {a:Act} {X:Type} {d:Nat} {r:X} {rs:aa (Nat×Nat)} {nm:Nat->Nat}
def zj{b:Nat}(h:aj b=none):ey aj rs nm b=none:=by simp[ey,h]
def RV.ey{p:aa Nat}{r n:Nat}{x:V}{v:Value}(h:RV w B aj (p++[r]) x v)(D:rs.lookup r=some n):RV w B (ey aj rs nm) (p++[nm n]) x v:=
 h.map (Q:=λq C=>∃ p,q=p++[r]/\C=p++[nm n]) (dM _) (λb _ h=>⟨rfl,zj h⟩) (λb q C _ E e=>by
  obtain⟨p,rfl,rfl⟩:=e;exact⟨rfl,by simp[Proofs.YtnilicojgkhpnaaGreat.ey,E,D],λj i s=>⟨j::i::s::p,rfl,rfl⟩⟩) (.inr ⟨p,rfl,rfl⟩)
def U5{m:Nat -> ah bg}:∀ (xs:aa Lf) (off:Nat) (ys:aa V) (E:aa (Nat×Nat)),Hj m off xs=some (ys,E) -> ys.length=xs.length /\ ∀ (j:Nat) x,xs[j]?=some x -> ∃ y,ys[j]?=some y/\y.loc=true/\((x = .v y/\y.aF=true) \/ ∃ r,x = .own [r]/\m r=some (.sl y)/\(r,off+j)∈E)
 | [],off,ys,E,h=>by
  simp only[Hj,iu,Prod.mk.injEq]at h;obtain⟨rfl,rfl⟩:=h;exact⟨rfl,λj x C=>by simp at C⟩
 | x :: xs,off,ys,E,h=>by
  have Z:∀ y z,U0 m x=some (y,z) -> y.loc=true/\((z=none/\x = .v y/\y.aF=true) \/ ∃ r,z=some r/\x = .own [r]/\m r=some (.sl y)):=by
   intro y z D;unfold U0 at D
   grind
  unfold Hj at h;split at h
  ·rename_i y L O T U;simp only[iu,Prod.mk.injEq]at h;obtain⟨rfl,rfl⟩:=h;obtain⟨Y,h2⟩:=U5 xs (off+1) L O U
   refine⟨by simp[Y],λj x' C=>?_⟩
   cases j with
   | zero=>
    simp at C;subst C;obtain⟨hl,D|⟨r,D,_⟩⟩:=Z y none T
    ·simp_all
    ·cases D
   |succ j =>grind
  ·rename_i y r L O T U;simp only[iu,Prod.mk.injEq]at h;obtain⟨rfl,rfl⟩:=h;obtain⟨Y,h2⟩:=U5 xs (off+1) L O U
   refine⟨by simp[Y],λj x' C=>?_⟩
   cases j with
   | zero=>
    simp at C;subst C;obtain⟨hl,D|⟨r',D,e1,e2⟩⟩:=Z y (some r) T
    ·cases D.1
    ·simp_all
   |succ j =>grind
  ·cases h
def U6{m:Nat -> ah bg}(hm:∀ r x,m r=some x -> dY w B aj ρ r x):∀ (ps:aa (Bool×aa Lf)) (off:Nat) (L:aa Pt) (O:aa (Nat×Nat)) (C:aa Value),D7 m off ps=some (L,O) -> (∀ p∈O,rs.lookup p.1=some p.2) -> C.length=ps.length ->
  (∀(i:Nat) p v,ps[i]?=some p -> C[i]?=some v -> RP w B aj ρ p v) -> ju w B (ey aj rs nm) nm off L C
 | [],off,L,O,C,h,_,T,_=>by
  have:C=[]:=List.eq_nil_of_length_eq_zero T;subst this;simp only[D7,iu,Prod.mk.injEq]at h;obtain⟨rfl,rfl⟩:=h;trivial
 | p :: ps,off,L,O,C,h,jv,T,hp=>by
  cases C with
  |nil=>simp at T
  | cons v C=>
   unfold D7 at h;split at h
   ·rename_i ys rs1 qs' Br h1 h2;simp only[iu,Prod.mk.injEq]at h;obtain⟨rfl,rfl⟩:=h;obtain⟨hlen,M7⟩:=U5 _ _ _ _ h1;have vj:=U6 hm ps _ qs' Br C h2 (λq hq=>jv q (List.mem_append_right _ hq)) (by simpa using T) (λi q u hq hu=>hp (i+1) q u (by simpa using hq) (by simpa using hu));have zk:=hp 0 p v rfl rfl;have key:∀ us:Array Value,eD w B aj ρ p.2 us -> (us.size=ys.length /\ ∀ (j:Nat) x,ys[j]?=some x -> ∃ u,us[j]?=some u/\RV w B (ey aj rs nm) [nm (off+j)] x u):=by
     intro us U
     refine⟨by rw[hlen];exact U.1,λj y Y=>?_⟩
     have Z:j<p.2.length:=by rw[<- hlen];exact(dQ.1 Y).1
     obtain⟨y',E,D8,hz⟩:=M7 j _ (bZ Z);rw[Y]at E;injection E with E;subst E;obtain⟨u,hu,hr⟩:=U.2 j _ (bZ Z);refine⟨u,hu,?_⟩;rcases hz with ⟨e,hf⟩|⟨r,e,hmr,zl⟩
     ·rw[e]at hr;exact(hr.2.Nb hf (λb=>zj)).key hf
     ·rw[e]at hr;have eE:=hm r _ hmr;generalize D:bg.sl y=z at eE;cases eE with
      |aC=>cases D
      |mp=>cases D
      |gh=>cases D
      | sl v' y' cz jL=>
       injection D with D;subst D;have Hr:v'=u:=by
        have h4:=hr.2;simp only[c8,cz]at h4;simp_all
       subst Hr;exact RV.ey (p:=[]) jL (jv (r,off+j) (List.mem_append_left _ zl))
    refine⟨⟨?_,?_⟩,?_⟩
    ·rw[cw];intro y Y;obtain⟨j,Z⟩:=List.mem_iff_getElem?.1 Y;have Bd:j<p.2.length:=by rw[<- hlen];exact(dQ.1 Z).1
     obtain⟨y',E,D8,_⟩:=M7 j _ (bZ Bd);simp_all
    ·obtain⟨b,xs⟩:=p;cases b with
     | true=>
      obtain⟨us,e,U⟩:=zk;obtain⟨k1,k2⟩:=key us U;exact⟨us,e,k1,k2⟩
     | false=>
      obtain⟨k1,k2⟩:=key #[v] zk;exact⟨#[v],rfl,k1,k2⟩
    ·grind
   ·cases h
def aoj{t:TypeId}{x:A}{k:A->ah X}(h:nP P σ t x k=some r){u:Value}(C:RA w B aj ρ x u):∃ ad,u = .pointer (some ad):=by
 unfold nP at h;split at h
 ·cases h
 ·split at h
  ·obtain⟨b,off,_,rfl⟩:=C;exact⟨_,rfl⟩
  ·obtain⟨b,off,rfl,_⟩:=C;exact⟨_,rfl⟩
  ·obtain⟨ad,rfl,_⟩:=C;exact⟨_,rfl⟩
  ·cases h
def ab1{x:A}{p:Bool×aa Lf}(h:NG x=some p){u:Value}(D:RA w B aj ρ x u):RP w B aj ρ p u:=by
 unfold NG at h;split at h
 ·injection h with h;subst h
  refine⟨rfl,λj y C=>?_⟩
  cases j with
  |zero=>simp at C;subst C;exact⟨u,rfl,D⟩
  |succ j=>simp at C
 ·injection h with h;subst h;exact D
 ·cases h
def th(tmps:Array Value):ResultVar->Sem Value
 |.tmp t=>pure (tmps.getD t undef)
 |.cell a t=>do loadVar t (<-asAddr (tmps.getD a undef))
def Hs:∀ (l:aa ResultVar) (k:aa (Bool×aa Lf) -> ah X),rS P σ l k=some r -> ∃ ps,k ps=some r /\ ∀ aj ρ a w,Rl w0 N aj ρ σ a w -> ∃ C,(l.mapM (th a.tmps)).run P w = .ok C w/\C.length=ps.length /\ ∀ (i:Nat) p v,ps[i]?=some p -> C[i]?=some v -> RP w w0.heap.size aj ρ p v
 |[],k,h=>⟨[],h,λ_ _ _ _ _=>⟨[],rfl,rfl,λi p v E=>by simp at E⟩⟩
 | .tmp t :: rest,k,h=>by
  simp only[rS]at h;split at h
  ·rename_i p E;obtain⟨ps,U,Y⟩:=Hs rest _ h
   refine⟨p::ps,U,λaj ρ a w D=>?_⟩
   obtain⟨C,Z,hl,hv⟩:=Y aj ρ a w D
   refine⟨a.tmps.getD t undef::C,?_,by simp[hl],λi q u L O=>?_⟩
   ·rw[List.mapM_cons];simp[th,Sem.run_pure,lS,fV,Z]
   ·cases i with
    |zero=>simp only[List.getElem?_cons_zero,iu]at L O;subst L O;exact ab1 E (D.tmp t)
    |succ i=>grind
  ·cases h
 | .cell c ty :: rest,k,h=>by
  simp only[rS]at h;obtain⟨y,hy,hld⟩:=abr (w0:=w0) (N:=N) h;split at hy
  ·rename_i p E;obtain⟨ps,U,Y⟩:=Hs rest _ hy
   refine⟨p::ps,U,λaj ρ a w D=>?_⟩
   obtain⟨C,Z,hl,hv⟩:=Y aj ρ a w D;obtain⟨v,T,w6⟩:=hld aj ρ a w D _ (D.tmp c);obtain⟨ad,oF⟩:=aoj h (D.tmp c);rw[oF]at T;have T:(loadVar ty ad).run P w = .ok v w:=by
    simpa [Instr.loadAt,Instr.sureAddr]using T
   refine⟨v::C,?_,by simp[hl],λi q u L O=>?_⟩
   ·rw[List.mapM_cons];simp[th,oF,asAddr,Sem.run_pure,lS,fV,Z,T]
   ·cases i with
    |zero=>simp at L O;subst L O;exact ab1 E w6
    |succ i=>grind
  ·cases hy
def aok{fn:Func}{k:fR -> ah X}(h:Hl P σ fn.results k=some r):∃ res,k res=some r /\ ∀ aj ρ a w,Rl w0 N aj ρ σ a w -> ∀ nm,∃ v aA,(results fn a.tmps).run P w = .ok v w/\(∀ b k,aA b=some k -> (w0.heap.size <= b \/ w0.L b≠none)/\b<w.heap.size/\k≠[])/\pO w w0.heap.size aA nm res v:=by
 unfold Hl at h;obtain⟨ps,T,qJ⟩:=Hs (w0:=w0) (N:=N) _ _ h;clear h;split at T
 ·rename_i Y rs U7;cases ho:once rs with
  |false=>grind
  | true=>
   rw[ho,au]at T;have jv:∀ p∈rs,rs.lookup p.1=some p.2:=by
    intro p hp;have:=cw.1 ho p hp;obtain⟨n,hn,he⟩:=(Option.any_eq_true _ _).1 this;simp_all
   have core:∀ aj ρ a w,Rl w0 N aj ρ σ a w -> ∀ nm:Nat -> Nat,∃ C:aa Value,(fn.results.mapM (th a.tmps)).run P w = .ok C.toArray w/\(∀ b k,ey aj rs nm b=some k -> (w0.heap.size <= b \/ w0.L b≠none)/\b<w.heap.size/\k≠[])/\ju w w0.heap.size (ey aj rs nm) nm 0 Y C:=by
    intro aj ρ a w O nm;obtain⟨C,U,hl,hv⟩:=qJ aj ρ a w O
    refine⟨C,?_,λb k E=>?_,U6 O.root ps 0 Y rs C U7 jv hl hv⟩
    ·rw[Array.mapM_eq_mapM_toList];simp[U]
    ·unfold ey at E;split at E
     ·cases E
     ·rename_i k' oL;have:=O.dg b k' oL;split at E
      ·cases E
      ·cases tj:rs.lookup _ with
       |none=>rw[tj]at E;cases E
       | some n=>
        rw[tj]at E;injection E with E;subst E;simp_all
   have lF:∀ (tmps:Array Value),results fn tmps=(do let C <- fn.results.mapM (th tmps);pure (if h:C.size=1 then C[0]else .tuple C)):=λtmps=>by
    unfold results;congr 1
   split at T
   ·rename_i p
    refine⟨_,T,λaj ρ a w O nm=>?_⟩
    obtain⟨C,U,Z,D⟩:=core aj ρ a w O nm
    match C,D with
    |[v],D=>exact⟨v,_,by rw[lF,fV,U];rfl,Z,D⟩
    |[],D=>exact D.elim
    |_::_::_,D=>exact D.2.elim
   ·rename_i dc
    refine⟨_,T,λaj ρ a w O nm=>?_⟩
    obtain⟨C,U,Z,D⟩:=core aj ρ a w O nm;have gG:C.toArray.size≠1:=by
     intro e
     match Y,C,D,dc with
     |[q],[v],_,dc=>exact dc q rfl
     |[],[v],D,_=>exact D.elim
     |_::_::_,[v],D,_=>exact D.2.elim
    refine⟨.tuple C.toArray,_,?_,Z,C.toArray,rfl,D⟩;rw[lF,fV,U,lS];simp only[gG,dif_neg,not_false_eq_true,Sem.run_pure]
 ·cases T
end
inductive In where
 |aC (cs:List V)
 |sl (y:V)
def nF(i:Nat):Nat:=20000+1000*i
def nC(i j:Nat)(x:V):Nat:=bif x.aF then 20001+1000*i+j else 60000+1000*i+j
def zm(i j:Nat)(x:V):Lf:=bif x.plain then .v x else .own [nC i j x]
def zn(i:Nat):Nat->aa V->aa Lf
 |_,[]=>[]
 |j,x::xs=>zm i j x::zn i (j+1) xs
def U8(i:Nat):Nat->aa V->(Nat->ah bg)->(Nat->ah bg)
 |_,[],m=>m
 |j,x::xs,m=>U8 i (j+1) xs (bif x.plain then m else cc m (nC i j x) (some (.sl x)))
def NH:Nat->aa In->(Nat->ah bg)->(Nat->ah bg)
 |_,[],m=>m
 |i,.aC cs::r,m=>NH (i+1) r (U8 i 0 cs (cc m (nF i) (some (.aC (zn i 0 cs)))))
 |i,.sl y::r,m=>NH (i+1) r (cc m (nF i) (some (.sl y)))
inductive Ar where
 |pt (p:Pt)
 |mut (i off:Nat)
def U9(C:aa In):Ar->A
 |.pt (false,[x])=>.lf (.v x)
 |.pt (true,xs)=>.agg (xs.map .v)
 |.pt (false,.bool false::.int .i64 g::c::cs)=>.mQ g.toNat (c::cs)
 |.pt _=>.undef
 | .mut i off=>match C[i]? with
  |some (.aC _)=>.aJ (nF i) off
  |some (.sl _)=>.lf (.own [nF i])
  |none=>.undef
def Bt(C:aa In)(args:aa Ar):S:=⟨λk=>match args[k]? with
 |some x=>U9 C x
 |none=>.undef,NH 0 C (λ_=>none)⟩
def qK(w w':World)(aA:bG)(ρ:Nat->Loc)(nm:Nat->Nat):Nat->Nat->aa In->aa In->Prop
 |_,_,[],[]=>True
 | i,D,.aC cs :: r,.aC eA :: L=>(∃ b off cells O e U,ρ (nF i) = .aC b off/\w.heap[b]?=some (.cells cells e (0,0))/\w'.heap[b]?=some (.cells O U (0,0))/\aA b=some [nm D]/\off+eA.length<=O.size/\eA.length=cs.length/\
   ∀(j:Nat) C,eA[j]?=some C->∃u,O[off+j]?=some u/\((C.plain=true/\∀(w:World) (B:Nat) (aj:bG) (q:aa Nat),RV w B aj q C u)\/(C = .nil/\u = .slice none 0 0/\∃E,cs[j]?=some E/\E.aF=false)\/(C.plain=false/\C.aF=true/\C.jK=true/\(∃E,cs[j]?=some E/\Wk E C)/\cells[off+j]?=some u)\/(C.aF=false/\RV w' w.heap.size aA [nm (D+1+j)] C u)))/\
   qK w w' aA ρ nm (i+1) (D+1+cs.length) r L
 |i,D,.sl y::r,.sl T::L=>(T = .nil\/∃v,ρ (nF i) = .dX v/\RV w' w.heap.size aA [nm D] T v)/\qK w w' aA ρ nm (i+1) (D+1) r L
 |_,_,_,_=>False
def Ht(w w':World)(aA:bG)(ρ:Nat->Loc)(nm:Nat->Nat):Nat->Nat->aa In->aa In->Prop
 |_,_,[],[]=>True
 | i,D,.aC cs :: r,.aC eA :: E=>(∃ b off cells L e T,ρ (nF i) = .aC b off/\w.heap[b]?=some (.cells cells e (0,0))/\w'.heap[b]?=some (.cells L T (0,0))/\aA b=some [nm D]/\off+eA.length<=L.size/\eA.length=cs.length/\
   ∀(j:Nat) C,eA[j]?=some C->∃u,L[off+j]?=some u/\((C.plain=true/\∀(w:World) (B:Nat) (aj:bG) (q:aa Nat),RV w B aj q C u)\/(C.plain=false/\C.aF=true/\cells[off+j]?=some u)\/(C.aF=false/\RV w' w.heap.size aA [nm (D+1+j)] C u)))/\
   Ht w w' aA ρ nm (i+1) (D+1+cs.length) r E
 |i,D,.sl y::r,.sl O::E=>(O = .nil\/∃v,ρ (nF i) = .dX v/\RV w' w.heap.size aA [nm D] O v)/\Ht w w' aA ρ nm (i+1) (D+1) r E
 |_,_,_,_=>False
def fR.len:fR->Nat
 |.one p=>p.2.length
 |.eS ps=>(ps.map λp=>p.2.length).sum
def oR(w:World)(B:Nat)(aj:bG)(ρ:Nat->Loc):Nat->aa In->Prop
 |_,[]=>True
 |i,.aC cs::r=>dY w B aj ρ (nF i) (.aC (zn i 0 cs))/\(∀(j:Nat) x,cs[j]?=some x->x.plain=false->dY w B aj ρ (nC i j x) (.sl x))/\oR w B aj ρ (i+1) r
 |i,.sl y::r=>dY w B aj ρ (nF i) (.sl y)/\oR w B aj ρ (i+1) r
/-! The end: what is given back,and what the written parameters hold. -/
def Va(m:Nat->ah bg)(i j:Nat)(C:V):Lf->ah (V×ah Nat)
 |.v x=>bif x.plain then some (x,none)else (bif !x.jK && !C.aF then some (.nil,none)else none)
 | .own [r]=>match m r with
  |some (.sl y)=>bif y.aF then (bif !C.plain&&(C.aF&&C.jK)&&Nat.beq r (20001+1000*i+j)&&Nat.blt r 60000 then some (C,none)else none)else (bif y.loc then some (y,some r)else none)
  |_=>none
 |_=>none
def Bu(m:Nat->ah bg)(i C:Nat):Nat->aa V->aa Lf->ah (aa V×aa (Nat×Nat))
 |_,[],[]=>some ([],[])
 | j,D :: xs,l :: E=>match Va m i j D l,Bu m i C (j+1) xs E with
  |some (y,none),some (ys,rs)=>some (y::ys,rs)
  |some (y,some r),some (ys,rs)=>some (y::ys,(r,C+1+j)::rs)
  |_,_=>none
 |_,_,_=>none
def V.gone:V->Bool
 |.sl _ o _ _=>Nat.ble 1000000 o
 |_=>false
def zo(m:Nat->ah bg):Nat->Nat->aa In->ah (aa In×aa (Nat×Nat))
 |_,_,[]=>some ([],[])
 | i,C,.aC cs :: r=>match bif Nat.blt (nF i) 60000 then m (nF i)else none with
  | some (.aC L)=>match Bu m i C 0 cs L,zo m (i+1) (C+1+cs.length) r with
   |some (eA,rs),some (os,D)=>some (.aC eA::os,(nF i,C)::(rs++D))
   |_,_=>none
  |_=>none
 | i,C,.sl O :: r=>bif O.gone then (match zo m (i+1) (C+1) r with
   |some (os,D)=>some (.sl .nil::os,D)
   |none=>none)else match bif Nat.blt (nF i) 60000 then m (nF i)else none with
  | some (.sl E)=>bif E.loc && !E.aF then (match zo m (i+1) (C+1) r with
   |some (os,D)=>some (.sl E::os,(nF i,C)::D)
   |none=>none)else none
  |_=>none
def Hu{X:Type}(P:Program)(σ:S)(fn:Array ResultVar)(C:aa In)(k:aa In->fR->ah X):ah X:=
 rS P σ fn.toList λps=>match D7 σ.m 0 ps with
  | some (qs,rs)=>match zo σ.m 0 (qs.map λp=>p.2.length).sum C with
   | some (os,D)=>bif once (rs++D)then (match qs with
    |[p]=>k os (.one p)
    |qs=>k os (.eS qs))else none
   |none=>none
  |none=>none
/-! Types of parameters and results. -/
def iC:aa (Bool×TC×Nat)->Type
 |[]=>af
 |[(_,t,_)]=>T t
 |(_,t,_)::r=>T t×iC r
def tq:(l:aa (Bool×TC×Nat))->iC l->aa Pt
 |[],_=>[]
 |[(b,t,g)],x=>[(b,enc t g x)]
 |(b,t,g)::q::r,x=>(b,enc t g x.1)::tq (q::r) x.2
def pP:(l:aa (Bool×TC×Nat))->aa Pt->ah (iC l)
 |[],[]=>some ()
 |[(b,t,g)],[(C,D)]=>bif b==C then dec t g D else none
 | (b,t,g) :: q :: r,(C,D) :: ps=>bif b==C then (match dec t g D,pP (q :: r) ps with
  |some x,some xs=>some (x,xs)
  |_,_=>none)else none
 |_,_=>none
def lG(l:aa (Bool×TC×Nat)):fR->ah (iC l)
 |.one p=>pP l [p]
 |.eS ps=>bif Nat.beq ps.length 1 then none else pP l ps
def fm(l:aa (Bool×TC×Nat))(x:iC l):fR:=
 match tq l x with
 |[p]=>.one p
 |ps=>.eS ps
inductive PK where
 |v (b:Bool) (t:TC)
 |p (t:TC) (g off:Nat)
 |s (t:TC) (g:Nat)
def lZ:aa PK->Type
 |[]=>af
 |.v _ t::r=>T t×lZ r
 |.p t _ _::r=>T t×lZ r
 |.s t _::r=>aa (T t)×lZ r
def rT:aa (Bool×TC×Nat)->Type
 |[]=>af
 |(true,t,_)::r=>T t×rT r
 |(false,t,_)::r=>aa (T t)×rT r
def kR:(l:aa (Bool×TC×Nat))->rT l->aa In
 |[],_=>[]
 |(true,t,g)::r,x=>.aC (enc t g x.1)::kR r x.2
 |(false,t,g)::r,x=>.sl (bif Nat.ble 1000000 g then .nil else .sl t (g+2) false x.1)::kR r x.2
def fh:aa PK->aa (Bool×TC×Nat)
 |[]=>[]
 |.v _ _::r=>fh r
 |.p t g _::r=>(true,t,g)::fh r
 |.s t g::r=>(false,t,g)::fh r
def mW:(l:aa PK)->lZ l->aa In
 |[],_=>[]
 |.v _ _::r,x=>mW r x.2
 |.p t g _::r,x=>.aC (enc t g x.1)::mW r x.2
 |.s t g::r,x=>.sl (.sl t (g+2) false x.1)::mW r x.2
def jO:(l:aa PK)->Nat->lZ l->aa Ar
 |[],_,_=>[]
 |.v b t::r,i,x=>.pt (b,enc t 0 x.1)::jO r i x.2
 |.p _ _ off::r,i,x=>.mut i off::jO r (i+1) x.2
 |.s _ _::r,i,x=>.mut i 0::jO r (i+1) x.2
structure nW where
 ps:List PK
 ro:List (Bool×TC×Nat)
 F:lZ ps->Option (iC ro×rT (fh ps))
def tu(P:Program)(f:Nat)(c:nW):Prop:=
 ∀ x y,c.F x=some y->∀ (nm:Nat->Nat) (w:World) (aj:bG) (ρ:Nat->Loc) (bY:Array Value),oR w w.heap.size aj ρ 0 (mW c.ps x)->(∀ b k,aj b=some k->b<w.heap.size/\k≠[])->
     bY.size=c.ps.length->(∀i,RA w w.heap.size aj ρ ((Bt (mW c.ps x) (jO c.ps 0 x)).t i) (bY.getD i undef))->∀C:Hd w aj,
     Calls P f bY w λe w'=>∃v aA,e = .returned v/\ja ⟨w,aj,λ_=>none,C,λ_ _=>rfl⟩ w w'/\(∀b k,aA b=some k->(w.heap.size<=b\/aj b≠none)/\b<w'.heap.size/\k≠[])/\pO w' w.heap.size aA nm (fm c.ro y.1) v/\Ht w w' aA ρ nm 0 (fm c.ro y.1).len (mW c.ps x) (kR (fh c.ps) y.2)
def Hv(w:World)(ρ:Nat->Loc):Nat->aa In->Prop
 |_,[]=>True
 |i,.aC cs::r=>(∃b off cells e,ρ (nF i) = .aC b off/\w.heap[b]?=some (.cells cells e (0,0))/\∀(j:Nat) x,cs[j]?=some x->x.plain=false->x.aF=true->∃u,cells[off+j]?=some u/\ρ (20001+1000*i+j) = .dX u)/\Hv w ρ (i+1) r
 |i,.sl y::r=>(∃v,ρ (nF i) = .dX v)/\Hv w ρ (i+1) r
section
variable {P:Program} {w w':World} {w0:Wd} {B N:Nat} {aj aA:bG} {ρ ρ':Nat->Loc} {σ:S} {a:Act} {X:Type} {d:Nat} {r:X} {rs:aa (Nat×Nat)} {nm:Nat->Nat}
def Vb{m:Nat -> ah bg}{i pos:Nat}:∀ (xs:aa V) (U:aa Lf) (D:Nat) (ys:aa V) (Y:aa (Nat×Nat)),Bu m i pos D xs U=some (ys,Y) -> ys.length=xs.length/\U.length=xs.length /\
  ∀(j:Nat) y,ys[j]?=some y -> ∃l x0,U[j]?=some l/\xs[j]?=some x0/\((l = .v y/\y.plain=true) \/ (l = .v .nil/\y = .nil/\x0.aF=false) \/ (l = .own [20001+1000*i+(D+j)]/\y=x0/\y.plain=false/\(y.aF&&y.jK)=true/\20001+1000*i+(D+j)<60000) \/ (∃q,l = .own [q]/\m q=some (.sl y)/\y.aF=false/\(q,pos+1+(D+j))∈Y))
 | [],[],D,ys,Y,h=>by
  simp only[Bu,iu,Prod.mk.injEq]at h;obtain⟨rfl,rfl⟩:=h;exact⟨rfl,rfl,λj y hy=>by simp at hy⟩
 |[],_::_,D,ys,Y,h=>by simp[Bu]at h
 |_::_,[],D,ys,Y,h=>by simp[Bu]at h
 | x0 :: xs,l :: U,D,ys,Y,h=>by
  have hc:∀ y z,Va m i D x0 l=some (y,z) -> (z=none/\l = .v y/\y.plain=true) \/ (z=none/\l = .v .nil/\y = .nil/\x0.aF=false) \/ (z=none/\l = .own [20001+1000*i+D]/\y=x0/\y.plain=false/\(y.aF&&y.jK)=true/\20001+1000*i+D<60000) \/ (∃ q,z=some q/\l = .own [q]/\m q=some (.sl y)/\y.aF=false):=by
   intro y z C;unfold Va at C;split at C
   ·rename_i x;cases hp:x.plain with
    | false=>
     rw[hp,aq]at C;cases E:(!x.jK && !x0.aF)with
     |false=>rw[E]at C;cases C
     | true=>
      rw[E,au]at C;simp only[iu,Prod.mk.injEq]at C;obtain⟨rfl,rfl⟩:=C;rw[aN,hU,hU]at E;have hx:x = .nil:=by
       cases x<;>first|rfl|(exact absurd E.1 (by simp[V.jK]))
      subst hx;exact .inr (.inl ⟨rfl,rfl,rfl,E.2⟩)
    |true =>grind
   ·rename_i q;split at C
    ·rename_i y1 hy1;cases hf:y1.aF with
     | true=>
      rw[hf,au]at C;cases E:(!x0.plain&&(x0.aF&&x0.jK)&&Nat.beq q (20001+1000*i+D)&&Nat.blt q 60000)with
      |false=>rw[E]at C;cases C
      | true=>
       rw[E,au]at C;simp only[iu,Prod.mk.injEq]at C;obtain⟨rfl,rfl⟩:=C;rw[aN,aN,aN,hU]at E;obtain⟨⟨⟨b1,b2⟩,b3⟩,b4⟩:=E;obtain rfl:=cD b3;exact .inr (.inr (.inl ⟨rfl,rfl,rfl,b1,b2,by have:=cQ b4;omega⟩))
     | false=>
      rw[hf,aq]at C;cases hl:y1.loc with
      |false=>rw[hl]at C;cases C
      |true =>grind
    ·cases C
   ·cases C
  unfold Bu at h;split at h
  ·rename_i y Vc Vd hy Hh;simp only[iu,Prod.mk.injEq]at h;obtain⟨rfl,rfl⟩:=h;obtain⟨h1,h2,h3⟩:=Vb xs U (D+1) Vc Vd Hh
   refine⟨by simp[h1],by simp[h2],λj y' L=>?_⟩
   cases j with
   | zero=>
    simp at L;subst L;refine⟨l,x0,rfl,rfl,?_⟩;rcases hc y none hy with ⟨_,O,T⟩|⟨_,O,T,Z⟩|⟨_,O,T,Z,e4,e5⟩|⟨q,hq,_⟩
    ·simp[*]
    ·simp[*]
    ·exact .inr (.inr (.inl ⟨O,T,Z,e4,e5⟩))
    ·cases hq
   | succ j=>
    obtain⟨l',x',g1,g2,g3⟩:=h3 j y' (by simpa using L);rw[show D+1+j=D+(j+1) by omega]at g3;exact⟨l',x',by simpa using g1,by simpa using g2,g3⟩
  ·rename_i y q Vc Vd hy Hh;simp only[iu,Prod.mk.injEq]at h;obtain⟨rfl,rfl⟩:=h;obtain⟨h1,h2,h3⟩:=Vb xs U (D+1) Vc Vd Hh
   refine⟨by simp[h1],by simp[h2],λj y' L=>?_⟩
   cases j with
   | zero=>
    simp at L;subst L;refine⟨l,x0,rfl,rfl,?_⟩;rcases hc y (some q) hy with ⟨e0,_⟩|⟨e0,_⟩|⟨e0,_⟩|⟨q',hq,O,T,Z⟩
    ·cases e0
    ·cases e0
    ·cases e0
    ·injection hq with hq;subst hq;exact .inr (.inr (.inr ⟨q,O,T,Z,.head _⟩))
   | succ j=>
    obtain⟨l',x',g1,g2,g3⟩:=h3 j y' (by simpa using L);rw[show D+1+j=D+(j+1) by omega]at g3;exact⟨l',x',by simpa using g1,by simpa using g2,g3.imp id (λg=>g.imp id (λg=>g.imp id λ⟨q',O,T,Z,e4⟩=>⟨q',O,T,Z,.tail _ e4⟩))⟩
  ·cases h
def NI{w1:World}{Ve:Nat -> Loc}{m:Nat -> ah bg}(T:∀ r,20000 <= r -> r<60000 -> ρ r=Ve r)(U:∀ r x,m r=some x -> dY w w1.heap.size aj ρ r x):
  ∀(ins:aa In) (i Z:Nat) (outs:aa In) (Hw:aa (Nat×Nat)),zo m i Z ins=some (outs,Hw) -> (∀p∈Hw,rs.lookup p.1=some p.2) -> Hv w1 Ve i ins -> qK w1 w (ey aj rs nm) Ve nm i Z ins outs
 | [],i,Z,outs,Hw,h,L,he=>by
  simp only[zo,iu,Prod.mk.injEq]at h;obtain⟨rfl,rfl⟩:=h;trivial
 | .aC cs :: r,i,Z,outs,Hw,h,L,he=>by
  unfold zo at h;cases hi:Nat.blt (nF i) 60000 with
  |false=>grind
  | true=>
   rw[hi,au]at h;have hi:=cQ hi;split at h
   ·rename_i ls Vf;split at h
    ·rename_i eA rs1 os Br h1 h2;simp only[iu,Prod.mk.injEq]at h;obtain⟨rfl,rfl⟩:=h;obtain⟨⟨b,off,cells,e,ab2,UW,xb⟩,Hx⟩:=he;obtain⟨k1,k2,k3⟩:=Vb _ _ _ _ _ h1
     refine⟨?_,NI T U r (i+1) _ os Br h2 (λp D=>L p (.tail _ (List.mem_append_right _ D))) Hx⟩
     have O:=U _ _ Vf;have Vg:=T (nF i) (by unfold nF;omega) (by omega);generalize C:bg.aC ls=x at O;cases O with
     |sl=>cases C
     |mp=>cases C
     |gh=>cases C
     | aC b' GU xd e' ls' us E hl hh hs hc=>
      injection C with C;subst C;rw[Vg,ab2]at E;injection E with e1 e2;subst e1 e2
      refine⟨b,off,cells,xd,e,e',ab2,UW,hh,?_,by rw[k1,<- k2];exact hs,k1,λj y hy=>?_⟩
      ·have:=L _ (List.Mem.head _);simp[ey,hl,this]
      ·obtain⟨l,x0,g1,g2,g3⟩:=k3 j y hy;obtain⟨c1,c2⟩:=hc j l g1;refine⟨_,c1,?_⟩;rw[fk]at g3;rcases g3 with ⟨rfl,D⟩ | ⟨rfl,rfl,Nx⟩ | ⟨rfl,rfl,D,za,dA⟩ | ⟨q,rfl,hq,hf,zl⟩
       ·exact .inl ⟨D,λ_ _ _ _=>c2.2.sW D⟩
       ·exact .inr (.inl ⟨rfl,by have h9:=c2.2;generalize us j=u9 at h9 ⊢;cases h9;rfl,x0,g2,Nx⟩)
       ·rw[aN]at za;obtain⟨hf,hs0⟩:=za;obtain⟨u,hu,aol⟩:=xb j y g2 D hf;refine .inr (.inr (.inl ⟨D,hf,hs0,⟨y,g2,.same _⟩,?_⟩));have Y:=c2.2;have Vh:=T (20001+1000*i+j) (by omega) dA;simp only[c8,Vh,aol]at Y;simp_all
       ·refine .inr (.inr (.inr ⟨hf,?_⟩));have O:=U _ _ hq;generalize C:bg.sl y=x at O;cases O with
        |aC=>cases C
        |mp=>cases C
        |gh=>cases C
        | sl v y' E hr=>
         injection C with C;subst C;have Y:=c2.2;simp only[c8,E]at Y;injection Y with Y;rw[<- Y];exact RV.ey (p:=[]) hr (L _ (.tail _ (List.mem_append_left _ zl)))
    ·cases h
   ·cases h
 | .sl y :: r,i,Z,outs,Hw,h,L,he=>by
  unfold zo at h;cases hg:y.gone with
  | true=>
   rw[hg,au]at h;split at h
   next os Br h2=>simp at h;obtain⟨rfl,rfl⟩:=h;exact⟨.inl rfl,NI T U r _ _ os Br h2 L he.2⟩
   ·cases h
  |false=>
  rw[hg,aq]at h;cases hi:Nat.blt (nF i) 60000 with
  |false=>grind
  | true=>
   rw[hi,au]at h;have hi:=cQ hi;split at h
   ·rename_i y' Hf;cases hl:(y'.loc && !y'.aF)with
    |false=>grind
    | true=>
     rw[hl,au]at h;split at h
     ·rename_i os Br h2;simp only[iu,Prod.mk.injEq]at h;obtain⟨rfl,rfl⟩:=h;obtain⟨⟨v,hv⟩,Hx⟩:=he
      refine⟨.inr ⟨v,hv,?_⟩,NI T U r (i+1) _ os Br h2 (λp D=>L p (.tail _ D)) Hx⟩
      have Vg:=T (nF i) (by unfold nF;omega) (by omega);have O:=U _ _ Hf;generalize C:bg.sl y'=x at O;cases O with
      |aC=>cases C
      |mp=>cases C
      |gh=>cases C
      | sl v' y'' E hr=>
       injection C with C;subst C;rw[Vg,hv]at E;injection E with E;subst E;exact RV.ey (p:=[]) hr (L _ (.head _))
     ·cases h
   ·cases h
def aom{w1:World}{Z:Nat -> Loc}{fn:Func}{U:aa In}{k:aa In -> fR -> ah X}(hw:w0.w=w1)(hF:∀ r,20000 <= r -> r<60000 -> w0.F r=some (Z r))(he:Hv w1 Z 0 U)(h:Hu P σ fn.results U k=some r):
  ∃outs res,k outs res=some r /\ ∀aj ρ a w,Rl w0 N aj ρ σ a w -> ∀nm,∃v aA,(results fn a.tmps).run P w = .ok v w/\(∀b k,aA b=some k -> (w0.heap.size <= b \/ w0.L b≠none)/\b<w.heap.size/\k≠[])/\pO w w0.heap.size aA nm res v/\qK w1 w aA Z nm 0 res.len U outs:=by
 unfold Hu at h;obtain⟨ps,E,qJ⟩:=Hs (w0:=w0) (N:=N) _ _ h;clear h;split at E
 ·rename_i qs Vi U7;split at E
  ·rename_i os Vj hos;cases ho:once (Vi++Vj)with
   |false=>rw[ho]at E;cases E
   | true=>
    rw[ho,au]at E;generalize ab3:Vi++Vj=rs at ho;have jv:∀ p∈rs,rs.lookup p.1=some p.2:=by
     intro p hp;have:=cw.1 ho p hp;obtain⟨n,hn,he⟩:=(Option.any_eq_true _ _).1 this;simp_all
    have core:∀ aj ρ a w,Rl w0 N aj ρ σ a w -> ∀ nm:Nat -> Nat,∃ C:aa Value,(fn.results.mapM (th a.tmps)).run P w = .ok C.toArray w/\(∀ b k,ey aj rs nm b=some k -> (w0.heap.size <= b \/ w0.L b≠none)/\b<w.heap.size/\k≠[])/\ju w w0.heap.size (ey aj rs nm) nm 0 qs C /\
      qK w1 w (ey aj rs nm) Z nm 0 (qs.map λp=>p.2.length).sum U os:=by
     intro aj ρ a w T nm;obtain⟨C,dB,hl,hv⟩:=qJ aj ρ a w T
     refine⟨C,?_,λb k O=>?_,U6 T.root ps 0 qs Vi C U7 (λp hp=>jv p (by rw[<- ab3];exact List.mem_append_left _ hp)) hl hv,
      NI (λr h1 E=>T.fix r _ (hF r h1 E)) (by rw[<- hw];exact T.root) U 0 _ os Vj hos (λp hp=>jv p (by rw[<- ab3];exact List.mem_append_right _ hp)) he⟩
     ·rw[Array.mapM_eq_mapM_toList];simp[dB]
     ·unfold ey at O;split at O
      ·cases O
      ·rename_i k' oL;have:=T.dg b k' oL;split at O
       ·cases O
       ·cases tj:rs.lookup _ with
        |none=>rw[tj]at O;cases O
        | some n=>
         rw[tj]at O;injection O with O;subst O;simp_all
    have lF:∀ (tmps:Array Value),results fn tmps=(do let C <- fn.results.mapM (th tmps);pure (if h:C.size=1 then C[0]else .tuple C)):=λtmps=>by
     unfold results;congr 1
    split at E
    ·rename_i p
     refine⟨_,_,E,λaj ρ a w T nm=>?_⟩
     obtain⟨C,dB,kP,D,Y⟩:=core aj ρ a w T nm;have Y:qK w1 w (ey aj rs nm) Z nm 0 (fR.one p).len U os:=by simpa [fR.len]using Y
     match C,D with
     |[v],D=>exact⟨v,_,by rw[lF,fV,dB];rfl,kP,D,Y⟩
     |[],D=>exact D.elim
     |_::_::_,D=>exact D.2.elim
    ·rename_i dc
     refine⟨_,_,E,λaj ρ a w T nm=>?_⟩
     obtain⟨C,dB,kP,D,Y⟩:=core aj ρ a w T nm;have gG:C.toArray.size≠1:=by
      intro e;clear Y;have e:C.length=1:=by simpa using e
      match qs,C,D,dc,e with
      |[q],[v],_,dc,_=>exact dc q rfl
      |[],[v],D,_,_=>exact D.elim
      |_::_::_,[v],D,_,_=>exact D.2.elim
     refine⟨.tuple C.toArray,_,?_,kP,⟨C.toArray,rfl,D⟩,Y⟩;rw[lF,fV,dB,lS];simp only[gG,dif_neg,not_false_eq_true,Sem.run_pure]
  ·cases E
 ·cases E
def ab4{i:Nat}:∀ (cs:aa V) (D:Nat) (m:Nat -> ah bg) (r:Nat) (x:bg),U8 i D cs m r=some x -> m r=some x \/ ∃ j y,cs[j]?=some y/\y.plain=false/\r=nC i (D+j) y/\x = .sl y
 |[],D,m,r,x,h=>.inl h
 | c :: cs,D,m,r,x,h=>by
  rcases ab4 cs _ _ r x h with C|⟨j,y,C,O,T,U⟩
  ·cases E:c.plain with
   |true=>simp_all
   | false=>
    rw[E,aq]at C;by_cases L:r=nC i D c
    ·subst L;rw[cm]at C;injection C with C;exact .inr ⟨0,c,rfl,E,rfl,C.symm⟩
    ·rw[cM _ _ _ L]at C;simp_all
  ·exact .inr ⟨j+1,y,by simpa using C,O,by rw[T];congr 1;omega,U⟩
def oR.roots:∀ (C:aa In) (i:Nat) (m:Nat -> ah bg),oR w B aj ρ i C -> (∀ r x,m r=some x -> dY w B aj ρ r x) -> ∀ r x,NH i C m r=some x -> dY w B aj ρ r x
 |[],i,m,_,L,r,x,h=>L r x h
 | .aC cs :: C,i,m,O,L,r,x,h=>by
  obtain⟨Y,Z,T⟩:=O
  refine oR.roots C _ _ T (λr x E=>?_) r x h
  rcases ab4 cs 0 _ r x E with U|⟨j,y,g1,g2,g3,g4⟩
  ·by_cases D:r=nF i
   ·subst D;rw[cm]at U;simp_all
   ·rw[cM _ _ _ D]at U;simp_all
  ·simp_all
 | .sl y :: C,i,m,O,L,r,x,h=>by
  obtain⟨Y,T⟩:=O
  refine oR.roots C _ _ T (λr x E=>?_) r x h
  by_cases D:r=nF i
  ·subst D;rw[cm]at E;simp_all
  ·rw[cM _ _ _ D]at E;simp_all
def Vk{i:Nat}:∀ (cs:aa V) (C j:Nat) x,cs[j]?=some x->(zn i C cs)[j]?=some (zm i (C+j) x)
 |[],C,j,x,h=>by simp at h
 |c::cs,C,0,x,h=>by simp at h;subst h;rfl
 | c :: cs,C,j+1,x,h=>by
  simp only[zn,List.getElem?_cons_succ];rw[Vk cs (C+1) j x (by simpa using h)];congr 2;omega
def oR.Vl:∀ (C:aa In) (i:Nat),oR w B aj ρ i C -> Hv w ρ i C
 |[],_,_=>trivial
 | .aC cs :: C,i,L=>by
  obtain⟨E,_,O⟩:=L;refine⟨?_,oR.Vl C (i+1) O⟩;generalize D:bg.aC (zn i 0 cs)=x at E;cases E with
  |sl=>cases D
  |mp=>cases D
  |gh=>cases D
  | aC b off cells e ls us Y hl Z hs hc=>
   injection D with D;subst D
   refine⟨b,off,cells,e,Y,Z,λj x hj hp hf=>?_⟩
   obtain⟨c1,T⟩:=hc j _ (Vk cs 0 j x hj);rw[fk]at T;refine⟨_,c1,?_⟩;have e1:zm i j x = .own [20001+1000*i+j]:=by simp[zm,hp,nC,hf]
   rw[e1]at T;have U:=T.2;simp only[c8]at U;split at U
   ·simp_all
   ·cases U
 | .sl y :: C,i,L=>by
  obtain⟨E,O⟩:=L;refine⟨?_,oR.Vl C (i+1) O⟩;cases E with
  |sl v y' Y hr=>simp_all
end
def dG(n:Nat):aa Nat->Bool
 |[]=>false
 |m::l=>Nat.beq n m ||dG n l
def xe{n:Nat}:∀ {l:aa Nat},dG n l=true ↔ n∈l
 |[]=>by simp[dG]
 | m :: l=>by
  simp only[dG,eB,gW,xe];simp_all
def ab5{n:Nat}{l:aa Nat}(h:dG n l=false):n ∉ l:=λk=>by rw[xe.2 k]at h;cases h
def gq(k l:aa Nat):Bool:=match k.getLast? with
 |some r=>dG r l
 |none=>false
def D9(ns cn:aa Nat):mR:=⟨λk=>gq k cn ||(gq k ns && !(Nat.beq k.length 1)),λk=>gq k cn ||gq k ns,λr=>dG r cn⟩
def Lf.eV(ns cn:aa Nat):Lf->Lf:=Lf.cE (D9 ns cn).l
def A.eV(ns cn:aa Nat):A->A:=A.cE (D9 ns cn)
def bg.eV(ns cn:aa Nat):bg->bg:=bg.cE (D9 ns cn)
def S.eV(σ:S)(ns cn:aa Nat)(nr:aa (Nat×bg)):S:=⟨λk=>(σ.t k).eV ns cn,λr=>match nr.lookup r with
 |some x=>some x
 |none=>bif dG r ns ||dG r cn then none else (σ.m r).map (bg.eV ns cn)⟩
structure tv (w w':World) (aj dI:bG) (ρ eU:Nat->Loc) (ns cn:List Nat):Prop where
 size:w.heap.size<=w'.heap.size
 same:∀b,b<w.heap.size->(∀k,aj b=some k->gq k ns=false)->w'.heap[b]?=w.heap[b]?/\dI b=aj b
 eT:∀r,dG r cn=false->eU r=ρ r
 aj:∀b k,aj b=some k->b<w.heap.size/\k≠[]
section
variable {P:Program} {w w':World} {w0:Wd} {B N:Nat} {aj dI aA:bG} {ρ eU:Nat->Loc} {σ:S} {a:Act} {X:Type} {d:Nat} {r:X} {ns cn:aa Nat}
def ab6{j i s:Nat}{q l:aa Nat}(h:q≠[]):gq (j :: i :: s :: q) l=gq q l:=by
 cases q with
 |nil=>simp_all
 |cons x q=>simp[gq]
def tv.tr(C:tv w w' aj dI ρ eU ns cn):Tr w w' aj dI ρ eU (λk=>gq k ns) (λr=>dG r cn):=
 ⟨C.size,λb O D=>let e:=C.same b O (λk E=>by rw[D]at E;cases E);⟨e.1,e.2.trans D⟩,λb k D E=>let e:=C.same b (C.aj b k D).1 (λT L=>by rw[D]at L;injection L with L;subst L;exact E);⟨e.1,e.2.trans D⟩,C.eT,λj i s x q=>ab6 (by simp),λb O=>absurd rfl (C.aj b [] O).2⟩
def Vm:(D9 ns cn).OK (λk=>gq k ns) (λr=>dG r cn):=by
 refine⟨λk D=>?_,λk D=>?_,λ_ h=>h⟩
 ·obtain⟨E,C⟩:=Bool.or_eq_false_iff.1 D;refine⟨?_,E⟩;cases L:gq k ns with
  |false=>exact .inr rfl
  | true=>
   rw[L,cu,Bool.not_eq_false']at C;exact .inl (cD C)
 ·obtain⟨E,C⟩:=Bool.or_eq_false_iff.1 D;exact⟨C,E⟩
def RV.tw(C:tv w w' aj dI ρ eU ns cn){q:aa Nat}{x:V}{v:Value}(h:RV w B aj q x v)(D:gq q ns=false\/x.aF=true):RV w' B dI q x v:=h.tr C.tr D.symm
def RA.tw(C:tv w w' aj dI ρ eU ns cn){x:A}{u:Value}(h:RA w B aj ρ x u):RA w' B dI eU (x.eV ns cn) u:=h.tr C.tr Vm
def dU.tw(C:tv w w' aj dI ρ eU ns cn){x:Lf}{u:Value}(h:dU w B aj ρ x u):dU w' B dI eU (x.eV ns cn) u:=h.tr C.tr Vm
def dY.tw(C:tv w w' aj dI ρ eU ns cn){n:Nat}{x:bg}(h:dY w B aj ρ n x)(D:dG n ns=false)(E:dG n cn=false):dY w' B dI eU n (x.eV ns cn):=h.tr C.tr Vm D E
def Rl.tw(h:Rl w0 N aj ρ σ a w)(D:tv w w' aj dI ρ eU ns cn)(O:ja w0 w w')(T:∀ b k,dI b=some k -> (w0.heap.size <= b \/ w0.L b≠none)/\b<w'.heap.size/\k≠[])(Z:∀ r,dG r cn=true -> w0.F r=none){nr:aa (Nat×bg)}
  (sZ:∀r x,nr.lookup r=some x -> dY w' w0.heap.size dI eU r x):Rl w0 N dI eU (σ.eV ns cn nr) a w':=by
 refine⟨h.below.trans O,T,λr x C=>?_,λk=>(h.tmp k).tw D,h.size,h.defers,λr l U=>?_,h.dz⟩
 ·simp only[S.eV]at C;split at C
  ·simp_all
  ·cases hm:(dG r ns || dG r cn)with
   |true=>simp_all
   | false=>
    rw[hm]at C;rw[Bool.or_eq_false_iff]at hm;cases E:σ.m r with
    |none=>simp_all
    | some y=>
     rw[E]at C;injection C with C;subst C;exact(h.root r y E).tw D hm.1 hm.2
 ·have Y:dG r cn=false:=by
   grind
  exact(D.eT r Y).trans (h.fix r l U)
end
inductive Mu where
 |aC (r:Nat) (cs:List Lf) (vs:List (V×Option Nat))
 |sl (q:Nat) (y:V)
def Mu.root:Mu->Nat
 |.aC r _ _=>r
 |.sl q _=>q
def zp(m:Nat->ah bg):Lf->ah (V×ah Nat)
 |.v x=>some (x.gn,none)
 | .own [q]=>match m q with
  |some (.sl y)=>bif y.aF then some (y.gn,none)else some (y,some q)
  |_=>none
 |_=>none
def tA(m:Nat->ah bg):aa Lf->ah (aa (V×ah Nat))
 |[]=>some []
 | l :: C=>match zp m l,tA m C with
  |some v,some D=>some (v::D)
  |_,_=>none
def Bv(σ:S):PK->A->ah (ah Mu)
 |.v _ _,_=>some none
 | .p _ _ off,.aJ r j=>(match (bif Nat.beq j off then σ.m r else none)with
  | some (.aC cs)=>(match tA σ.m cs with
   |some C=>bif Nat.blt cs.length 999 then some (some (.aC r cs C))else none
   |none=>none)
  |_=>none)
 | .s _ _,.lf (.own [q])=>(match σ.m q with
  |some (.sl y)=>bif y.aF then none else some (some (.sl q y))
  |_=>none)
 |_,_=>none
def mX(σ:S):aa PK->aa Operand->ah (aa Mu)
 |[],[]=>some []
 | p :: ps,x :: xs=>(match Bv σ p (aK σ x),mX σ ps xs with
  |some (some D),some C=>some (D::C)
  |some none,some C=>some C
  |_,_=>none)
 |_,_=>none
def Hy(i:Nat):Nat->aa (V×ah Nat)->aa (Nat×Nat)
 |_,[]=>[]
 |j,(_,some q)::C=>(q,60000+1000*i+j)::Hy i (j+1) C
 |j,(_,none)::C=>Hy i (j+1) C
def nX:Nat->aa Mu->aa (Nat×Nat)
 |_,[]=>[]
 |i,.aC r _ D::C=>(r,nF i)::(Hy i 0 D++nX (i+1) C)
 |i,.sl q _::C=>(q,nF i)::nX (i+1) C
def Vn(ns:aa Nat):Lf->Bool
 |.own k=>!gq k ns
 |_=>true
def xg{X:Type}(σ:S)(ns:aa Nat):aa Lf->(aa V->ah X)->ah X
 |[],k=>k []
 |x::xs,k=>bif Vn ns x then oG σ x λy=>xg σ ns xs λys=>k (y.gn::ys)else none
def vo{X:Type}(σ:S)(ns:aa Nat)(x:A)(k:Pt->ah X):ah X:=
 match x with
 |.lf y=>xg σ ns [y] λC=>k (false,C)
 |.agg ys=>xg σ ns ys λC=>k (true,C)
 |.mQ f (c::cs)=>k (false,.bool false::.int .i64 (f:Int)::c.gn::cs.map V.gn)
 | .fn f [(r,j)]=>bif dG r ns then none else (match σ.m r with
  | some (.aC cs)=>(match qB (cs.drop j)with
   |some (c::C)=>k (false,.bool false::.int .i64 (f:Int)::c::C)
   |_=>none)
  |_=>none)
 |_=>none
def nY{X:Type}(σ:S)(ns:aa Nat):(ps:aa PK)->aa Operand->aa Mu->(lZ ps->ah X)->ah X
 |[],[],[],k=>k ()
 | .v b t :: ps,x :: xs,C,k=>vo σ ns (aK σ x) λp=>bif p.1==b then (match dec t 0 p.2 with
  |some y=>nY σ ns ps xs C λys=>k (y,ys)
  |none=>none)else none
 | .p t g _ :: ps,_ :: xs,.aC _ _ D :: C,k=>(match (bif Nat.beq (g % 2) 0 then dec t g (D.map (·.1))else none)with
  |some y=>nY σ ns ps xs C λys=>k (y,ys)
  |none=>none)
 | .s t g :: ps,_ :: xs,.sl _ y :: C,k=>(match (bif Nat.beq (g % 2) 0 then y.ff t (g+2)else none)with
  |some z=>nY σ ns ps xs C λys=>k (z,ys)
  |none=>none)
 |_,_,_,_=>none
def xh(w:World)(ρ:Nat->Loc)(rs:aa Nat):Nat->Loc:=λn=>
 if n<60000 then (if (n-20000) % 1000=0 then ρ (rs.getD ((n-20000) / 1000) 0)else (match ρ (rs.getD ((n-20000) / 1000) 0)with
  |.aC b off=>.dX ((w.cell? ⟨b,off+((n-20000) % 1000-1),none⟩).getD undef)
  |.dX v=>.dX v
  |.bY us=>.bY us))
 else (match ρ (rs.getD ((n-60000) / 1000) 0)with
  |.aC b off=>.dX ((w.cell? ⟨b,off+(n-60000) % 1000,none⟩).getD undef)
  |.dX v=>.dX v
  |.bY us=>.bY us)
def Hz{w:World}{ρ:Nat -> Loc}{rs:aa Nat}{i r:Nat}(h:rs[i]?=some r)(hi:i<40):xh w ρ rs (nF i)=ρ r:=by
 have C:nF i<60000:=by unfold nF;omega
 have D:(nF i-20000) % 1000=0:=by unfold nF;omega
 have E:(nF i-20000) / 1000=i:=by unfold nF;omega
 have L:rs.getD i 0=r:=by rw[eY,h];rfl
 unfold xh;simp_all
def aon{w:World}{ρ:Nat -> Loc}{rs:aa Nat}{i j r b off:Nat}{u:Value}{x:V}(h:rs[i]?=some r)(hi:i<40)(C:j<999)(D:ρ r = .aC b off)(E:w.cell? ⟨b,off+j,none⟩=some u):xh w ρ rs (nC i j x) = .dX u:=by
 have L:rs.getD i 0=r:=by rw[eY,h];rfl
 unfold xh nC;cases x.aF with
 |true =>grind
 |false =>grind
def V.NJ:V->Bool
 |.sl _ o _ _=>Nat.beq (o % 2) 0
 |_=>true
section
variable {P:Program} {w w':World} {w0:Wd} {B N:Nat} {aj dI aA:bG} {ρ eU:Nat->Loc} {σ:S} {a:Act} {X:Type} {d:Nat} {r:X} {ns cn:aa Nat}
def RV.reB{B':Nat}{q:aa Nat}{x:V}{v:Value}(h:RV w B aj q x v)(D:x.NJ=true):RV w B' aj q x v:=by
 induction h with
 |int=>exact .int _ _ _
 |bool=>exact .bool _ _
 |str=>exact .str _ _
 |nil=>exact .nil _
 |ep=>exact .ep _ _ _
 |fA=>exact .fA _ _ _ _ _ (by first|assumption|omega)
 |fK=>exact .fK _ _ _ _ _ (by first|assumption|omega)
 | aF q t o U l b off cap u Y E Z h1 iJ L hr O=>
  have D:=cD D;have ho0:o=0:=by omega
  subst ho0
  refine .aF _ _ _ _ _ _ _ _ u Y E Z (by omega) iJ L (λi h j x C=>O i h j x C ?_)
  have:=yL t 0 l[i] x (gN C);cases x with
  | sl t' T q' l'=>
   have:T=0:=by simpa [V.gr]using this
   subst this;rfl
  |_=>rfl
 | own q t o U l b cap cs u E hh hs hn hm L hr O=>
  have D:=cD D
  refine .own _ _ _ _ _ _ _ cs u E hh hs hn hm L (λi h j x C=>O i h j x C ?_)
  have:=yL t o l[i] x (gN C);cases x with
  | sl t' T q' l'=>
   have:T=o:=by simpa [V.gr]using this
   show Nat.beq _ 0=true;simp_all
  |_=>rfl
def RV.out{q O:aa Nat}{x:V}{v:Value}(h:RV w B aj q x v)(Z:∀ b,aj b=none -> aA b=none)(h2:∀ b k,aj b=some k -> k≠[]/\(gq k ns=false -> aA b=none))(hq:x.aF=true \/ gq q ns=false){B':Nat}:RV w B' aA O x.gn v:=by
 induction h generalizing O with
 |int=>exact .int _ _ _
 |bool=>exact .bool _ _
 |str=>exact .str _ _
 |nil=>exact .nil _
 |ep=>exact .ep _ _ _
 |fA=>exact .fA _ _ _ _ _ (by first|assumption|omega)
 |fK=>exact .fK _ _ _ _ _ (by first|assumption|omega)
 | aF q t o qn l b off cap u ho E hb h1' iJ T hr L=>
  refine .aF _ _ _ _ _ _ _ _ u (by omega) (Z b E) hb (by omega) iJ (λi h j x C=>?_) (λi h j x C=>?_)
  ·obtain⟨y,D,_⟩:=wL t o l[i] j x C;simp_all
  ·obtain⟨y,D,rfl⟩:=wL t o l[i] j x C;exact L i h j y D (.inl (rJ t o l[i] ho j y D))
 | own q t o qn l b cap cs u E U hs hn hm T hr L=>
  have Y:gq q ns=false:=by
   rcases hq with hq|hq
   ·simp[V.aF]at hq;omega
   ·exact hq
  obtain⟨dc,pM⟩:=h2 b q E
  refine .aF _ _ _ _ _ _ _ _ u (by omega) (pM Y) (iH.1 U).1 (by omega) hn (λi h j x C=>?_) (λi h j x C=>?_)
  ·obtain⟨y,D,_⟩:=wL t o l[i] j x C;have:=T i h j y D;rw[fk,cell_of_row w b _ cs _ _ U];exact this
  ·obtain⟨y,D,rfl⟩:=wL t o l[i] j x C;exact L i h j y D (.inr (by rw[ab6 dc];exact Y))
def aoo{x:Lf}{k:V -> ah X}(h:oG σ x k=some r):∃ y,k y=some r /\ ∀ aj ρ a w,Rl w0 N aj ρ σ a w -> ∀ u,dU w w0.heap.size aj ρ x u -> ∃ q,(x = .own q \/ y.aF=true)/\RV w w0.heap.size aj q y u:=by
 cases x with
 |v y=>exact⟨y,h,λaj ρ a w D u C=>⟨[],.inr C.1,C.2⟩⟩
 |dead=>cases h
 | own q=>
  obtain⟨y,E,L⟩:=rM q k h
  refine⟨y,L,λaj ρ a w D u C=>⟨q,.inl rfl,?_⟩⟩
  obtain⟨v,O,T⟩:=E.ok D.root;have:v=u:=by
   have U:=C.2;simp_all
  simp_all
structure Bw (ns:List Nat) (aj aA:bG):Prop where
 none:∀b,aj b=none->aA b=none
 rest:∀b k,aj b=some k->k≠[]/\(gq k ns=false->aA b=Option.none)
def Vo:∀ (xs:aa Lf) (k:aa V -> ah X),xg σ ns xs k=some r -> ∃ C,k C=some r/\C.length=xs.length /\ ∀ aj ρ a w aA,Rl w0 N aj ρ σ a w -> Bw ns aj aA -> ∀ (j:Nat) x y u,xs[j]?=some x -> C[j]?=some y -> dU w w0.heap.size aj ρ x u -> RV w w.heap.size aA [] y u
 |[],k,h=>⟨[],h,rfl,λ_ _ _ _ _ _ _ j x y u T=>by simp at T⟩
 | x :: xs,k,h=>by
  unfold xg at h;cases D:Vn ns x with
  |false=>simp_all
  | true=>
   rw[D,au]at h;obtain⟨y,U,Y⟩:=aoo (w0:=w0) (N:=N) h;obtain⟨ys,Z,hl,hr⟩:=Vo xs _ U
   refine⟨y.gn::ys,Z,by simp[hl],λaj ρ a w aA hR E j x' y' u L O hu=>?_⟩
   cases j with
   | zero=>
    simp at L O;subst L O;obtain⟨q,hq,jL⟩:=Y aj ρ a w hR u hu;refine jL.out E.none E.rest ?_;rcases hq with rfl|hq
    ·exact .inr (by simpa [Vn]using D)
    ·simp_all
   |succ j=>grind
inductive PM (w:World) (aA:bG):Pt->Value->Prop
 |v (p:Pt) (u:Value) (h:PV w w.heap.size aA (λ_=>[]) p u):PM w aA p u
 |f (g:Nat) (c:V) (cs:List V) (u:Value) (h:RF w w.heap.size aA (c::cs) u):PM w aA (false,.bool false::.int .i64 (g:Int)::c::cs) (.func (.func g) #[] #[u])
def aop{g:Nat}{c:V}{cs ys:aa V}(D:(V.bool false :: .int .i64 (g:Int) :: c :: cs).length=ys.length)(h:∀ (j:Nat) x z,(V.bool false :: .int .i64 (g:Int) :: c :: cs)[j]?=some x -> ys[j]?=some z -> Wk x z):∃ C eA,ys = .bool false :: .int .i64 (g:Int) :: C :: eA/\kO (c :: cs) (C :: eA):=by
 match ys,D,h with
 | a :: b :: C :: eA,D,h=>
  have E:=h 0 _ a rfl rfl;have L:=h 1 _ b rfl rfl;cases E;cases L;exact⟨C,eA,rfl,by simpa using D,λj x z O T=>h (j+2) x z (by simpa using O) (by simpa using T)⟩
def RF.tC{cs C:aa V}{u:Value}(h:RF w B aj cs u)(E:kO cs C)(O:∀ (j:Nat) z,C[j]?=some z->z.aF=true):RF w B aj C u:=by
 obtain⟨b,off,rfl,T,U,Y⟩:=h
 refine⟨b,off,rfl,T,U,λj x D=>?_⟩
 have L:j<cs.length:=by rw[E.1];exact(dQ.1 D).1
 obtain⟨_,v,Z,h5⟩:=Y j _ (bZ L);exact⟨O j x D,v,Z,h5.wk (E.2 j _ x (bZ L) D)⟩
def RF.gn{cs:aa V}{u:Value}(h:RF w B aj cs u)(D:∀ b,aj b=none -> aA b=none)(L:∀ b k,aj b=some k -> k≠[]/\(gq k ns=false -> aA b=none)){B':Nat}:RF w B' aA (cs.map V.gn) u:=by
 obtain⟨b,off,rfl,O,T,U⟩:=h
 refine⟨b,off,rfl,O,D b T,λj x C=>?_⟩
 rw[eF]at C;cases E:cs[j]? with
 |none=>simp_all
 | some y=>
  rw[E]at C;injection C with C;subst C;obtain⟨Y,v,Z,h5⟩:=U j y E;exact⟨V.anp y,v,Z,h5.out D L (.inl Y)⟩
def aoq{x:A}{k:Pt -> ah X}(h:vo σ ns x k=some r):∃ p,k p=some r /\ ∀ aj ρ a w aA,Rl w0 N aj ρ σ a w -> Bw ns aj aA -> ∀ u,RA w w0.heap.size aj ρ x u -> PM w aA p u:=by
 unfold vo at h;split at h
 ·rename_i y;obtain⟨vs,U,O,Y⟩:=Vo (w0:=w0) (N:=N) _ _ h
  refine⟨_,U,λaj ρ a w aA L C u D=>.v _ _ ⟨#[u],rfl,by simp[O],λj x E=>?_⟩⟩
  have T:j=0:=by
   grind
  subst T;exact⟨u,rfl,Y aj ρ a w aA L C 0 y x u rfl E D⟩
 ·rename_i ys;obtain⟨vs,U,O,Y⟩:=Vo (w0:=w0) (N:=N) _ _ h
  refine⟨_,U,λaj ρ a w aA L C u D=>?_⟩
  obtain⟨us,rfl,Z⟩:=D
  refine .v _ _ ⟨us,rfl,by rw[O];exact Z.1,λj x E=>?_⟩
  have T:j<ys.length:=by rw[<- O];exact(dQ.1 E).1
  obtain⟨v,hv,fl⟩:=Z.2 j _ (bZ T);exact⟨v,hv,Y aj ρ a w aA L C j _ x v (bZ T) E fl⟩
 ·rename_i f c cs
  refine⟨_,h,λaj ρ a w aA L C u D=>?_⟩
  obtain⟨pv,rfl,rU⟩:=D;exact .f f _ _ _ (rU.gn C.none C.rest)
 ·rename_i f r' j;cases hmb:dG r' ns with
  |true=>grind
  | false=>
   rw[hmb,aq]at h;split at h
   ·rename_i cs hm;split at h
    ·rename_i c vs rL;obtain⟨e,hp⟩:=Nl _ _ rL
     refine⟨_,h,λaj ρ a w aA L C u D=>?_⟩
     obtain⟨us,rfl,kr,iJ⟩:=D;obtain⟨b,off,cz,qC⟩:=iJ 0 _ rfl;have qC:us[0]?=some (.pointer (some ⟨b,off+j,none⟩)):=qC;have aG4:us.size=1:=kr;have aor:us = #[.pointer (some ⟨b,off+j,none⟩)]:=by
      apply Array.ext';apply List.ext_getElem?;intro i;cases i with
      |zero=>grind
      |succ i=>grind
     subst aor;refine .f f _ _ _ ?_;cases L.root r' _ hm with
     | aC b' GU cells e' _ Np gK kP hh Z hc=>
      rw[cz]at gK;injection gK with q1 q2;subst q1 q2
      refine⟨b,off+j,rfl,(iH.1 hh).1,(C.rest b _ kP).2 (by simpa [gq]using hmb),λi x E=>?_⟩
      have hpx:=hp x (gN E);have hcd:(cs.drop j)[i]?=some (.v x):=by rw[e,eF,E];rfl
      rw[List.getElem?_drop]at hcd;obtain⟨k1,k2⟩:=hc _ _ hcd;refine⟨(by cases x<;>first|rfl|cases hpx),Np (j+i),?_,k2.2.sW hpx⟩;rw[Nat.add_assoc,cell_of_row w b _ cells _ _ hh];exact k1
    ·cases h
   ·cases h
 ·cases h
def By(σ:S):Mu->Prop
 |.aC r cs C=>σ.m r=some (.aC cs)/\tA σ.m cs=some C/\cs.length<999
 |.sl q y=>σ.m q=some (.sl y)/\y.aF=false
def HA:aa Mu->aa In->Prop
 |[],[]=>True
 |.aC _ _ L::C,.aC xs::D=>(kO (L.map (·.1)) xs/\∀x∈xs,x.jK=true/\x.NJ=true)/\HA C D
 |.sl _ y::C,.sl E::D=>(Wk y E/\E.NJ=true)/\HA C D
 |_,_=>False
def Ea(w:World)(B:Nat)(aj:bG)(ρ:Nat->Loc)(C:aa In):aa Ar->aa Value->Prop
 |[],[]=>True
 |x::xs,v::D=>RA w B aj ρ (U9 C x) v/\Ea w B aj ρ C xs D
 |_,_=>False
def Ea.get{D:aa In}:∀ (xs:aa Ar) (C:aa Value),Ea w B aj ρ D xs C -> C.length=xs.length /\ ∀ i,RA w B aj ρ ((Bt D xs).t i) (C.toArray.getD i undef)
 |[],[],_=>⟨rfl,λi=>trivial⟩
 | x :: xs,v :: C,h=>by
  obtain⟨E,L⟩:=Ea.get xs C h.2
  refine⟨by simp[E],λi=>?_⟩
  cases i with
  |zero=>exact h.1
  | succ i=>
   have:=L i;simp at this ⊢;exact this
def aos{t:TC}{g:Nat}{x:T t}(D:Nat.beq (g % 2) 0=true):∀ y∈enc t g x,y.jK=true/\y.NJ=true:=by
 intro y C;refine⟨Ug t g x y C,?_⟩;have:=yL t g x y C;cases y with
 | sl L E O U=>
  have:E=g:=by simpa [V.gr]using this
  subst this;exact D
 |_=>rfl
def aot(σ:S):PK->A->ah Mu->Prop
 |.v _ _,_,none=>True
 |.p _ _ off,x,some (.aC r cs C)=>x = .aJ r off/\By σ (.aC r cs C)
 |.s _ _,x,some (.sl q y)=>x = .lf (.own [q])/\By σ (.sl q y)
 |_,_,_=>False
def Bz{p:PK}{x:A}{z:ah Mu}(h:Bv σ p x=some z):aot σ p x z:=by
 cases p with
 | v b t=>
  injection h with h;subst h;trivial
 | p t g off=>
  cases x with
  | aJ r j=>
   have h:(match (bif Nat.beq j off then σ.m r else none)with
    | some (.aC cs)=>(match tA σ.m cs with
     |some L=>bif Nat.blt cs.length 999 then some _ else none
     |none=>none)
    |_=>none)=some z:=h
   cases C:Nat.beq j off with
   |false=>rw[C]at h;cases h
   | true=>
    obtain rfl:=cD C;rw[C,au]at h;split at h
    ·rename_i cs O;split at h
     ·rename_i L T;cases D:Nat.blt cs.length 999 with
      |false=>rw[D]at h;cases h
      | true=>
       rw[D]at h;injection h with h;subst h;exact⟨rfl,O,T,by have:=cQ D;omega⟩
     ·cases h
    ·cases h
  |_=>cases h
 | s t g=>
  have U:(∃ q,x = .lf (.own [q])):=by
   unfold Bv at h;split at h
   next e=>cases e
   next e=>cases e
   ·simp[*]
   ·cases h
  obtain⟨q,rfl⟩:=U;have h:(match σ.m q with
   |some (.sl y)=>bif y.aF then none else some _
   |_=>none)=some z:=h
  split at h
  ·rename_i y Y;cases E:y.aF with
   |true=>rw[E]at h;cases h
   | false=>
    rw[E]at h;injection h with h;subst h;exact⟨rfl,Y,E⟩
  ·cases h
def NK:∀ (ps:aa PK) (xs:aa Operand) (D:aa Mu),mX σ ps xs=some D -> ∀ O∈D,By σ O
 |[],[],D,h=>by injection h with h;subst h;simp
 | p :: ps,x :: xs,D,h=>by
  unfold mX at h;split at h
  ·rename_i O E C L;injection h with h;subst h;have T:=NK ps xs E L;have C:=Bz C;intro z hz;rcases gW.1 hz with rfl | hz
   ·cases p with
    |v=>exact C.elim
    | p=>
     cases z with
     |aC=>exact C.2
     |sl=>exact C.elim
    | s=>
     cases z with
     |aC=>exact C.elim
     |sl=>exact C.2
   ·simp_all
  next E C L=>injection h with h;subst h;exact NK ps xs E L
  ·cases h
 |[],_::_,D,h=>by cases h
 |_::_,[],D,h=>by cases h
def HB:∀ {ps:aa PK} (i C:Nat) (x:lZ ps),(jO ps i x).length=(jO ps C x).length
 |[],_,_,_=>rfl
 |.v _ _::ps,i,C,x=>by simp[jO,List.length_cons];rw[HB]
 |.p _ _ _::ps,i,C,x=>by simp only[jO,List.length_cons];rw[HB (i+1) (C+1)]
 |.s _ _::ps,i,C,x=>by simp only[jO,List.length_cons];rw[HB (i+1) (C+1)]
def NL:∀ (ps:aa PK) (xs:aa Operand) (O:aa Mu) (k:lZ ps -> ah X),mX σ ps xs=some O -> nY σ ns ps xs O k=some r -> ∃ x,k x=some r/\HA O (mW ps x)/\(jO ps 0 x).length=xs.length /\
  ∀aj ρ a w aA ρ',Rl w0 N aj ρ σ a w -> Bw ns aj aA -> ∀(T:aa In) (i:Nat),(∀j z,(mW ps x)[j]?=some z -> T[i+j]?=some z) -> (∀j U,O[j]?=some U -> ρ' (nF (i+j))=ρ U.root) -> Ea w w.heap.size aA ρ' T (jO ps i x) (xs.map a.eval)
 | [],[],O,k,C,h=>by
  injection C with C;subst C;exact⟨(),h,trivial,rfl,λ_ _ _ _ _ _ _ _ _ _ _ _=>trivial⟩
 | .v b t :: ps,x :: xs,O,k,C,h=>by
  have vc:mX σ ps xs=some O:=by
   unfold mX at C;split at C
   next U rV D L=>exact(Bz D).elim
   next rV D L=>rw[L];exact C
   ·cases C
  unfold nY at h;obtain⟨p,L,hp⟩:=aoq (w0:=w0) (N:=N) h;cases hb:p.1==b with
  |false=>rw[hb]at L;cases L
  | true=>
   rw[hb,au]at L;have hb:p.1=b:=by simpa using hb
   subst hb;split at L
   ·rename_i y Y;obtain⟨ys,h3,h4,h5,h6⟩:=NL ps xs O _ vc L
    refine⟨(y,ys),h3,h4,?_,λaj ρ a w aA ρ' Z hS T i hi cz=>⟨?_,h6 aj ρ a w aA ρ' Z hS T i hi cz⟩⟩
    ·simp[jO,h5]
    ·have rU:=hp aj ρ a w aA Z hS _ (Z.aK x);have hk:=lV t 0 p.2 y Y;generalize a.eval x=ux at rU ⊢;rcases rU with ⟨_,_,us,hu,hs,hr⟩ | ⟨g,c,cs,pv,rU⟩
     case f=>
      have he:∀(j:Nat) z,(enc t 0 y)[j]?=some z -> z.aF=true:=λj z E=>rJ t 0 y (by omega) j z E
      obtain⟨c',eA,e,hw⟩:=aop hk.1 hk.2;rw[e]at he ⊢;exact⟨pv,rfl,rU.tC hw λj z E=>he (j+2) z (by simpa using E)⟩
     have jl:∀ (j:Nat) z,(enc t 0 y)[j]?=some z -> ∃ v,us[j]?=some v/\z.aF=true/\RV w w.heap.size aA [] z v:=by
      intro j z E;have hj:j<p.2.length:=by rw[hk.1];exact(dQ.1 E).1
      obtain⟨v,hv,fl⟩:=hr j _ (bZ hj);exact⟨v,hv,rJ t 0 y (by omega) j z E,fl.wk (hk.2 j _ z (bZ hj) E)⟩
     have hlen:us.size=(enc t 0 y).length:=hs.trans hk.1;obtain⟨b,vs⟩:=p;cases b with
     | true=>
      show RA _ _ _ _ (.agg ((enc t 0 y).map .v)) _
      refine⟨us,hu,by rw[eG];exact hlen,λj z E=>?_⟩
      rw[eF]at E;cases DR:(enc t 0 y)[j]? with
      |none=>rw[DR]at E;cases E
      | some z'=>
       rw[DR]at E;injection E with E;subst E;obtain⟨v,hv,g1,g2⟩:=jl j z' DR;exact⟨v,hv,g1,g2⟩
     | false=>
      have hu:us = #[ux]:=hu;subst hu;show RA _ _ _ _ (U9 T (.pt (false,enc t 0 y))) _
      match he:enc t 0 y,jl,hlen with
      | [z],jl,_=>
       obtain⟨v,hv,g1,g2⟩:=jl 0 z rfl;have:ux=v:=by simpa using hv
       rw[this];exact⟨g1,g2⟩
      |[],_,_=>trivial
      |_::_::_,_,hlen=>exact absurd hlen (by simp)
   ·cases L
 | .p t g off :: ps,x :: xs,O,k,C,h=>by
  unfold mX at C;split at C
  ·rename_i U rV D L;injection C with C;subst C;have D:=Bz D;cases U with
   |sl=>exact D.elim
   | aC r cs vs=>
    have D:aK σ x = .aJ r off/\By σ (.aC r cs vs):=D;unfold nY at h;split at h
    ·rename_i y Y;cases hg:Nat.beq (g % 2) 0 with
     |false=>rw[hg]at Y;cases Y
     | true=>
      rw[hg,au]at Y;obtain⟨ys,h3,h4,h5,h6⟩:=NL ps xs rV _ L h
      refine⟨(y,ys),h3,⟨⟨lV t g _ y Y,aos hg⟩,h4⟩,by simp[jO,HB 1 0,h5],λaj ρ a w aA ρ' Z hS T i hi cz=>⟨?_,?_⟩⟩
      ·have HC:=hi 0 _ rfl;rw[Nat.add_zero]at HC;have hx:=Z.aK x;rw[D.1]at hx;obtain⟨b,o,e1,e2⟩:=hx;show RA _ _ _ _ (match T[i]? with|some (.aC _)=>.aJ (nF i) off|some (.sl _)=>.lf (.own [nF i])|none=>.undef) _;rw[HC];have iB:=cz 0 _ rfl;rw[Nat.add_zero]at iB;exact⟨b,o,iB.trans e1,e2⟩
      ·refine h6 aj ρ a w aA ρ' Z hS T (i+1) (λj z E=>?_) (λj U jw=>?_)
       ·rw[show i+1+j=i+(j+1) by omega];exact hi _ z E
       ·rw[show i+1+j=i+(j+1) by omega];exact cz _ U jw
    ·cases h
  next rV D L=>exact(Bz D).elim
  ·cases C
 | .s t g :: ps,x :: xs,O,k,C,h=>by
  unfold mX at C;split at C
  ·rename_i U rV D L;injection C with C;subst C;have D:=Bz D;cases U with
   |aC=>exact D.elim
   | sl q y0=>
    have D:aK σ x = .lf (.own [q])/\By σ (.sl q y0):=D;unfold nY at h;split at h
    ·rename_i y Y;cases hg:Nat.beq (g % 2) 0 with
     |false=>rw[hg]at Y;cases Y
     | true=>
      rw[hg,au]at Y;obtain⟨ys,h3,h4,h5,h6⟩:=NL ps xs rV _ L h
      refine⟨(y,ys),h3,⟨⟨V.GF Y,?_⟩,h4⟩,by simp[jO,HB 1 0,h5],λaj ρ a w aA ρ' Z hS T i hi cz=>⟨?_,?_⟩⟩
      ·show Nat.beq ((g+2) % 2) 0=true;simp[*]
      ·have HC:=hi 0 _ rfl;rw[Nat.add_zero]at HC;have hx:=Z.aK x;rw[D.1]at hx;show RA _ _ _ _ (match T[i]? with|some (.aC _)=>.aJ (nF i) 0|some (.sl _)=>.lf (.own [nF i])|none=>.undef) _;rw[HC];have iB:=cz 0 _ rfl;rw[Nat.add_zero]at iB;refine⟨hx.1,?_⟩;have L:=hx.2;simp only[c8]at L ⊢;rw[iB];exact L
      ·refine h6 aj ρ a w aA ρ' Z hS T (i+1) (λj z E=>?_) (λj U jw=>?_)
       ·rw[show i+1+j=i+(j+1) by omega];exact hi _ z E
       ·rw[show i+1+j=i+(j+1) by omega];exact cz _ U jw
    ·cases h
  next rV D L=>exact(Bz D).elim
  ·cases C
 |[],_::_,O,k,C,h=>by cases C
 |_::_,[],O,k,C,h=>by cases C
end
def oS(c0:Nat):Nat->aa (V×ah Nat)->aa Nat
 |_,[]=>[]
 |n,(_,some q)::C=>q::oS c0 (n+1) C
 |n,(_,none)::C=>(c0+n)::oS c0 (n+1) C
def zq(c0:Nat):Nat->aa Mu->aa Nat
 |_,[]=>[]
 |pos,.aC r _ D::C=>r::(oS c0 (pos+1) D++zq c0 (pos+1+D.length) C)
 |pos,.sl q _::C=>q::zq c0 (pos+1) C
def BA:aa Nat->aa V->aa Nat
 |n::C,x::xs=>bif x.aF then BA C xs else n::BA C xs
 |_,_=>[]
def pQ(c0:Nat):Nat->aa Mu->aa In->aa Nat
 |pos,.aC _ _ D::C,.aC xs::outs=>BA (oS c0 (pos+1) D) xs++pQ c0 (pos+1+D.length) C outs
 |pos,.sl _ _::C,.sl _::outs=>pQ c0 (pos+1) C outs
 |_,_,_=>[]
def pR(ns cn:aa Nat):aa Nat->aa Lf->aa V->aa Lf
 |n::C,l::D,x::xs=>(bif x.plain then .v x else bif x.aF then l.eV ns cn else .own [n])::pR ns cn C D xs
 |_,_,_=>[]
def zu:aa Nat->aa V->aa (Nat×bg)
 |n::C,x::xs=>bif x.aF then zu C xs else (n,.sl x)::zu C xs
 |_,_=>[]
def nZ(ns cn:aa Nat)(c0:Nat):Nat->aa Mu->aa In->aa (Nat×bg)
 |pos,.aC r cs D::C,.aC xs::outs=>(r,.aC (pR ns cn (oS c0 (pos+1) D) cs xs))::(zu (oS c0 (pos+1) D) xs++nZ ns cn c0 (pos+1+D.length) C outs)
 |pos,.sl q _::C,.sl y::outs=>bif y.jK then (q,.sl y)::nZ ns cn c0 (pos+1) C outs else nZ ns cn c0 (pos+1) C outs
 |_,_,_=>[]
def NM:aa Nat->Bool
 |[]=>true
 |n::l=>!dG n l&&NM l
def ab7:In->Bool
 |.aC xs=>xs.all λx=>x.aF ||x.loc
 |.sl y=>y.loc
def iL:ah Tmp->Nat
 |some d=>1000000000100000+1000*d
 |none=>90000
def vp{X:Type}(N:Nat)(σ:S)(C:ah Tmp)(D:fR)(k:S->ah X):ah X:=
 match C with
 |none=>k σ
 |some d=>bif Nat.blt d N then nU σ d D k else none
def HD(N:Nat)(C:aa Mu)(outs:aa In)(cn:aa Nat):Bool:=
 NM cn&&(C.all λD=>!dG D.root cn)&&(cn.all λn=>Nat.blt n N ||Nat.ble 60000 n)&&outs.all ab7
def NN{X:Type}(N:Nat)(σ:S)(C:ah Tmp)(D:aa Mu)(ns cn:aa Nat)(E:fR)(outs:aa In)(k:S->ah X):ah X:=
 bif HD N D outs cn then vp N (σ.eV ns cn (nZ ns cn (iL C) E.len D outs)) C E k else none
def rW{X:Type}(N:Nat)(σ:S)(D:ah Tmp)(c:nW)(args:aa Operand)(k:S->ah X):ah X:=
 match mX σ c.ps args with
 | some C=>bif once (nX 0 C)&&Nat.ble C.length 40 then
   nY σ ((nX 0 C).map (·.1)) c.ps args C λx=>(match c.F x with
    |some y=>NN N σ D C ((nX 0 C).map (·.1)) (pQ (iL D) (fm c.ro y.1).len C (kR (fh c.ps) y.2)) (fm c.ro y.1) (kR (fh c.ps) y.2) k
    |none=>none)else none
 |none=>none
section
variable {P:Program} {w w':World} {w0:Wd} {B N:Nat} {aj dI aA:bG} {ρ eU ρ':Nat->Loc} {σ:S} {a:Act} {X:Type} {d:Nat} {r:X} {ns cn:aa Nat} {o:Oper} {rs:aa Nat} {eg:aa (Nat×Nat)}
def ab8{n:Nat}:∀ {l:aa (Nat×Nat)},dG n (l.map (·.1))=false -> l.lookup n=none
 |[],_=>rfl
 | p :: l,h=>by
  simp[List.map_cons,dG,Bool.or_eq_false_iff]at h;rw[List.lookup_cons];have:(n==p.1)=false:=by
   cases C:n==p.1 with
   |false=>rfl
   |true =>simp_all
  rw[this];exact ab8 h.2
def aou{b:Nat}{k:aa Nat}{n m:Nat}(h:aj b=some k)(C:k.getLast?=some n)(D:eg.lookup n=some m):ey aj eg id b=some (k.dropLast++[m]):=by
 simp[ey,h,C,D]
def aov(D:∀ b k,aj b=some k -> k≠[]):Bw (eg.map (·.1)) aj (ey aj eg id):=by
 refine⟨λb h=>zj h,λb k h=>⟨D b k h,λC=>?_⟩⟩
 simp[ey,h];cases E:k.getLast? with
 |none=>rfl
 | some n=>
  simp[gq,E]at C;simp[ab8 C]
def Vp{m:Nat -> ah bg}:∀ (cs:aa Lf) (C:aa (V×ah Nat)),tA m cs=some C -> C.length=cs.length /\ ∀ (j:Nat) l,cs[j]?=some l -> ∃ v,C[j]?=some v/\zp m l=some v
 |[],C,h=>by injection h with h;subst h;exact⟨rfl,λj l D=>by simp at D⟩
 | c :: cs,C,h=>by
  unfold tA at h;split at h
  ·rename_i v E O L;injection h with h;subst h;obtain⟨T,U⟩:=Vp cs E L
   grind
  ·cases h
def aow{l:Lf}{v:V}{E:ah Nat}(h:zp σ.m l=some (v,E))(Y:Rl w0 N aj ρ σ a w)(D:Bw ns aj aA){u:Value}(L:dU w w0.heap.size aj ρ l u):
  (E=none /\ ∀B' O,RV w B' aA O v u) \/ (∃q,E=some q/\v.aF=false/\RV w w0.heap.size aj [q] v u):=by
 unfold zp at h;split at h
 ·simp at h;obtain⟨rfl,rfl⟩:=h;exact .inl ⟨rfl,λB' O=>L.2.out D.none D.rest (.inl L.1)⟩
 ·rename_i q;split at h
  ·rename_i y Z;have T:=Y.root q _ Z;generalize C:bg.sl y=x at T;cases T with
   |aC=>cases C
   |mp=>cases C
   |gh=>cases C
   | sl v' y' cz hr=>
    injection C with C;subst C;have Hr:v'=u:=by
     have h2:=L.2;simp only[c8,cz]at h2;simp_all
    subst Hr;cases U:y.aF with
    | true=>
     rw[U,au]at h;obtain⟨rfl,rfl⟩:=h;exact .inl ⟨rfl,λB' O=>hr.out D.none D.rest (.inl U)⟩
    |false =>grind
  ·cases h
 ·cases h
def ab9{i:Nat}{v:V}{q:Nat}:∀ (D:aa (V×ah Nat)) (C j:Nat),D[j]?=some (v,some q) -> (q,60000+1000*i+(C+j))∈Hy i C D
 |[],C,j,h=>by simp at h
 | (L,E) :: D,C,j,h=>by
  cases j with
  | zero=>
   obtain⟨rfl,rfl⟩:=h;exact .head _
  | succ j=>
   have:=ab9 (i:=i) D (C+1) j (by simpa using h);rw[show C+1+j=C+(j+1) by omega]at this;cases E with
   |none=>exact this
   |some O=>exact .tail _ this
def Vq{i:Nat}:∀ (cs:aa V) (C:Nat),(zn i C cs).length=cs.length
 |[],_=>rfl
 |c::cs,C=>by simp[zn,Vq cs]
def RV.mP{q:aa Nat}{x:V}{u:Value}(h:RV w B aj q x u)(C:x.plain=false)(D:x.jK=true):mP u=true:=by
 cases h<;>first|rfl|cases C|cases D
def Wk.acd{x y:V}(h:Wk x y)(C:x.aF=false):y.aF=false:=by
 cases h with
 |same=>exact C
 |nil=>cases C
 |q=>exact C
 |gr t o D E l L O=>simp[V.aF];omega
def Vr(hR:Rl w0 N aj ρ σ a w)(hS:Bw ns aj (ey aj eg id)):∀ (L:aa Mu) (T:aa In) (i:Nat),(∀ p∈nX i L,eg.lookup p.1=some p.2) -> (∀ j E,L[j]?=some E -> rs[i+j]?=some E.root) -> (∀ E∈L,By σ E) -> HA L T -> i+L.length <= 40 ->
  oR w w.heap.size (ey aj eg id) (xh w ρ rs) i T
 |[],[],_,_,_,_,_,_=>trivial
 |[],_::_,_,_,_,_,h,_=>h.elim
 |.aC _ _ _::_,[],_,_,_,_,h,_=>h.elim
 |.sl _ _::_,[],_,_,_,_,h,_=>h.elim
 |.aC _ _ _::_,.sl _::_,_,_,_,_,h,_=>h.elim
 |.sl _ _::_,.aC _::_,_,_,_,_,h,_=>h.elim
 | .aC r cs vs :: L,.aC xs :: T,i,U,jv,jw,hrel,hi=>by
  obtain⟨hm,hg,hlen⟩:=jw _ (.head _);obtain⟨⟨hw,hx⟩,BB⟩:=hrel;obtain⟨g1,g2⟩:=Vp cs vs hg;have Y:=jv 0 _ rfl;rw[Nat.add_zero]at Y;simp only[List.length_cons]at hi;have mU:xs.length=cs.length:=by rw[<- hw.1,eG,g1]
  have eE:=hR.root r _ hm;generalize C:bg.aC cs=z at eE;cases eE with
  |sl=>cases C
  |mp=>cases C
  |gh=>cases C
  | aC b off cells e eA us cz hl hh hs hc=>
   injection C with C;subst C;have jl:∀ (j:Nat) x,xs[j]?=some x -> cells[off+j]?=some (us j)/\RV w w.heap.size (ey aj eg id) [nC i j x] x (us j)/\(x.plain=false -> xh w ρ rs (nC i j x) = .dX (us j)):=by
    intro j x O;have Bd:j<cs.length:=by rw[<- mU];exact(dQ.1 O).1
    obtain⟨v,hv,HE⟩:=g2 j _ (bZ Bd);obtain⟨c1,Z⟩:=hc j _ (bZ Bd);obtain⟨v,qo⟩:=v;have Vs:Wk v x:=hw.2 j v x (by rw[eF,hv];rfl) O;obtain⟨hx1,Ut⟩:=hx x (gN O)
    refine⟨c1,?_,λD=>?_⟩
    ·rcases aow HE hR hS Z with ⟨rfl,h1⟩ | ⟨q,rfl,hf,h1⟩
     ·exact(h1 _ _).wk Vs
     ·have Vh:=Vs.acd hf;have hq:=U _ (.tail _ (List.mem_append_left _ (ab9 vs 0 j hv)));rw[fk]at hq;have h2:=(RV.ey (nm:=id) (p:=[]) h1 hq).wk Vs;have e1:nC i j x=60000+1000*i+j:=by simp[nC,Vh]
      rw[e1];exact h2.reB Ut
    ·exact aon Y (by omega) (by omega) cz (by rw[cell_of_row w b _ cells _ _ hh];exact c1)
   refine⟨.aC b off cells e _ us ((Hz Y (by omega)).trans cz) ?_ hh (by rw[Vq,mU];exact hs) (λj z C=>?_),λj x O D=>?_,Vr hR hS L T (i+1) (λp D=>U p (.tail _ (List.mem_append_right _ D))) (λj E BE=>?_) (λE h=>jw E (.tail _ h)) BB (by omega)⟩
   ·exact aou hl rfl (U _ (.head _))
   ·have O:j<xs.length:=by rw[<- Vq (i:=i) xs 0];exact(dQ.1 C).1
    have Eb:=Vk (i:=i) xs 0 j _ (bZ O);rw[C]at Eb;injection Eb with Eb;subst Eb;rw[fk];obtain⟨c1,Z,c3⟩:=jl j _ (bZ O);refine⟨c1,?_⟩;cases D:(xs[j]).plain with
    | true=>
     have e1:zm i j xs[j] = .v xs[j]:=by simp[zm,D]
     rw[e1];exact⟨V.GR D,Z.sW D⟩
    | false=>
     have e1:zm i j xs[j] = .own [nC i j xs[j]]:=by simp[zm,D]
     rw[e1];exact⟨Z.mP D (hx _ (cV _)).1,by simp only[c8,c3 D]⟩
   ·obtain⟨c1,Z,c3⟩:=jl j x O;exact .sl _ x (c3 D) Z
   ·have:=jv (j+1) E (by simpa using BE);rw[show i+(j+1)=i+1+j by omega]at this;exact this
 | .sl q y :: L,.sl y' :: T,i,U,jv,jw,hrel,hi=>by
  obtain⟨hm,hf⟩:=jw _ (.head _);obtain⟨⟨hw,hx⟩,BB⟩:=hrel;have Y:=jv 0 _ rfl;rw[Nat.add_zero]at Y;simp only[List.length_cons]at hi;have eE:=hR.root q _ hm;generalize C:bg.sl y=z at eE;cases eE with
  |aC=>cases C
  |mp=>cases C
  |gh=>cases C
  | sl v y0 cz hr=>
   injection C with C;subst C
   refine⟨.sl v y' ((Hz Y (by omega)).trans cz) ?_,Vr hR hS L T (i+1) (λp D=>U p (.tail _ D)) (λj E BE=>?_) (λE h=>jw E (.tail _ h)) BB (by omega)⟩
   ·exact((RV.ey (p:=[]) hr (U _ (.head _))).wk hw).reB hx
   ·have:=jv (j+1) E (by simpa using BE);rw[show i+(j+1)=i+1+j by omega]at this;exact this
end
def Vt:Loc->Nat×Nat
 |.aC b off=>(b,off)
 |.dX _=>(0,0)
 |.bY _=>(0,0)
def zx(w:World)(b off:Nat):Nat->aa Nat->aa V->aa (Nat×Value)
 |j,n::C,x::xs=>bif x.aF then zx w b off (j+1) C xs else (n,(w.cell? ⟨b,off+j,none⟩).getD undef)::zx w b off (j+1) C xs
 |_,_,_=>[]
def rX(w:World)(ρ:Nat->Loc)(c0:Nat):Nat->aa Mu->aa In->aa (Nat×Value)
 |pos,.aC r _ D::C,.aC xs::outs=>zx w (Vt (ρ r)).1 (Vt (ρ r)).2 0 (oS c0 (pos+1) D) xs++rX w ρ c0 (pos+1+D.length) C outs
 |pos,.sl _ _::C,.sl _::outs=>rX w ρ c0 (pos+1) C outs
 |_,_,_=>[]
def ace(l:aa (Nat×Value))(ρ:Nat->Loc):Nat->Loc:=λn=>match l.lookup n with
 |some v=>.dX v
 |none=>ρ n
def Vu{w:World}{b off:Nat}:∀ (C:aa Nat) (xs:aa V) (j:Nat),(zx w b off j C xs).map (·.1)=BA C xs
 |[],[],_=>rfl
 |[],_::_,_=>rfl
 |_::_,[],_=>rfl
 | n :: C,x :: xs,j=>by
  simp[zx,BA];cases x.aF with
  |true=>exact Vu C xs _
  |false=>simp;rw[Vu]
def NO{w:World}{ρ:Nat -> Loc}{c0:Nat}:∀ (C:aa Mu) (outs:aa In) (D:Nat),(rX w ρ c0 D C outs).map (·.1)=pQ c0 D C outs
 | .aC r _ E :: C,.aC xs :: outs,D=>by
  simp[rX,pQ,List.map_append];rw[Vu,NO]
 | .sl _ _ :: C,.sl _ :: outs,D=>by
  simp only[rX,pQ];exact NO C outs _
 |[],_,_=>by simp[rX,pQ]
 |.aC _ _ _::_,[],_=>rfl
 |.sl _ _::_,[],_=>rfl
 |.aC _ _ _::_,.sl _::_,_=>rfl
 |.sl _ _::_,.aC _::_,_=>rfl
def acf{n:Nat}:∀ {l:aa (Nat×Value)},dG n (l.map (·.1))=false -> l.lookup n=none
 |[],_=>rfl
 | p :: l,h=>by
  simp[List.map_cons,dG,Bool.or_eq_false_iff]at h;rw[List.lookup_cons];cases C:n==p.1 with
  |false=>exact acf h.2
  |true =>simp_all
def acg:∀ {l:aa (Nat×Value)},NM (l.map (·.1))=true -> ∀ p∈l,l.lookup p.1=some p.2
 |[],_,p,hp=>by cases hp
 | q :: l,h,p,hp=>by
  simp[List.map_cons,NM,aN,hU]at h;rw[List.lookup_cons];rcases gW.1 hp with rfl|hp
  ·simp
  ·cases C:p.1==q.1 with
   |false=>exact acg h.2 p hp
   | true=>
    have e:p.1=q.1:=by simpa using C
    exact absurd (List.mem_map_of_mem (f:=(·.1)) hp) (by rw[e];exact ab5 h.1)
def HF{c0:Nat}:∀ (C:aa (V×ah Nat)) (n:Nat),(oS c0 n C).length=C.length
 |[],_=>rfl
 |(_,some _)::C,n=>by simp[oS,HF]
 |(_,none)::C,n=>by simp[oS,HF C]
def ach{ns cn:aa Nat}:∀ (D:aa Nat) (C:aa Lf) (xs:aa V),D.length=C.length -> xs.length=C.length -> (pR ns cn D C xs).length=C.length /\
  ∀(j:Nat) z,(pR ns cn D C xs)[j]?=some z -> ∃n l x,D[j]?=some n/\C[j]?=some l/\xs[j]?=some x/\z=(bif x.plain then .v x else bif x.aF then l.eV ns cn else .own [n])
 |[],[],[],_,_=>⟨rfl,λj z E=>by simp[pR]at E⟩
 | n :: D,l :: C,x :: xs,L,O=>by
  obtain⟨T,U⟩:=ach (ns:=ns) (cn:=cn) D C xs (by simpa using L) (by simpa using O)
  refine⟨by simp[pR,T],λj z E=>?_⟩
  cases j with
  |zero=>simp[pR,List.getElem?_cons_zero,iu]at E;exact⟨n,l,x,rfl,rfl,rfl,E.symm⟩
  |succ j=>exact U j z (by simpa [pR]using E)
def aci:∀ (C:aa Nat) (xs:aa V),∀ p∈zu C xs,∃ (j:Nat) (x:V),C[j]?=some p.1/\xs[j]?=some x/\x.aF=false/\p.2 = .sl x
 |[],[],p,hp=>by cases hp
 |[],_::_,p,hp=>by cases hp
 | n :: C,x :: xs,p,hp=>by
  simp[zu]at hp;have rest:p∈zu C xs -> ∃ (j:Nat) (y:V),(n :: C)[j]?=some p.1/\(x :: xs)[j]?=some y/\y.aF=false/\p.2 = .sl y:=λhp=>by
   obtain⟨j,y,E,L,O,T⟩:=aci C xs p hp;exact⟨j+1,y,by simpa using E,by simpa using L,O,T⟩
  cases D:x.aF with
  |true=>grind
  | false=>
   rw[D]at hp;rcases gW.1 hp with rfl|hp
   ·exact⟨0,x,rfl,rfl,D,rfl⟩
   ·grind
def acj{w:World}{b off n:Nat}{x:V}:∀ (D:aa Nat) (xs:aa V) (C j:Nat),D[j]?=some n -> xs[j]?=some x -> x.aF=false -> (n,(w.cell? ⟨b,off+(C+j),none⟩).getD undef)∈zx w b off C D xs
 |[],_,_,j,h,_,_=>by simp at h
 | m :: D,y :: xs,C,j,E,L,O=>by
  cases j with
  | zero=>
   simp at E L;subst E L;simp only[zx,O];simp_all
  | succ j=>
   have:=acj (w:=w) (b:=b) (off:=off) D xs (C+1) j (by simpa using E) (by simpa using L) O;rw[show C+1+j=C+(j+1) by omega]at this;simp[zx]
   grind
section
variable {P:Program} {w w':World} {w0:Wd} {B N:Nat} {aj dI aA:bG} {ρ eU ρ':Nat->Loc} {σ:S} {a:Act} {X:Type} {d:Nat} {r:X} {ns cn:aa Nat} {o:Oper} {rs:aa Nat} {eg:aa (Nat×Nat)} {nm NP:Nat->Nat} {c0:Nat}
def ju.zi{nm:Nat -> Nat}:∀ (ps:aa Pt) (off:Nat) (C:aa Value) {B':Nat},ju w B aj nm off ps C -> B' <= B -> (∀ b,B <= b -> aA b=aj b) -> (∀ b k,aj b=some k -> aA b=some k) -> (∀ n,off <= n -> n<off+(ps.map λp=>p.2.length).sum -> nm n=NP n) -> ju w B' aA NP off ps C
 |[],_,[],_,h,_,_,_,_=>h
 | p :: ps,off,v :: C,B',h,hB,L,O,D=>by
  obtain⟨⟨T,us,Y,Z,hr⟩,vj⟩:=h;simp only[List.map_cons,List.sum_cons]at D
  refine⟨⟨T,us,Y,Z,λj x E=>?_⟩,ju.zi ps _ C vj hB L O (λn h1 h2=>D n (by omega) (by omega))⟩
  obtain⟨U,sV,fl⟩:=hr j x E;have hj:j<p.2.length:=(dQ.1 E).1;refine⟨U,sV,?_⟩;show RV w B' aA [NP (off+j)] x U;rw[<- D (off+j) (by omega) (by omega)];exact fl.zi hB L O (cw.1 T x (gN E))
def Vv(hR:Rl w0 N aj ρ σ a w)(hv:tv w w' aj dI ρ eU ns cn)(kP:∀ b k,aA b=some k -> dI b=some k)(oD:∀ b,w.heap.size <= b -> dI b=aA b)(hB:w0.heap.size <= w.heap.size):
  ∀(E:aa Mu) (ins outs:aa In) (i C:Nat),(∀j D,E[j]?=some D -> rs[i+j]?=some D.root) -> (∀D∈E,By σ D) -> HA E ins -> i+E.length <= 40 -> Ht w w' aA (xh w ρ rs) nm i C ins outs ->
  (∀k n,(zq c0 C E)[k]?=some n -> nm (C+k)=n) -> (∀p∈rX w' ρ c0 C E outs,eU p.1 = .dX p.2) -> (∀D∈E,dG D.root cn=false) -> outs.all ab7=true -> ∀p∈nZ ns cn c0 C E outs,dY w' w0.heap.size dI eU p.1 p.2
 |[],[],[],_,_,_,_,_,_,_,_,_,_,_,p,hp=>by simp[nZ]at hp
 |[],[],_::_,_,_,_,_,_,_,h,_,_,_,_,_,_=>h.elim
 |[],_::_,_,_,_,_,_,h,_,_,_,_,_,_,_,_=>h.elim
 |.aC _ _ _::_,[],_,_,_,_,_,h,_,_,_,_,_,_,_,_=>h.elim
 |.sl _ _::_,[],_,_,_,_,_,h,_,_,_,_,_,_,_,_=>h.elim
 |.aC _ _ _::_,.sl _::_,_,_,_,_,_,h,_,_,_,_,_,_,_,_=>h.elim
 |.sl _ _::_,.aC _::_,_,_,_,_,_,h,_,_,_,_,_,_,_,_=>h.elim
 |.aC _ _ _::_,.aC _::_,[],_,_,_,_,_,_,h,_,_,_,_,_,_=>h.elim
 |.sl _ _::_,.sl _::_,[],_,_,_,_,_,_,h,_,_,_,_,_,_=>h.elim
 |.aC _ _ _::_,.aC _::_,.sl _::_,_,_,_,_,_,_,h,_,_,_,_,_,_=>h.elim
 |.sl _ _::_,.sl _::_,.aC _::_,_,_,_,_,_,_,h,_,_,_,_,_,_=>h.elim
 | .aC r cs L :: E,.aC xs0 :: ins,.aC xs :: outs,i,C,jv,jw,hrel,hi,hO,oT,BF,oM,Y,p,hp=>by
  obtain⟨hm,hg,hlen⟩:=jw _ (.head _);obtain⟨⟨hw,hx⟩,BB⟩:=hrel;obtain⟨g1,g2⟩:=Vp cs L hg;have nQ:=jv 0 _ rfl;rw[Nat.add_zero]at nQ;simp only[List.length_cons]at hi;have Vw:xs0.length=cs.length:=by rw[<- hw.1,eG,g1]
  obtain⟨⟨b,off,cells,xd,e,e',Z,h2,h3,h4,h5,h6,h7⟩,Vx⟩:=hO;have eE:=hR.root r _ hm;generalize hz:bg.aC cs=z at eE;cases eE with
  |sl=>cases hz
  |mp=>cases hz
  |gh=>cases hz
  | aC b0 U ack e0 eA us cz hl hh hs hc=>
   injection hz with hz;subst hz;rw[Hz nQ (by omega)]at Z;have Z:ρ r = .aC b off:=Z;rw[cz]at Z;injection Z with e1 e2;subst e1 e2;have aox:ack=cells:=by
    rw[hh]at h2;injection h2 with h2;injection h2
   subst aox;have iB:=oM _ (.head _);have Ec:eU r = .aC b0 U:=(hv.eT r iB).trans cz;have s7:nm C=r:=by have:=oT 0 r rfl;rwa [Nat.add_zero]at this
   have aoy:∀ (j:Nat) n,(oS c0 (C+1) L)[j]?=some n -> nm (C+1+j)=n:=by
    intro j n hn;have hj:j<(oS c0 (C+1) L).length:=(dQ.1 hn).1;have:=oT (j+1) n (by simp only[zq,List.getElem?_cons_succ];rw[List.getElem?_append_left hj];exact hn);rw[show C+1+j=C+(j+1) by omega];exact this
   have jl:∀ (j:Nat) x,xs[j]?=some x -> ∃ u,xd[U+j]?=some u/\w'.cell? ⟨b0,U+j,none⟩=some u/\((x.plain=true /\ ∀ (w:World) (B:Nat) (aj:bG) (q:aa Nat),RV w B aj q x u) \/ (x.plain=false/\x.aF=true/\ack[U+j]?=some u) \/ (x.aF=false/\RV w' w.heap.size aA [nm (C+1+j)] x u)):=by
    intro j x hj;obtain⟨u,hu,hd⟩:=h7 j x hj;exact⟨u,hu,by rw[cell_of_row w' b0 _ xd _ _ h3];exact hu,hd⟩
   have yW:∀ (j:Nat) n x u,(oS c0 (C+1) L)[j]?=some n -> xs[j]?=some x -> x.aF=false -> w'.cell? ⟨b0,U+j,none⟩=some u -> eU n = .dX u:=by
    intro j n x u hn hxj hf hu;have zl:=acj (w:=w') (b:=b0) (off:=U) _ xs 0 j hn hxj hf;rw[fk,hu]at zl;exact BF (n,u) (by simp only[rX,cz,Vt];exact List.mem_append_left _ zl)
   simp only[nZ]at hp;rcases gW.1 hp with rfl|hp
   ·obtain⟨k1,k2⟩:=ach (ns:=ns) (cn:=cn) (oS c0 (C+1) L) cs xs (by rw[HF,g1]) (by rw[h6,Vw])
    refine .aC b0 U xd e' _ (λj=>xd.getD (U+j) undef) Ec (kP _ _ (by rw[h4,s7])) h3 (by show U+(pR _ _ _ _ _).length <= _;rw[k1,<- Vw,<- h6];exact h5) (λj z hz=>?_)
    obtain⟨n,l,x,n1,n2,n3,rfl⟩:=k2 j z hz;obtain⟨u,hu,Vy,hd⟩:=jl j x n3;have eu:xd.getD (U+j) undef=u:=by rw[ir,hu];rfl
    rw[eu];refine⟨hu,?_⟩;rcases hd with ⟨O,T⟩|⟨O,T,d3⟩|⟨O,T⟩
    ·rw[O,au];exact⟨V.GR O,T _ _ _ _⟩
    ·rw[O,T,aq,au];obtain⟨c1,c2⟩:=hc j l n2;rw[c1]at d3;injection d3 with d3;rw[<- d3];exact c2.tw hv
    ·have zk:x.plain=false:=by
      cases zk:x.plain with
      |false=>rfl
      |true=>rw[V.GR zk]at O;cases O
     rw[zk,O,aq,aq];exact⟨T.Uh O,by simp only[c8,yW j n x u n1 n3 O Vy]⟩
   ·rcases List.mem_append.1 hp with hp | hp
    ·obtain⟨j,x,n1,n2,n3,n4⟩:=aci _ _ p hp;obtain⟨u,hu,Vy,hd⟩:=jl j x n2;rw[n4];refine .sl u x (yW j p.1 x u n1 n2 n3 Vy) ?_;rcases hd with ⟨O,T⟩ | ⟨O,T,d3⟩ | ⟨O,T⟩
     ·simp[*]
     ·rw[n3]at T;cases T
     ·rw[aoy j _ n1]at T;refine T.zi hB oD kP ?_;rw[List.all_cons,aN]at Y;have:=cw.1 Y.1 x (gN n2)
      rwa [n3,Bool.false_or]at this
    ·rw[List.all_cons,aN]at Y
     refine Vv hR hv kP oD hB E ins outs (i+1) (C+1+L.length) (λj D BE=>?_) (λD h=>jw D (.tail _ h)) BB (by omega) ?_ (λk n hn=>?_) (λp hp=>BF p ?_) (λD h=>oM D (.tail _ h)) Y.2 p hp
     ·have:=jv (j+1) D (by simpa using BE);rw[show i+(j+1)=i+1+j by omega]at this;exact this
     ·rw[g1,<- Vw];exact Vx
     ·have:=oT (1+L.length+k) n (by
       rw[show 1+L.length+k=(L.length+k)+1 by omega];simp only[zq,List.getElem?_cons_succ];rw[List.getElem?_append_right (by rw[HF];omega),HF];rw[show L.length+k-L.length=k by omega];exact hn)
      rw[show C+1+L.length+k=C+(1+L.length+k) by omega];exact this
     ·simp only[rX];exact List.mem_append_right _ hp
 | .sl q y0 :: E,.sl y1 :: ins,.sl y :: outs,i,C,jv,jw,hrel,hi,hO,oT,BF,oM,Y,p,hp=>by
  obtain⟨hm,hf⟩:=jw _ (.head _);obtain⟨_,BB⟩:=hrel;have nQ:=jv 0 _ rfl;rw[Nat.add_zero]at nQ;simp only[List.length_cons]at hi;obtain⟨hO1,Vx⟩:=hO;rw[List.all_cons,aN]at Y;have s7:nm C=q:=by have:=oT 0 q rfl;rwa [Nat.add_zero]at this
  have hp:(p=(q,.sl y)/\y.jK=true) \/ p∈nZ ns cn c0 (C+1) E outs:=by
   simp only[nZ]at hp;cases hy:y.jK with
   |false=>rw[hy]at hp;exact .inr hp
   | true=>
    rw[hy]at hp;rcases gW.1 hp with h|h
    ·grind
    ·simp[*]
  rcases hp with ⟨rfl,hy⟩|hp
  ·obtain⟨v,Z,h2⟩:=hO1.resolve_left (by rintro rfl;cases hy);rw[Hz nQ (by omega)]at Z;rw[s7]at h2;exact .sl v y ((hv.eT q (oM _ (.head _))).trans Z) (h2.zi hB oD kP Y.1)
  ·refine Vv hR hv kP oD hB E ins outs (i+1) (C+1) (λj D BE=>?_) (λD h=>jw D (.tail _ h)) BB (by omega) Vx (λk n hn=>?_) (λp hp=>BF p hp) (λD h=>oM D (.tail _ h)) Y.2 p hp
   ·have:=jv (j+1) D (by simpa using BE);rw[show i+(j+1)=i+1+j by omega]at this;exact this
   ·have:=oT (k+1) n (by simpa [zq]using hn);rw[show C+1+k=C+(k+1) by omega];exact this
end
section
variable {P:Program} {w w':World} {w0:Wd} {B N:Nat} {aj dI aA:bG} {ρ eU ρ':Nat->Loc} {σ:S} {a:Act} {X:Type} {d:Nat} {r:X} {ns cn:aa Nat} {o:Oper} {rs:aa Nat} {eg:aa (Nat×Nat)} {nm NP:Nat->Nat} {c0:Nat}
def aoz{C:ah Tmp}{E:fR}{k:S -> ah X}(h:vp N σ C E k=some r):∃ cS,k cS=some r /\ ∀ aj ρ a w v,Rl w0 N aj ρ σ a w -> pO w w0.heap.size aj (λn=>iL C+n) E v -> ∃ ρ',Rl w0 N aj ρ' cS (a.put C v) w /\ ∀ r,r<iL C -> ρ' r=ρ r:=by
 unfold vp at h;cases C with
 |none=>exact⟨σ,h,λaj ρ a w v D _=>⟨ρ,D,λ_ _=>rfl⟩⟩
 | some d=>
  have h:(bif Nat.blt d N then (match E with
   | .one p=>(match yR (p.1,nT (1000000000100000+1000*d) p.2)with
    |some y=>k ((lY _ σ p.2).set d y)
    |none=>none)
   |.eS ps=>k ((oP _ σ ps).set d _))else none)=some r:=h
  cases O:Nat.blt d N with
  |false=>rw[O]at h;cases h
  | true=>
   rw[O,au]at h;have Bp:d<N:=cQ O;cases E with
   | one p=>
    simp only at h;split at h
    ·rename_i y hy
     refine⟨_,h,λaj ρ a w v D T=>?_⟩
     obtain⟨ρ',U,Y,_,Z⟩:=Ho [p] (1000000000100000+1000*d) 0 σ ρ [v] (by omega) D T;have U4:=Z 0 _ v rfl rfl;exact⟨ρ',U.set (Uw hy U4) Bp,Y⟩
    ·cases h
   | eS w8=>
    refine⟨_,h,λaj ρ a w v D T=>?_⟩
    obtain⟨L,rfl,hv⟩:=T;obtain⟨ρ',U,Y,hlen,Z⟩:=Ho w8 (1000000000100000+1000*d) 0 σ ρ L.toList (by omega) D hv
    refine⟨ρ',U.set ⟨L,rfl,by simpa using hlen,λj p hp=>?_⟩ Bp,Y⟩
    have hj:j<L.size:=by
     have:=(dQ.1 hp).1
     grind
    exact⟨L[j],Array.getElem?_eq_getElem hj,Z j p _ hp (by rw[Array.getElem?_toList,Array.getElem?_eq_getElem hj])⟩
def Vz{f:Nat}{args:Array Operand}{kQ:Array TypeId}{c:nW}{k:S -> ah X}(ho:o.op = .call { callee:=.value (.func f),args,argTypes:=kQ })(he:enters P f)(hc:tu P f c)(h:rW N σ o.dst c args.toList k=some r):∃ cS D cn,k cS=some r/\mX σ c.ps args.toList=some D/\(∀ n,dG n cn=true -> n<N \/ 60000 <= n)/\(∀ Y∈D,dG Y.root cn=false) /\
  ∀a w K Q aj ρ,Rl w0 N aj ρ σ a w -> (∀v w' dI eU rY,Rl w0 N dI rY cS (a.put o.dst v) w' -> tv w w' aj dI ρ eU ((nX 0 D).map (·.1)) cn -> ja w0 w w' -> (∀r,r<iL o.dst -> rY r=eU r) -> K (a.put o.dst v) w') -> o.wp P a w K Q:=by
 unfold rW at h;split at h
 ·rename_i D zy;generalize acm:nX 0 D=eg at h;cases mb:(once eg&&Nat.ble D.length 40)with
  |false=>rw[mb]at h;cases h
  | true=>
   rw[mb,au]at h;rw[aN]at mb;have aG5:=cQ mb.2;have tj:∀ p∈nX 0 D,eg.lookup p.1=some p.2:=by
    intro p hp;rw[acm]at hp;have:=cw.1 mb.1 p hp;obtain⟨n,Z,he⟩:=(Option.any_eq_true _ _).1 this;simp_all
   obtain⟨x,h2,hrel,aG6,lE⟩:=NL (w0:=w0) (N:=N) _ _ D _ zy h;clear h;split at h2
   ·rename_i y hy;unfold NN at h2;generalize oM:pQ (iL o.dst) (fm c.ro y.1).len D (kR (fh c.ps) y.2)=cn at h2;generalize GO:eg.map (·.1)=ns at h2 lE;cases fo:HD N D (kR (fh c.ps) y.2) cn with
    |false=>rw[fo]at h2;cases h2
    | true=>
     rw[fo,au]at h2;simp only[HD,aN]at fo;obtain⟨⟨⟨ok1,ok2⟩,ok3⟩,ok4⟩:=fo;obtain⟨cS,h3,BG⟩:=aoz (w0:=w0) h2
     refine⟨cS,D,cn,h3,zy,λn Z=>?_,λY jw=>by simpa using cw.1 ok2 Y jw,λa w K Q aj ρ T hK=>?_⟩
     ·have:=cw.1 ok3 n (xe.1 Z);rw[eB]at this;rcases this with h | h
      ·exact .inl (by have:=cQ h;omega)
      ·exact .inr (cQ h)
     have hS:Bw ns aj (ey aj eg id):=by rw[<- GO];exact aov (λb k C=>(T.dg b k C).2.2)
     have acn:=NK _ _ _ zy;let rs:=D.map Mu.root
     have jv:∀ j Y,D[j]?=some Y -> rs[0+j]?=some Y.root:=by
      intro j Y hj;rw[fk,eF,hj];rfl
     have hE:=Vr (rs:=rs) T hS D (mW c.ps x) 0 tj jv acn hrel (by omega);have hA:=lE aj ρ a w (ey aj eg id) (xh w ρ rs) T hS (mW c.ps x) 0 (λj z hz=>by rw[fk];exact hz) (λj Y hj=>by
      have h1:=jv j Y hj;rw[fk]at h1 ⊢;exact Hz h1 (by have:=(dQ.1 hj).1;omega))
     obtain⟨hA1,UJ⟩:=Ea.get _ _ hA;let nm:Nat -> Nat:=λn=>if n<(fm c.ro y.1).len then iL o.dst+n else (zq (iL o.dst) (fm c.ro y.1).len D).getD (n-(fm c.ro y.1).len) 0
     have qJ:∀ (ps:aa PK) (i:Nat) (x:lZ ps),(jO ps i x).length=ps.length:=by
      intro ps
      induction ps with
      |nil=>intro i x;rfl
      | cons p ps ih=>
       intro i x;cases p with
       |v=>exact aY (· + 1) (ih _ _)
       |p=>exact aY (· + 1) (ih _ _)
       |s=>exact aY (· + 1) (ih _ _)
     unfold Oper.wp;rw[U2 w o a f args kQ ho he,Oper.upon_enter];have Bq:(args.map a.eval)=(args.toList.map a.eval).toArray:=by apply Array.ext';rw[Array.toList_map]
     rw[Bq];have NQ:∀ b k,ey aj eg id b=some k -> (∃ U,aj b=some U/\gq U ns=true)/\k≠[]:=by
      intro b k C;cases E:aj b with
      |none=>rw[hS.none b E]at C;cases C
      | some U=>
       refine⟨⟨U,rfl,?_⟩,?_⟩
       ·cases hq:gq U ns with
        |true=>rfl
        |false=>rw[(hS.rest b U E).2 hq]at C;cases C
       ·simp only[ey,E]at C;split at C
        ·cases C
        ·cases aco:eg.lookup _ with
         |none=>rw[aco]at C;cases C
         |some n=>rw[aco]at C;injection C with C;subst C;simp
     have hQ:Hd w (ey aj eg id):=w0.on T.below (λb k C=>by obtain⟨⟨U,E,_⟩,_⟩:=NQ b k C;exact(T.dg b U E).1)
     refine(hc x y hy nm w (ey aj eg id) (xh w ρ rs) _ hE (λb k C=>⟨?_,(NQ b k C).2⟩) ?_ UJ hQ).mono λe w' tf=>?_
     ·obtain⟨⟨U,E,_⟩,_⟩:=NQ b k C;exact(T.dg b U E).2.1
     ·rw[List.size_toArray,hA1,qJ]
     ·obtain⟨v,O,rfl,kz,Ed,lF,VA⟩:=tf;have hB:=T.below.size;let dI:bG:=λb=>match ey aj eg id b with
       |none=>if b<w.heap.size then aj b else O b
       |some _=>O b
      have e1:∀ b k,O b=some k -> dI b=some k:=by
       intro b k C;show (match ey aj eg id b with|none=>if b<w.heap.size then aj b else O b|some _=>O b)=some k;split
       next iB=>have:=(Ed b k C).1;have oD:=this.resolve_right (λh=>h iB);rw[bX];exact C
       ·exact C
      have e2:∀ b,w.heap.size <= b -> dI b=O b:=by
       intro b C;show (match ey aj eg id b with|none=>if b<w.heap.size then aj b else O b|some _=>O b)=O b;split
       ·rw[bX]
       ·rfl
      have acp:∀ p∈rX w' ρ (iL o.dst) (fm c.ro y.1).len D (kR (fh c.ps) y.2),(rX w' ρ (iL o.dst) (fm c.ro y.1).len D (kR (fh c.ps) y.2)).lookup p.1=some p.2:=
       acg (by rw[NO,oM];exact ok1)
      generalize BF:rX w' ρ (iL o.dst) (fm c.ro y.1).len D (kR (fh c.ps) y.2)=hd at acp;have aoA:hd.map (·.1)=cn:=by rw[<- BF,NO,oM]
      have hv:tv w w' aj dI ρ (ace hd ρ) ns cn:=by
       refine⟨kz.size,λb C hk=>?_,λn Z=>?_,λb k C=>(T.dg b k C).2⟩
       ·have iB:ey aj eg id b=none:=by
         cases E:aj b with
         |none=>exact hS.none b E
         |some k=>exact(hS.rest b k E).2 (hk k E)
        refine⟨kz.block b C iB,?_⟩;show (match ey aj eg id b with|none=>if b<w.heap.size then aj b else O b|some _=>O b)=aj b;rw[iB];exact bL C
       ·show (match hd.lookup n with|some v=>Loc.dX v|none=>ρ n)=ρ n;rw[acf (by rw[aoA];exact Z)]
      have HG:∀Y∈D,dG Y.root cn=false:=λY jw=>by simpa using cw.1 ok2 Y jw
      have hnr:=Vv (c0:=iL o.dst) (nm:=nm) T hv e1 e2 hB D (mW c.ps x) (kR (fh c.ps) y.2) 0 (fm c.ro y.1).len jv acn hrel (by omega) VA (λk n Z=>?_) (λp hp=>?_) HG ok4
      ·have acq:ja w0 w w':=by
        refine⟨kz.os,kz.tape,kz.output,kz.size,λk hk hL=>kz.block k (Nat.lt_of_lt_of_le hk hB) ?_⟩
        cases E:aj k with
        |none=>exact hS.none k E
        |some U=>exact absurd hL ((T.dg k U E).1.resolve_left (by omega))
       have oQ:Rl w0 N dI (ace hd ρ) (σ.eV ns cn (nZ ns cn (iL o.dst) (fm c.ro y.1).len D (kR (fh c.ps) y.2))) a w':=by
        refine T.tw hv acq (λb k C=>?_) (λn Z=>?_) (λn z hz=>?_)
        ·have C:(match ey aj eg id b with | none=>if b<w.heap.size then aj b else O b | some _=>O b)=some k:=C;have acr:O b=some k -> (w0.heap.size <= b \/ w0.L b≠none)/\b<w'.heap.size/\k≠[]:=by
          intro h1;obtain⟨g1,g2,g3⟩:=Ed b k h1;refine⟨?_,g2,g3⟩;rcases g1 with g1|g1
          ·exact .inl (Nat.le_trans hB g1)
          ·cases iB:ey aj eg id b with
           |none=>exact absurd iB g1
           | some k2=>
            obtain⟨⟨U,E,_⟩,_⟩:=NQ b k2 iB;exact(T.dg b U E).1
         split at C
         ·split at C
          ·have:=T.dg b k C;exact⟨this.1,Nat.lt_of_lt_of_le this.2.1 kz.size,this.2.2⟩
          ·exact acr C
         ·exact acr C
        ·have:=cw.1 ok3 n (xe.1 Z);rw[eB]at this;refine T.dz n ?_;rcases this with h | h
         ·exact .inl (by have:=cQ h;omega)
         ·exact .inr (cQ h)
        ·have zl:(n,z)∈nZ ns cn (iL o.dst) (fm c.ro y.1).len D (kR (fh c.ps) y.2):=by
          clear hnr;generalize nZ ns cn (iL o.dst) (fm c.ro y.1).len D (kR (fh c.ps) y.2)=l at hz
          induction l with
          |nil=>cases hz
          | cons p l ih=>
           rw[List.lookup_cons]at hz;cases C:n==p.1 with
           | true=>
            rw[C]at hz;have e:n=p.1:=by simpa using C
            injection hz with hz;rw[e,<- hz]
            grind
           | false=>
            rw[C]at hz;exact .tail _ (ih hz)
         exact hnr (n,z) zl
       have aoB:pO w' w0.heap.size dI (λn=>iL o.dst+n) (fm c.ro y.1) v:=?_
       ·obtain⟨rY,HH,xj⟩:=BG dI _ a w' v oQ aoB;exact hK v w' dI _ rY HH (by rw[acm,GO];exact hv) acq xj
       have VB:∀(L:Nat),L=(fm c.ro y.1).len -> ∀n,n<L -> nm n=iL o.dst+n:=λL hL n Z=>bL
       generalize aG7:fm c.ro y.1=res at lF VB;cases res with
       | one p=>
        have lF:ju w' w.heap.size O nm 0 [p] [v]:=lF;exact ju.zi [p] 0 [v] lF hB e2 e1 (λn _ Z=>VB _ rfl n (by simpa [fR.len]using Z))
       | eS w8=>
        obtain⟨vs,e,jM⟩:=lF;exact⟨vs,e,ju.zi w8 0 vs.toList jM hB e2 e1 (λn _ Z=>VB _ rfl n (by simpa [fR.len]using Z))⟩
      ·show (if (fm c.ro y.1).len+k<(fm c.ro y.1).len then iL o.dst+((fm c.ro y.1).len+k)else (zq _ (fm c.ro y.1).len D).getD ((fm c.ro y.1).len+k-(fm c.ro y.1).len) 0)=n;rw[bX,show (fm c.ro y.1).len+k-(fm c.ro y.1).len=k by omega,eY,Z];rfl
      ·rw[BF]at hp;show (match hd.lookup p.1 with|some v=>Loc.dX v|none=>ρ p.1) = .dX p.2;rw[acp p hp]
   ·cases h2
 ·cases h
def aoC{f:Nat}{args:Array Operand}{E:Array TypeId}{c:nW}{k:S -> ah X}(L:o.op = .call { callee:=.value (.func f),args,argTypes:=E })(O:enters P f)(T:tu P f c)(h:rW N σ o.dst c args.toList k=some r):∃ C,k C=some r/\lA P w0 N o σ C:=by
 obtain⟨C,VC,cn,U,_,_,_,Y⟩:=Vz L O T h
 refine⟨C,U,λa w K Q D Z=>?_⟩
 obtain⟨aj,ρ,D⟩:=D;exact Y a w K Q aj ρ D λv w' dI eU rY dD _ _ _=>Z _ _ ⟨dI,rY,dD⟩
end
end Go.Proofs.YtnilicojgkhpnaaGreat
