/-
  Running the program over pure contents, and that it follows (part 2). Nothing here is a claim.
-/
import Derived.Laws.StructEq
import Derived.Test.YtnilicojgkhpnaaGreatV1
set_option linter.unusedSimpArgs false
namespace Go.Proofs.YtnilicojgkhpnaaGreat
set_option linter.defProp false
open Go.RowKit
set_option linter.unusedVariables false
def aG7{X:Type}(N:Nat)(σ:S)(C:ah Tmp)(c x y:A)(k:S->ah X):ah X:=
 match c with
 |.lf (.v (.bool b))=>bif b then gZ N σ C x k else gZ N σ C y k
 |_=>none
def Hf{X:Type}(P:Program)(s:TypeId)(x:A)(f:Nat)(k:A->ah X):ah X:=
 match GV P s f,x with
 | some C,.agg cs=>(match jj P C.type,DS P C.type with
  |some n,some true=>if C.offset+n<=cs.length then k (.agg ((cs.drop C.offset).take n))else none
  | some _,some false=>(match cs[C.offset]? with
   |some y=>k (.lf y)
   |none=>none)
  |_,_=>none)
 |_,_=>none
def D3{X:Type}(C:Bool)(x y:A)(k:A->ah X):ah X:=
 match x,y with
 |.lf (.v (.int D a)),.lf (.v (.int _ b))=>k (.lf (.v (.int D (bif C then (if b > a then b else a)else (if b<a then b else a)))))
 |_,_=>none
def Hg{X:Type}(P:Program)(t:TypeId)(x i:A)(k:A->ah X):ah X:=
 match x,i with
 | .lf (.v (.str s)),.lf (.v (.int _ iv))=>(match P.underlying t with
  |some .string=>if h:0<=iv/\iv.toNat<s.size then k (.lf (.v (.int .u8 ((s[iv.toNat]'h.2).toNat:Int))))else none
  |_=>none)
 |_,_=>none
def s7{X:Type}(x:ah A)(d:Int)(k:Int->ah X):ah X:=
 match x with
 |none=>k d
 |some (.lf (.v (.int _ n)))=>k n
 |_=>none
def wZ{X:Type}(P:Program)(t:TypeId)(x:A)(lo hi:ah A)(k:A->ah X):ah X:=
 match x with
 | .lf (.v (.str s))=>(match P.underlying t with
  |some .string=>s7 lo 0 λl=>s7 hi (s.size:Int) λh=>if 0<=l/\l<=h/\h<=(s.size:Int)then k (.lf (.v (.str (s.extract l.toNat h.toNat))))else none
  |_=>none)
 | .lf (.v (.sl C g D l))=>(match pJ P t with
  | some e=>(match jj P e with
   |some n=>if n=aD C then (bif Nat.blt g 2 then s7 lo 0 λa=>s7 hi (l.length:Int) λb=>if 0<=a/\a<=b/\b<=(l.length:Int)then k (.lf (.v (.sl C g false ((l.take b.toNat).drop a.toNat))))else none else none)else none
   |none=>none)
  |none=>none)
 |_=>none
def D4(P:Program)(C D:TypeId):Bool:=
 match P.underlying C,P.underlying D with
 | some (.slice e),some .string=>(match P.underlying e with
  |some (.int .u8)=>true
  |_=>false)
 |_,_=>false
def NF{X:Type}(P:Program)(C D:TypeId)(z:V)(k:A->ah X):ah X:=
 match z with
 |.sl .u8 _ _ l=>bif D4 P C D then k (.lf (.v (.str (strOfNums l))))else none
 |.nil=>bif D4 P C D then k (.lf (.v (.str (strOfNums []))))else none
 |_=>none
def za{X:Type}(P:Program)(σ:S)(C D:TypeId)(x:A)(k:A->ah X):ah X:=
 match x with
 | .lf (.v (.int _ n))=>(match P.underlying C,P.underlying D with
  |some _,some (.int E)=>k (.lf (.v (.int E (E.wrap n))))
  |_,_=>none)
 |.lf y=>oF σ y λz=>NF P C D z k
 |_=>none
section
variable {P:Program} {w w':World} {w0:Wd} {B N:Nat} {aj aA:bG} {ρ ρ':Nat->Loc} {σ:S} {a:Act} {X:Type} {d:Nat} {r:X} {o:Oper}
def aG8{α:Type}(f:α -> aa Value)(s:Nat)(C:∀ x,(f x).length=s)(l:aa α):(l.flatMap f).length=l.length*s:=by
 induction l with
 |nil=>simp
 |cons a l D=>grind
def an2{α:Type}(f:α -> aa Value)(s:Nat)(D:∀ x,(f x).length=s):∀ (l:aa α) (k:Nat) (C:k<l.length) (j:Nat),j<s -> (l.flatMap f)[k*s+j]?=(f l[k])[j]?:=by
 intro l
 induction l with
 |nil=>simp_all
 | cons a l E=>
  intro k C j L;rw[List.flatMap_cons];cases k with
  |zero=>grind
  |succ k =>grind
def abO(z:Array Value)(s n:Nat)(C:z.size=s)(E:0<s):(madeCells z (n*s)).toList=(List.replicate n z.toList).flatten:=by
 have e:(List.replicate n z.toList).flatten=(List.replicate n ()).flatMap (λ_=>z.toList):=by
  rw[List.flatMap_def,List.map_replicate]
 rw[e];have L:((List.replicate n ()).flatMap (λ_=>z.toList)).length=n*s:=by
  simp_all
 apply List.ext_getElem?;intro i;rcases Nat.lt_or_ge i _ with hi|hi
 ·have O:i / s<n:=Nat.div_lt_of_lt_mul (by rw[Nat.mul_comm];exact hi);have T:i % s<s:=Nat.mod_lt _ E;have U:i=i / s*s+i % s:=by rw[Nat.mul_comm];exact(Nat.div_add_mod i s).symm
  have D:=an2 (λ_=>z.toList) s (λ_=>by simpa using C) (List.replicate n ()) (i / s) (by simpa using O) (i % s) T;rw[<- U]at D;rw[D];have Y:i % s<z.size:=by omega
  simp only[madeCells,Array.toList_map,Array.toList_range,eH,List.getElem?_range hi,Option.map_some,C];simp[Y]
 ·rw[List.getElem?_eq_none (by rw[kY,size_madeCells];exact hi),List.getElem?_eq_none (by rw[L];exact hi)]
def an3{t:TypeId}{len:Nat}{parts:Array (Nat×Operand)}{k:S -> ah X}(h:yZ P N σ d t len parts.toList k=some r):∃ cR,k cR=some r /\ ∀ aj ρ a w,Rl w0 N aj ρ σ a w ->
  ∃w' aA ρ' v,(Instr.buildSlice t len (parts.map λ(i,x)=>(i,a.eval x))).run P w = .ok v w'/\Rl w0 N aA ρ' cR (a.put (some d) v) w':=by
 unfold yZ at h;split at h
 ·rename_i e C oH;obtain⟨fX,ht,i,hi,Z,jC⟩:=yW oH;split at h
  ·rename_i z hz;cases U:(Nat.beq (full C) 0&&Nat.beq z.cells.size (aD C)&&Nat.blt (len*aD C) 16777217)with
   |false=>rw[U]at h;cases h
   | true=>
    rw[U,au]at h;simp only[aN]at U;have hf:=cE U.1.1;have mG:=cE U.1.2;have hsm:len*aD C<16777217:=by have:=cP U.2;omega
    have oJ:i.zero=some z:=by unfold zeroOf at hz;simpa [hi]using hz
    split at h
    ·rename_i cs gp;split at h
     ·rename_i vs jM;split at h
      ·rename_i l hl;obtain⟨hd,h⟩:=oG h
       refine⟨_,h,λaj ρ a w hR=>?_⟩
       obtain⟨D5,Bh,iA⟩:=UM C 0 len vs l hl;have UN:eF w w0.heap.size aj ρ (List.replicate len (z.cells.toList.map nQ)).flatten (madeCells z.cells (len*aD C)):=by
        have e1:(List.replicate len (z.cells.toList.map nQ)).flatten=((List.replicate len z.cells.toList).flatten).map nQ:=by
         rw[List.map_flatten,List.map_replicate]
        rw[e1,<- abO z.cells (aD C) len mG (oz C)]
        refine⟨by simp,λj x D=>?_⟩
        rw[eH]at D;cases L:(madeCells z.cells (len*aD C)).toList[j]? with
        |none=>rw[L]at D;cases D
        | some v=>
         rw[L]at D;injection D with D;subst D;exact⟨v,by simpa using L,Nv v⟩
       obtain⟨O,w5,dG⟩:=NB (w:=w) (B:=w0.heap.size) (aj:=aj) (ρ:=ρ) _ _ _ (parts.toList.map λp=>(p.1,a.eval p.2)) cs gp UN (by simp) (λj p q T hq=>by
        rw[eH]at T hq;cases D:parts.toList[j]? with
        |none=>rw[D]at T;cases T
        | some x=>
         rw[D]at T hq;injection T with T;injection hq with hq;subst T hq;exact⟨rfl,hR.aK x.2⟩)
       have abP:=NC cs vs jM;have an4:O.size=len*aD C:=by rw[dG.1,abP,eI,Bh]
       have dD:(Instr.buildSlice t len (parts.map λ(i,x)=>(i,a.eval x))).run P w = .ok (.slice (some ⟨w.heap.size,0,none⟩) len len) (w.alloc (.cells O e)):=by
        have He:(parts.map λ(i,x)=>(i,a.eval x)).toList=parts.toList.map λp=>(p.1,a.eval p.2):=by simp
        by_cases h0:len*aD C=0
        ·have hm:madeCells z.cells (len*aD C) = #[]:=by rw[h0];simp[madeCells]
         rw[hm]at w5;have UO:len*i.size=0:=by rw[Z];exact h0
         rw[<- Z]at w5;have e0:∀f:Nat -> Value,Array.map f (Array.range 0) = #[]:=λf=>by simp
         simp only[Instr.buildSlice,fV,gP fX,sizeOf,typeInfo];simp[hi,UO];rw[e0,w5];simp[newRow]
        ·exact run_buildSlice (P:=P) w t e len _ O i z fX hi oJ (by rw[Z];omega) (by rw[Z];exact h0) (by rw[Z,He];exact w5)
       refine⟨_,cc aj w.heap.size (some [d]),cc ρ d (.dX (.slice (some ⟨w.heap.size,0,none⟩) len len)),_,dD,(hR.DY (hR.dz d (.inl hd)) (λr hr=>cM _ _ _ hr) (.sl _ _ (cm _ _ _) ?_)).set ⟨rfl,by simp[c8,cm]⟩ hd⟩
       have pK:∀ E (Y:E<l.length) j x,(enc C 0 l[E])[j]?=some x -> ∃ v,O[E*aD C+j]?=some v /\ ∀ (w':World) (B':Nat) (aA:bG) (q':aa Nat),RV w' B' aA q' x v:=by
        intro E Y j x D;obtain⟨y,hy,hw⟩:=iA E Y j x D;obtain⟨v,L,hr⟩:=dG.2 (E*aD C+j) (.v y) (by rw[abP,eH,hy];rfl);exact⟨v,L,λw' B' aA q'=>(hr.2.wk hw).sU (yL C 0 l[E] hf x (gO D))⟩
       have:=RV.own (w:=w.alloc (.cells O e)) (B:=w0.heap.size) (aj:=cc aj w.heap.size (some [d])) [d] C 0 true l w.heap.size len O (λi j=>(O[i*aD C+j]?).getD undef)
        (cm _ _ _) (by rw[ht];exact heap_alloc_new w _) an4 (by omega) ⟨by have:=Nat.le_mul_of_pos_right len (oz C);unfold maxLen;omega,λ_=>D5.symm⟩ (λE Y j x D=>?_) (λE Y j x D=>?_)
       ·rw[D5]at this;exact this
       ·obtain⟨v,L,_⟩:=pK E Y j x D;rw[L];rfl
       ·obtain⟨v,L,hr⟩:=pK E Y j x D;rw[L];exact hr _ _ _ _
      ·cases h
     ·cases h
    ·cases h
  ·cases h
 ·cases h
def abQ{C:Bool}{x y:A}{k:A->ah X}(h:D3 C x y k=some r):∃ z,k z=some r/\∀ (w:World) (B:Nat) (aj:bG) (ρ:Nat->Loc) (t ty:TypeId) (u v:Value),RA w B aj ρ x u->RA w B aj ρ y v->
  ∃D,((bif C then Builtin.max_ #[t,t] ty #[u,v]else Builtin.min_ #[t,t] ty #[u,v]):Sem Value).run P w = .ok D w/\RA w B aj ρ z D:=by
 unfold D3 at h;split at h
 ·refine⟨_,h,λw B aj ρ t ty u v E L=>?_⟩
  obtain rfl:=E.2.g9;obtain rfl:=L.2.g9;cases C with
  |true=>exact⟨_,by simp[Builtin.max_,Builtin.max2],rfl,.int _ _ _⟩
  |false=>exact⟨_,by simp[Builtin.min_,Builtin.min2],rfl,.int _ _ _⟩
 ·cases h
def an5{t:TypeId}{x i:A}{k:A->ah X}(h:Hg P t x i k=some r):∃ z,k z=some r/\∀ (w:World) (B:Nat) (aj:bG) (ρ:Nat->Loc) (u v:Value),RA w B aj ρ x u->RA w B aj ρ i v->
  ∃C,(Instr.index t u v).run P w = .ok C w/\RA w B aj ρ z C:=by
 unfold Hg at h;split at h
 ·rename_i s T iv;split at h
  ·rename_i E;split at h
   ·rename_i D
    refine⟨_,h,λw B aj ρ u v L O=>?_⟩
    obtain rfl:=L.2.wQ;obtain rfl:=O.2.g9;exact⟨_,by simp[Instr.index,asIntOf,gP E,D.1,D.2],rfl,.int _ _ _⟩
   ·cases h
  ·cases h
 ·cases h
def abR{C D:TypeId}(h:D4 P C D=true):∃ e,P.underlying C=some (.slice e)/\P.underlying D=some .string/\P.underlying e=some (.int .u8):=by
 unfold D4 at h
 grind
def abS(l:aa Int)(i:Nat)(hi:i<l.length):l.getD i 0=l[i]:=by rw[eY,bZ hi];rfl
def RV.toStr{L O e:TypeId}(Y:P.underlying L=some (.slice e))(Z:P.underlying O=some .string)(he:P.underlying e=some (.int .u8)){o:Nat}{qn:Bool}{l:aa (T .u8)}{q:aa Nat}{B:Nat}{u:Value}(h:RV w B aj q (.sl .u8 o qn l) u):
  (convert L O u).run P w = .ok (.string (strOfNums l)) w:=by
 generalize C:V.sl .u8 o qn l=y at h;cases h with
 |int=>cases C
 |bool=>cases C
 |str=>cases C
 |nil=>cases C
 | ep q t o'=>
  injection C with D e2 e3 E;subst D;obtain rfl:=eq_of_heq E;rw[run_convert_bytes_nil w L e Y he 0 0 O Z];rfl
 | fA q t o' A c ho=>
  injection C with D e2 e3 E;subst D;obtain rfl:=eq_of_heq E;have hl:=run_loadCells_list (P:=P) w A [] (λj v hj=>by simp at hj);rw[run_convert_bytes_string w L O e _ 0 c Y he Z];rfl
 | fK q t o' A c ho=>
  injection C with D e2 e3 E;subst D;obtain rfl:=eq_of_heq E;have hl:(loadCells A 0).run P w = .ok (([]:aa Int).map (Value.int .u8)).toArray w:=run_loadCells_list (P:=P) w A [] (λj v hj=>by simp at hj);rw[run_convert_bytes_string w L O e _ 0 c Y he Z,run_bytesToString w A 0 c [] hl];rfl
 | aF q t o' UP l' b off cap uu ho hl hb h1 iJ hc hr=>
  injection C with D e2 e3 E;subst D;obtain rfl:=eq_of_heq E
  refine run_convert_bytes_arg w L e Y he b off _ cap l rfl (λi hi=>?_) O Z
  have U:=hc i hi 0 (.int .u8 l[i]) rfl;have h3:=(hr i hi 0 (.int .u8 l[i]) rfl).g9;simp only[aD,Nat.mul_one,Nat.add_zero]at U;have hg:=abS (show aa Int from l) i hi;rw[U,h3];exact aY (λz=>some (Value.int .u8 z)) hg.symm
 | own q t o' UP l' b cap cs uu hl hh oD hn hm hc hr=>
  injection C with D e2 e3 E;subst D;obtain rfl:=eq_of_heq E
  refine run_convert_bytes_arg w L e Y he b 0 _ cap l rfl (λi hi=>?_) O Z
  have U:=hc i hi 0 (.int .u8 l[i]) rfl;have h3:=(hr i hi 0 (.int .u8 l[i]) rfl).g9;simp only[aD,Nat.mul_one,Nat.add_zero]at U;have hg:=abS (show aa Int from l) i hi;rw[h3]at U;have h4:w.cell? ⟨b,0+i,none⟩=some (.int .u8 l[i]):=by simp[World.cell?,hh,U]
  rw[h4];exact aY (λz=>some (Value.int .u8 z)) hg.symm
def an6{E L:TypeId}{x:A}{k:A -> ah X}(h:za P σ E L x k=some r):∃ z,k z=some r /\ ∀ aj ρ a w,Rl w0 N aj ρ σ a w -> ∀ u,RA w w0.heap.size aj ρ x u ->
  ∃t',(convert E L u).run P w = .ok t' w/\RA w w0.heap.size aj ρ z t':=by
 unfold za at h;split at h
 ·rename_i kk n;split at h
  ·rename_i d1 kd hs hd
   refine⟨_,h,λaj ρ a w _ u C=>?_⟩
   obtain rfl:=C.2.g9;exact⟨_,by simp[convert,gP hs,gP hd,Conv.intToInt],rfl,.int _ _ _⟩
  ·cases h
 ·rename_i y _;have key:∃ z,(∀ aj ρ a w,Rl w0 N aj ρ σ a w -> ∀ u,dU w w0.heap.size aj ρ y u -> ∃ q,RV w w0.heap.size aj q z u)/\NF P E L z k=some r:=by
   cases y with
   |v z=>exact⟨z,λaj ρ a w _ u C=>⟨[],C.2⟩,h⟩
   |dead=>cases h
   | own q=>
    obtain⟨z,U,h⟩:=rK q _ h
    refine⟨z,λaj ρ a w O u C=>?_,h⟩
    obtain⟨v,hv,Y⟩:=U.ok O.root;have h3:=C.2
    grind
  obtain⟨z,U,D⟩:=key;clear h;unfold NF at D;split at D
  ·rename_i o qn l;cases T:D4 P E L with
   |false=>simp_all
   | true=>
    rw[T]at D;obtain⟨e,Z,e2,e3⟩:=abR T
    refine⟨_,D,λaj ρ a w O u C=>?_⟩
    obtain⟨q,Y⟩:=U aj ρ a w O u C;exact⟨_,Y.toStr Z e2 e3,rfl,.str _ _⟩
  ·cases T:D4 P E L with
   |false=>simp_all
   | true=>
    rw[T,au]at D;obtain⟨e,Z,e2,e3⟩:=abR T
    refine⟨_,D,λaj ρ a w O u C=>?_⟩
    obtain⟨q,Y⟩:=U aj ρ a w O u C;cases Y;exact⟨_,by rw[run_convert_bytes_nil w E e Z e3 0 0 L e2];rfl,rfl,.str _ _⟩
  ·cases D
 ·cases h
def an7{s:TypeId}{x:A}{f:Nat}{k:A -> ah X}(h:Hf P s x f k=some r):∃ z,k z=some r /\ ∀ (w:World) (B:Nat) (aj:bG) (ρ:Nat -> Loc) (u:Value),RA w B aj ρ x u ->
  ∃t',(Instr.field s u f).run P w = .ok t' w/\RA w B aj ρ z t':=by
 unfold Hf at h;split at h
 ·rename_i E cs O;have jN:∃ T,P.underlying s=some (.struct T)/\T[f]?=some E:=by
   unfold GV at O;split at O
   ·simp_all
   ·cases O
  obtain⟨T,kr,zb⟩:=jN;split at h
  ·rename_i n U C;split at h
   ·rename_i hle
    refine⟨_,h,λw B aj ρ u D=>?_⟩
    obtain⟨us,rfl,L⟩:=D;have Y:(isAgg E.type).run P w = .ok true w:=by
     unfold DS at C;split at C
     next fs' D=>unfold isAgg;rw[fV,gP D];rfl
     next c e D=>unfold isAgg;rw[fV,gP D];rfl
     ·cases C
     ·cases C
    unfold jj at U;cases hi:P.info? E.type with
    |none=>simp_all
    | some i=>
     have wP:i.size=n:=by simpa [hi]using U
     refine⟨.agg (us.extract E.offset (E.offset+n)),by simp[Instr.field,gP kr,zb,asAgg,part,fV,Y,sizeOf,typeInfo,hi,wP],_,rfl,?_,λj y Z=>?_⟩
     ·have:=L.1
      grind
     ·obtain⟨hj,Hh⟩:=Nn _ _ _ _ _ Z;obtain⟨v,hv,hr⟩:=L.2 _ y Hh
      grind
   ·cases h
  ·rename_i n U C;split at h
   ·rename_i y Z
    refine⟨_,h,λw B aj ρ u D=>?_⟩
    obtain⟨us,rfl,L⟩:=D;obtain⟨v,hv,hr⟩:=L.2 _ y Z;have Y:(isAgg E.type).run P w = .ok false w:=by
     unfold DS at C;split at C
     ·cases C
     ·cases C
     next d hs ha D=>unfold isAgg;rw[fV,gP D];simp_all
     ·cases C
    exact⟨v,by simp[Instr.field,gP kr,zb,asAgg,part,fV,Y,hv],hr⟩
   ·cases h
  ·cases h
 ·cases h
end
def V.val:V->Value
 |.int k n=>.int k n
 |.bool b=>.bool b
 |.str s=>.string s
 |_=>undef
def NG:TypeDesc->V->V->ah Bool
 |.int _,.int k a,.int C b=>if k=C then some (a==b)else none
 |.bool,.bool a,.bool b=>some (a==b)
 |.string,.str a,.str b=>some (a.toList==b.toList)
 |_,_,_=>none
def Hi(P:Program)(g:TypeId->aa V->aa V->ah Bool)(xs ys:aa V):aa Field->ah Bool
 |[]=>some true
 | f :: C=>bif f.name == "_" then Hi P g xs ys C else (match jj P f.type with
  | some n=>bif Nat.ble (f.offset+n) xs.length then (match g f.type ((xs.drop f.offset).take n) ((ys.drop f.offset).take n),Hi P g xs ys C with
   |some a,some b=>some (a&&b)
   |_,_=>none)else none
  |none=>none)
def zc(P:Program):Nat->TypeId->aa V->aa V->ah Bool
 |0,_,_,_=>none
 | n+1,t,xs,ys=>match P.underlying t with
  |some (.struct C)=>bif P.stoodInHeld t ||!Nat.beq xs.length ys.length then none else Hi P (zc P n) xs ys C.toList
  | some d=>(match xs,ys with
   |[x],[y]=>NG d x y
   |_,_=>none)
  |none=>none
def NH:BinOp->ah Bool
 |.eql=>some false
 |.neq=>some true
 |_=>none
def jt{α:Type}:aa α->Bool
 |[]=>true
 |_=>false
def isStr(P:Program)(t:TypeId):Bool:=match P.underlying t with
 |some (.struct _)=>true
 |_=>false
def zd{X:Type}(P:Program)(σ:S)(D:BinOp)(t:TypeId)(x y:A)(k:A->ah X):ah X:=
 match NH D,x,y with
 | some C,.agg cs,.agg E=>(match qz cs,qz E with
  | some xs,some ys=>bif P.eqGuardType P.depth t || !isStr P t then none else (match zc P 20 t xs ys with
   |some b=>k (.lf (.v (.bool (bif C then !b else b))))
   |none=>none)
  |_,_=>none)
 | some C,.lf l,.lf (.v .nil)=>(match pJ P t with
  | some _=>oF σ l λz=>(match z with
   |.nil=>k (.lf (.v (.bool (bif C then false else true))))
   |.sl _ _ true _=>k (.lf (.v (.bool (bif C then true else false))))
   |.sl _ _ false l=>bif jt l then none else k (.lf (.v (.bool (bif C then true else false))))
   |_=>none)
  |none=>none)
 |_,_,_=>vK x λa=>vK y λb=>GR P t D a b λz=>k (.lf (.v z))
section
variable {P:Program} {w w':World} {w0:Wd} {B N:Nat} {aj aA:bG} {ρ ρ':Nat->Loc} {σ:S} {a:Act} {X:Type} {d:Nat} {r:X} {o:Oper}
def an8{D:TypeDesc}{x y:V}{b:Bool}{t:TypeId}{n:Nat}(C:P.underlying t=some D)(h:NG D x y=some b):(Op.equalIn (n+1) t x.val y.val).run P w = .ok b w:=by
 unfold NG at h;split at h
 ·split at h
  next L _ a k O E=>subst E;injection h with h;subst h;exact run_equalIn_int w n t _ _ _ _ C
  ·cases h
 ·injection h with h;subst h;exact run_equalIn_bool' w n t _ _ C
 ·injection h with h;subst h;exact run_equalIn_string w n t _ _ C
 ·cases h
def s8(P:Program)(t:TypeId)(xs:aa V)(u:Value):Prop:=
 match P.underlying t with
 |some (.struct _)=>u = .agg (xs.map V.val).toArray
 |_=>∃x,xs=[x]/\u=x.val
def abU{t:TypeId}{n off:Nat}{xs:aa V}(O:jj P t=some n)(hle:off+n <= xs.length)(T:∃ d,P.underlying t=some d/\(∀ c e,d ≠ .array c e)/\((∀ C,d ≠ .struct C) -> n=1)):
  ∃u,(part t (xs.map V.val).toArray off).run P w = .ok u w/\s8 P t ((xs.drop off).take n) u:=by
 obtain⟨d,D,U,Y⟩:=T;unfold jj at O;cases hi:P.info? t with
 |none=>grind
 | some i=>
  have Z:i.size=n:=by simpa [hi]using O
  by_cases E:∃C,d = .struct C
  ·obtain⟨C,rfl⟩:=E;have L:(isAgg t).run P w = .ok true w:=by
    unfold isAgg;rw[fV,gP D];rfl
   refine⟨.agg ((xs.map V.val).toArray.extract off (off+n)),by simp[part,fV,L,sizeOf,typeInfo,hi,Z],?_⟩;unfold s8;rw[D];simp only;congr 1;apply Array.ext';simp[List.map_drop,List.map_take]
  ·have L:(isAgg t).run P w = .ok false w:=by
    unfold isAgg;rw[fV,gP D w];cases d<;>first|rfl|(exfalso;exact E ⟨_,rfl⟩)|(exfalso;exact U _ _ rfl)
   have ze:n=1:=Y λC e=>E ⟨C,e⟩
   subst ze;have dA:off<xs.length:=by omega
   have pK:(xs.map V.val).toArray[off]?=some (xs[off]).val:=by simp[dA]
   refine⟨(xs[off]).val,by simp[part,fV,L,pK],?_⟩;have e1:(xs.drop off).take 1=[xs[off]]:=by
    rw[List.drop_eq_getElem_cons];rfl
   unfold s8;rw[D];split
   ·grind
   ·grind
def an9{n:Nat}{t:TypeId}{xs ys:aa V}{b:Bool}(h:zc P n t xs ys=some b):∃ d,P.underlying t=some d/\(∀ c e,d ≠ .array c e)/\((∀ C,d ≠ .struct C) -> xs.length=1):=by
 cases n with
 |zero=>cases h
 | succ n=>
  unfold zc at h;split at h
  ·simp_all
  ·rename_i d L D;split at h
   next x y=>exact⟨d,D,(λc e E=>by subst E;simp[NG]at h),λ_=>rfl⟩
   ·cases h
  ·cases h
def UQ{n:Nat}{xs ys:aa V}(hlen:xs.length=ys.length)(L:∀ t xs ys b,zc P n t xs ys=some b -> ∀ u v,s8 P t xs u -> s8 P t ys v -> ∀ k,(Op.equalIn (k+n) t u v).run P w = .ok b w)(k:Nat):∀ (C:aa Field) (b:Bool),Hi P (zc P n) xs ys C=some b ->
  (Op.eqFields (k+n) (xs.map V.val).toArray (ys.map V.val).toArray C).run P w = .ok b w
 | [],b,h=>by
  injection h with h;subst h;simp[Op.eqFields]
 | f :: C,b,h=>by
  unfold Hi at h;cases D:f.name == "_" with
  | true=>
   rw[D]at h;have:f.name = "_":=by simpa using D
   simp[Op.eqFields,this,not_true];exact UQ hlen L k C b h
  | false=>
   rw[D,aq]at h;have dc:f.name ≠ "_":=by simpa using D
   split at h
   ·rename_i s O;cases E:Nat.ble (f.offset+s) xs.length with
    |false=>simp_all
    | true=>
     rw[E,au]at h;have E:=cP E;split at h
     ·rename_i c e T h2;injection h with h;subst h;obtain⟨U,Y,Z,oM⟩:=an9 T;have qC:((xs.drop f.offset).take s).length=s:=by simp;omega
      obtain⟨u,UR,qF⟩:=abU (w:=w) O E ⟨U,Y,Z,λh=>qC.symm.trans (oM h)⟩;obtain⟨v,US,w6⟩:=abU (w:=w) (xs:=ys) (off:=f.offset) O (by omega) ⟨U,Y,Z,λh=>qC.symm.trans (oM h)⟩;have hr:=L _ _ _ c T u v qF w6 k;have vi:=UQ hlen L k C e h2;simp only[Op.eqFields,dc,ne_eq,not_false_eq_true,if_true,fV,UR,US,hr,lS];cases c
      ·simp
      ·simp_all
     ·cases h
   ·cases h
def abV:∀ (n:Nat) (t:TypeId) (xs ys:aa V) (b:Bool),zc P n t xs ys=some b -> ∀ u v,s8 P t xs u -> s8 P t ys v -> ∀ k,(Op.equalIn (k+n) t u v).run P w = .ok b w
 |0,t,xs,ys,b,h=>by cases h
 | n+1,t,xs,ys,b,h=>by
  intro u v C D k;unfold zc at h;split at h
  ·rename_i U L;cases E:(P.stoodInHeld t || !Nat.beq xs.length ys.length)with
   |true=>simp_all
   | false=>
    rw[E,aq]at h;rw[Bool.or_eq_false_iff,Bool.not_eq_false']at E;have hlen:=cE E.2;unfold s8 at C D;rw[L]at C D;simp only at C D;subst C D;have Y:P.fieldsOf t=U:=by simp[Program.fieldsOf,L]
    rw[<- Nat.add_assoc,run_equalIn_struct w (k+n) t _ _ (by rw[Y];exact L) E.1,Y];exact UQ hlen (abV n) k U.toList b h
  ·rename_i d GQ Z;split at h
   ·rename_i x y;unfold s8 at C D;rw[Z]at C D;split at C
    ·simp_all
    ·split at D
     ·simp_all
     ·obtain⟨x',O,rfl⟩:=C;obtain⟨y',T,rfl⟩:=D;injection O with O;injection T with T;subst O T;exact an8 Z h
   ·cases h
  ·cases h
def abW{cs:aa Lf}{xs:aa V}(h:qz cs=some xs){u:Value}(D:RA w B aj ρ (.agg cs) u):u = .agg (xs.map V.val).toArray:=by
 obtain⟨e,E⟩:=Np _ _ h;obtain⟨us,rfl,Y,L⟩:=D;congr 1;apply Array.ext';apply List.ext_getElem?;intro j;rw[ eH,Array.getElem?_toList];cases C:xs[j]? with
 |none =>simp_all
 | some x=>
  obtain⟨v,O,T⟩:=L j _ (by rw[e,eH,C];rfl);rw[O];have:=E x (gO C);have U:=T.2;cases U<;>first|rfl|cases this
def D6{C:BinOp}{D:Bool}(E:NH C=some D){t e:TypeId}(L:P.underlying t=some (.slice e))(O T:Operand)(A:ah Addr)(n c:Nat):
  (do eqGuard C t O T (.slice A n c) (.slice none 0 0);binOp C t (.slice A n c) (.slice none 0 0):Sem Value).run P w = .ok (.bool (bif D then !A.isNone else A.isNone)) w:=by
 have U:(Op.equal t (.slice A n c) (.slice none 0 0)).run P w = .ok A.isNone w:=by
  have h:∀ d,(Op.equalIn (d+1) t (.slice A n c) (.slice none 0 0)).run P w = .ok A.isNone w:=by
   intro d;cases A<;>simp[Op.equalIn,gP L]
  exact h 9999
 cases C<;>simp[NH]at E<;>subst E<;>simp[eqGuard,binOp,U]
def aoa{op:BinOp}{t:TypeId}{x y:A}{k:A -> ah X}(h:zd P σ op t x y k=some r):∃ z,k z=some r /\ ∀ aj ρ a w,Rl w0 N aj ρ σ a w -> ∀ C D u v,RA w w0.heap.size aj ρ x u -> RA w w0.heap.size aj ρ y v ->
  ∃t',(do eqGuard op t C D u v;binOp op t u v:Sem Value).run P w = .ok t' w/\RA w w0.heap.size aj ρ z t':=by
 unfold zd at h;split at h
 ·rename_i T cs ds O;split at h
  ·rename_i xs ys mU Hj;cases hg:(P.eqGuardType P.depth t || !isStr P t)with
   |true=>simp_all
   | false=>
    rw[hg,aq]at h;rw[Bool.or_eq_false_iff,Bool.not_eq_false']at hg;obtain⟨hg,jN⟩:=hg;split at h
    ·rename_i b hb
     refine⟨_,h,λaj ρ a w Y C D u v E L=>?_⟩
     have E:=abW mU E;have L:=abW Hj L;subst E L;have hs:∃ fs,P.underlying t=some (.struct fs):=by
      unfold isStr at jN;split at jN
      ·simp_all
      ·cases jN
     obtain⟨fs,zb⟩:=hs;have Z:=abV (w:=w) 20 t xs ys b hb (.agg (xs.map V.val).toArray) (.agg (ys.map V.val).toArray) (by unfold s8;rw[zb]) (by unfold s8;rw[zb]) 9980;refine⟨.bool (bif T then !b else b),?_,rfl,.bool _ _⟩;rw[fV,run_eqGuard_agg w op t C D _ _ hg,lS];cases op<;>simp[NH]at O<;>subst O
     ·rw[run_eql_struct,Z];rfl
     ·rw[run_neq_struct,Z];rfl
    ·cases h
  ·cases h
 ·rename_i T l O;split at h
  ·rename_i e he;have ht:P.underlying t=some (.slice e):=by
    unfold pJ at he;split at he
    ·simp_all
    ·cases he
   obtain⟨z,hz,U⟩:=UJ (w0:=w0) (N:=N) h;clear h;split at U
   ·refine⟨_,U,λaj ρ a w Y C D u v E L=>?_⟩
    obtain⟨q,hq⟩:=hz aj ρ a w Y u E;cases hq;cases L.2;exact⟨_,D6 O ht C D none 0 0,rfl,by cases T<;>exact .bool _ _⟩
   ·refine⟨_,U,λaj ρ a w Y C D u v E L=>?_⟩
    obtain⟨q,hq⟩:=hz aj ρ a w Y u E;cases L.2;cases hq with
    |aF _ _ _ _ _ b off cap us ho hl hb h1 iJ hc Z=>exact⟨_,D6 O ht C D _ _ _,rfl,by cases T<;>exact .bool _ _⟩
    |own=>exact⟨_,D6 O ht C D _ _ _,rfl,by cases T<;>exact .bool _ _⟩
    |fK=>exact⟨_,D6 O ht C D _ _ _,rfl,by cases T<;>exact .bool _ _⟩
   ·rename_i t' o' l';cases hl:jt l' with
    |true=>simp_all
    | false=>
     rw[hl,aq]at U
     refine⟨_,U,λaj ρ a w Y C D u v E L=>?_⟩
     obtain⟨q,hq⟩:=hz aj ρ a w Y u E;cases L.2;cases hq with
     |ep=>cases hl
     |fA=>cases hl
     |aF _ _ _ _ _ b off cap us ho wY hb h1 iJ hc Z=>exact⟨_,D6 O ht C D _ _ _,rfl,by cases T<;>exact .bool _ _⟩
     |own=>exact⟨_,D6 O ht C D _ _ _,rfl,by cases T<;>exact .bool _ _⟩
   ·cases U
  ·cases h
 ·obtain⟨u0,hx,h1⟩:=Ur h;obtain⟨v0,hy,U⟩:=Ur h1;obtain⟨z,h3,hp,hs⟩:=anC U;subst hx hy
  refine⟨_,h3,λaj ρ a w Y C D u v E L=>?_⟩
  obtain⟨t',dD,Z⟩:=hs w _ aj C D [] [] _ _ E.2 L.2;exact⟨t',dD,V.GU hp,Z⟩
/-! Parts of slices that nobody writes. -/
def D7{x:ah A}{C:Int}{k:Int->ah X}(h:s7 x C k=some r):∃ n,k n=some r/\(∀ (E:Type) (D:Int->ah E),s7 x C D=D n)/\((x=none/\n=C)\/∃ L,x=some (.lf (.v (.int L n)))):=by
 unfold s7 at h;split at h
 ·exact⟨_,h,λ_ _=>rfl,.inl ⟨rfl,rfl⟩⟩
 ·exact⟨_,h,λ_ _=>rfl,.inr ⟨_,rfl⟩⟩
 ·cases h
def aob{t:TypeId}{x:A}{lo hi:ah A}{k:A -> ah X}(h:wZ P t x lo hi k=some r):∃ y,k y=some r/\(∀ (U:Type) (O:A -> ah U),wZ P t x lo hi O=O y) /\
  ((∃ (s:ByteArray) (l h:Int),x = .lf (.v (.str s))/\P.underlying t=some .string/\((lo=none/\l=0) \/ ∃ C,lo=some (.lf (.v (.int C l))))/\((hi=none/\h=s.size) \/ ∃ C,hi=some (.lf (.v (.int C h))))/\0 <= l/\l <= h/\h <= (s.size:Int)/\y = .lf (.v (.str (s.extract l.toNat h.toNat)))) \/
   ∃(L:TC) (g:Nat) (Y:Bool) (xs:aa (T L)) (e:TypeId) (l h:Int),x = .lf (.v (.sl L g Y xs))/\pJ P t=some e/\jj P e=some (aD L)/\g<2/\((lo=none/\l=0) \/ ∃C,lo=some (.lf (.v (.int C l))))/\((hi=none/\h=xs.length) \/ ∃C,hi=some (.lf (.v (.int C h))))/\0 <= l/\l <= h/\h <= (xs.length:Int)/\y = .lf (.v (.sl L g false ((xs.take h.toNat).drop l.toNat)))):=by
 unfold wZ at h;split at h
 ·rename_i s;split at h
  ·rename_i hu;obtain⟨l,Z,d1,e1⟩:=D7 h;obtain⟨m,D,d2,e2⟩:=D7 Z;split at D
   ·rename_i E
    refine⟨_,D,λU O=>?_,.inl ⟨s,l,m,rfl,hu,e1,e2,E.1,E.2.1,E.2.2,rfl⟩⟩
    simp[wZ,hu];simp_all
   ·cases D
  ·cases h
 ·rename_i L g Y xs;split at h
  ·rename_i e he;split at h
   ·rename_i n hn;split at h
    ·rename_i ve;subst ve;cases hg:Nat.blt g 2 with
     |false=>simp_all
     | true=>
      rw[hg,au]at h;obtain⟨l,Z,d1,e1⟩:=D7 h;obtain⟨m,D,d2,e2⟩:=D7 Z;split at D
      ·rename_i E
       refine⟨_,D,λU O=>?_,.inr ⟨L,g,Y,xs,e,l,m,rfl,he,hn,cP hg,e1,e2,E.1,E.2.1,E.2.2,rfl⟩⟩
       simp[wZ,he,hn,if_true,hg,au];simp_all
      ·cases D
    ·cases h
   ·cases h
  ·cases h
 ·cases h
def aoc{t:TypeId}{x:A}{lo hi:ah A}{k:A->ah X}(h:wZ P t x lo hi k=some r):∃ y,k y=some r/\(∀ (X':Type) (k':A->ah X'),wZ P t x lo hi k'=k' y)/\
  ∀ (w:World) (B:Nat) (aj:bG) (ρ:Nat->Loc) (u:Value) (U C:ah Value),RA w B aj ρ x u->(∀ a,lo=some a->∃ v,U=some v/\RA w B aj ρ a v)->(lo=none->U=none)->(∀ a,hi=some a->∃ v,C=some v/\RA w B aj ρ a v)->(hi=none->C=none)->
   ∃t',(Instr.sliceAt t u U C none).run P w = .ok t' w/\RA w B aj ρ y t':=by
 obtain⟨y,h1,hd,hc⟩:=aob h
 refine⟨y,h1,hd,λw B aj ρ u U C Z qC ku NI zf=>?_⟩
 have bl:∀ {o:ah A} {E:ah Value} {n Bo:Int},(∀ a,o=some a->∃ v,E=some v/\RA w B aj ρ a v)->(o=none->E=none)->((o=none/\n=Bo)\/∃ L,o=some (.lf (.v (.int L n))))->(E=none/\n=Bo)\/∃ L,E=some (.int L n):=by
  intro o E n Bo g1 g2 g3;rcases g3 with ⟨e,e'⟩|⟨L,e⟩
  ·exact .inl ⟨g2 e,e'⟩
  ·obtain⟨v,C,hr⟩:=g1 _ e;exact .inr ⟨L,by rw[C,hr.2.g9]⟩
 rcases hc with ⟨s,l,m,rfl,O,e1,e2,b1,b2,b3,rfl⟩|⟨tc,g,qn,xs,e,l,m,rfl,D,hn,hg,e1,e2,b1,b2,b3,rfl⟩
 ·have h5:=bl qC ku e1;have h6:=bl NI zf e2;obtain rfl:=Z.2.wQ;have em:(m.toNat:Int)=m:=Int.toNat_of_nonneg (by omega);refine⟨.string (s.extract l.toNat m.toNat),?_,rfl,.str _ _⟩;rw[run_sliceAt_string w t _ _ _ _ O];have UT:0<=m:=by omega
  rcases h5 with ⟨rfl,h7⟩|⟨kl,rfl⟩<;>rcases h6 with ⟨rfl,h8⟩|⟨kh,rfl⟩
  all_goals simp_all [Instr.slice,gP O,Instr.sliceBounds,run_sliceBound]
 ·have h5:=bl qC ku e1;have h6:=bl NI zf e2;have O:P.underlying t=some (.slice e):=by
   unfold pJ at D;split at D
   next e' vc=>injection D with D;rw[<-D];exact vc
   ·cases D
  have iA:P.elem t=e:=by simp[Program.elem,O]
  have T:P.underlying t=some (.slice (P.elem t)):=by rw[iA];exact O
  have Y:(sizeOf (P.elem t)).run P w = .ok (aD tc) w:=by
   unfold jj at hn;cases hi:P.info? e with
   |none=>simp[hi]at hn
   | some i=>
    have:i.size=aD tc:=by simpa [hi]using hn
    simp[sizeOf,typeInfo,iA,hi,this]
  have kr:∃ A n c,u = .slice A n c:=by
   cases Z.2 with
   |ep=>exact⟨_,_,_,rfl⟩
   |fA=>exact⟨_,_,_,rfl⟩
   |fK=>exact⟨_,_,_,rfl⟩
   |aF=>exact⟨_,_,_,rfl⟩
   |own=>exact⟨_,_,_,rfl⟩
  obtain⟨A,n,c,rfl⟩:=kr;obtain⟨hp,ze,UU⟩:=Z.2.part (a:=l.toNat) (h:=m.toNat) hg (by omega) (by omega);refine⟨_,?_,by simp[V.aF,hg],hp⟩;rw[run_sliceAt_slice w t _ _ _ _ T];rcases h5 with ⟨rfl,rfl⟩|⟨kl,rfl⟩<;>rcases h6 with ⟨rfl,rfl⟩|⟨kh,rfl⟩
  ·rw[run_slice_all w t A n c T,Y,ze];simp
  ·rw[run_slice_h w t A n c T kh m (by omega) (by omega),Y];simp
  ·rw[run_slice_l w t A n c T kl l (by omega) (by omega),Y,ze];simp
  ·rw[run_slice_lh w t A n c T kl kh l m (by omega) (by omega) (by omega),Y];simp
/-! Parts of slices that are owned. -/
def D8{X:Type}(n:Nat)(q:aa Nat)(C:ah Nat)(lo hi:ah A)(y:V)(k:A->ah X):ah X:=
 match y with
 |.sl D _ _ l=>if n=aD D then s7 lo 0 λa=>s7 hi ((C.getD l.length:Nat):Int) λb=>if 0<=a/\a<=b/\b<=(l.length:Int)then k (.view q n a.toNat b.toNat)else none else none
 |_=>none
def Bp{X:Type}(P:Program)(σ:S)(t:TypeId)(q:aa Nat)(C:ah Nat)(lo hi:ah A)(k:A->ah X):ah X:=
 match pJ P t with
 | some e=>(match jj P e with
  |some n=>ja σ.m q λy=>D8 n q C lo hi y k
  |none=>none)
 |none=>none
def zg{X:Type}(P:Program)(σ:S)(t:TypeId)(x:A)(lo hi:ah A)(k:A->ah X):ah X:=
 match x with
 |.lf (.own q)=>Bp P σ t q none lo hi k
 |.view q _ 0 j=>Bp P σ t q (some j) lo hi k
 |x=>wZ P t x lo hi k
def aod{n:Nat}{q:aa Nat}{D:ah Nat}{lo hi:ah A}{y:V}{k:A -> ah X}(h:D8 n q D lo hi y k=some r):∃ (C:TC) (g:Nat) (E:Bool) (xs:aa (T C)) (l h:Int),y = .sl C g E xs/\n=aD C /\
  ((lo=none/\l=0) \/ ∃L,lo=some (.lf (.v (.int L l))))/\((hi=none/\h=((D.getD xs.length:Nat):Int)) \/ ∃L,hi=some (.lf (.v (.int L h))))/\0 <= l/\l <= h/\h <= (xs.length:Int)/\k (.view q n l.toNat h.toNat)=some r /\
  ∀(Z:Type) (O:A -> ah Z),D8 n q D lo hi y O=O (.view q n l.toNat h.toNat):=by
 unfold D8 at h;split at h
 ·rename_i C g E xs;split at h
  ·rename_i ve;obtain⟨l,h1,d1,e1⟩:=D7 h;obtain⟨m,U,d2,e2⟩:=D7 h1;split at U
   ·rename_i Y
    refine⟨C,g,E,xs,l,m,rfl,ve,e1,e2,Y.1,Y.2.1,Y.2.2,U,λZ O=>?_⟩
    simp[D8,bM ve];simp_all
   ·cases U
  ·cases h
 ·cases h
def abX{t:TypeId}{q:aa Nat}{dh:ah Nat}{lo hi:ah A}{k:A -> ah X}(h:Bp P σ t q dh lo hi k=some r):∃ y,k y=some r /\
  ∀ aj ρ a w,Rl w0 N aj ρ σ a w -> ∀ (D:ah Addr) (n c C:Nat) (U E:ah Value),c8 w aj ρ q=some (.slice D n c) -> C=dh.getD n -> C <= n -> (∀ a,lo=some a -> ∃ v,U=some v/\RA w w0.heap.size aj ρ a v) -> (lo=none -> U=none) -> (∀ a,hi=some a -> ∃ v,E=some v/\RA w w0.heap.size aj ρ a v) -> (hi=none -> E=none) ->
   ∃t',(Instr.sliceAt t (.slice D C c) U E none).run P w = .ok t' w/\RA w w0.heap.size aj ρ y t':=by
 unfold Bp at h;split at h
 ·rename_i e he;split at h
  ·rename_i n hn;obtain⟨y0,UW,h2⟩:=rK q _ h;obtain⟨tc,g,qn,xs,l,m,rfl,ve,e1,e2,b1,b2,b3,h3,_⟩:=aod h2
   refine⟨_,h3,λaj ρ a w hR D n' c C U E hD UX hle qC ku NI zf=>?_⟩
   have bl:∀ {o:ah A} {L:ah Value} {n Bo:Int},(∀ a,o=some a -> ∃ v,L=some v/\RA w w0.heap.size aj ρ a v) -> (o=none -> L=none) -> ((o=none/\n=Bo) \/ ∃ O,o=some (.lf (.v (.int O n)))) -> (L=none/\n=Bo) \/ ∃ O,L=some (.int O n):=by
    intro o L n Bo g1 g2 g3;rcases g3 with ⟨e,e'⟩|⟨O,e⟩
    ·grind
    ·obtain⟨v,E,hr⟩:=g1 _ e;exact .inr ⟨O,by rw[E,hr.2.g9]⟩
   have h5:=bl qC ku e1;have h6:=bl NI zf e2;have fX:P.underlying t=some (.slice e):=by
    unfold pJ at he;split at he
    ·grind
    ·cases he
   have iA:P.elem t=e:=by simp[Program.elem,fX]
   have T:P.underlying t=some (.slice (P.elem t)):=by rw[iA];exact fX
   have Y:(sizeOf (P.elem t)).run P w = .ok n w:=by
    unfold jj at hn;cases hi:P.info? e with
    |none=>grind
    | some i=>
     have:i.size=n:=by simpa [hi]using hn
     simp[sizeOf,typeInfo,iA,hi,this]
   obtain⟨v0,Z,iB⟩:=UW.ok hR.root;rw[hD]at Z;injection Z with Z;subst Z;have hf:RV w 0 (λ_=>none) [] (.sl tc 0 qn xs) (.slice D n' c):=iB.gn;obtain⟨hp,ze,UU⟩:=hf.part (a:=l.toNat) (h:=m.toNat) (by omega) (by omega) (by omega);have aoe:((dh.getD xs.length:Nat):Int)=(C:Int):=by rw[UX,ze]
   rw[aoe]at h6;refine⟨sliced D l.toNat m.toNat c n,?_,D,n',c,hD,by omega,by omega,rfl⟩;rw[run_sliceAt_slice w t _ _ _ _ T];rcases h5 with ⟨rfl,rfl⟩|⟨kl,rfl⟩<;>rcases h6 with ⟨rfl,rfl⟩|⟨kh,rfl⟩
   ·rw[run_slice_all w t D C c T,Y];simp
   ·rw[run_slice_h w t D C c T kh m (by omega) (by omega),Y];simp
   ·rw[run_slice_l w t D C c T kl l (by omega) (by omega),Y];simp
   ·rw[run_slice_lh w t D C c T kl kh l m (by omega) (by omega) (by omega),Y];simp
  ·cases h
 ·cases h
def aof{t:TypeId}{x:A}{lo hi:ah A}{k:A -> ah X}(h:zg P σ t x lo hi k=some r):∃ y,k y=some r /\
  ∀ aj ρ a w,Rl w0 N aj ρ σ a w -> ∀ (u:Value) (C D:ah Value),RA w w0.heap.size aj ρ x u -> (∀ a,lo=some a -> ∃ v,C=some v/\RA w w0.heap.size aj ρ a v) -> (lo=none -> C=none) -> (∀ a,hi=some a -> ∃ v,D=some v/\RA w w0.heap.size aj ρ a v) -> (hi=none -> D=none) ->
   ∃t',(Instr.sliceAt t u C D none).run P w = .ok t' w/\RA w w0.heap.size aj ρ y t':=by
 unfold zg at h;split at h
 ·rename_i q;obtain⟨y,E,L⟩:=abX h
  refine⟨y,E,λaj ρ a w T u C D O U Y Z zf=>?_⟩
  have fW:∃ A n c,u = .slice A n c:=by
   have:=O.1;cases u<;>first|cases this;done|exact⟨_,_,_,rfl⟩
  obtain⟨A,n,c,rfl⟩:=fW;exact L aj ρ a w T A n c n C D O.2 rfl (dM _) U Y Z zf
 ·rename_i q s j;obtain⟨y,E,L⟩:=abX h
  refine⟨y,E,λaj ρ a w T u C D O U Y Z zf=>?_⟩
  obtain⟨A,n,c,hD,_,a2,rfl⟩:=O;have e:sliced A 0 j c s = .slice A j c:=by cases A<;>simp[sliced,Addr.add]
  rw[e];exact L aj ρ a w T A n c j C D hD rfl a2 U Y Z zf
 ·obtain⟨y,E,_,L⟩:=aoc h;exact⟨y,E,λaj ρ a w _ u C D=>L w _ aj ρ u C D⟩
end
abbrev Pt:=Bool×aa V
def PV(w:World)(B:Nat)(aj:bG)(key:Nat->aa Nat)(p:Pt)(u:Value):Prop:=
 ∃us:Array Value,(match p.1 with|true=>u = .agg us|false=>us = #[u])/\us.size=p.2.length/\∀(j:Nat) x,p.2[j]?=some x->∃v,us[j]?=some v/\RV w B aj (key j) x v
def zh(w:World)(cs:aa V)(u:Value):Prop:=
 ∃b off,u = .pointer (some ⟨b,off,none⟩)/\b<w.heap.size/\∀(j:Nat) x,cs[j]?=some x->∃v,w.cell? ⟨b,off+j,none⟩=some v/\RV w w.heap.size (λ_=>none) [] x v
inductive PA (w:World):Pt->Value->Prop
 |v (p:Pt) (u:Value) (h:PV w w.heap.size (λ_=>none) (λ_=>[]) p u):PA w p u
 |p (c:V) (cs:List V) (u:Value) (h:zh w (c::cs) u):PA w (false,.bool true::c::cs) u
 |f (g:Nat) (c:V) (cs:List V) (u:Value) (h:zh w (c::cs) u):PA w (false,.bool false::.int .i64 (g:Int)::c::cs) (.func (.func g) #[] #[u])
def oN(w:World)(args:aa Pt)(bY:Array Value):Prop:=
 bY.size=args.length/\∀(i:Nat) p,args[i]?=some p->∃u,bY[i]?=some u/\PA w p u
def PA.pv{w:World}{x:V}{u:Value}(h:PA w (false,[x]) u):PV w w.heap.size (λ_=>none) (λ_=>[]) (false,[x]) u:=by
 cases h with
 |v _ _ h=>exact h
def PA.pvS{w:World}{xs:aa V}{u:Value}(h:PA w (true,xs) u):PV w w.heap.size (λ_=>none) (λ_=>[]) (true,xs) u:=by
 cases h with
 |v _ _ h=>exact h
inductive fR where
 |one (p:Pt)
 |eS (ps:List Pt)
def zi(t:TC):Nat->Bool
 |0=>false
 |1=>true
 |o+2=>Nat.ble (full t) o ||Nat.beq (o % 2) 1
def V.loc:V->Bool
 |.sl t o _ _=>zi t o
 |_=>true
def ju(w:World)(B:Nat)(aj:bG)(nm:Nat->Nat):Nat->aa Pt->aa Value->Prop
 |_,[],[]=>True
 |off,p::ps,v::C=>(p.2.all V.loc=true/\PV w B aj (λj=>[nm (off+j)]) p v)/\ju w B aj nm (off+p.2.length) ps C
 |_,_,_=>False
def pN(w:World)(B:Nat)(aj:bG)(nm:Nat->Nat):fR->Value->Prop
 |.one p,v=>ju w B aj nm 0 [p] [v]
 |.eS ps,v=>∃C:Array Value,v = .tuple C/\ju w B aj nm 0 ps C.toList
structure iK where
 run:(X:Type)->List Pt->(fR->Option X)->Option X
def ij(P:Program)(f:Nat)(c:iK):Prop:=
 (∀ args,cL λX k=>c.run X args k)/\∀ args C,c.run fR args some=some C->∀ (nm:Nat->Nat) (w:World) (bY:Array Value),oN w args bY->Hd w (λ_=>none)->
  Calls P f bY w λe w'=>∃v aA,e = .returned v/\Below w.heap.size w w'/\(∀b k,aA b=some k->w.heap.size<=b/\b<w'.heap.size/\k≠[])/\pN w' w.heap.size aA nm C v
def qG{X:Type}(σ:S):aa Lf->(aa V->ah X)->ah X
 |[],k=>k []
 |x::xs,k=>oF σ x λy=>qG σ xs λys=>k (y.gn::ys)
def nR{X:Type}(σ:S)(x:A)(k:Pt->ah X):ah X:=
 match x with
 |.lf y=>qG σ [y] λC=>k (false,C)
 |.agg ys=>qG σ ys λC=>k (true,C)
 |.view q s i j=>uZ σ q s i j λy=>k (false,[y])
 |.iY (c::cs)=>k (false,.bool true::c.gn::cs.map V.gn)
 |_=>none
def vj{X:Type}(σ:S)(x:A)(k:Pt->ah X):ah X:=
 match x with
 |.iY (c::cs)=>k (false,.bool true::c.gn::cs.map V.gn)
 |.mQ f (c::cs)=>k (false,.bool false::.int .i64 (f:Int)::c.gn::cs.map V.gn)
 | .aJ r j=>(match σ.m r with
  | some (.aC cs)=>qG σ (cs.drop j) λC=>(match C with
   |c::cs=>k (false,.bool true::c::cs)
   |[]=>none)
  |_=>none)
 | .fn f [(r,j)]=>(match σ.m r with
  | some (.aC cs)=>qG σ (cs.drop j) λC=>(match C with
   |c::cs=>k (false,.bool false::.int .i64 (f:Int)::c::cs)
   |[]=>none)
  |_=>none)
 |x=>nR σ x k
def vk{X:Type}(f:A->(Pt->ah X)->ah X)(σ:S):aa Operand->(aa Pt->ah X)->ah X
 |[],k=>k []
 |x::xs,k=>f (aK σ x) λp=>vk f σ xs λps=>k (p::ps)
def Bq{X:Type}(σ:S)(xs:aa Operand)(k:aa Pt->ah X):ah X:=vk (vj σ) σ xs k
def rN{X:Type}(σ:S)(xs:aa Operand)(k:aa Pt->ah X):ah X:=vk (nR σ) σ xs k
def nS(c:Nat):aa V->aa Lf
 |[]=>[]
 |x::xs=>(bif x.aF then .v x else .own [c])::nS (c+1) xs
def lY(c:Nat)(σ:S):aa V->S
 |[]=>σ
 |x::xs=>lY (c+1) (bif x.aF then σ else (σ.drop c).root c (.sl x)) xs
def rO(c:Nat):aa Pt->aa (Bool×aa Lf)
 |[]=>[]
 |p::ps=>(p.1,nS c p.2)::rO (c+p.2.length) ps
def oO(c:Nat)(σ:S):aa Pt->S
 |[]=>σ
 |p::ps=>oO (c+p.2.length) (lY c σ p.2) ps
def nT{X:Type}(σ:S)(d:Nat)(C:fR)(k:S->ah X):ah X:=match C with
 | .one p=>(match yS (p.1,nS (1000000000100000+1000*d) p.2)with
  |some y=>k ((lY (1000000000100000+1000*d) σ p.2).set d y)
  |none=>none)
 |.eS ps=>k ((oO (1000000000100000+1000*d) σ ps).set d (.eS (rO (1000000000100000+1000*d) ps)))
def rP{X:Type}(N:Nat)(σ:S)(d:Nat)(c:iK)(ev:(aa Pt->ah X)->ah X)(k:S->ah X):ah X:=
 bif Nat.blt d N then ev λps=>c.run X ps λC=>nT σ d C k else none
def aog{X:Type}(N:Nat)(σ:S)(d:Nat)(c:iK)(args:aa Operand)(k:S->ah X):ah X:=rP N σ d c (Bq σ args) k
def aoh{X:Type}(N:Nat)(σ:S)(d:Nat)(c:iK)(args:aa Operand)(k:S->ah X):ah X:=rP N σ d c (rN σ args) k
section
variable {P:Program} {w w':World} {w0:Wd} {B N:Nat} {aj aA:bG} {ρ ρ':Nat->Loc} {σ:S} {a:Act} {X:Type} {d:Nat} {r:X} {o:Oper}
def Hl:∀ (xs:aa Lf) (k:aa V -> ah X),qG σ xs k=some r -> ∃ C,k C=some r/\C.length=xs.length /\ ∀ aj ρ a w,Rl w0 N aj ρ σ a w -> ∀ (j:Nat) x y u,xs[j]?=some x -> C[j]?=some y -> dU w w0.heap.size aj ρ x u -> RV w w.heap.size (λ_=>none) [] y u
 |[],k,h=>⟨[],h,rfl,λ_ _ _ _ _ j x y u L=>by simp at L⟩
 | x :: xs,k,h=>by
  obtain⟨y,O,T⟩:=UJ h;obtain⟨ys,U,Y,hr⟩:=Hl xs _ T
  refine⟨y.gn::ys,U,by simp[Y],λaj ρ a w Z j x' y' u D E hu=>?_⟩
  cases j with
  | zero=>
   simp at D E;subst D E;obtain⟨q,hq⟩:=O aj ρ a w Z u hu;exact hq.gn
  |succ j=>grind
def abY{D C:Nat}{cs:aa Lf}{E:aa V}(Z:σ.m D=some (.aC cs))(hl:E.length=(cs.drop C).length)
  (hr:∀aj ρ a w,Rl w0 N aj ρ σ a w->∀(j:Nat) x y u,(cs.drop C)[j]?=some x->E[j]?=some y->dU w w0.heap.size aj ρ x u->RV w w.heap.size (λ_=>none) [] y u)
  {aj:bG} {ρ:Nat->Loc} {a:Act} {w:World} {u:Value} (L:Rl w0 N aj ρ σ a w) (hu:RA w w0.heap.size aj ρ (.aJ D C) u):zh w E u:=by
 obtain⟨b,off,e1,rfl⟩:=hu;cases L.root D _ Z with
 | aC b' GW cells e _ us O kP T hs hc=>
  rw[e1]at O;injection O with q1 q2;subst q1 q2
  refine⟨b,off+C,rfl,(iH.1 T).1,λj x U=>?_⟩
  have hj:j<(cs.drop C).length:=by rw[<-hl];exact(dQ.1 U).1
  have Y:=bZ hj;have aoi:cs[C+j]?=some (cs.drop C)[j]:=by rw[<-List.getElem?_drop];exact Y
  obtain⟨k1,k2⟩:=hc _ _ aoi;refine⟨us (C+j),?_,hr aj ρ a w L j _ x _ Y U k2⟩;rw[Nat.add_assoc,cell_of_row w b _ cells _ _ T];exact k1
def UY{cs:aa V}{u:Value}(E:RF w B aj cs u):zh w (cs.map V.gn) u:=by
 obtain⟨b,off,rfl,L,Y,O⟩:=E
 refine⟨b,off,rfl,L,λj x C=>?_⟩
 rw[eH]at C;cases D:cs[j]? with
 |none=>simp_all
 | some y=>
  rw[D]at C;injection C with C;subst C;obtain⟨_,v,T,U⟩:=O j y D;exact⟨v,T,U.gn⟩
def abZ{x:A}{k:Pt -> ah X}(h:nR σ x k=some r):∃ p,k p=some r /\ ∀ aj ρ a w,Rl w0 N aj ρ σ a w -> ∀ u,RA w w0.heap.size aj ρ x u -> PA w p u:=by
 unfold nR at h;split at h
 ·rename_i y;obtain⟨Z,E,O,U⟩:=Hl (w0:=w0) (N:=N) _ _ h
  refine⟨_,E,λaj ρ a w L u C=>.v _ _ ⟨#[u],rfl,by simp[O],λj x D=>?_⟩⟩
  have T:j=0:=by
   grind
  subst T;exact⟨u,rfl,U aj ρ a w L 0 y x u rfl D C⟩
 ·rename_i ys;obtain⟨Z,E,O,U⟩:=Hl (w0:=w0) (N:=N) _ _ h
  refine⟨_,E,λaj ρ a w L u C=>?_⟩
  obtain⟨us,rfl,Y⟩:=C
  refine .v _ _ ⟨us,rfl,by rw[O];exact Y.1,λj x D=>?_⟩
  have T:j<ys.length:=by rw[<- O];exact(dQ.1 D).1
  obtain⟨v,hv,fl⟩:=Y.2 j _ (bZ T)
  grind
 ·obtain⟨z,E,_,hz⟩:=abr h
  refine⟨_,E,λaj ρ a w L u C=>.v _ _ ⟨#[u],rfl,rfl,λj x D=>?_⟩⟩
  cases j with
  | zero=>
   simp at D;subst D;exact⟨u,rfl,hz _ _ _ _ _ _ L u C _⟩
  |succ j=>simp at D
 next c cs=>exact⟨_,h,λaj ρ a w L u C=>.p _ _ _ (UY C)⟩
 ·cases h
def aoj{x:A}{k:Pt -> ah X}(h:vj σ x k=some r):∃ p,k p=some r /\ ∀ aj ρ a w,Rl w0 N aj ρ σ a w -> ∀ u,RA w w0.heap.size aj ρ x u -> PA w p u:=by
 unfold vj at h;split at h
 ·rename_i c cs
  refine⟨_,h,λaj ρ a w E u C=>?_⟩
  exact .p _ _ _ (UY C)
 ·rename_i f c cs
  refine⟨_,h,λaj ρ a w E u C=>?_⟩
  obtain⟨pv,rfl,L⟩:=C;exact .f _ _ _ _ (UY L)
 ·rename_i Z Y;split at h
  ·rename_i cs O;obtain⟨vs,D,T,U⟩:=Hl (w0:=w0) (N:=N) _ _ h;split at D
   ·rename_i c eC
    refine⟨_,D,λaj ρ a w E u C=>?_⟩
    exact .p _ _ _ (abY O T U E C)
   ·cases D
  ·cases h
 ·rename_i f Z Y;split at h
  ·rename_i cs O;obtain⟨vs,D,T,U⟩:=Hl (w0:=w0) (N:=N) _ _ h;split at D
   ·rename_i c eC
    refine⟨_,D,λaj ρ a w E u C=>?_⟩
    obtain⟨ps,rfl,hs,L⟩:=C;obtain⟨b,off,e1,e2⟩:=L 0 _ rfl;have e:ps = #[.pointer (some ⟨b,off+Y,none⟩)]:=by
     grind
    subst e;exact .f _ _ _ _ (abY O T U E ⟨b,off,e1,rfl⟩)
   ·cases D
  ·cases h
 ·exact abZ h
def UZ{f:A->(Pt->ah X)->ah X}(L:∀ x k,f x k=some r->∃ p,k p=some r/\∀ aj ρ a w,Rl w0 N aj ρ σ a w->∀ u,RA w w0.heap.size aj ρ x u->PA w p u):
  ∀(xs:aa Operand) (k:aa Pt->ah X),vk f σ xs k=some r->∃ps,k ps=some r/\∀aj ρ a w,Rl w0 N aj ρ σ a w->oN w ps (xs.map a.eval).toArray
 |[],k,h=>⟨[],h,λ_ _ _ _ _=>⟨rfl,λi p D=>by simp at D⟩⟩
 | x :: xs,k,h=>by
  unfold vk at h;obtain⟨p,T,D⟩:=L _ _ h;obtain⟨ps,U,O⟩:=UZ L xs _ T
  refine⟨p::ps,U,λaj ρ a w C=>⟨?_,λi q E=>?_⟩⟩
  ·have:=(O aj ρ a w C).1;simp at this;simp[this]
  ·cases i with
   | zero=>
    simp at E;subst E;exact⟨_,rfl,D aj ρ a w C _ (C.aK x)⟩
   | succ i=>
    obtain⟨u,Y,Z⟩:=(O aj ρ a w C).2 i q (by simpa using E);exact⟨u,by simpa using Y,Z⟩
def aok(xs:aa Operand)(k:aa Pt->ah X)(h:Bq σ xs k=some r):∃ps,k ps=some r/\∀aj ρ a w,Rl w0 N aj ρ σ a w->oN w ps (xs.map a.eval).toArray:=UZ (λ_ _=>aoj) xs k h
def ab0(xs:aa Operand)(k:aa Pt->ah X)(h:rN σ xs k=some r):∃ps,k ps=some r/\∀aj ρ a w,Rl w0 N aj ρ σ a w->oN w ps (xs.map a.eval).toArray:=UZ (λ_ _=>abZ) xs k h
def aol{t:TC}{o:Nat}(h:zi t (o+2)=true)(x:T t):∀ y∈enc t o x,y.loc=true:=by
 intro y D;have L:=yM t o x y D;cases y with
 | sl E C q l=>
  have O:C=o:=by simpa [V.gr]using L
  subst O;have U:full E+2 <= full t:=cP (Nd t C x _ D);show zi E C=true;simp only[zi,eD]at h;rcases h with h|h
  ·have h:=cP h
   match C,h with
   |0,h=>omega
   |1,h=>rfl
   | n+2,h=>
    simp only[zi,eD];left;exact jr (by omega)
  ·have h:=cE h
   match C,h with
   |0,h=>omega
   |1,h=>rfl
   | n+2,h=>
    simp only[zi,eD];simp_all
 |_=>rfl
def RV.zj{q:aa Nat}{x:V}{v:Value}(h:RV w B aj q x v){B':Nat}(hB:B' <= B)(Y:∀ b,B <= b -> aA b=aj b)(Z:∀ b k,aj b=some k -> aA b=some k)(O:x.loc=true):RV w B' aA q x v:=by
 induction h with
 |int=>exact .int _ _ _
 |bool=>exact .bool _ _
 |str=>exact .str _ _
 |nil=>exact .nil _
 |ep=>exact .ep _ _ _
 |fA=>exact .fA _ _ _ _ _ (by first|assumption|omega)
 |fK=>exact .fK _ _ _ _ _ (by first|assumption|omega)
 | aF q t o qn l b off cap u T D hb h1 iJ E hr L=>
  have Br:o=1:=by
   match o,T,O with
   |1,_,_=>rfl
  subst Br;have U:=h1 rfl
  refine .aF _ _ _ _ _ _ _ _ u T ((Y b U).trans D) hb (λ_=>Nat.le_trans hB U) iJ E (λi h j x C=>L i h j x C ?_)
  have:=yM t 1 l[i] x (gO C);cases x with
  | sl t' o' q' l'=>
   have:o'=1:=by simpa [V.gr]using this
   subst this;rfl
  |_=>rfl
 | own q t o qn l b cap cs u D hh hs hn hm E hr L=>
  exact .own _ _ _ _ _ _ _ cs u (Z b q D) hh hs hn hm E (λi h j x C=>L i h j x C (aol O l[i] x (gO C)))
def RV.home{q:aa Nat}{x:V}{v:Value}(h:RV w B aj q x v){B':Nat}(hB:B'<=B)(C:∀ b,B<=b->aA b=aj b)(D:∀ b k,aj b=some k->B<=b)(E:x.loc=true):RV w B' aA q x v:=
 h.zj hB C (λb k h=>(C b (D b k h)).trans h) E
def U0:∀ (xs:aa V) (c:Nat) (σ:S) (ρ:Nat -> Loc) (us:aa Value),60000 <= c -> Rl w0 N aj ρ σ a w -> us.length=xs.length -> (∀ (j:Nat) x u,xs[j]?=some x -> us[j]?=some u -> RV w w0.heap.size aj [c+j] x u) ->
  ∃ρ',Rl w0 N aj ρ' (lY c σ xs) a w/\(∀r,r<c -> ρ' r=ρ r) /\ ∀(j:Nat) x u,(nS c xs)[j]?=some x -> us[j]?=some u -> dU w w0.heap.size aj ρ' x u
 |[],c,σ,ρ,us,_,h,O,E=>⟨ρ,h,λ_ _=>rfl,λj x u hx=>by simp[nS]at hx⟩
 | x :: xs,c,σ,ρ,us,hc,h,O,E=>by
  cases us with
  |nil=>simp at O
  | cons u us=>
   have T:=E 0 x u rfl rfl;rw[Nat.add_zero]at T;have vi:∀ (j:Nat) U Y,xs[j]?=some U -> us[j]?=some Y -> RV w w0.heap.size aj [c+1+j] U Y:=λj U Y hx hu=>by
    have:=E (j+1) U Y (by simpa using hx) (by simpa using hu)
    grind
   cases C:x.aF with
   | true=>
    obtain⟨ρ',dG,Z,w7⟩:=U0 xs (c+1) σ ρ us (by omega) h (by simpa using O) vi
    refine⟨ρ',?_,λr E=>Z r (by omega),λj y v D L=>?_⟩
    ·simp[lY,C];exact dG
    ·simp only[nS,C,au]at D;cases j with
     | zero=>
      simp at D L;subst D L;exact⟨C,T.key C⟩
     |succ j=>grind
   | false=>
    have fW:=T.Ui C;obtain⟨ρ',dG,Z,w7⟩:=U0 xs (c+1) _ _ us (by omega) (h.new (d:=c) (x:=.sl x) (.dX u) (.sl u x (cm _ _ _) T) (h.dz c (.inr hc))) (by simpa using O) vi
    refine⟨ρ',?_,λr E=>?_,λj y v D L=>?_⟩
    ·simp[lY,C];exact dG
    ·rw[Z r (by omega)];exact cM _ _ _ (by omega)
    ·simp only[nS,C,aq]at D;cases j with
     | zero=>
      simp at D L;subst D L;refine⟨fW,?_⟩;have:ρ' c = .dX u:=by rw[Z c (by omega)];exact cm _ _ _
      simp[c8,this]
     |succ j=>grind
def aom(xs:aa V):∀ c,(nS c xs).length=xs.length:=by
 induction xs with
 |nil=>intro c;rfl
 |cons x xs C=>intro c;simp[nS,C]
end
def enters(P:Program)(f:Nat):Prop:=∃fn,P.funcs[f]?=some fn/\(fn.name == "runtime.NumGoroutine")=false/\fn.body.isNone=false
/-! What a function gives back. -/
def NJ:A->ah (Bool×aa Lf)
 |.lf x=>some (false,[x])
 |.agg xs=>some (true,xs)
 |_=>none
def rQ{X:Type}(P:Program)(σ:S):aa ResultVar->(aa (Bool×aa Lf)->ah X)->ah X
 |[],k=>k []
 | .tmp t :: rest,k=>(match NJ (σ.t t)with
  |some p=>rQ P σ rest λps=>k (p::ps)
  |none=>none)
 | .cell p ty :: rest,k=>nO P σ ty (σ.t p) λx=>(match NJ x with
  |some p=>rQ P σ rest λps=>k (p::ps)
  |none=>none)
def U1(m:Nat->ah bg):Lf->ah (V×ah Nat)
 |.v x=>bif x.loc&&x.aF then some (x,none)else none
 | .own [r]=>match m r with
  |some (.sl y)=>bif y.loc then some (y,some r)else none
  |_=>none
 |_=>none
def Ho(m:Nat->ah bg)(off:Nat):aa Lf->ah (aa V×aa (Nat×Nat))
 |[]=>some ([],[])
 | x :: xs=>match U1 m x,Ho m (off+1) xs with
  |some (y,none),some (ys,rs)=>some (y::ys,rs)
  |some (y,some r),some (ys,rs)=>some (y::ys,(r,off)::rs)
  |_,_=>none
def D9(m:Nat->ah bg)(off:Nat):aa (Bool×aa Lf)->ah (aa Pt×aa (Nat×Nat))
 |[]=>some ([],[])
 | p :: ps=>match Ho m off p.2,D9 m (off+p.2.length) ps with
  |some (C,rs),some (D,E)=>some ((p.1,C)::D,rs++E)
  |_,_=>none
def once(rs:aa (Nat×Nat)):Bool:=rs.all λp=>(rs.lookup p.1).any λn=>Nat.beq n p.2
def Hp{X:Type}(P:Program)(σ:S)(fn:Array ResultVar)(k:fR->ah X):ah X:=
 rQ P σ fn.toList λps=>match D9 σ.m 0 ps with
  | some (qs,rs)=>bif once rs then (match qs with
   |[p]=>k (.one p)
   |qs=>k (.eS qs))else none
  |none=>none
section
variable {P:Program} {w w':World} {w0:Wd} {B N:Nat} {aj aA:bG} {ρ ρ':Nat->Loc} {σ:S} {a:Act} {X:Type} {d:Nat} {r:X} {o:Oper}
def ab1:∀ (xs:aa V) (c:Nat) (j:Nat) x u,(nS c xs)[j]?=some x -> dU w B aj ρ x u -> (∀ r,r<c+xs.length -> ρ' r=ρ r) -> dU w B aj ρ' x u
 |[],c,j,x,u,D,_,_=>by simp[nS]at D
 | y :: ys,c,j,x,u,D,C,E=>by
  cases j with
  | zero=>
   simp[nS,List.getElem?_cons_zero,iw]at D;subst D;cases L:y.aF with
   |true=>rw[L]at C;simp;exact C
   | false=>
    rw[L]at C;refine⟨C.1,?_⟩;have:=C.2;simp[c8,E c (by simp)]at this ⊢;exact this
  | succ j=>
   exact ab1 ys _ j x u D C (λr h=>E r (by simp;omega))
def PV.cells{key:Nat -> aa Nat}{p:Pt}{u:Value}(h:PV w B aj key p u):∃ us:aa Value,us.length=p.2.length/\(∀ (j:Nat) x v,p.2[j]?=some x -> us[j]?=some v -> RV w B aj (key j) x v) /\
  ∀(ρ:Nat -> Loc) (C:aa Lf),C.length=p.2.length -> (∀(j:Nat) x v,C[j]?=some x -> us[j]?=some v -> dU w B aj ρ x v) -> RP w B aj ρ (p.1,C) u:=by
 obtain⟨us,D,E,Z⟩:=h;obtain⟨b,xs⟩:=p
 refine⟨us.toList,by simpa using E,λj x v L hv=>?_,λρ C O Y=>?_⟩
 ·grind
 ·have T:eF w B aj ρ C us:=⟨by rw[E,O],λj x L=>by
   have U:j<us.size:=by rw[E,<- O];exact(dQ.1 L).1
   exact⟨us[j],Array.getElem?_eq_getElem U,Y j x _ L (by rw[Array.getElem?_toList,Array.getElem?_eq_getElem U])⟩⟩
  cases b with
  |true=>exact⟨us,D,T⟩
  |false=>have D:=D;subst D;exact T
def Hq:∀ (ps:aa Pt) (c0 off:Nat) (σ:S) (ρ:Nat -> Loc) (C:aa Value),60000 <= c0 -> Rl w0 N aj ρ σ a w -> ju w w0.heap.size aj (λn=>c0+n) off ps C ->
  ∃ρ',Rl w0 N aj ρ' (oO (c0+off) σ ps) a w/\(∀r,r<c0+off -> ρ' r=ρ r)/\C.length=(rO (c0+off) ps).length /\ ∀(i:Nat) p v,(rO (c0+off) ps)[i]?=some p -> C[i]?=some v -> RP w w0.heap.size aj ρ' p v
 | [],c0,off,σ,ρ,C,_,h,D=>by
  cases C with
  |nil=>exact⟨ρ,h,λ_ _=>rfl,rfl,λi p v T=>by simp[rO]at T⟩
  |cons v C=>exact D.elim
 | p :: ps,c0,off,σ,ρ,C,hc,h,D=>by
  cases C with
  |nil=>exact D.elim
  | cons v C=>
   obtain⟨⟨_,T⟩,D⟩:=D;obtain⟨us,hl,jL,vm⟩:=T.cells;obtain⟨s9,h1,U2,w7⟩:=U0 p.2 (c0+off) σ ρ us (by omega) h hl (λj x u L E=>by
    have:RV w _ aj [c0+(off+j)] x u:=jL j x u L E;rw[<- Nat.add_assoc]at this;exact this)
   obtain⟨eU,Y,U,hlen,Z⟩:=Hq ps c0 (off+p.2.length) (lY (c0+off) σ p.2) s9 C hc h1 D;rw[<- Nat.add_assoc]at Y U hlen Z
   refine⟨eU,Y,λr D=>(U r (by omega)).trans (U2 r D),by simp[rO,hlen],λi q u O E=>?_⟩
   cases i with
   | zero=>
    simp[rO,List.getElem?_cons_zero,iw]at O E;subst O E
    refine vm eU _ (aom _ _) (λj x u L E=>ab1 p.2 _ j x u L (w7 j x u L E) U)
   | succ i=>
    simp[ List.getElem?_cons_succ]at O E;exact Z i q u O E
def ju.home{nm:Nat -> Nat}:∀ (ps:aa Pt) (off:Nat) (C:aa Value) {B':Nat},ju w B aj nm off ps C -> B' <= B -> (∀ b,B <= b -> aA b=aj b) -> (∀ b k,aj b=some k -> B <= b) -> ju w B' aA nm off ps C
 |[],_,[],_,h,_,_,_=>h
 | p :: ps,off,v :: C,B',h,hB,D,E=>by
  obtain⟨⟨L,us,T,U,Y⟩,Z⟩:=h
  refine⟨⟨L,us,T,U,λj x O=>?_⟩,ju.home ps _ C Z hB D E⟩
  obtain⟨v',sS,fl⟩:=Y j x O;exact⟨v',sS,fl.home hB D E (cw.1 L x (gO O))⟩
def U3(w:World)(o:Oper)(a:Act)(f:Nat)(args:Array Operand)(D:Array TypeId)(E:o.op = .call { callee:=.value (.func f),args,argTypes:=D })(L:enters P f):(execOp a.eval o).run P w = .ok (.enter f (args.map a.eval)) w:=by
 obtain⟨fn,O,T,C⟩:=L;have U:¬ fn.name = "runtime.NumGoroutine":=by simpa using T
 have Y:¬ fn.body=none:=by intro e;rw[e]at C;cases C
 simp[execOp,E,resolve,Act.eval,Deferred.ofValue,invoke,callFunc,Sem.run,O,U,Y]
def aon{f:Nat}{args:Array Operand}{kQ:Array TypeId}{c:iK}{k:S->ah X}(ho:o.op = .call { callee:=.value (.func f),args,argTypes:=kQ })(hd:o.dst=some d)(he:enters P f)(hc:ij P f c)(Bt:d<N){ps:aa Pt}(lE:∀ aj ρ a w,Rl w0 N aj ρ σ a w->oN w ps (args.toList.map a.eval).toArray)
  (h2:(c.run X ps λE=>nT σ d E k)=some r):∃cR,k cR=some r/\lA P w0 N o σ cR:=by
 obtain⟨E,L,U4⟩:=(hc.1 ps).mT h2;have Hr:=hc.2 ps E (U4 _ _);unfold nT at L;have step:∀ a w K Q aj ρ,Rl w0 N aj ρ σ a w->(∀ v w' aA,Below w.heap.size w w'->Rl w0 N aA ρ σ a w'->pN w' w0.heap.size aA (λn=>1000000000100000+1000*d+n) E v->K (a.put o.dst v) w')->o.wp P a w K Q:=by
  intro a w K Q aj ρ C U;unfold Oper.wp;rw[U3 w o a f args kQ ho he,Oper.upon_enter];have Bu:(args.map a.eval)=(args.toList.map a.eval).toArray:=by apply Array.ext';rw[Array.toList_map]
  rw[Bu]
  refine(Hr (λn=>1000000000100000+1000*d+n) w _ (lE aj ρ a w C) (w0.on C.below (λ_ _ h=>by cases h))).mono λe w' ta=>?_
  obtain⟨v,Hs,rfl,Y,kP,O⟩:=ta;have hB:=C.below.size;let dJ:bG:=λb=>if b<w.heap.size then aj b else Hs b
  have e1:∀b,b<w.heap.size->dJ b=aj b:=λb Z=>bM Z
  have e2:∀b,w.heap.size<=b->dJ b=Hs b:=λb Z=>bX
  refine U v w' dJ Y (C.grow Y e1 (λb k Z T=>?_)) ?_
  ·rw[e2 b Z]at T;exact(kP b k T).2
  ·cases E with
   |one p=>exact ju.home [p] 0 [v] O hB e2 (λb k T=>(kP b k T).1)
   | eS w8=>
    obtain⟨D,e,hv⟩:=O;exact⟨D,e,ju.home w8 0 D.toList hv hB e2 (λb k T=>(kP b k T).1)⟩
 cases E with
 | one p=>
  simp only at L;split at L
  ·rename_i y hy
   refine⟨_,L,λa w K Q C U=>?_⟩
   obtain⟨aj,ρ,C⟩:=C
   refine step a w K Q aj ρ C λv w' aA Y dG O=>?_
   obtain⟨ρ',oP,_,_,qH⟩:=Hq [p] (1000000000100000+1000*d) 0 σ ρ [v] (by omega) dG O;rw[hd];have U5:=qH 0 _ v rfl rfl;exact U _ _ ⟨aA,ρ',oP.set (Ux hy U5) Bt⟩
  ·cases L
 | eS w8=>
  refine⟨_,L,λa w K Q C U=>?_⟩
  obtain⟨aj,ρ,C⟩:=C
  refine step a w K Q aj ρ C λv w' aA Y dG O=>?_
  obtain⟨D,rfl,hv⟩:=O;obtain⟨ρ',oP,_,hlen,qH⟩:=Hq w8 (1000000000100000+1000*d) 0 σ ρ D.toList (by omega) dG hv;rw[hd]
  refine U _ _ ⟨aA,ρ',oP.set ⟨D,rfl,by simpa using hlen,λj p hp=>?_⟩ Bt⟩
  have hj:j<D.size:=by
   have:=(dQ.1 hp).1;rw[Nat.add_zero]at hlen;rw[<-hlen]at this
   simpa using this
  exact⟨D[j],Array.getElem?_eq_getElem hj,qH j p _ hp (by rw[Array.getElem?_toList,Array.getElem?_eq_getElem hj])⟩
def ab2{f:Nat}{args:Array Operand}{E:Array TypeId}{c:iK}{k:S->ah X}{ev:(aa Pt->ah X)->ah X}(L:o.op = .call { callee:=.value (.func f),args,argTypes:=E })(O:o.dst=some d)(T:enters P f)(U:ij P f c)
  (Y:∀k,ev k=some r->∃ps,k ps=some r/\∀aj ρ a w,Rl w0 N aj ρ σ a w->oN w ps (args.toList.map a.eval).toArray) (h:rP N σ d c ev k=some r):∃D,k D=some r/\lA P w0 N o σ D:=by
 unfold rP at h;cases C:Nat.blt d N with
 |false=>rw[C]at h;cases h
 | true=>
  rw[C,au]at h;obtain⟨ps,Z,lE⟩:=Y _ h;exact aon L O T U (cP C) lE Z
end
def ey(aj:bG)(rs:aa (Nat×Nat))(nm:Nat->Nat):bG:=λb=>
 match aj b with
 |none=>none
 | some k=>match k.getLast? with
  |none=>none
  |some r=>(rs.lookup r).map λn=>k.dropLast++[nm n]
section
variable {P:Program} {w w':World} {w0:Wd} {B N:Nat} {aj aA:bG} {ρ ρ':Nat->Loc} {σ:S} {a:Act} {X:Type} {d:Nat} {r:X} {rs:aa (Nat×Nat)} {nm:Nat->Nat}
def zk{b:Nat}(h:aj b=none):ey aj rs nm b=none:=by simp[ey,h]
def RV.ey{p:aa Nat}{r n:Nat}{x:V}{v:Value}(h:RV w B aj (p++[r]) x v)(D:rs.lookup r=some n):RV w B (ey aj rs nm) (p++[nm n]) x v:=
 h.map (Q:=λq C=>∃ p,q=p++[r]/\C=p++[nm n]) (dM _) (λb _ h=>⟨rfl,zk h⟩) (λb q C _ E e=>by
  obtain⟨p,rfl,rfl⟩:=e;exact⟨rfl,by simp[Proofs.YtnilicojgkhpnaaGreat.ey,E,D],λj i s=>⟨j::i::s::p,rfl,rfl⟩⟩) (.inr ⟨p,rfl,rfl⟩)
def U6{m:Nat -> ah bg}:∀ (xs:aa Lf) (off:Nat) (ys:aa V) (E:aa (Nat×Nat)),Ho m off xs=some (ys,E) -> ys.length=xs.length /\ ∀ (j:Nat) x,xs[j]?=some x -> ∃ y,ys[j]?=some y/\y.loc=true/\((x = .v y/\y.aF=true) \/ ∃ r,x = .own [r]/\m r=some (.sl y)/\(r,off+j)∈E)
 | [],off,ys,E,h=>by
  simp only[Ho,iw,Prod.mk.injEq]at h;obtain⟨rfl,rfl⟩:=h;exact⟨rfl,λj x C=>by simp at C⟩
 | x :: xs,off,ys,E,h=>by
  have Z:∀ y z,U1 m x=some (y,z) -> y.loc=true/\((z=none/\x = .v y/\y.aF=true) \/ ∃ r,z=some r/\x = .own [r]/\m r=some (.sl y)):=by
   intro y z D;unfold U1 at D
   grind
  unfold Ho at h;split at h
  ·rename_i y L O T U;simp only[iw,Prod.mk.injEq]at h;obtain⟨rfl,rfl⟩:=h;obtain⟨Y,h2⟩:=U6 xs (off+1) L O U
   refine⟨by simp[Y],λj x' C=>?_⟩
   cases j with
   | zero=>
    simp at C;subst C;obtain⟨hl,D|⟨r,D,_⟩⟩:=Z y none T
    ·simp_all
    ·cases D
   |succ j =>grind
  ·rename_i y r L O T U;simp only[iw,Prod.mk.injEq]at h;obtain⟨rfl,rfl⟩:=h;obtain⟨Y,h2⟩:=U6 xs (off+1) L O U
   refine⟨by simp[Y],λj x' C=>?_⟩
   cases j with
   | zero=>
    simp at C;subst C;obtain⟨hl,D|⟨r',D,e1,e2⟩⟩:=Z y (some r) T
    ·cases D.1
    ·simp_all
   |succ j =>grind
  ·cases h
def U7{m:Nat -> ah bg}(hm:∀ r x,m r=some x -> dY w B aj ρ r x):∀ (ps:aa (Bool×aa Lf)) (off:Nat) (L:aa Pt) (O:aa (Nat×Nat)) (C:aa Value),D9 m off ps=some (L,O) -> (∀ p∈O,rs.lookup p.1=some p.2) -> C.length=ps.length ->
  (∀(i:Nat) p v,ps[i]?=some p -> C[i]?=some v -> RP w B aj ρ p v) -> ju w B (ey aj rs nm) nm off L C
 | [],off,L,O,C,h,_,T,_=>by
  have:C=[]:=List.eq_nil_of_length_eq_zero T;subst this;simp only[D9,iw,Prod.mk.injEq]at h;obtain⟨rfl,rfl⟩:=h;trivial
 | p :: ps,off,L,O,C,h,jv,T,hp=>by
  cases C with
  |nil=>simp at T
  | cons v C=>
   unfold D9 at h;split at h
   ·rename_i ys rs1 qs' Bv h1 h2;simp only[iw,Prod.mk.injEq]at h;obtain⟨rfl,rfl⟩:=h;obtain⟨hlen,Nb⟩:=U6 _ _ _ _ h1;have vi:=U7 hm ps _ qs' Bv C h2 (λq hq=>jv q (List.mem_append_right _ hq)) (by simpa using T) (λi q u hq hu=>hp (i+1) q u (by simpa using hq) (by simpa using hu));have zl:=hp 0 p v rfl rfl;have key:∀ us:Array Value,eF w B aj ρ p.2 us -> (us.size=ys.length /\ ∀ (j:Nat) x,ys[j]?=some x -> ∃ u,us[j]?=some u/\RV w B (ey aj rs nm) [nm (off+j)] x u):=by
     intro us U
     refine⟨by rw[hlen];exact U.1,λj y Y=>?_⟩
     have Z:j<p.2.length:=by rw[<- hlen];exact(dQ.1 Y).1
     obtain⟨y',E,Ea,hz⟩:=Nb j _ (bZ Z);rw[Y]at E;injection E with E;subst E;obtain⟨u,hu,hr⟩:=U.2 j _ (bZ Z);refine⟨u,hu,?_⟩;rcases hz with ⟨e,hf⟩|⟨r,e,hmr,zm⟩
     ·rw[e]at hr;exact(hr.2.Nf hf (λb=>zk)).key hf
     ·rw[e]at hr;have eG:=hm r _ hmr;generalize D:bg.sl y=z at eG;cases eG with
      |aC=>cases D
      |mp=>cases D
      |gh=>cases D
      | sl v' y' cB jL=>
       injection D with D;subst D;have Ht:v'=u:=by
        have h4:=hr.2;simp only[c8,cB]at h4;simp_all
       subst Ht;exact RV.ey (p:=[]) jL (jv (r,off+j) (List.mem_append_left _ zm))
    refine⟨⟨?_,?_⟩,?_⟩
    ·rw[cw];intro y Y;obtain⟨j,Z⟩:=List.mem_iff_getElem?.1 Y;have Bg:j<p.2.length:=by rw[<- hlen];exact(dQ.1 Z).1
     obtain⟨y',E,Ea,_⟩:=Nb j _ (bZ Bg);simp_all
    ·obtain⟨b,xs⟩:=p;cases b with
     | true=>
      obtain⟨us,e,U⟩:=zl;obtain⟨k1,k2⟩:=key us U;exact⟨us,e,k1,k2⟩
     | false=>
      obtain⟨k1,k2⟩:=key #[v] zl;exact⟨#[v],rfl,k1,k2⟩
    ·grind
   ·cases h
def aoo{t:TypeId}{x:A}{k:A->ah X}(h:nO P σ t x k=some r){u:Value}(C:RA w B aj ρ x u):∃ ad,u = .pointer (some ad):=by
 unfold nO at h;split at h
 ·cases h
 ·split at h
  ·obtain⟨b,off,_,rfl⟩:=C;exact⟨_,rfl⟩
  ·obtain⟨b,off,rfl,_⟩:=C;exact⟨_,rfl⟩
  ·obtain⟨ad,rfl,_⟩:=C;exact⟨_,rfl⟩
  ·cases h
def ab3{x:A}{p:Bool×aa Lf}(h:NJ x=some p){u:Value}(D:RA w B aj ρ x u):RP w B aj ρ p u:=by
 unfold NJ at h;split at h
 ·injection h with h;subst h
  refine⟨rfl,λj y C=>?_⟩
  cases j with
  |zero=>simp at C;subst C;exact⟨u,rfl,D⟩
  |succ j=>simp at C
 ·injection h with h;subst h;exact D
 ·cases h
def td(tmps:Array Value):ResultVar->Sem Value
 |.tmp t=>pure (tmps.getD t undef)
 |.cell a t=>do loadVar t (<-asAddr (tmps.getD a undef))
def Hu:∀ (l:aa ResultVar) (k:aa (Bool×aa Lf) -> ah X),rQ P σ l k=some r -> ∃ ps,k ps=some r /\ ∀ aj ρ a w,Rl w0 N aj ρ σ a w -> ∃ C,(l.mapM (td a.tmps)).run P w = .ok C w/\C.length=ps.length /\ ∀ (i:Nat) p v,ps[i]?=some p -> C[i]?=some v -> RP w w0.heap.size aj ρ p v
 |[],k,h=>⟨[],h,λ_ _ _ _ _=>⟨[],rfl,rfl,λi p v E=>by simp at E⟩⟩
 | .tmp t :: rest,k,h=>by
  simp only[rQ]at h;split at h
  ·rename_i p E;obtain⟨ps,U,Y⟩:=Hu rest _ h
   refine⟨p::ps,U,λaj ρ a w D=>?_⟩
   obtain⟨C,Z,hl,hv⟩:=Y aj ρ a w D
   refine⟨a.tmps.getD t undef::C,?_,by simp[hl],λi q u L O=>?_⟩
   ·rw[List.mapM_cons];simp[td,Sem.run_pure,lS,fV,Z]
   ·cases i with
    |zero=>simp only[List.getElem?_cons_zero,iw]at L O;subst L O;exact ab3 E (D.tmp t)
    |succ i=>grind
  ·cases h
 | .cell c ty :: rest,k,h=>by
  simp only[rQ]at h;obtain⟨y,hy,hld⟩:=abu (w0:=w0) (N:=N) h;split at hy
  ·rename_i p E;obtain⟨ps,U,Y⟩:=Hu rest _ hy
   refine⟨p::ps,U,λaj ρ a w D=>?_⟩
   obtain⟨C,Z,hl,hv⟩:=Y aj ρ a w D;obtain⟨v,T,w6⟩:=hld aj ρ a w D _ (D.tmp c);obtain⟨ad,oE⟩:=aoo h (D.tmp c);rw[oE]at T;have T:(loadVar ty ad).run P w = .ok v w:=by
    simpa [Instr.loadAt,Instr.sureAddr]using T
   refine⟨v::C,?_,by simp[hl],λi q u L O=>?_⟩
   ·rw[List.mapM_cons];simp[td,oE,asAddr,Sem.run_pure,lS,fV,Z,T]
   ·cases i with
    |zero=>simp at L O;subst L O;exact ab3 E w6
    |succ i=>grind
  ·cases hy
def aop{fn:Func}{k:fR -> ah X}(h:Hp P σ fn.results k=some r):∃ res,k res=some r /\ ∀ aj ρ a w,Rl w0 N aj ρ σ a w -> ∀ nm,∃ v aA,(results fn a.tmps).run P w = .ok v w/\(∀ b k,aA b=some k -> (w0.heap.size <= b \/ w0.L b≠none)/\b<w.heap.size/\k≠[])/\pN w w0.heap.size aA nm res v:=by
 unfold Hp at h;obtain⟨ps,T,qH⟩:=Hu (w0:=w0) (N:=N) _ _ h;clear h;split at T
 ·rename_i Y rs U8;cases ho:once rs with
  |false=>grind
  | true=>
   rw[ho,au]at T;have jv:∀ p∈rs,rs.lookup p.1=some p.2:=by
    intro p hp;have:=cw.1 ho p hp;obtain⟨n,hn,he⟩:=(Option.any_eq_true _ _).1 this;simp_all
   have core:∀ aj ρ a w,Rl w0 N aj ρ σ a w -> ∀ nm:Nat -> Nat,∃ C:aa Value,(fn.results.mapM (td a.tmps)).run P w = .ok C.toArray w/\(∀ b k,ey aj rs nm b=some k -> (w0.heap.size <= b \/ w0.L b≠none)/\b<w.heap.size/\k≠[])/\ju w w0.heap.size (ey aj rs nm) nm 0 Y C:=by
    intro aj ρ a w O nm;obtain⟨C,U,hl,hv⟩:=qH aj ρ a w O
    refine⟨C,?_,λb k E=>?_,U7 O.root ps 0 Y rs C U8 jv hl hv⟩
    ·rw[Array.mapM_eq_mapM_toList];simp[U]
    ·unfold ey at E;split at E
     ·cases E
     ·rename_i k' oK;have:=O.dg b k' oK;split at E
      ·cases E
      ·cases tf:rs.lookup _ with
       |none=>rw[tf]at E;cases E
       | some n=>
        rw[tf]at E;injection E with E;subst E;simp_all
   have lF:∀ (tmps:Array Value),results fn tmps=(do let C <- fn.results.mapM (td tmps);pure (if h:C.size=1 then C[0]else .tuple C)):=λtmps=>by
    unfold results;congr 1
   split at T
   ·rename_i p
    refine⟨_,T,λaj ρ a w O nm=>?_⟩
    obtain⟨C,U,Z,D⟩:=core aj ρ a w O nm
    match C,D with
    |[v],D=>exact⟨v,_,by rw[lF,fV,U];rfl,Z,D⟩
    |[],D=>exact D.elim
    |_::_::_,D=>exact D.2.elim
   ·rename_i dc
    refine⟨_,T,λaj ρ a w O nm=>?_⟩
    obtain⟨C,U,Z,D⟩:=core aj ρ a w O nm;have gH:C.toArray.size≠1:=by
     intro e
     match Y,C,D,dc with
     |[q],[v],_,dc=>exact dc q rfl
     |[],[v],D,_=>exact D.elim
     |_::_::_,[v],D,_=>exact D.2.elim
    refine⟨.tuple C.toArray,_,?_,Z,C.toArray,rfl,D⟩;rw[lF,fV,U,lS];simp only[gH,dif_neg,not_false_eq_true,Sem.run_pure]
 ·cases T
end
inductive In where
 |aC (cs:List V)
 |sl (y:V)
def nF(i:Nat):Nat:=20000+1000*i
def nC(i j:Nat)(x:V):Nat:=bif x.aF then 20001+1000*i+j else 60000+1000*i+j
def zn(i j:Nat)(x:V):Lf:=bif x.plain then .v x else .own [nC i j x]
def zo(i:Nat):Nat->aa V->aa Lf
 |_,[]=>[]
 |j,x::xs=>zn i j x::zo i (j+1) xs
def U9(i:Nat):Nat->aa V->(Nat->ah bg)->(Nat->ah bg)
 |_,[],m=>m
 |j,x::xs,m=>U9 i (j+1) xs (bif x.plain then m else cc m (nC i j x) (some (.sl x)))
def NK:Nat->aa In->(Nat->ah bg)->(Nat->ah bg)
 |_,[],m=>m
 |i,.aC cs::r,m=>NK (i+1) r (U9 i 0 cs (cc m (nF i) (some (.aC (zo i 0 cs)))))
 |i,.sl y::r,m=>NK (i+1) r (cc m (nF i) (some (.sl y)))
inductive Ar where
 |pt (p:Pt)
 |mut (i off:Nat)
def Va(C:aa In):Ar->A
 |.pt (false,[x])=>.lf (.v x)
 |.pt (true,xs)=>.agg (xs.map .v)
 |.pt (false,.bool false::.int .i64 g::c::cs)=>.mQ g.toNat (c::cs)
 |.pt _=>.undef
 | .mut i off=>match C[i]? with
  |some (.aC _)=>.aJ (nF i) off
  |some (.sl _)=>.lf (.own [nF i])
  |none=>.undef
def Bw(C:aa In)(args:aa Ar):S:=⟨λk=>match args[k]? with
 |some x=>Va C x
 |none=>.undef,NK 0 C (λ_=>none)⟩
def qI(w w':World)(aA:bG)(ρ:Nat->Loc)(nm:Nat->Nat):Nat->Nat->aa In->aa In->Prop
 |_,_,[],[]=>True
 | i,D,.aC cs :: r,.aC eC :: L=>(∃ b off cells O e U,ρ (nF i) = .aC b off/\w.heap[b]?=some (.cells cells e (0,0))/\w'.heap[b]?=some (.cells O U (0,0))/\aA b=some [nm D]/\off+eC.length<=O.size/\eC.length=cs.length/\
   ∀(j:Nat) C,eC[j]?=some C->∃u,O[off+j]?=some u/\((C.plain=true/\∀(w:World) (B:Nat) (aj:bG) (q:aa Nat),RV w B aj q C u)\/(C = .nil/\u = .slice none 0 0/\∃E,cs[j]?=some E/\E.aF=false)\/(C.plain=false/\C.aF=true/\C.jK=true/\(∃E,cs[j]?=some E/\Wk E C)/\cells[off+j]?=some u)\/(C.aF=false/\RV w' w.heap.size aA [nm (D+1+j)] C u)))/\
   qI w w' aA ρ nm (i+1) (D+1+cs.length) r L
 |i,D,.sl y::r,.sl T::L=>(T = .nil\/∃v,ρ (nF i) = .dX v/\RV w' w.heap.size aA [nm D] T v)/\qI w w' aA ρ nm (i+1) (D+1) r L
 |_,_,_,_=>False
def Hv(w w':World)(aA:bG)(ρ:Nat->Loc)(nm:Nat->Nat):Nat->Nat->aa In->aa In->Prop
 |_,_,[],[]=>True
 | i,D,.aC cs :: r,.aC eC :: E=>(∃ b off cells L e T,ρ (nF i) = .aC b off/\w.heap[b]?=some (.cells cells e (0,0))/\w'.heap[b]?=some (.cells L T (0,0))/\aA b=some [nm D]/\off+eC.length<=L.size/\eC.length=cs.length/\
   ∀(j:Nat) C,eC[j]?=some C->∃u,L[off+j]?=some u/\((C.plain=true/\∀(w:World) (B:Nat) (aj:bG) (q:aa Nat),RV w B aj q C u)\/(C.plain=false/\C.aF=true/\cells[off+j]?=some u)\/(C.aF=false/\RV w' w.heap.size aA [nm (D+1+j)] C u)))/\
   Hv w w' aA ρ nm (i+1) (D+1+cs.length) r E
 |i,D,.sl y::r,.sl O::E=>(O = .nil\/∃v,ρ (nF i) = .dX v/\RV w' w.heap.size aA [nm D] O v)/\Hv w w' aA ρ nm (i+1) (D+1) r E
 |_,_,_,_=>False
def fR.len:fR->Nat
 |.one p=>p.2.length
 |.eS ps=>(ps.map λp=>p.2.length).sum
def oQ(w:World)(B:Nat)(aj:bG)(ρ:Nat->Loc):Nat->aa In->Prop
 |_,[]=>True
 |i,.aC cs::r=>dY w B aj ρ (nF i) (.aC (zo i 0 cs))/\(∀(j:Nat) x,cs[j]?=some x->x.plain=false->dY w B aj ρ (nC i j x) (.sl x))/\oQ w B aj ρ (i+1) r
 |i,.sl y::r=>dY w B aj ρ (nF i) (.sl y)/\oQ w B aj ρ (i+1) r
/-! The end: what is given back,and what the written parameters hold. -/
def Vb(m:Nat->ah bg)(i j:Nat)(C:V):Lf->ah (V×ah Nat)
 |.v x=>bif x.plain then some (x,none)else (bif !x.jK && !C.aF then some (.nil,none)else none)
 | .own [r]=>match m r with
  |some (.sl y)=>bif y.aF then (bif !C.plain&&(C.aF&&C.jK)&&Nat.beq r (20001+1000*i+j)&&Nat.blt r 60000 then some (C,none)else none)else (bif y.loc then some (y,some r)else none)
  |_=>none
 |_=>none
def By(m:Nat->ah bg)(i C:Nat):Nat->aa V->aa Lf->ah (aa V×aa (Nat×Nat))
 |_,[],[]=>some ([],[])
 | j,D :: xs,l :: E=>match Vb m i j D l,By m i C (j+1) xs E with
  |some (y,none),some (ys,rs)=>some (y::ys,rs)
  |some (y,some r),some (ys,rs)=>some (y::ys,(r,C+1+j)::rs)
  |_,_=>none
 |_,_,_=>none
def V.gone:V->Bool
 |.sl _ o _ _=>Nat.ble 1000000 o
 |_=>false
def zp(m:Nat->ah bg):Nat->Nat->aa In->ah (aa In×aa (Nat×Nat))
 |_,_,[]=>some ([],[])
 | i,C,.aC cs :: r=>match bif Nat.blt (nF i) 60000 then m (nF i)else none with
  | some (.aC L)=>match By m i C 0 cs L,zp m (i+1) (C+1+cs.length) r with
   |some (eC,rs),some (os,D)=>some (.aC eC::os,(nF i,C)::(rs++D))
   |_,_=>none
  |_=>none
 | i,C,.sl O :: r=>bif O.gone then (match zp m (i+1) (C+1) r with
   |some (os,D)=>some (.sl .nil::os,D)
   |none=>none)else match bif Nat.blt (nF i) 60000 then m (nF i)else none with
  | some (.sl E)=>bif E.loc && !E.aF then (match zp m (i+1) (C+1) r with
   |some (os,D)=>some (.sl E::os,(nF i,C)::D)
   |none=>none)else none
  |_=>none
def Hw{X:Type}(P:Program)(σ:S)(fn:Array ResultVar)(C:aa In)(k:aa In->fR->ah X):ah X:=
 rQ P σ fn.toList λps=>match D9 σ.m 0 ps with
  | some (qs,rs)=>match zp σ.m 0 (qs.map λp=>p.2.length).sum C with
   | some (os,D)=>bif once (rs++D)then (match qs with
    |[p]=>k os (.one p)
    |qs=>k os (.eS qs))else none
   |none=>none
  |none=>none
/-! Types of parameters and results. -/
def iC:aa (Bool×TC×Nat)->Type
 |[]=>af
 |[(_,t,_)]=>T t
 |(_,t,_)::r=>T t×iC r
def th:(l:aa (Bool×TC×Nat))->iC l->aa Pt
 |[],_=>[]
 |[(b,t,g)],x=>[(b,enc t g x)]
 |(b,t,g)::q::r,x=>(b,enc t g x.1)::th (q::r) x.2
def pO:(l:aa (Bool×TC×Nat))->aa Pt->ah (iC l)
 |[],[]=>some ()
 |[(b,t,g)],[(C,D)]=>bif b==C then dec t g D else none
 | (b,t,g) :: q :: r,(C,D) :: ps=>bif b==C then (match dec t g D,pO (q :: r) ps with
  |some x,some xs=>some (x,xs)
  |_,_=>none)else none
 |_,_=>none
def lG(l:aa (Bool×TC×Nat)):fR->ah (iC l)
 |.one p=>pO l [p]
 |.eS ps=>bif Nat.beq ps.length 1 then none else pO l ps
def fm(l:aa (Bool×TC×Nat))(x:iC l):fR:=
 match th l x with
 |[p]=>.one p
 |ps=>.eS ps
inductive PK where
 |v (b:Bool) (t:TC)
 |p (t:TC) (g off:Nat)
 |s (t:TC) (g:Nat)
def lZ:aa PK->Type
 |[]=>af
 |.v _ t::r=>T t×lZ r
 |.p t _ _::r=>T t×lZ r
 |.s t _::r=>aa (T t)×lZ r
def rR:aa (Bool×TC×Nat)->Type
 |[]=>af
 |(true,t,_)::r=>T t×rR r
 |(false,t,_)::r=>aa (T t)×rR r
def kR:(l:aa (Bool×TC×Nat))->rR l->aa In
 |[],_=>[]
 |(true,t,g)::r,x=>.aC (enc t g x.1)::kR r x.2
 |(false,t,g)::r,x=>.sl (bif Nat.ble 1000000 g then .nil else .sl t (g+2) false x.1)::kR r x.2
def fh:aa PK->aa (Bool×TC×Nat)
 |[]=>[]
 |.v _ _::r=>fh r
 |.p t g _::r=>(true,t,g)::fh r
 |.s t g::r=>(false,t,g)::fh r
def mW:(l:aa PK)->lZ l->aa In
 |[],_=>[]
 |.v _ _::r,x=>mW r x.2
 |.p t g _::r,x=>.aC (enc t g x.1)::mW r x.2
 |.s t g::r,x=>.sl (.sl t (g+2) false x.1)::mW r x.2
def jO:(l:aa PK)->Nat->lZ l->aa Ar
 |[],_,_=>[]
 |.v b t::r,i,x=>.pt (b,enc t 0 x.1)::jO r i x.2
 |.p _ _ off::r,i,x=>.mut i off::jO r (i+1) x.2
 |.s _ _::r,i,x=>.mut i 0::jO r (i+1) x.2
structure nU where
 ps:List PK
 ro:List (Bool×TC×Nat)
 F:lZ ps->Option (iC ro×rR (fh ps))
def tj(P:Program)(f:Nat)(c:nU):Prop:=
 ∀ x y,c.F x=some y->∀ (nm:Nat->Nat) (w:World) (aj:bG) (ρ:Nat->Loc) (bY:Array Value),oQ w w.heap.size aj ρ 0 (mW c.ps x)->(∀ b k,aj b=some k->b<w.heap.size/\k≠[])->
     bY.size=c.ps.length->(∀i,RA w w.heap.size aj ρ ((Bw (mW c.ps x) (jO c.ps 0 x)).t i) (bY.getD i undef))->∀C:Hd w aj,
     Calls P f bY w λe w'=>∃v aA,e = .returned v/\iZ ⟨w,aj,λ_=>none,C,λ_ _=>rfl⟩ w w'/\(∀b k,aA b=some k->(w.heap.size<=b\/aj b≠none)/\b<w'.heap.size/\k≠[])/\pN w' w.heap.size aA nm (fm c.ro y.1) v/\Hv w w' aA ρ nm 0 (fm c.ro y.1).len (mW c.ps x) (kR (fh c.ps) y.2)
def Hx(w:World)(ρ:Nat->Loc):Nat->aa In->Prop
 |_,[]=>True
 |i,.aC cs::r=>(∃b off cells e,ρ (nF i) = .aC b off/\w.heap[b]?=some (.cells cells e (0,0))/\∀(j:Nat) x,cs[j]?=some x->x.plain=false->x.aF=true->∃u,cells[off+j]?=some u/\ρ (20001+1000*i+j) = .dX u)/\Hx w ρ (i+1) r
 |i,.sl y::r=>(∃v,ρ (nF i) = .dX v)/\Hx w ρ (i+1) r
section
variable {P:Program} {w w':World} {w0:Wd} {B N:Nat} {aj aA:bG} {ρ ρ':Nat->Loc} {σ:S} {a:Act} {X:Type} {d:Nat} {r:X} {rs:aa (Nat×Nat)} {nm:Nat->Nat}
def Vc{m:Nat -> ah bg}{i pos:Nat}:∀ (xs:aa V) (U:aa Lf) (D:Nat) (ys:aa V) (Y:aa (Nat×Nat)),By m i pos D xs U=some (ys,Y) -> ys.length=xs.length/\U.length=xs.length /\
  ∀(j:Nat) y,ys[j]?=some y -> ∃l x0,U[j]?=some l/\xs[j]?=some x0/\((l = .v y/\y.plain=true) \/ (l = .v .nil/\y = .nil/\x0.aF=false) \/ (l = .own [20001+1000*i+(D+j)]/\y=x0/\y.plain=false/\(y.aF&&y.jK)=true/\20001+1000*i+(D+j)<60000) \/ (∃q,l = .own [q]/\m q=some (.sl y)/\y.aF=false/\(q,pos+1+(D+j))∈Y))
 | [],[],D,ys,Y,h=>by
  simp only[By,iw,Prod.mk.injEq]at h;obtain⟨rfl,rfl⟩:=h;exact⟨rfl,rfl,λj y hy=>by simp at hy⟩
 |[],_::_,D,ys,Y,h=>by simp[By]at h
 |_::_,[],D,ys,Y,h=>by simp[By]at h
 | x0 :: xs,l :: U,D,ys,Y,h=>by
  have hc:∀ y z,Vb m i D x0 l=some (y,z) -> (z=none/\l = .v y/\y.plain=true) \/ (z=none/\l = .v .nil/\y = .nil/\x0.aF=false) \/ (z=none/\l = .own [20001+1000*i+D]/\y=x0/\y.plain=false/\(y.aF&&y.jK)=true/\20001+1000*i+D<60000) \/ (∃ q,z=some q/\l = .own [q]/\m q=some (.sl y)/\y.aF=false):=by
   intro y z C;unfold Vb at C;split at C
   ·rename_i x;cases hp:x.plain with
    | false=>
     rw[hp,aq]at C;cases E:(!x.jK && !x0.aF)with
     |false=>rw[E]at C;cases C
     | true=>
      rw[E,au]at C;simp only[iw,Prod.mk.injEq]at C;obtain⟨rfl,rfl⟩:=C;rw[aN,ic,ic]at E;have hx:x = .nil:=by
       cases x<;>first|rfl|(exact absurd E.1 (by simp[V.jK]))
      subst hx;exact .inr (.inl ⟨rfl,rfl,rfl,E.2⟩)
    |true =>grind
   ·rename_i q;split at C
    ·rename_i y1 hy1;cases hf:y1.aF with
     | true=>
      rw[hf,au]at C;cases E:(!x0.plain&&(x0.aF&&x0.jK)&&Nat.beq q (20001+1000*i+D)&&Nat.blt q 60000)with
      |false=>rw[E]at C;cases C
      | true=>
       rw[E,au]at C;simp only[iw,Prod.mk.injEq]at C;obtain⟨rfl,rfl⟩:=C;rw[aN,aN,aN,ic]at E;obtain⟨⟨⟨b1,b2⟩,b3⟩,b4⟩:=E;obtain rfl:=cE b3;exact .inr (.inr (.inl ⟨rfl,rfl,rfl,b1,b2,by have:=cP b4;omega⟩))
     | false=>
      rw[hf,aq]at C;cases hl:y1.loc with
      |false=>rw[hl]at C;cases C
      |true =>grind
    ·cases C
   ·cases C
  unfold By at h;split at h
  ·rename_i y Vd Ve hy Hj;simp only[iw,Prod.mk.injEq]at h;obtain⟨rfl,rfl⟩:=h;obtain⟨h1,h2,h3⟩:=Vc xs U (D+1) Vd Ve Hj
   refine⟨by simp[h1],by simp[h2],λj y' L=>?_⟩
   cases j with
   | zero=>
    simp at L;subst L;refine⟨l,x0,rfl,rfl,?_⟩;rcases hc y none hy with ⟨_,O,T⟩|⟨_,O,T,Z⟩|⟨_,O,T,Z,e4,e5⟩|⟨q,hq,_⟩
    ·simp[*]
    ·simp[*]
    ·exact .inr (.inr (.inl ⟨O,T,Z,e4,e5⟩))
    ·cases hq
   | succ j=>
    obtain⟨l',x',g1,g2,g3⟩:=h3 j y' (by simpa using L);rw[show D+1+j=D+(j+1) by omega]at g3;exact⟨l',x',by simpa using g1,by simpa using g2,g3⟩
  ·rename_i y q Vd Ve hy Hj;simp only[iw,Prod.mk.injEq]at h;obtain⟨rfl,rfl⟩:=h;obtain⟨h1,h2,h3⟩:=Vc xs U (D+1) Vd Ve Hj
   refine⟨by simp[h1],by simp[h2],λj y' L=>?_⟩
   cases j with
   | zero=>
    simp at L;subst L;refine⟨l,x0,rfl,rfl,?_⟩;rcases hc y (some q) hy with ⟨e0,_⟩|⟨e0,_⟩|⟨e0,_⟩|⟨q',hq,O,T,Z⟩
    ·cases e0
    ·cases e0
    ·cases e0
    ·injection hq with hq;subst hq;exact .inr (.inr (.inr ⟨q,O,T,Z,.head _⟩))
   | succ j=>
    obtain⟨l',x',g1,g2,g3⟩:=h3 j y' (by simpa using L);rw[show D+1+j=D+(j+1) by omega]at g3;exact⟨l',x',by simpa using g1,by simpa using g2,g3.imp id (λg=>g.imp id (λg=>g.imp id λ⟨q',O,T,Z,e4⟩=>⟨q',O,T,Z,.tail _ e4⟩))⟩
  ·cases h
def NL{w1:World}{Vf:Nat -> Loc}{m:Nat -> ah bg}(T:∀ r,20000 <= r -> r<60000 -> ρ r=Vf r)(U:∀ r x,m r=some x -> dY w w1.heap.size aj ρ r x):
  ∀(ins:aa In) (i Z:Nat) (outs:aa In) (Hy:aa (Nat×Nat)),zp m i Z ins=some (outs,Hy) -> (∀p∈Hy,rs.lookup p.1=some p.2) -> Hx w1 Vf i ins -> qI w1 w (ey aj rs nm) Vf nm i Z ins outs
 | [],i,Z,outs,Hy,h,L,he=>by
  simp only[zp,iw,Prod.mk.injEq]at h;obtain⟨rfl,rfl⟩:=h;trivial
 | .aC cs :: r,i,Z,outs,Hy,h,L,he=>by
  unfold zp at h;cases hi:Nat.blt (nF i) 60000 with
  |false=>grind
  | true=>
   rw[hi,au]at h;have hi:=cP hi;split at h
   ·rename_i ls Vg;split at h
    ·rename_i eC rs1 os Bv h1 h2;simp only[iw,Prod.mk.injEq]at h;obtain⟨rfl,rfl⟩:=h;obtain⟨⟨b,off,cells,e,ab4,UX,xb⟩,Hz⟩:=he;obtain⟨k1,k2,k3⟩:=Vc _ _ _ _ _ h1
     refine⟨?_,NL T U r (i+1) _ os Bv h2 (λp D=>L p (.tail _ (List.mem_append_right _ D))) Hz⟩
     have O:=U _ _ Vg;have Vh:=T (nF i) (by unfold nF;omega) (by omega);generalize C:bg.aC ls=x at O;cases O with
     |sl=>cases C
     |mp=>cases C
     |gh=>cases C
     | aC b' GW xd e' ls' us E hl hh hs hc=>
      injection C with C;subst C;rw[Vh,ab4]at E;injection E with e1 e2;subst e1 e2
      refine⟨b,off,cells,xd,e,e',ab4,UX,hh,?_,by rw[k1,<- k2];exact hs,k1,λj y hy=>?_⟩
      ·have:=L _ (List.Mem.head _);simp[ey,hl,this]
      ·obtain⟨l,x0,g1,g2,g3⟩:=k3 j y hy;obtain⟨c1,c2⟩:=hc j l g1;refine⟨_,c1,?_⟩;rw[fk]at g3;rcases g3 with ⟨rfl,D⟩ | ⟨rfl,rfl,NA⟩ | ⟨rfl,rfl,D,zb,dA⟩ | ⟨q,rfl,hq,hf,zm⟩
       ·exact .inl ⟨D,λ_ _ _ _=>c2.2.sU D⟩
       ·exact .inr (.inl ⟨rfl,by have h9:=c2.2;generalize us j=u9 at h9 ⊢;cases h9;rfl,x0,g2,NA⟩)
       ·rw[aN]at zb;obtain⟨hf,hs0⟩:=zb;obtain⟨u,hu,aoq⟩:=xb j y g2 D hf;refine .inr (.inr (.inl ⟨D,hf,hs0,⟨y,g2,.same _⟩,?_⟩));have Y:=c2.2;have Vi:=T (20001+1000*i+j) (by omega) dA;simp only[c8,Vi,aoq]at Y;simp_all
       ·refine .inr (.inr (.inr ⟨hf,?_⟩));have O:=U _ _ hq;generalize C:bg.sl y=x at O;cases O with
        |aC=>cases C
        |mp=>cases C
        |gh=>cases C
        | sl v y' E hr=>
         injection C with C;subst C;have Y:=c2.2;simp only[c8,E]at Y;injection Y with Y;rw[<- Y];exact RV.ey (p:=[]) hr (L _ (.tail _ (List.mem_append_left _ zm)))
    ·cases h
   ·cases h
 | .sl y :: r,i,Z,outs,Hy,h,L,he=>by
  unfold zp at h;cases hg:y.gone with
  | true=>
   rw[hg,au]at h;split at h
   next os Bv h2=>simp at h;obtain⟨rfl,rfl⟩:=h;exact⟨.inl rfl,NL T U r _ _ os Bv h2 L he.2⟩
   ·cases h
  |false=>
  rw[hg,aq]at h;cases hi:Nat.blt (nF i) 60000 with
  |false=>grind
  | true=>
   rw[hi,au]at h;have hi:=cP hi;split at h
   ·rename_i y' Hh;cases hl:(y'.loc && !y'.aF)with
    |false=>grind
    | true=>
     rw[hl,au]at h;split at h
     ·rename_i os Bv h2;simp only[iw,Prod.mk.injEq]at h;obtain⟨rfl,rfl⟩:=h;obtain⟨⟨v,hv⟩,Hz⟩:=he
      refine⟨.inr ⟨v,hv,?_⟩,NL T U r (i+1) _ os Bv h2 (λp D=>L p (.tail _ D)) Hz⟩
      have Vh:=T (nF i) (by unfold nF;omega) (by omega);have O:=U _ _ Hh;generalize C:bg.sl y'=x at O;cases O with
      |aC=>cases C
      |mp=>cases C
      |gh=>cases C
      | sl v' y'' E hr=>
       injection C with C;subst C;rw[Vh,hv]at E;injection E with E;subst E;exact RV.ey (p:=[]) hr (L _ (.head _))
     ·cases h
   ·cases h
def aor{w1:World}{Z:Nat -> Loc}{fn:Func}{U:aa In}{k:aa In -> fR -> ah X}(hw:w0.w=w1)(hF:∀ r,20000 <= r -> r<60000 -> w0.F r=some (Z r))(he:Hx w1 Z 0 U)(h:Hw P σ fn.results U k=some r):
  ∃outs res,k outs res=some r /\ ∀aj ρ a w,Rl w0 N aj ρ σ a w -> ∀nm,∃v aA,(results fn a.tmps).run P w = .ok v w/\(∀b k,aA b=some k -> (w0.heap.size <= b \/ w0.L b≠none)/\b<w.heap.size/\k≠[])/\pN w w0.heap.size aA nm res v/\qI w1 w aA Z nm 0 res.len U outs:=by
 unfold Hw at h;obtain⟨ps,E,qH⟩:=Hu (w0:=w0) (N:=N) _ _ h;clear h;split at E
 ·rename_i qs Vj U8;split at E
  ·rename_i os Vk hos;cases ho:once (Vj++Vk)with
   |false=>rw[ho]at E;cases E
   | true=>
    rw[ho,au]at E;generalize ab5:Vj++Vk=rs at ho;have jv:∀ p∈rs,rs.lookup p.1=some p.2:=by
     intro p hp;have:=cw.1 ho p hp;obtain⟨n,hn,he⟩:=(Option.any_eq_true _ _).1 this;simp_all
    have core:∀ aj ρ a w,Rl w0 N aj ρ σ a w -> ∀ nm:Nat -> Nat,∃ C:aa Value,(fn.results.mapM (td a.tmps)).run P w = .ok C.toArray w/\(∀ b k,ey aj rs nm b=some k -> (w0.heap.size <= b \/ w0.L b≠none)/\b<w.heap.size/\k≠[])/\ju w w0.heap.size (ey aj rs nm) nm 0 qs C /\
      qI w1 w (ey aj rs nm) Z nm 0 (qs.map λp=>p.2.length).sum U os:=by
     intro aj ρ a w T nm;obtain⟨C,dD,hl,hv⟩:=qH aj ρ a w T
     refine⟨C,?_,λb k O=>?_,U7 T.root ps 0 qs Vj C U8 (λp hp=>jv p (by rw[<- ab5];exact List.mem_append_left _ hp)) hl hv,
      NL (λr h1 E=>T.fix r _ (hF r h1 E)) (by rw[<- hw];exact T.root) U 0 _ os Vk hos (λp hp=>jv p (by rw[<- ab5];exact List.mem_append_right _ hp)) he⟩
     ·rw[Array.mapM_eq_mapM_toList];simp[dD]
     ·unfold ey at O;split at O
      ·cases O
      ·rename_i k' oK;have:=T.dg b k' oK;split at O
       ·cases O
       ·cases tf:rs.lookup _ with
        |none=>rw[tf]at O;cases O
        | some n=>
         rw[tf]at O;injection O with O;subst O;simp_all
    have lF:∀ (tmps:Array Value),results fn tmps=(do let C <- fn.results.mapM (td tmps);pure (if h:C.size=1 then C[0]else .tuple C)):=λtmps=>by
     unfold results;congr 1
    split at E
    ·rename_i p
     refine⟨_,_,E,λaj ρ a w T nm=>?_⟩
     obtain⟨C,dD,kP,D,Y⟩:=core aj ρ a w T nm;have Y:qI w1 w (ey aj rs nm) Z nm 0 (fR.one p).len U os:=by simpa [fR.len]using Y
     match C,D with
     |[v],D=>exact⟨v,_,by rw[lF,fV,dD];rfl,kP,D,Y⟩
     |[],D=>exact D.elim
     |_::_::_,D=>exact D.2.elim
    ·rename_i dc
     refine⟨_,_,E,λaj ρ a w T nm=>?_⟩
     obtain⟨C,dD,kP,D,Y⟩:=core aj ρ a w T nm;have gH:C.toArray.size≠1:=by
      intro e;clear Y;have e:C.length=1:=by simpa using e
      match qs,C,D,dc,e with
      |[q],[v],_,dc,_=>exact dc q rfl
      |[],[v],D,_,_=>exact D.elim
      |_::_::_,[v],D,_,_=>exact D.2.elim
     refine⟨.tuple C.toArray,_,?_,kP,⟨C.toArray,rfl,D⟩,Y⟩;rw[lF,fV,dD,lS];simp only[gH,dif_neg,not_false_eq_true,Sem.run_pure]
  ·cases E
 ·cases E
def ab6{i:Nat}:∀ (cs:aa V) (D:Nat) (m:Nat -> ah bg) (r:Nat) (x:bg),U9 i D cs m r=some x -> m r=some x \/ ∃ j y,cs[j]?=some y/\y.plain=false/\r=nC i (D+j) y/\x = .sl y
 |[],D,m,r,x,h=>.inl h
 | c :: cs,D,m,r,x,h=>by
  rcases ab6 cs _ _ r x h with C|⟨j,y,C,O,T,U⟩
  ·cases E:c.plain with
   |true=>simp_all
   | false=>
    rw[E,aq]at C;by_cases L:r=nC i D c
    ·subst L;rw[cm]at C;injection C with C;exact .inr ⟨0,c,rfl,E,rfl,C.symm⟩
    ·rw[cM _ _ _ L]at C;simp_all
  ·exact .inr ⟨j+1,y,by simpa using C,O,by rw[T];congr 1;omega,U⟩
def oQ.roots:∀ (C:aa In) (i:Nat) (m:Nat -> ah bg),oQ w B aj ρ i C -> (∀ r x,m r=some x -> dY w B aj ρ r x) -> ∀ r x,NK i C m r=some x -> dY w B aj ρ r x
 |[],i,m,_,L,r,x,h=>L r x h
 | .aC cs :: C,i,m,O,L,r,x,h=>by
  obtain⟨Y,Z,T⟩:=O
  refine oQ.roots C _ _ T (λr x E=>?_) r x h
  rcases ab6 cs 0 _ r x E with U|⟨j,y,g1,g2,g3,g4⟩
  ·by_cases D:r=nF i
   ·subst D;rw[cm]at U;simp_all
   ·rw[cM _ _ _ D]at U;simp_all
  ·simp_all
 | .sl y :: C,i,m,O,L,r,x,h=>by
  obtain⟨Y,T⟩:=O
  refine oQ.roots C _ _ T (λr x E=>?_) r x h
  by_cases D:r=nF i
  ·subst D;rw[cm]at E;simp_all
  ·rw[cM _ _ _ D]at E;simp_all
def Vl{i:Nat}:∀ (cs:aa V) (C j:Nat) x,cs[j]?=some x->(zo i C cs)[j]?=some (zn i (C+j) x)
 |[],C,j,x,h=>by simp at h
 |c::cs,C,0,x,h=>by simp at h;subst h;rfl
 | c :: cs,C,j+1,x,h=>by
  simp only[zo,List.getElem?_cons_succ];rw[Vl cs (C+1) j x (by simpa using h)];congr 2;omega
def oQ.Vm:∀ (C:aa In) (i:Nat),oQ w B aj ρ i C -> Hx w ρ i C
 |[],_,_=>trivial
 | .aC cs :: C,i,L=>by
  obtain⟨E,_,O⟩:=L;refine⟨?_,oQ.Vm C (i+1) O⟩;generalize D:bg.aC (zo i 0 cs)=x at E;cases E with
  |sl=>cases D
  |mp=>cases D
  |gh=>cases D
  | aC b off cells e ls us Y hl Z hs hc=>
   injection D with D;subst D
   refine⟨b,off,cells,e,Y,Z,λj x hj hp hf=>?_⟩
   obtain⟨c1,T⟩:=hc j _ (Vl cs 0 j x hj);rw[fk]at T;refine⟨_,c1,?_⟩;have e1:zn i j x = .own [20001+1000*i+j]:=by simp[zn,hp,nC,hf]
   rw[e1]at T;have U:=T.2;simp only[c8]at U;split at U
   ·simp_all
   ·cases U
 | .sl y :: C,i,L=>by
  obtain⟨E,O⟩:=L;refine⟨?_,oQ.Vm C (i+1) O⟩;cases E with
  |sl v y' Y hr=>simp_all
end
def dH(n:Nat):aa Nat->Bool
 |[]=>false
 |m::l=>Nat.beq n m ||dH n l
def xe{n:Nat}:∀ {l:aa Nat},dH n l=true ↔ n∈l
 |[]=>by simp[dH]
 | m :: l=>by
  simp only[dH,eD,gX,xe];simp_all
def ab7{n:Nat}{l:aa Nat}(h:dH n l=false):n ∉ l:=λk=>by rw[xe.2 k]at h;cases h
def gq(k l:aa Nat):Bool:=match k.getLast? with
 |some r=>dH r l
 |none=>false
def Eb(ns cn:aa Nat):mR:=⟨λk=>gq k cn ||(gq k ns && !(Nat.beq k.length 1)),λk=>gq k cn ||gq k ns,λr=>dH r cn⟩
def Lf.eV(ns cn:aa Nat):Lf->Lf:=Lf.cF (Eb ns cn).l
def A.eV(ns cn:aa Nat):A->A:=A.cF (Eb ns cn)
def bg.eV(ns cn:aa Nat):bg->bg:=bg.cF (Eb ns cn)
def S.eV(σ:S)(ns cn:aa Nat)(nr:aa (Nat×bg)):S:=⟨λk=>(σ.t k).eV ns cn,λr=>match nr.lookup r with
 |some x=>some x
 |none=>bif dH r ns ||dH r cn then none else (σ.m r).map (bg.eV ns cn)⟩
structure tq (w w':World) (aj dJ:bG) (ρ eU:Nat->Loc) (ns cn:List Nat):Prop where
 size:w.heap.size<=w'.heap.size
 same:∀b,b<w.heap.size->(∀k,aj b=some k->gq k ns=false)->w'.heap[b]?=w.heap[b]?/\dJ b=aj b
 eT:∀r,dH r cn=false->eU r=ρ r
 aj:∀b k,aj b=some k->b<w.heap.size/\k≠[]
section
variable {P:Program} {w w':World} {w0:Wd} {B N:Nat} {aj dJ aA:bG} {ρ eU:Nat->Loc} {σ:S} {a:Act} {X:Type} {d:Nat} {r:X} {ns cn:aa Nat}
def ab8{j i s:Nat}{q l:aa Nat}(h:q≠[]):gq (j :: i :: s :: q) l=gq q l:=by
 cases q with
 |nil=>simp_all
 |cons x q=>simp[gq]
def tq.tr(C:tq w w' aj dJ ρ eU ns cn):Tr w w' aj dJ ρ eU (λk=>gq k ns) (λr=>dH r cn):=
 ⟨C.size,λb O D=>let e:=C.same b O (λk E=>by rw[D]at E;cases E);⟨e.1,e.2.trans D⟩,λb k D E=>let e:=C.same b (C.aj b k D).1 (λT L=>by rw[D]at L;injection L with L;subst L;exact E);⟨e.1,e.2.trans D⟩,C.eT,λj i s x q=>ab8 (by simp),λb O=>absurd rfl (C.aj b [] O).2⟩
def Vn:(Eb ns cn).OK (λk=>gq k ns) (λr=>dH r cn):=by
 refine⟨λk D=>?_,λk D=>?_,λ_ h=>h⟩
 ·obtain⟨E,C⟩:=Bool.or_eq_false_iff.1 D;refine⟨?_,E⟩;cases L:gq k ns with
  |false=>exact .inr rfl
  | true=>
   rw[L,cv,Bool.not_eq_false']at C;exact .inl (cE C)
 ·obtain⟨E,C⟩:=Bool.or_eq_false_iff.1 D;exact⟨C,E⟩
def RV.tu(C:tq w w' aj dJ ρ eU ns cn){q:aa Nat}{x:V}{v:Value}(h:RV w B aj q x v)(D:gq q ns=false\/x.aF=true):RV w' B dJ q x v:=h.tr C.tr D.symm
def RA.tu(C:tq w w' aj dJ ρ eU ns cn){x:A}{u:Value}(h:RA w B aj ρ x u):RA w' B dJ eU (x.eV ns cn) u:=h.tr C.tr Vn
def dU.tu(C:tq w w' aj dJ ρ eU ns cn){x:Lf}{u:Value}(h:dU w B aj ρ x u):dU w' B dJ eU (x.eV ns cn) u:=h.tr C.tr Vn
def dY.tu(C:tq w w' aj dJ ρ eU ns cn){n:Nat}{x:bg}(h:dY w B aj ρ n x)(D:dH n ns=false)(E:dH n cn=false):dY w' B dJ eU n (x.eV ns cn):=h.tr C.tr Vn D E
def Rl.tu(h:Rl w0 N aj ρ σ a w)(D:tq w w' aj dJ ρ eU ns cn)(O:iZ w0 w w')(T:∀ b k,dJ b=some k -> (w0.heap.size <= b \/ w0.L b≠none)/\b<w'.heap.size/\k≠[])(Z:∀ r,dH r cn=true -> w0.F r=none){nr:aa (Nat×bg)}
  (sX:∀r x,nr.lookup r=some x -> dY w' w0.heap.size dJ eU r x):Rl w0 N dJ eU (σ.eV ns cn nr) a w':=by
 refine⟨h.below.trans O,T,λr x C=>?_,λk=>(h.tmp k).tu D,h.size,h.defers,λr l U=>?_,h.dz⟩
 ·simp only[S.eV]at C;split at C
  ·simp_all
  ·cases hm:(dH r ns || dH r cn)with
   |true=>simp_all
   | false=>
    rw[hm]at C;rw[Bool.or_eq_false_iff]at hm;cases E:σ.m r with
    |none=>simp_all
    | some y=>
     rw[E]at C;injection C with C;subst C;exact(h.root r y E).tu D hm.1 hm.2
 ·have Y:dH r cn=false:=by
   grind
  exact(D.eT r Y).trans (h.fix r l U)
end
inductive Mu where
 |aC (r:Nat) (cs:List Lf) (vs:List (V×Option Nat))
 |sl (q:Nat) (y:V)
def Mu.root:Mu->Nat
 |.aC r _ _=>r
 |.sl q _=>q
def zq(m:Nat->ah bg):Lf->ah (V×ah Nat)
 |.v x=>some (x.gn,none)
 | .own [q]=>match m q with
  |some (.sl y)=>bif y.aF then some (y.gn,none)else some (y,some q)
  |_=>none
 |_=>none
def tv(m:Nat->ah bg):aa Lf->ah (aa (V×ah Nat))
 |[]=>some []
 | l :: C=>match zq m l,tv m C with
  |some v,some D=>some (v::D)
  |_,_=>none
def Bz(σ:S):PK->A->ah (ah Mu)
 |.v _ _,_=>some none
 | .p _ _ off,.aJ r j=>(match (bif Nat.beq j off then σ.m r else none)with
  | some (.aC cs)=>(match tv σ.m cs with
   |some C=>bif Nat.blt cs.length 999 then some (some (.aC r cs C))else none
   |none=>none)
  |_=>none)
 | .s _ _,.lf (.own [q])=>(match σ.m q with
  |some (.sl y)=>bif y.aF then none else some (some (.sl q y))
  |_=>none)
 |_,_=>none
def mX(σ:S):aa PK->aa Operand->ah (aa Mu)
 |[],[]=>some []
 | p :: ps,x :: xs=>(match Bz σ p (aK σ x),mX σ ps xs with
  |some (some D),some C=>some (D::C)
  |some none,some C=>some C
  |_,_=>none)
 |_,_=>none
def HA(i:Nat):Nat->aa (V×ah Nat)->aa (Nat×Nat)
 |_,[]=>[]
 |j,(_,some q)::C=>(q,60000+1000*i+j)::HA i (j+1) C
 |j,(_,none)::C=>HA i (j+1) C
def nW:Nat->aa Mu->aa (Nat×Nat)
 |_,[]=>[]
 |i,.aC r _ D::C=>(r,nF i)::(HA i 0 D++nW (i+1) C)
 |i,.sl q _::C=>(q,nF i)::nW (i+1) C
def Vo(ns:aa Nat):Lf->Bool
 |.own k=>!gq k ns
 |_=>true
def xg{X:Type}(σ:S)(ns:aa Nat):aa Lf->(aa V->ah X)->ah X
 |[],k=>k []
 |x::xs,k=>bif Vo ns x then oF σ x λy=>xg σ ns xs λys=>k (y.gn::ys)else none
def vn{X:Type}(σ:S)(ns:aa Nat)(x:A)(k:Pt->ah X):ah X:=
 match x with
 |.lf y=>xg σ ns [y] λC=>k (false,C)
 |.agg ys=>xg σ ns ys λC=>k (true,C)
 |.mQ f (c::cs)=>k (false,.bool false::.int .i64 (f:Int)::c.gn::cs.map V.gn)
 | .fn f [(r,j)]=>bif dH r ns then none else (match σ.m r with
  | some (.aC cs)=>(match qz (cs.drop j)with
   |some (c::C)=>k (false,.bool false::.int .i64 (f:Int)::c::C)
   |_=>none)
  |_=>none)
 |_=>none
def nX{X:Type}(σ:S)(ns:aa Nat):(ps:aa PK)->aa Operand->aa Mu->(lZ ps->ah X)->ah X
 |[],[],[],k=>k ()
 | .v b t :: ps,x :: xs,C,k=>vn σ ns (aK σ x) λp=>bif p.1==b then (match dec t 0 p.2 with
  |some y=>nX σ ns ps xs C λys=>k (y,ys)
  |none=>none)else none
 | .p t g _ :: ps,_ :: xs,.aC _ _ D :: C,k=>(match (bif Nat.beq (g % 2) 0 then dec t g (D.map (·.1))else none)with
  |some y=>nX σ ns ps xs C λys=>k (y,ys)
  |none=>none)
 | .s t g :: ps,_ :: xs,.sl _ y :: C,k=>(match (bif Nat.beq (g % 2) 0 then y.ff t (g+2)else none)with
  |some z=>nX σ ns ps xs C λys=>k (z,ys)
  |none=>none)
 |_,_,_,_=>none
def xh(w:World)(ρ:Nat->Loc)(rs:aa Nat):Nat->Loc:=λn=>
 if n<60000 then (if (n-20000) % 1000=0 then ρ (rs.getD ((n-20000) / 1000) 0)else (match ρ (rs.getD ((n-20000) / 1000) 0)with
  |.aC b off=>.dX ((w.cell? ⟨b,off+((n-20000) % 1000-1),none⟩).getD undef)
  |.dX v=>.dX v
  |.bY us=>.bY us))
 else (match ρ (rs.getD ((n-60000) / 1000) 0)with
  |.aC b off=>.dX ((w.cell? ⟨b,off+(n-60000) % 1000,none⟩).getD undef)
  |.dX v=>.dX v
  |.bY us=>.bY us)
def HB{w:World}{ρ:Nat -> Loc}{rs:aa Nat}{i r:Nat}(h:rs[i]?=some r)(hi:i<40):xh w ρ rs (nF i)=ρ r:=by
 have C:nF i<60000:=by unfold nF;omega
 have D:(nF i-20000) % 1000=0:=by unfold nF;omega
 have E:(nF i-20000) / 1000=i:=by unfold nF;omega
 have L:rs.getD i 0=r:=by rw[eY,h];rfl
 unfold xh;simp_all
def aos{w:World}{ρ:Nat -> Loc}{rs:aa Nat}{i j r b off:Nat}{u:Value}{x:V}(h:rs[i]?=some r)(hi:i<40)(C:j<999)(D:ρ r = .aC b off)(E:w.cell? ⟨b,off+j,none⟩=some u):xh w ρ rs (nC i j x) = .dX u:=by
 have L:rs.getD i 0=r:=by rw[eY,h];rfl
 unfold xh nC;cases x.aF with
 |true =>grind
 |false =>grind
def V.NM:V->Bool
 |.sl _ o _ _=>Nat.beq (o % 2) 0
 |_=>true
section
variable {P:Program} {w w':World} {w0:Wd} {B N:Nat} {aj dJ aA:bG} {ρ eU:Nat->Loc} {σ:S} {a:Act} {X:Type} {d:Nat} {r:X} {ns cn:aa Nat}
def RV.reB{B':Nat}{q:aa Nat}{x:V}{v:Value}(h:RV w B aj q x v)(D:x.NM=true):RV w B' aj q x v:=by
 induction h with
 |int=>exact .int _ _ _
 |bool=>exact .bool _ _
 |str=>exact .str _ _
 |nil=>exact .nil _
 |ep=>exact .ep _ _ _
 |fA=>exact .fA _ _ _ _ _ (by first|assumption|omega)
 |fK=>exact .fK _ _ _ _ _ (by first|assumption|omega)
 | aF q t o U l b off cap u Y E Z h1 iJ L hr O=>
  have D:=cE D;have ho0:o=0:=by omega
  subst ho0
  refine .aF _ _ _ _ _ _ _ _ u Y E Z (by omega) iJ L (λi h j x C=>O i h j x C ?_)
  have:=yM t 0 l[i] x (gO C);cases x with
  | sl t' T q' l'=>
   have:T=0:=by simpa [V.gr]using this
   subst this;rfl
  |_=>rfl
 | own q t o U l b cap cs u E hh hs hn hm L hr O=>
  have D:=cE D
  refine .own _ _ _ _ _ _ _ cs u E hh hs hn hm L (λi h j x C=>O i h j x C ?_)
  have:=yM t o l[i] x (gO C);cases x with
  | sl t' T q' l'=>
   have:T=o:=by simpa [V.gr]using this
   show Nat.beq _ 0=true;simp_all
  |_=>rfl
def RV.out{q O:aa Nat}{x:V}{v:Value}(h:RV w B aj q x v)(Z:∀ b,aj b=none -> aA b=none)(h2:∀ b k,aj b=some k -> k≠[]/\(gq k ns=false -> aA b=none))(hq:x.aF=true \/ gq q ns=false){B':Nat}:RV w B' aA O x.gn v:=by
 induction h generalizing O with
 |int=>exact .int _ _ _
 |bool=>exact .bool _ _
 |str=>exact .str _ _
 |nil=>exact .nil _
 |ep=>exact .ep _ _ _
 |fA=>exact .fA _ _ _ _ _ (by first|assumption|omega)
 |fK=>exact .fK _ _ _ _ _ (by first|assumption|omega)
 | aF q t o qn l b off cap u ho E hb h1' iJ T hr L=>
  refine .aF _ _ _ _ _ _ _ _ u (by omega) (Z b E) hb (by omega) iJ (λi h j x C=>?_) (λi h j x C=>?_)
  ·obtain⟨y,D,_⟩:=wL t o l[i] j x C;simp_all
  ·obtain⟨y,D,rfl⟩:=wL t o l[i] j x C;exact L i h j y D (.inl (rH t o l[i] ho j y D))
 | own q t o qn l b cap cs u E U hs hn hm T hr L=>
  have Y:gq q ns=false:=by
   rcases hq with hq|hq
   ·simp[V.aF]at hq;omega
   ·exact hq
  obtain⟨dc,pL⟩:=h2 b q E
  refine .aF _ _ _ _ _ _ _ _ u (by omega) (pL Y) (iH.1 U).1 (by omega) hn (λi h j x C=>?_) (λi h j x C=>?_)
  ·obtain⟨y,D,_⟩:=wL t o l[i] j x C;have:=T i h j y D;rw[fk,cell_of_row w b _ cs _ _ U];exact this
  ·obtain⟨y,D,rfl⟩:=wL t o l[i] j x C;exact L i h j y D (.inr (by rw[ab8 dc];exact Y))
def aot{x:Lf}{k:V -> ah X}(h:oF σ x k=some r):∃ y,k y=some r /\ ∀ aj ρ a w,Rl w0 N aj ρ σ a w -> ∀ u,dU w w0.heap.size aj ρ x u -> ∃ q,(x = .own q \/ y.aF=true)/\RV w w0.heap.size aj q y u:=by
 cases x with
 |v y=>exact⟨y,h,λaj ρ a w D u C=>⟨[],.inr C.1,C.2⟩⟩
 |dead=>cases h
 | own q=>
  obtain⟨y,E,L⟩:=rK q k h
  refine⟨y,L,λaj ρ a w D u C=>⟨q,.inl rfl,?_⟩⟩
  obtain⟨v,O,T⟩:=E.ok D.root;have:v=u:=by
   have U:=C.2;simp_all
  simp_all
structure BA (ns:List Nat) (aj aA:bG):Prop where
 none:∀b,aj b=none->aA b=none
 rest:∀b k,aj b=some k->k≠[]/\(gq k ns=false->aA b=Option.none)
def Vp:∀ (xs:aa Lf) (k:aa V -> ah X),xg σ ns xs k=some r -> ∃ C,k C=some r/\C.length=xs.length /\ ∀ aj ρ a w aA,Rl w0 N aj ρ σ a w -> BA ns aj aA -> ∀ (j:Nat) x y u,xs[j]?=some x -> C[j]?=some y -> dU w w0.heap.size aj ρ x u -> RV w w.heap.size aA [] y u
 |[],k,h=>⟨[],h,rfl,λ_ _ _ _ _ _ _ j x y u T=>by simp at T⟩
 | x :: xs,k,h=>by
  unfold xg at h;cases D:Vo ns x with
  |false=>simp_all
  | true=>
   rw[D,au]at h;obtain⟨y,U,Y⟩:=aot (w0:=w0) (N:=N) h;obtain⟨ys,Z,hl,hr⟩:=Vp xs _ U
   refine⟨y.gn::ys,Z,by simp[hl],λaj ρ a w aA hR E j x' y' u L O hu=>?_⟩
   cases j with
   | zero=>
    simp at L O;subst L O;obtain⟨q,hq,jL⟩:=Y aj ρ a w hR u hu;refine jL.out E.none E.rest ?_;rcases hq with rfl|hq
    ·exact .inr (by simpa [Vo]using D)
    ·simp_all
   |succ j=>grind
inductive PM (w:World) (aA:bG):Pt->Value->Prop
 |v (p:Pt) (u:Value) (h:PV w w.heap.size aA (λ_=>[]) p u):PM w aA p u
 |f (g:Nat) (c:V) (cs:List V) (u:Value) (h:RF w w.heap.size aA (c::cs) u):PM w aA (false,.bool false::.int .i64 (g:Int)::c::cs) (.func (.func g) #[] #[u])
def aou{g:Nat}{c:V}{cs ys:aa V}(D:(V.bool false :: .int .i64 (g:Int) :: c :: cs).length=ys.length)(h:∀ (j:Nat) x z,(V.bool false :: .int .i64 (g:Int) :: c :: cs)[j]?=some x -> ys[j]?=some z -> Wk x z):∃ C eC,ys = .bool false :: .int .i64 (g:Int) :: C :: eC/\kO (c :: cs) (C :: eC):=by
 match ys,D,h with
 | a :: b :: C :: eC,D,h=>
  have E:=h 0 _ a rfl rfl;have L:=h 1 _ b rfl rfl;cases E;cases L;exact⟨C,eC,rfl,by simpa using D,λj x z O T=>h (j+2) x z (by simpa using O) (by simpa using T)⟩
def RF.tw{cs C:aa V}{u:Value}(h:RF w B aj cs u)(E:kO cs C)(O:∀ (j:Nat) z,C[j]?=some z->z.aF=true):RF w B aj C u:=by
 obtain⟨b,off,rfl,T,U,Y⟩:=h
 refine⟨b,off,rfl,T,U,λj x D=>?_⟩
 have L:j<cs.length:=by rw[E.1];exact(dQ.1 D).1
 obtain⟨_,v,Z,h5⟩:=Y j _ (bZ L);exact⟨O j x D,v,Z,h5.wk (E.2 j _ x (bZ L) D)⟩
def RF.gn{cs:aa V}{u:Value}(h:RF w B aj cs u)(D:∀ b,aj b=none -> aA b=none)(L:∀ b k,aj b=some k -> k≠[]/\(gq k ns=false -> aA b=none)){B':Nat}:RF w B' aA (cs.map V.gn) u:=by
 obtain⟨b,off,rfl,O,T,U⟩:=h
 refine⟨b,off,rfl,O,D b T,λj x C=>?_⟩
 rw[eH]at C;cases E:cs[j]? with
 |none=>simp_all
 | some y=>
  rw[E]at C;injection C with C;subst C;obtain⟨Y,v,Z,h5⟩:=U j y E;exact⟨V.anu y,v,Z,h5.out D L (.inl Y)⟩
def aov{x:A}{k:Pt -> ah X}(h:vn σ ns x k=some r):∃ p,k p=some r /\ ∀ aj ρ a w aA,Rl w0 N aj ρ σ a w -> BA ns aj aA -> ∀ u,RA w w0.heap.size aj ρ x u -> PM w aA p u:=by
 unfold vn at h;split at h
 ·rename_i y;obtain⟨vs,U,O,Y⟩:=Vp (w0:=w0) (N:=N) _ _ h
  refine⟨_,U,λaj ρ a w aA L C u D=>.v _ _ ⟨#[u],rfl,by simp[O],λj x E=>?_⟩⟩
  have T:j=0:=by
   grind
  subst T;exact⟨u,rfl,Y aj ρ a w aA L C 0 y x u rfl E D⟩
 ·rename_i ys;obtain⟨vs,U,O,Y⟩:=Vp (w0:=w0) (N:=N) _ _ h
  refine⟨_,U,λaj ρ a w aA L C u D=>?_⟩
  obtain⟨us,rfl,Z⟩:=D
  refine .v _ _ ⟨us,rfl,by rw[O];exact Z.1,λj x E=>?_⟩
  have T:j<ys.length:=by rw[<- O];exact(dQ.1 E).1
  obtain⟨v,hv,fl⟩:=Z.2 j _ (bZ T);exact⟨v,hv,Y aj ρ a w aA L C j _ x v (bZ T) E fl⟩
 ·rename_i f c cs
  refine⟨_,h,λaj ρ a w aA L C u D=>?_⟩
  obtain⟨pv,rfl,rS⟩:=D;exact .f f _ _ _ (rS.gn C.none C.rest)
 ·rename_i f r' j;cases hmb:dH r' ns with
  |true=>grind
  | false=>
   rw[hmb,aq]at h;split at h
   ·rename_i cs hm;split at h
    ·rename_i c vs rJ;obtain⟨e,hp⟩:=Np _ _ rJ
     refine⟨_,h,λaj ρ a w aA L C u D=>?_⟩
     obtain⟨us,rfl,kr,iJ⟩:=D;obtain⟨b,off,cB,qA⟩:=iJ 0 _ rfl;have qA:us[0]?=some (.pointer (some ⟨b,off+j,none⟩)):=qA;have aG9:us.size=1:=kr;have aow:us = #[.pointer (some ⟨b,off+j,none⟩)]:=by
      apply Array.ext';apply List.ext_getElem?;intro i;cases i with
      |zero=>grind
      |succ i=>grind
     subst aow;refine .f f _ _ _ ?_;cases L.root r' _ hm with
     | aC b' GW cells e' _ Ns gL kP hh Z hc=>
      rw[cB]at gL;injection gL with q1 q2;subst q1 q2
      refine⟨b,off+j,rfl,(iH.1 hh).1,(C.rest b _ kP).2 (by simpa [gq]using hmb),λi x E=>?_⟩
      have hpx:=hp x (gO E);have hcd:(cs.drop j)[i]?=some (.v x):=by rw[e,eH,E];rfl
      rw[List.getElem?_drop]at hcd;obtain⟨k1,k2⟩:=hc _ _ hcd;refine⟨(by cases x<;>first|rfl|cases hpx),Ns (j+i),?_,k2.2.sU hpx⟩;rw[Nat.add_assoc,cell_of_row w b _ cells _ _ hh];exact k1
    ·cases h
   ·cases h
 ·cases h
def BB(σ:S):Mu->Prop
 |.aC r cs C=>σ.m r=some (.aC cs)/\tv σ.m cs=some C/\cs.length<999
 |.sl q y=>σ.m q=some (.sl y)/\y.aF=false
def HC:aa Mu->aa In->Prop
 |[],[]=>True
 |.aC _ _ L::C,.aC xs::D=>(kO (L.map (·.1)) xs/\∀x∈xs,x.jK=true/\x.NM=true)/\HC C D
 |.sl _ y::C,.sl E::D=>(Wk y E/\E.NM=true)/\HC C D
 |_,_=>False
def Ec(w:World)(B:Nat)(aj:bG)(ρ:Nat->Loc)(C:aa In):aa Ar->aa Value->Prop
 |[],[]=>True
 |x::xs,v::D=>RA w B aj ρ (Va C x) v/\Ec w B aj ρ C xs D
 |_,_=>False
def Ec.get{D:aa In}:∀ (xs:aa Ar) (C:aa Value),Ec w B aj ρ D xs C -> C.length=xs.length /\ ∀ i,RA w B aj ρ ((Bw D xs).t i) (C.toArray.getD i undef)
 |[],[],_=>⟨rfl,λi=>trivial⟩
 | x :: xs,v :: C,h=>by
  obtain⟨E,L⟩:=Ec.get xs C h.2
  refine⟨by simp[E],λi=>?_⟩
  cases i with
  |zero=>exact h.1
  | succ i=>
   have:=L i;simp at this ⊢;exact this
def aox{t:TC}{g:Nat}{x:T t}(D:Nat.beq (g % 2) 0=true):∀ y∈enc t g x,y.jK=true/\y.NM=true:=by
 intro y C;refine⟨Uh t g x y C,?_⟩;have:=yM t g x y C;cases y with
 | sl L E O U=>
  have:E=g:=by simpa [V.gr]using this
  subst this;exact D
 |_=>rfl
def aoy(σ:S):PK->A->ah Mu->Prop
 |.v _ _,_,none=>True
 |.p _ _ off,x,some (.aC r cs C)=>x = .aJ r off/\BB σ (.aC r cs C)
 |.s _ _,x,some (.sl q y)=>x = .lf (.own [q])/\BB σ (.sl q y)
 |_,_,_=>False
def BE{p:PK}{x:A}{z:ah Mu}(h:Bz σ p x=some z):aoy σ p x z:=by
 cases p with
 | v b t=>
  injection h with h;subst h;trivial
 | p t g off=>
  cases x with
  | aJ r j=>
   have h:(match (bif Nat.beq j off then σ.m r else none)with
    | some (.aC cs)=>(match tv σ.m cs with
     |some L=>bif Nat.blt cs.length 999 then some _ else none
     |none=>none)
    |_=>none)=some z:=h
   cases C:Nat.beq j off with
   |false=>rw[C]at h;cases h
   | true=>
    obtain rfl:=cE C;rw[C,au]at h;split at h
    ·rename_i cs O;split at h
     ·rename_i L T;cases D:Nat.blt cs.length 999 with
      |false=>rw[D]at h;cases h
      | true=>
       rw[D]at h;injection h with h;subst h;exact⟨rfl,O,T,by have:=cP D;omega⟩
     ·cases h
    ·cases h
  |_=>cases h
 | s t g=>
  have U:(∃ q,x = .lf (.own [q])):=by
   unfold Bz at h;split at h
   next e=>cases e
   next e=>cases e
   ·simp[*]
   ·cases h
  obtain⟨q,rfl⟩:=U;have h:(match σ.m q with
   |some (.sl y)=>bif y.aF then none else some _
   |_=>none)=some z:=h
  split at h
  ·rename_i y Y;cases E:y.aF with
   |true=>rw[E]at h;cases h
   | false=>
    rw[E]at h;injection h with h;subst h;exact⟨rfl,Y,E⟩
  ·cases h
def NN:∀ (ps:aa PK) (xs:aa Operand) (D:aa Mu),mX σ ps xs=some D -> ∀ O∈D,BB σ O
 |[],[],D,h=>by injection h with h;subst h;simp
 | p :: ps,x :: xs,D,h=>by
  unfold mX at h;split at h
  ·rename_i O E C L;injection h with h;subst h;have T:=NN ps xs E L;have C:=BE C;intro z hz;rcases gX.1 hz with rfl | hz
   ·cases p with
    |v=>exact C.elim
    | p=>
     cases z with
     |aC=>exact C.2
     |sl=>exact C.elim
    | s=>
     cases z with
     |aC=>exact C.elim
     |sl=>exact C.2
   ·simp_all
  next E C L=>injection h with h;subst h;exact NN ps xs E L
  ·cases h
 |[],_::_,D,h=>by cases h
 |_::_,[],D,h=>by cases h
def HD:∀ {ps:aa PK} (i C:Nat) (x:lZ ps),(jO ps i x).length=(jO ps C x).length
 |[],_,_,_=>rfl
 |.v _ _::ps,i,C,x=>by simp[jO,List.length_cons];rw[HD]
 |.p _ _ _::ps,i,C,x=>by simp only[jO,List.length_cons];rw[HD (i+1) (C+1)]
 |.s _ _::ps,i,C,x=>by simp only[jO,List.length_cons];rw[HD (i+1) (C+1)]
def NO:∀ (ps:aa PK) (xs:aa Operand) (O:aa Mu) (k:lZ ps -> ah X),mX σ ps xs=some O -> nX σ ns ps xs O k=some r -> ∃ x,k x=some r/\HC O (mW ps x)/\(jO ps 0 x).length=xs.length /\
  ∀aj ρ a w aA ρ',Rl w0 N aj ρ σ a w -> BA ns aj aA -> ∀(T:aa In) (i:Nat),(∀j z,(mW ps x)[j]?=some z -> T[i+j]?=some z) -> (∀j U,O[j]?=some U -> ρ' (nF (i+j))=ρ U.root) -> Ec w w.heap.size aA ρ' T (jO ps i x) (xs.map a.eval)
 | [],[],O,k,C,h=>by
  injection C with C;subst C;exact⟨(),h,trivial,rfl,λ_ _ _ _ _ _ _ _ _ _ _ _=>trivial⟩
 | .v b t :: ps,x :: xs,O,k,C,h=>by
  have vb:mX σ ps xs=some O:=by
   unfold mX at C;split at C
   next U rT D L=>exact(BE D).elim
   next rT D L=>rw[L];exact C
   ·cases C
  unfold nX at h;obtain⟨p,L,hp⟩:=aov (w0:=w0) (N:=N) h;cases hb:p.1==b with
  |false=>rw[hb]at L;cases L
  | true=>
   rw[hb,au]at L;have hb:p.1=b:=by simpa using hb
   subst hb;split at L
   ·rename_i y Y;obtain⟨ys,h3,h4,h5,h6⟩:=NO ps xs O _ vb L
    refine⟨(y,ys),h3,h4,?_,λaj ρ a w aA ρ' Z hS T i hi cB=>⟨?_,h6 aj ρ a w aA ρ' Z hS T i hi cB⟩⟩
    ·simp[jO,h5]
    ·have rS:=hp aj ρ a w aA Z hS _ (Z.aK x);have hk:=lV t 0 p.2 y Y;generalize a.eval x=ux at rS ⊢;rcases rS with ⟨_,_,us,hu,hs,hr⟩ | ⟨g,c,cs,pv,rS⟩
     case f=>
      have he:∀(j:Nat) z,(enc t 0 y)[j]?=some z -> z.aF=true:=λj z E=>rH t 0 y (by omega) j z E
      obtain⟨c',eC,e,hw⟩:=aou hk.1 hk.2;rw[e]at he ⊢;exact⟨pv,rfl,rS.tw hw λj z E=>he (j+2) z (by simpa using E)⟩
     have jk:∀ (j:Nat) z,(enc t 0 y)[j]?=some z -> ∃ v,us[j]?=some v/\z.aF=true/\RV w w.heap.size aA [] z v:=by
      intro j z E;have hj:j<p.2.length:=by rw[hk.1];exact(dQ.1 E).1
      obtain⟨v,hv,fl⟩:=hr j _ (bZ hj);exact⟨v,hv,rH t 0 y (by omega) j z E,fl.wk (hk.2 j _ z (bZ hj) E)⟩
     have hlen:us.size=(enc t 0 y).length:=hs.trans hk.1;obtain⟨b,vs⟩:=p;cases b with
     | true=>
      show RA _ _ _ _ (.agg ((enc t 0 y).map .v)) _
      refine⟨us,hu,by rw[eI];exact hlen,λj z E=>?_⟩
      rw[eH]at E;cases DT:(enc t 0 y)[j]? with
      |none=>rw[DT]at E;cases E
      | some z'=>
       rw[DT]at E;injection E with E;subst E;obtain⟨v,hv,g1,g2⟩:=jk j z' DT;exact⟨v,hv,g1,g2⟩
     | false=>
      have hu:us = #[ux]:=hu;subst hu;show RA _ _ _ _ (Va T (.pt (false,enc t 0 y))) _
      match he:enc t 0 y,jk,hlen with
      | [z],jk,_=>
       obtain⟨v,hv,g1,g2⟩:=jk 0 z rfl;have:ux=v:=by simpa using hv
       rw[this];exact⟨g1,g2⟩
      |[],_,_=>trivial
      |_::_::_,_,hlen=>exact absurd hlen (by simp)
   ·cases L
 | .p t g off :: ps,x :: xs,O,k,C,h=>by
  unfold mX at C;split at C
  ·rename_i U rT D L;injection C with C;subst C;have D:=BE D;cases U with
   |sl=>exact D.elim
   | aC r cs vs=>
    have D:aK σ x = .aJ r off/\BB σ (.aC r cs vs):=D;unfold nX at h;split at h
    ·rename_i y Y;cases hg:Nat.beq (g % 2) 0 with
     |false=>rw[hg]at Y;cases Y
     | true=>
      rw[hg,au]at Y;obtain⟨ys,h3,h4,h5,h6⟩:=NO ps xs rT _ L h
      refine⟨(y,ys),h3,⟨⟨lV t g _ y Y,aox hg⟩,h4⟩,by simp[jO,HD 1 0,h5],λaj ρ a w aA ρ' Z hS T i hi cB=>⟨?_,?_⟩⟩
      ·have HE:=hi 0 _ rfl;rw[Nat.add_zero]at HE;have hx:=Z.aK x;rw[D.1]at hx;obtain⟨b,o,e1,e2⟩:=hx;show RA _ _ _ _ (match T[i]? with|some (.aC _)=>.aJ (nF i) off|some (.sl _)=>.lf (.own [nF i])|none=>.undef) _;rw[HE];have iB:=cB 0 _ rfl;rw[Nat.add_zero]at iB;exact⟨b,o,iB.trans e1,e2⟩
      ·refine h6 aj ρ a w aA ρ' Z hS T (i+1) (λj z E=>?_) (λj U jw=>?_)
       ·rw[show i+1+j=i+(j+1) by omega];exact hi _ z E
       ·rw[show i+1+j=i+(j+1) by omega];exact cB _ U jw
    ·cases h
  next rT D L=>exact(BE D).elim
  ·cases C
 | .s t g :: ps,x :: xs,O,k,C,h=>by
  unfold mX at C;split at C
  ·rename_i U rT D L;injection C with C;subst C;have D:=BE D;cases U with
   |aC=>exact D.elim
   | sl q y0=>
    have D:aK σ x = .lf (.own [q])/\BB σ (.sl q y0):=D;unfold nX at h;split at h
    ·rename_i y Y;cases hg:Nat.beq (g % 2) 0 with
     |false=>rw[hg]at Y;cases Y
     | true=>
      rw[hg,au]at Y;obtain⟨ys,h3,h4,h5,h6⟩:=NO ps xs rT _ L h
      refine⟨(y,ys),h3,⟨⟨V.GH Y,?_⟩,h4⟩,by simp[jO,HD 1 0,h5],λaj ρ a w aA ρ' Z hS T i hi cB=>⟨?_,?_⟩⟩
      ·show Nat.beq ((g+2) % 2) 0=true;simp[*]
      ·have HE:=hi 0 _ rfl;rw[Nat.add_zero]at HE;have hx:=Z.aK x;rw[D.1]at hx;show RA _ _ _ _ (match T[i]? with|some (.aC _)=>.aJ (nF i) 0|some (.sl _)=>.lf (.own [nF i])|none=>.undef) _;rw[HE];have iB:=cB 0 _ rfl;rw[Nat.add_zero]at iB;refine⟨hx.1,?_⟩;have L:=hx.2;simp only[c8]at L ⊢;rw[iB];exact L
      ·refine h6 aj ρ a w aA ρ' Z hS T (i+1) (λj z E=>?_) (λj U jw=>?_)
       ·rw[show i+1+j=i+(j+1) by omega];exact hi _ z E
       ·rw[show i+1+j=i+(j+1) by omega];exact cB _ U jw
    ·cases h
  next rT D L=>exact(BE D).elim
  ·cases C
 |[],_::_,O,k,C,h=>by cases C
 |_::_,[],O,k,C,h=>by cases C
end
def oR(c0:Nat):Nat->aa (V×ah Nat)->aa Nat
 |_,[]=>[]
 |n,(_,some q)::C=>q::oR c0 (n+1) C
 |n,(_,none)::C=>(c0+n)::oR c0 (n+1) C
def zu(c0:Nat):Nat->aa Mu->aa Nat
 |_,[]=>[]
 |pos,.aC r _ D::C=>r::(oR c0 (pos+1) D++zu c0 (pos+1+D.length) C)
 |pos,.sl q _::C=>q::zu c0 (pos+1) C
def BF:aa Nat->aa V->aa Nat
 |n::C,x::xs=>bif x.aF then BF C xs else n::BF C xs
 |_,_=>[]
def pP(c0:Nat):Nat->aa Mu->aa In->aa Nat
 |pos,.aC _ _ D::C,.aC xs::outs=>BF (oR c0 (pos+1) D) xs++pP c0 (pos+1+D.length) C outs
 |pos,.sl _ _::C,.sl _::outs=>pP c0 (pos+1) C outs
 |_,_,_=>[]
def pQ(ns cn:aa Nat):aa Nat->aa Lf->aa V->aa Lf
 |n::C,l::D,x::xs=>(bif x.plain then .v x else bif x.aF then l.eV ns cn else .own [n])::pQ ns cn C D xs
 |_,_,_=>[]
def zx:aa Nat->aa V->aa (Nat×bg)
 |n::C,x::xs=>bif x.aF then zx C xs else (n,.sl x)::zx C xs
 |_,_=>[]
def nY(ns cn:aa Nat)(c0:Nat):Nat->aa Mu->aa In->aa (Nat×bg)
 |pos,.aC r cs D::C,.aC xs::outs=>(r,.aC (pQ ns cn (oR c0 (pos+1) D) cs xs))::(zx (oR c0 (pos+1) D) xs++nY ns cn c0 (pos+1+D.length) C outs)
 |pos,.sl q _::C,.sl y::outs=>bif y.jK then (q,.sl y)::nY ns cn c0 (pos+1) C outs else nY ns cn c0 (pos+1) C outs
 |_,_,_=>[]
def NP:aa Nat->Bool
 |[]=>true
 |n::l=>!dH n l&&NP l
def ab9:In->Bool
 |.aC xs=>xs.all λx=>x.aF ||x.loc
 |.sl y=>y.loc
def iL:ah Tmp->Nat
 |some d=>1000000000100000+1000*d
 |none=>90000
def vo{X:Type}(N:Nat)(σ:S)(C:ah Tmp)(D:fR)(k:S->ah X):ah X:=
 match C with
 |none=>k σ
 |some d=>bif Nat.blt d N then nT σ d D k else none
def HF(N:Nat)(C:aa Mu)(outs:aa In)(cn:aa Nat):Bool:=
 NP cn&&(C.all λD=>!dH D.root cn)&&(cn.all λn=>Nat.blt n N ||Nat.ble 60000 n)&&outs.all ab9
def NQ{X:Type}(N:Nat)(σ:S)(C:ah Tmp)(D:aa Mu)(ns cn:aa Nat)(E:fR)(outs:aa In)(k:S->ah X):ah X:=
 bif HF N D outs cn then vo N (σ.eV ns cn (nY ns cn (iL C) E.len D outs)) C E k else none
def rU{X:Type}(N:Nat)(σ:S)(D:ah Tmp)(c:nU)(args:aa Operand)(k:S->ah X):ah X:=
 match mX σ c.ps args with
 | some C=>bif once (nW 0 C)&&Nat.ble C.length 40 then
   nX σ ((nW 0 C).map (·.1)) c.ps args C λx=>(match c.F x with
    |some y=>NQ N σ D C ((nW 0 C).map (·.1)) (pP (iL D) (fm c.ro y.1).len C (kR (fh c.ps) y.2)) (fm c.ro y.1) (kR (fh c.ps) y.2) k
    |none=>none)else none
 |none=>none
section
variable {P:Program} {w w':World} {w0:Wd} {B N:Nat} {aj dJ aA:bG} {ρ eU ρ':Nat->Loc} {σ:S} {a:Act} {X:Type} {d:Nat} {r:X} {ns cn:aa Nat} {o:Oper} {rs:aa Nat} {eg:aa (Nat×Nat)}
def acd{n:Nat}:∀ {l:aa (Nat×Nat)},dH n (l.map (·.1))=false -> l.lookup n=none
 |[],_=>rfl
 | p :: l,h=>by
  simp[List.map_cons,dH,Bool.or_eq_false_iff]at h;rw[List.lookup_cons];have:(n==p.1)=false:=by
   cases C:n==p.1 with
   |false=>rfl
   |true =>simp_all
  rw[this];exact acd h.2
def aoz{b:Nat}{k:aa Nat}{n m:Nat}(h:aj b=some k)(C:k.getLast?=some n)(D:eg.lookup n=some m):ey aj eg id b=some (k.dropLast++[m]):=by
 simp[ey,h,C,D]
def aoA(D:∀ b k,aj b=some k -> k≠[]):BA (eg.map (·.1)) aj (ey aj eg id):=by
 refine⟨λb h=>zk h,λb k h=>⟨D b k h,λC=>?_⟩⟩
 simp[ey,h];cases E:k.getLast? with
 |none=>rfl
 | some n=>
  simp[gq,E]at C;simp[acd C]
def Vq{m:Nat -> ah bg}:∀ (cs:aa Lf) (C:aa (V×ah Nat)),tv m cs=some C -> C.length=cs.length /\ ∀ (j:Nat) l,cs[j]?=some l -> ∃ v,C[j]?=some v/\zq m l=some v
 |[],C,h=>by injection h with h;subst h;exact⟨rfl,λj l D=>by simp at D⟩
 | c :: cs,C,h=>by
  unfold tv at h;split at h
  ·rename_i v E O L;injection h with h;subst h;obtain⟨T,U⟩:=Vq cs E L
   grind
  ·cases h
def aoB{l:Lf}{v:V}{E:ah Nat}(h:zq σ.m l=some (v,E))(Y:Rl w0 N aj ρ σ a w)(D:BA ns aj aA){u:Value}(L:dU w w0.heap.size aj ρ l u):
  (E=none /\ ∀B' O,RV w B' aA O v u) \/ (∃q,E=some q/\v.aF=false/\RV w w0.heap.size aj [q] v u):=by
 unfold zq at h;split at h
 ·simp at h;obtain⟨rfl,rfl⟩:=h;exact .inl ⟨rfl,λB' O=>L.2.out D.none D.rest (.inl L.1)⟩
 ·rename_i q;split at h
  ·rename_i y Z;have T:=Y.root q _ Z;generalize C:bg.sl y=x at T;cases T with
   |aC=>cases C
   |mp=>cases C
   |gh=>cases C
   | sl v' y' cB hr=>
    injection C with C;subst C;have Ht:v'=u:=by
     have h2:=L.2;simp only[c8,cB]at h2;simp_all
    subst Ht;cases U:y.aF with
    | true=>
     rw[U,au]at h;obtain⟨rfl,rfl⟩:=h;exact .inl ⟨rfl,λB' O=>hr.out D.none D.rest (.inl U)⟩
    |false =>grind
  ·cases h
 ·cases h
def ace{i:Nat}{v:V}{q:Nat}:∀ (D:aa (V×ah Nat)) (C j:Nat),D[j]?=some (v,some q) -> (q,60000+1000*i+(C+j))∈HA i C D
 |[],C,j,h=>by simp at h
 | (L,E) :: D,C,j,h=>by
  cases j with
  | zero=>
   obtain⟨rfl,rfl⟩:=h;exact .head _
  | succ j=>
   have:=ace (i:=i) D (C+1) j (by simpa using h);rw[show C+1+j=C+(j+1) by omega]at this;cases E with
   |none=>exact this
   |some O=>exact .tail _ this
def Vr{i:Nat}:∀ (cs:aa V) (C:Nat),(zo i C cs).length=cs.length
 |[],_=>rfl
 |c::cs,C=>by simp[zo,Vr cs]
def RV.mP{q:aa Nat}{x:V}{u:Value}(h:RV w B aj q x u)(C:x.plain=false)(D:x.jK=true):mP u=true:=by
 cases h<;>first|rfl|cases C|cases D
def Wk.acf{x y:V}(h:Wk x y)(C:x.aF=false):y.aF=false:=by
 cases h with
 |same=>exact C
 |nil=>cases C
 |q=>exact C
 |gr t o D E l L O=>simp[V.aF];omega
def Vs(hR:Rl w0 N aj ρ σ a w)(hS:BA ns aj (ey aj eg id)):∀ (L:aa Mu) (T:aa In) (i:Nat),(∀ p∈nW i L,eg.lookup p.1=some p.2) -> (∀ j E,L[j]?=some E -> rs[i+j]?=some E.root) -> (∀ E∈L,BB σ E) -> HC L T -> i+L.length <= 40 ->
  oQ w w.heap.size (ey aj eg id) (xh w ρ rs) i T
 |[],[],_,_,_,_,_,_=>trivial
 |[],_::_,_,_,_,_,h,_=>h.elim
 |.aC _ _ _::_,[],_,_,_,_,h,_=>h.elim
 |.sl _ _::_,[],_,_,_,_,h,_=>h.elim
 |.aC _ _ _::_,.sl _::_,_,_,_,_,h,_=>h.elim
 |.sl _ _::_,.aC _::_,_,_,_,_,h,_=>h.elim
 | .aC r cs vs :: L,.aC xs :: T,i,U,jv,jw,hrel,hi=>by
  obtain⟨hm,hg,hlen⟩:=jw _ (.head _);obtain⟨⟨hw,hx⟩,BG⟩:=hrel;obtain⟨g1,g2⟩:=Vq cs vs hg;have Y:=jv 0 _ rfl;rw[Nat.add_zero]at Y;simp only[List.length_cons]at hi;have mU:xs.length=cs.length:=by rw[<- hw.1,eI,g1]
  have eG:=hR.root r _ hm;generalize C:bg.aC cs=z at eG;cases eG with
  |sl=>cases C
  |mp=>cases C
  |gh=>cases C
  | aC b off cells e eC us cB hl hh hs hc=>
   injection C with C;subst C;have jk:∀ (j:Nat) x,xs[j]?=some x -> cells[off+j]?=some (us j)/\RV w w.heap.size (ey aj eg id) [nC i j x] x (us j)/\(x.plain=false -> xh w ρ rs (nC i j x) = .dX (us j)):=by
    intro j x O;have Bg:j<cs.length:=by rw[<- mU];exact(dQ.1 O).1
    obtain⟨v,hv,HG⟩:=g2 j _ (bZ Bg);obtain⟨c1,Z⟩:=hc j _ (bZ Bg);obtain⟨v,qo⟩:=v;have Vt:Wk v x:=hw.2 j v x (by rw[eH,hv];rfl) O;obtain⟨hx1,Uu⟩:=hx x (gO O)
    refine⟨c1,?_,λD=>?_⟩
    ·rcases aoB HG hR hS Z with ⟨rfl,h1⟩ | ⟨q,rfl,hf,h1⟩
     ·exact(h1 _ _).wk Vt
     ·have Vi:=Vt.acf hf;have hq:=U _ (.tail _ (List.mem_append_left _ (ace vs 0 j hv)));rw[fk]at hq;have h2:=(RV.ey (nm:=id) (p:=[]) h1 hq).wk Vt;have e1:nC i j x=60000+1000*i+j:=by simp[nC,Vi]
      rw[e1];exact h2.reB Uu
    ·exact aos Y (by omega) (by omega) cB (by rw[cell_of_row w b _ cells _ _ hh];exact c1)
   refine⟨.aC b off cells e _ us ((HB Y (by omega)).trans cB) ?_ hh (by rw[Vr,mU];exact hs) (λj z C=>?_),λj x O D=>?_,Vs hR hS L T (i+1) (λp D=>U p (.tail _ (List.mem_append_right _ D))) (λj E BH=>?_) (λE h=>jw E (.tail _ h)) BG (by omega)⟩
   ·exact aoz hl rfl (U _ (.head _))
   ·have O:j<xs.length:=by rw[<- Vr (i:=i) xs 0];exact(dQ.1 C).1
    have Ed:=Vl (i:=i) xs 0 j _ (bZ O);rw[C]at Ed;injection Ed with Ed;subst Ed;rw[fk];obtain⟨c1,Z,c3⟩:=jk j _ (bZ O);refine⟨c1,?_⟩;cases D:(xs[j]).plain with
    | true=>
     have e1:zn i j xs[j] = .v xs[j]:=by simp[zn,D]
     rw[e1];exact⟨V.GU D,Z.sU D⟩
    | false=>
     have e1:zn i j xs[j] = .own [nC i j xs[j]]:=by simp[zn,D]
     rw[e1];exact⟨Z.mP D (hx _ (cU _)).1,by simp only[c8,c3 D]⟩
   ·obtain⟨c1,Z,c3⟩:=jk j x O;exact .sl _ x (c3 D) Z
   ·have:=jv (j+1) E (by simpa using BH);rw[show i+(j+1)=i+1+j by omega]at this;exact this
 | .sl q y :: L,.sl y' :: T,i,U,jv,jw,hrel,hi=>by
  obtain⟨hm,hf⟩:=jw _ (.head _);obtain⟨⟨hw,hx⟩,BG⟩:=hrel;have Y:=jv 0 _ rfl;rw[Nat.add_zero]at Y;simp only[List.length_cons]at hi;have eG:=hR.root q _ hm;generalize C:bg.sl y=z at eG;cases eG with
  |aC=>cases C
  |mp=>cases C
  |gh=>cases C
  | sl v y0 cB hr=>
   injection C with C;subst C
   refine⟨.sl v y' ((HB Y (by omega)).trans cB) ?_,Vs hR hS L T (i+1) (λp D=>U p (.tail _ D)) (λj E BH=>?_) (λE h=>jw E (.tail _ h)) BG (by omega)⟩
   ·exact((RV.ey (p:=[]) hr (U _ (.head _))).wk hw).reB hx
   ·have:=jv (j+1) E (by simpa using BH);rw[show i+(j+1)=i+1+j by omega]at this;exact this
end
def Vu:Loc->Nat×Nat
 |.aC b off=>(b,off)
 |.dX _=>(0,0)
 |.bY _=>(0,0)
def zy(w:World)(b off:Nat):Nat->aa Nat->aa V->aa (Nat×Value)
 |j,n::C,x::xs=>bif x.aF then zy w b off (j+1) C xs else (n,(w.cell? ⟨b,off+j,none⟩).getD undef)::zy w b off (j+1) C xs
 |_,_,_=>[]
def rV(w:World)(ρ:Nat->Loc)(c0:Nat):Nat->aa Mu->aa In->aa (Nat×Value)
 |pos,.aC r _ D::C,.aC xs::outs=>zy w (Vu (ρ r)).1 (Vu (ρ r)).2 0 (oR c0 (pos+1) D) xs++rV w ρ c0 (pos+1+D.length) C outs
 |pos,.sl _ _::C,.sl _::outs=>rV w ρ c0 (pos+1) C outs
 |_,_,_=>[]
def acg(l:aa (Nat×Value))(ρ:Nat->Loc):Nat->Loc:=λn=>match l.lookup n with
 |some v=>.dX v
 |none=>ρ n
def Vv{w:World}{b off:Nat}:∀ (C:aa Nat) (xs:aa V) (j:Nat),(zy w b off j C xs).map (·.1)=BF C xs
 |[],[],_=>rfl
 |[],_::_,_=>rfl
 |_::_,[],_=>rfl
 | n :: C,x :: xs,j=>by
  simp[zy,BF];cases x.aF with
  |true=>exact Vv C xs _
  |false=>simp;rw[Vv]
def NR{w:World}{ρ:Nat -> Loc}{c0:Nat}:∀ (C:aa Mu) (outs:aa In) (D:Nat),(rV w ρ c0 D C outs).map (·.1)=pP c0 D C outs
 | .aC r _ E :: C,.aC xs :: outs,D=>by
  simp[rV,pP,List.map_append];rw[Vv,NR]
 | .sl _ _ :: C,.sl _ :: outs,D=>by
  simp only[rV,pP];exact NR C outs _
 |[],_,_=>by simp[rV,pP]
 |.aC _ _ _::_,[],_=>rfl
 |.sl _ _::_,[],_=>rfl
 |.aC _ _ _::_,.sl _::_,_=>rfl
 |.sl _ _::_,.aC _::_,_=>rfl
def ach{n:Nat}:∀ {l:aa (Nat×Value)},dH n (l.map (·.1))=false -> l.lookup n=none
 |[],_=>rfl
 | p :: l,h=>by
  simp[List.map_cons,dH,Bool.or_eq_false_iff]at h;rw[List.lookup_cons];cases C:n==p.1 with
  |false=>exact ach h.2
  |true =>simp_all
def aci:∀ {l:aa (Nat×Value)},NP (l.map (·.1))=true -> ∀ p∈l,l.lookup p.1=some p.2
 |[],_,p,hp=>by cases hp
 | q :: l,h,p,hp=>by
  simp[List.map_cons,NP,aN,ic]at h;rw[List.lookup_cons];rcases gX.1 hp with rfl|hp
  ·simp
  ·cases C:p.1==q.1 with
   |false=>exact aci h.2 p hp
   | true=>
    have e:p.1=q.1:=by simpa using C
    exact absurd (List.mem_map_of_mem (f:=(·.1)) hp) (by rw[e];exact ab7 h.1)
def HH{c0:Nat}:∀ (C:aa (V×ah Nat)) (n:Nat),(oR c0 n C).length=C.length
 |[],_=>rfl
 |(_,some _)::C,n=>by simp[oR,HH]
 |(_,none)::C,n=>by simp[oR,HH C]
def acj{ns cn:aa Nat}:∀ (D:aa Nat) (C:aa Lf) (xs:aa V),D.length=C.length -> xs.length=C.length -> (pQ ns cn D C xs).length=C.length /\
  ∀(j:Nat) z,(pQ ns cn D C xs)[j]?=some z -> ∃n l x,D[j]?=some n/\C[j]?=some l/\xs[j]?=some x/\z=(bif x.plain then .v x else bif x.aF then l.eV ns cn else .own [n])
 |[],[],[],_,_=>⟨rfl,λj z E=>by simp[pQ]at E⟩
 | n :: D,l :: C,x :: xs,L,O=>by
  obtain⟨T,U⟩:=acj (ns:=ns) (cn:=cn) D C xs (by simpa using L) (by simpa using O)
  refine⟨by simp[pQ,T],λj z E=>?_⟩
  cases j with
  |zero=>simp[pQ,List.getElem?_cons_zero,iw]at E;exact⟨n,l,x,rfl,rfl,rfl,E.symm⟩
  |succ j=>exact U j z (by simpa [pQ]using E)
def ack:∀ (C:aa Nat) (xs:aa V),∀ p∈zx C xs,∃ (j:Nat) (x:V),C[j]?=some p.1/\xs[j]?=some x/\x.aF=false/\p.2 = .sl x
 |[],[],p,hp=>by cases hp
 |[],_::_,p,hp=>by cases hp
 | n :: C,x :: xs,p,hp=>by
  simp[zx]at hp;have rest:p∈zx C xs -> ∃ (j:Nat) (y:V),(n :: C)[j]?=some p.1/\(x :: xs)[j]?=some y/\y.aF=false/\p.2 = .sl y:=λhp=>by
   obtain⟨j,y,E,L,O,T⟩:=ack C xs p hp;exact⟨j+1,y,by simpa using E,by simpa using L,O,T⟩
  cases D:x.aF with
  |true=>grind
  | false=>
   rw[D]at hp;rcases gX.1 hp with rfl|hp
   ·exact⟨0,x,rfl,rfl,D,rfl⟩
   ·grind
def acm{w:World}{b off n:Nat}{x:V}:∀ (D:aa Nat) (xs:aa V) (C j:Nat),D[j]?=some n -> xs[j]?=some x -> x.aF=false -> (n,(w.cell? ⟨b,off+(C+j),none⟩).getD undef)∈zy w b off C D xs
 |[],_,_,j,h,_,_=>by simp at h
 | m :: D,y :: xs,C,j,E,L,O=>by
  cases j with
  | zero=>
   simp at E L;subst E L;simp only[zy,O];simp_all
  | succ j=>
   have:=acm (w:=w) (b:=b) (off:=off) D xs (C+1) j (by simpa using E) (by simpa using L) O;rw[show C+1+j=C+(j+1) by omega]at this;simp[zy]
   grind
section
variable {P:Program} {w w':World} {w0:Wd} {B N:Nat} {aj dJ aA:bG} {ρ eU ρ':Nat->Loc} {σ:S} {a:Act} {X:Type} {d:Nat} {r:X} {ns cn:aa Nat} {o:Oper} {rs:aa Nat} {eg:aa (Nat×Nat)} {nm NS:Nat->Nat} {c0:Nat}
def ju.zj{nm:Nat -> Nat}:∀ (ps:aa Pt) (off:Nat) (C:aa Value) {B':Nat},ju w B aj nm off ps C -> B' <= B -> (∀ b,B <= b -> aA b=aj b) -> (∀ b k,aj b=some k -> aA b=some k) -> (∀ n,off <= n -> n<off+(ps.map λp=>p.2.length).sum -> nm n=NS n) -> ju w B' aA NS off ps C
 |[],_,[],_,h,_,_,_,_=>h
 | p :: ps,off,v :: C,B',h,hB,L,O,D=>by
  obtain⟨⟨T,us,Y,Z,hr⟩,vi⟩:=h;simp only[List.map_cons,List.sum_cons]at D
  refine⟨⟨T,us,Y,Z,λj x E=>?_⟩,ju.zj ps _ C vi hB L O (λn h1 h2=>D n (by omega) (by omega))⟩
  obtain⟨U,sS,fl⟩:=hr j x E;have hj:j<p.2.length:=(dQ.1 E).1;refine⟨U,sS,?_⟩;show RV w B' aA [NS (off+j)] x U;rw[<- D (off+j) (by omega) (by omega)];exact fl.zj hB L O (cw.1 T x (gO E))
def Vw(hR:Rl w0 N aj ρ σ a w)(hv:tq w w' aj dJ ρ eU ns cn)(kP:∀ b k,aA b=some k -> dJ b=some k)(oC:∀ b,w.heap.size <= b -> dJ b=aA b)(hB:w0.heap.size <= w.heap.size):
  ∀(E:aa Mu) (ins outs:aa In) (i C:Nat),(∀j D,E[j]?=some D -> rs[i+j]?=some D.root) -> (∀D∈E,BB σ D) -> HC E ins -> i+E.length <= 40 -> Hv w w' aA (xh w ρ rs) nm i C ins outs ->
  (∀k n,(zu c0 C E)[k]?=some n -> nm (C+k)=n) -> (∀p∈rV w' ρ c0 C E outs,eU p.1 = .dX p.2) -> (∀D∈E,dH D.root cn=false) -> outs.all ab9=true -> ∀p∈nY ns cn c0 C E outs,dY w' w0.heap.size dJ eU p.1 p.2
 |[],[],[],_,_,_,_,_,_,_,_,_,_,_,p,hp=>by simp[nY]at hp
 |[],[],_::_,_,_,_,_,_,_,h,_,_,_,_,_,_=>h.elim
 |[],_::_,_,_,_,_,_,h,_,_,_,_,_,_,_,_=>h.elim
 |.aC _ _ _::_,[],_,_,_,_,_,h,_,_,_,_,_,_,_,_=>h.elim
 |.sl _ _::_,[],_,_,_,_,_,h,_,_,_,_,_,_,_,_=>h.elim
 |.aC _ _ _::_,.sl _::_,_,_,_,_,_,h,_,_,_,_,_,_,_,_=>h.elim
 |.sl _ _::_,.aC _::_,_,_,_,_,_,h,_,_,_,_,_,_,_,_=>h.elim
 |.aC _ _ _::_,.aC _::_,[],_,_,_,_,_,_,h,_,_,_,_,_,_=>h.elim
 |.sl _ _::_,.sl _::_,[],_,_,_,_,_,_,h,_,_,_,_,_,_=>h.elim
 |.aC _ _ _::_,.aC _::_,.sl _::_,_,_,_,_,_,_,h,_,_,_,_,_,_=>h.elim
 |.sl _ _::_,.sl _::_,.aC _::_,_,_,_,_,_,_,h,_,_,_,_,_,_=>h.elim
 | .aC r cs L :: E,.aC xs0 :: ins,.aC xs :: outs,i,C,jv,jw,hrel,hi,hO,oS,BI,oL,Y,p,hp=>by
  obtain⟨hm,hg,hlen⟩:=jw _ (.head _);obtain⟨⟨hw,hx⟩,BG⟩:=hrel;obtain⟨g1,g2⟩:=Vq cs L hg;have nP:=jv 0 _ rfl;rw[Nat.add_zero]at nP;simp only[List.length_cons]at hi;have Vx:xs0.length=cs.length:=by rw[<- hw.1,eI,g1]
  obtain⟨⟨b,off,cells,xd,e,e',Z,h2,h3,h4,h5,h6,h7⟩,Vy⟩:=hO;have eG:=hR.root r _ hm;generalize hz:bg.aC cs=z at eG;cases eG with
  |sl=>cases hz
  |mp=>cases hz
  |gh=>cases hz
  | aC b0 U acn e0 eC us cB hl hh hs hc=>
   injection hz with hz;subst hz;rw[HB nP (by omega)]at Z;have Z:ρ r = .aC b off:=Z;rw[cB]at Z;injection Z with e1 e2;subst e1 e2;have aoC:acn=cells:=by
    rw[hh]at h2;injection h2 with h2;injection h2
   subst aoC;have iB:=oL _ (.head _);have Ee:eU r = .aC b0 U:=(hv.eT r iB).trans cB;have sY:nm C=r:=by have:=oS 0 r rfl;rwa [Nat.add_zero]at this
   have aoD:∀ (j:Nat) n,(oR c0 (C+1) L)[j]?=some n -> nm (C+1+j)=n:=by
    intro j n hn;have hj:j<(oR c0 (C+1) L).length:=(dQ.1 hn).1;have:=oS (j+1) n (by simp only[zu,List.getElem?_cons_succ];rw[List.getElem?_append_left hj];exact hn);rw[show C+1+j=C+(j+1) by omega];exact this
   have jk:∀ (j:Nat) x,xs[j]?=some x -> ∃ u,xd[U+j]?=some u/\w'.cell? ⟨b0,U+j,none⟩=some u/\((x.plain=true /\ ∀ (w:World) (B:Nat) (aj:bG) (q:aa Nat),RV w B aj q x u) \/ (x.plain=false/\x.aF=true/\acn[U+j]?=some u) \/ (x.aF=false/\RV w' w.heap.size aA [nm (C+1+j)] x u)):=by
    intro j x hj;obtain⟨u,hu,hd⟩:=h7 j x hj;exact⟨u,hu,by rw[cell_of_row w' b0 _ xd _ _ h3];exact hu,hd⟩
   have yX:∀ (j:Nat) n x u,(oR c0 (C+1) L)[j]?=some n -> xs[j]?=some x -> x.aF=false -> w'.cell? ⟨b0,U+j,none⟩=some u -> eU n = .dX u:=by
    intro j n x u hn hxj hf hu;have zm:=acm (w:=w') (b:=b0) (off:=U) _ xs 0 j hn hxj hf;rw[fk,hu]at zm;exact BI (n,u) (by simp only[rV,cB,Vu];exact List.mem_append_left _ zm)
   simp only[nY]at hp;rcases gX.1 hp with rfl|hp
   ·obtain⟨k1,k2⟩:=acj (ns:=ns) (cn:=cn) (oR c0 (C+1) L) cs xs (by rw[HH,g1]) (by rw[h6,Vx])
    refine .aC b0 U xd e' _ (λj=>xd.getD (U+j) undef) Ee (kP _ _ (by rw[h4,sY])) h3 (by show U+(pQ _ _ _ _ _).length <= _;rw[k1,<- Vx,<- h6];exact h5) (λj z hz=>?_)
    obtain⟨n,l,x,n1,n2,n3,rfl⟩:=k2 j z hz;obtain⟨u,hu,Vz,hd⟩:=jk j x n3;have eu:xd.getD (U+j) undef=u:=by rw[iu,hu];rfl
    rw[eu];refine⟨hu,?_⟩;rcases hd with ⟨O,T⟩|⟨O,T,d3⟩|⟨O,T⟩
    ·rw[O,au];exact⟨V.GU O,T _ _ _ _⟩
    ·rw[O,T,aq,au];obtain⟨c1,c2⟩:=hc j l n2;rw[c1]at d3;injection d3 with d3;rw[<- d3];exact c2.tu hv
    ·have zl:x.plain=false:=by
      cases zl:x.plain with
      |false=>rfl
      |true=>rw[V.GU zl]at O;cases O
     rw[zl,O,aq,aq];exact⟨T.Ui O,by simp only[c8,yX j n x u n1 n3 O Vz]⟩
   ·rcases List.mem_append.1 hp with hp | hp
    ·obtain⟨j,x,n1,n2,n3,n4⟩:=ack _ _ p hp;obtain⟨u,hu,Vz,hd⟩:=jk j x n2;rw[n4];refine .sl u x (yX j p.1 x u n1 n2 n3 Vz) ?_;rcases hd with ⟨O,T⟩ | ⟨O,T,d3⟩ | ⟨O,T⟩
     ·simp[*]
     ·rw[n3]at T;cases T
     ·rw[aoD j _ n1]at T;refine T.zj hB oC kP ?_;rw[List.all_cons,aN]at Y;have:=cw.1 Y.1 x (gO n2)
      rwa [n3,Bool.false_or]at this
    ·rw[List.all_cons,aN]at Y
     refine Vw hR hv kP oC hB E ins outs (i+1) (C+1+L.length) (λj D BH=>?_) (λD h=>jw D (.tail _ h)) BG (by omega) ?_ (λk n hn=>?_) (λp hp=>BI p ?_) (λD h=>oL D (.tail _ h)) Y.2 p hp
     ·have:=jv (j+1) D (by simpa using BH);rw[show i+(j+1)=i+1+j by omega]at this;exact this
     ·rw[g1,<- Vx];exact Vy
     ·have:=oS (1+L.length+k) n (by
       rw[show 1+L.length+k=(L.length+k)+1 by omega];simp only[zu,List.getElem?_cons_succ];rw[List.getElem?_append_right (by rw[HH];omega),HH];rw[show L.length+k-L.length=k by omega];exact hn)
      rw[show C+1+L.length+k=C+(1+L.length+k) by omega];exact this
     ·simp only[rV];exact List.mem_append_right _ hp
 | .sl q y0 :: E,.sl y1 :: ins,.sl y :: outs,i,C,jv,jw,hrel,hi,hO,oS,BI,oL,Y,p,hp=>by
  obtain⟨hm,hf⟩:=jw _ (.head _);obtain⟨_,BG⟩:=hrel;have nP:=jv 0 _ rfl;rw[Nat.add_zero]at nP;simp only[List.length_cons]at hi;obtain⟨hO1,Vy⟩:=hO;rw[List.all_cons,aN]at Y;have sY:nm C=q:=by have:=oS 0 q rfl;rwa [Nat.add_zero]at this
  have hp:(p=(q,.sl y)/\y.jK=true) \/ p∈nY ns cn c0 (C+1) E outs:=by
   simp only[nY]at hp;cases hy:y.jK with
   |false=>rw[hy]at hp;exact .inr hp
   | true=>
    rw[hy]at hp;rcases gX.1 hp with h|h
    ·grind
    ·simp[*]
  rcases hp with ⟨rfl,hy⟩|hp
  ·obtain⟨v,Z,h2⟩:=hO1.resolve_left (by rintro rfl;cases hy);rw[HB nP (by omega)]at Z;rw[sY]at h2;exact .sl v y ((hv.eT q (oL _ (.head _))).trans Z) (h2.zj hB oC kP Y.1)
  ·refine Vw hR hv kP oC hB E ins outs (i+1) (C+1) (λj D BH=>?_) (λD h=>jw D (.tail _ h)) BG (by omega) Vy (λk n hn=>?_) (λp hp=>BI p hp) (λD h=>oL D (.tail _ h)) Y.2 p hp
   ·have:=jv (j+1) D (by simpa using BH);rw[show i+(j+1)=i+1+j by omega]at this;exact this
   ·have:=oS (k+1) n (by simpa [zu]using hn);rw[show C+1+k=C+(k+1) by omega];exact this
end
section
variable {P:Program} {w w':World} {w0:Wd} {B N:Nat} {aj dJ aA:bG} {ρ eU ρ':Nat->Loc} {σ:S} {a:Act} {X:Type} {d:Nat} {r:X} {ns cn:aa Nat} {o:Oper} {rs:aa Nat} {eg:aa (Nat×Nat)} {nm NS:Nat->Nat} {c0:Nat}
def aoE{C:ah Tmp}{E:fR}{k:S -> ah X}(h:vo N σ C E k=some r):∃ cR,k cR=some r /\ ∀ aj ρ a w v,Rl w0 N aj ρ σ a w -> pN w w0.heap.size aj (λn=>iL C+n) E v -> ∃ ρ',Rl w0 N aj ρ' cR (a.put C v) w /\ ∀ r,r<iL C -> ρ' r=ρ r:=by
 unfold vo at h;cases C with
 |none=>exact⟨σ,h,λaj ρ a w v D _=>⟨ρ,D,λ_ _=>rfl⟩⟩
 | some d=>
  have h:(bif Nat.blt d N then (match E with
   | .one p=>(match yS (p.1,nS (1000000000100000+1000*d) p.2)with
    |some y=>k ((lY _ σ p.2).set d y)
    |none=>none)
   |.eS ps=>k ((oO _ σ ps).set d _))else none)=some r:=h
  cases O:Nat.blt d N with
  |false=>rw[O]at h;cases h
  | true=>
   rw[O,au]at h;have Bt:d<N:=cP O;cases E with
   | one p=>
    simp only at h;split at h
    ·rename_i y hy
     refine⟨_,h,λaj ρ a w v D T=>?_⟩
     obtain⟨ρ',U,Y,_,Z⟩:=Hq [p] (1000000000100000+1000*d) 0 σ ρ [v] (by omega) D T;have U5:=Z 0 _ v rfl rfl;exact⟨ρ',U.set (Ux hy U5) Bt,Y⟩
    ·cases h
   | eS w8=>
    refine⟨_,h,λaj ρ a w v D T=>?_⟩
    obtain⟨L,rfl,hv⟩:=T;obtain⟨ρ',U,Y,hlen,Z⟩:=Hq w8 (1000000000100000+1000*d) 0 σ ρ L.toList (by omega) D hv
    refine⟨ρ',U.set ⟨L,rfl,by simpa using hlen,λj p hp=>?_⟩ Bt,Y⟩
    have hj:j<L.size:=by
     have:=(dQ.1 hp).1
     grind
    exact⟨L[j],Array.getElem?_eq_getElem hj,Z j p _ hp (by rw[Array.getElem?_toList,Array.getElem?_eq_getElem hj])⟩
def VA{f:Nat}{args:Array Operand}{kQ:Array TypeId}{c:nU}{k:S -> ah X}(ho:o.op = .call { callee:=.value (.func f),args,argTypes:=kQ })(he:enters P f)(hc:tj P f c)(h:rU N σ o.dst c args.toList k=some r):∃ cR D cn,k cR=some r/\mX σ c.ps args.toList=some D/\(∀ n,dH n cn=true -> n<N \/ 60000 <= n)/\(∀ Y∈D,dH Y.root cn=false) /\
  ∀a w K Q aj ρ,Rl w0 N aj ρ σ a w -> (∀v w' dJ eU rW,Rl w0 N dJ rW cR (a.put o.dst v) w' -> tq w w' aj dJ ρ eU ((nW 0 D).map (·.1)) cn -> iZ w0 w w' -> (∀r,r<iL o.dst -> rW r=eU r) -> K (a.put o.dst v) w') -> o.wp P a w K Q:=by
 unfold rU at h;split at h
 ·rename_i D zz;generalize aco:nW 0 D=eg at h;cases mb:(once eg&&Nat.ble D.length 40)with
  |false=>rw[mb]at h;cases h
  | true=>
   rw[mb,au]at h;rw[aN]at mb;have aHa:=cP mb.2;have tf:∀ p∈nW 0 D,eg.lookup p.1=some p.2:=by
    intro p hp;rw[aco]at hp;have:=cw.1 mb.1 p hp;obtain⟨n,Z,he⟩:=(Option.any_eq_true _ _).1 this;simp_all
   obtain⟨x,h2,hrel,aHb,lE⟩:=NO (w0:=w0) (N:=N) _ _ D _ zz h;clear h;split at h2
   ·rename_i y hy;unfold NQ at h2;generalize oL:pP (iL o.dst) (fm c.ro y.1).len D (kR (fh c.ps) y.2)=cn at h2;generalize GQ:eg.map (·.1)=ns at h2 lE;cases fo:HF N D (kR (fh c.ps) y.2) cn with
    |false=>rw[fo]at h2;cases h2
    | true=>
     rw[fo,au]at h2;simp only[HF,aN]at fo;obtain⟨⟨⟨ok1,ok2⟩,ok3⟩,ok4⟩:=fo;obtain⟨cR,h3,BJ⟩:=aoE (w0:=w0) h2
     refine⟨cR,D,cn,h3,zz,λn Z=>?_,λY jw=>by simpa using cw.1 ok2 Y jw,λa w K Q aj ρ T hK=>?_⟩
     ·have:=cw.1 ok3 n (xe.1 Z);rw[eD]at this;rcases this with h | h
      ·exact .inl (by have:=cP h;omega)
      ·exact .inr (cP h)
     have hS:BA ns aj (ey aj eg id):=by rw[<- GQ];exact aoA (λb k C=>(T.dg b k C).2.2)
     have acp:=NN _ _ _ zz;let rs:=D.map Mu.root
     have jv:∀ j Y,D[j]?=some Y -> rs[0+j]?=some Y.root:=by
      intro j Y hj;rw[fk,eH,hj];rfl
     have hE:=Vs (rs:=rs) T hS D (mW c.ps x) 0 tf jv acp hrel (by omega);have hA:=lE aj ρ a w (ey aj eg id) (xh w ρ rs) T hS (mW c.ps x) 0 (λj z hz=>by rw[fk];exact hz) (λj Y hj=>by
      have h1:=jv j Y hj;rw[fk]at h1 ⊢;exact HB h1 (by have:=(dQ.1 hj).1;omega))
     obtain⟨hA1,UK⟩:=Ec.get _ _ hA;let nm:Nat -> Nat:=λn=>if n<(fm c.ro y.1).len then iL o.dst+n else (zu (iL o.dst) (fm c.ro y.1).len D).getD (n-(fm c.ro y.1).len) 0
     have qH:∀ (ps:aa PK) (i:Nat) (x:lZ ps),(jO ps i x).length=ps.length:=by
      intro ps
      induction ps with
      |nil=>intro i x;rfl
      | cons p ps ih=>
       intro i x;cases p with
       |v=>exact aY (· + 1) (ih _ _)
       |p=>exact aY (· + 1) (ih _ _)
       |s=>exact aY (· + 1) (ih _ _)
     unfold Oper.wp;rw[U3 w o a f args kQ ho he,Oper.upon_enter];have Bu:(args.map a.eval)=(args.toList.map a.eval).toArray:=by apply Array.ext';rw[Array.toList_map]
     rw[Bu];have NT:∀ b k,ey aj eg id b=some k -> (∃ U,aj b=some U/\gq U ns=true)/\k≠[]:=by
      intro b k C;cases E:aj b with
      |none=>rw[hS.none b E]at C;cases C
      | some U=>
       refine⟨⟨U,rfl,?_⟩,?_⟩
       ·cases hq:gq U ns with
        |true=>rfl
        |false=>rw[(hS.rest b U E).2 hq]at C;cases C
       ·simp only[ey,E]at C;split at C
        ·cases C
        ·cases acq:eg.lookup _ with
         |none=>rw[acq]at C;cases C
         |some n=>rw[acq]at C;injection C with C;subst C;simp
     have hQ:Hd w (ey aj eg id):=w0.on T.below (λb k C=>by obtain⟨⟨U,E,_⟩,_⟩:=NT b k C;exact(T.dg b U E).1)
     refine(hc x y hy nm w (ey aj eg id) (xh w ρ rs) _ hE (λb k C=>⟨?_,(NT b k C).2⟩) ?_ UK hQ).mono λe w' ta=>?_
     ·obtain⟨⟨U,E,_⟩,_⟩:=NT b k C;exact(T.dg b U E).2.1
     ·rw[List.size_toArray,hA1,qH]
     ·obtain⟨v,O,rfl,kz,Ef,lF,VB⟩:=ta;have hB:=T.below.size;let dJ:bG:=λb=>match ey aj eg id b with
       |none=>if b<w.heap.size then aj b else O b
       |some _=>O b
      have e1:∀ b k,O b=some k -> dJ b=some k:=by
       intro b k C;show (match ey aj eg id b with|none=>if b<w.heap.size then aj b else O b|some _=>O b)=some k;split
       next iB=>have:=(Ef b k C).1;have oC:=this.resolve_right (λh=>h iB);rw[bX];exact C
       ·exact C
      have e2:∀ b,w.heap.size <= b -> dJ b=O b:=by
       intro b C;show (match ey aj eg id b with|none=>if b<w.heap.size then aj b else O b|some _=>O b)=O b;split
       ·rw[bX]
       ·rfl
      have acr:∀ p∈rV w' ρ (iL o.dst) (fm c.ro y.1).len D (kR (fh c.ps) y.2),(rV w' ρ (iL o.dst) (fm c.ro y.1).len D (kR (fh c.ps) y.2)).lookup p.1=some p.2:=
       aci (by rw[NR,oL];exact ok1)
      generalize BI:rV w' ρ (iL o.dst) (fm c.ro y.1).len D (kR (fh c.ps) y.2)=hd at acr;have aoF:hd.map (·.1)=cn:=by rw[<- BI,NR,oL]
      have hv:tq w w' aj dJ ρ (acg hd ρ) ns cn:=by
       refine⟨kz.size,λb C hk=>?_,λn Z=>?_,λb k C=>(T.dg b k C).2⟩
       ·have iB:ey aj eg id b=none:=by
         cases E:aj b with
         |none=>exact hS.none b E
         |some k=>exact(hS.rest b k E).2 (hk k E)
        refine⟨kz.block b C iB,?_⟩;show (match ey aj eg id b with|none=>if b<w.heap.size then aj b else O b|some _=>O b)=aj b;rw[iB];exact bM C
       ·show (match hd.lookup n with|some v=>Loc.dX v|none=>ρ n)=ρ n;rw[ach (by rw[aoF];exact Z)]
      have HI:∀Y∈D,dH Y.root cn=false:=λY jw=>by simpa using cw.1 ok2 Y jw
      have hnr:=Vw (c0:=iL o.dst) (nm:=nm) T hv e1 e2 hB D (mW c.ps x) (kR (fh c.ps) y.2) 0 (fm c.ro y.1).len jv acp hrel (by omega) VB (λk n Z=>?_) (λp hp=>?_) HI ok4
      ·have acs:iZ w0 w w':=by
        refine⟨kz.os,kz.tape,kz.output,kz.size,λk hk hL=>kz.block k (Nat.lt_of_lt_of_le hk hB) ?_⟩
        cases E:aj k with
        |none=>exact hS.none k E
        |some U=>exact absurd hL ((T.dg k U E).1.resolve_left (by omega))
       have oP:Rl w0 N dJ (acg hd ρ) (σ.eV ns cn (nY ns cn (iL o.dst) (fm c.ro y.1).len D (kR (fh c.ps) y.2))) a w':=by
        refine T.tu hv acs (λb k C=>?_) (λn Z=>?_) (λn z hz=>?_)
        ·have C:(match ey aj eg id b with | none=>if b<w.heap.size then aj b else O b | some _=>O b)=some k:=C;have acu:O b=some k -> (w0.heap.size <= b \/ w0.L b≠none)/\b<w'.heap.size/\k≠[]:=by
          intro h1;obtain⟨g1,g2,g3⟩:=Ef b k h1;refine⟨?_,g2,g3⟩;rcases g1 with g1|g1
          ·exact .inl (Nat.le_trans hB g1)
          ·cases iB:ey aj eg id b with
           |none=>exact absurd iB g1
           | some k2=>
            obtain⟨⟨U,E,_⟩,_⟩:=NT b k2 iB;exact(T.dg b U E).1
         split at C
         ·split at C
          ·have:=T.dg b k C;exact⟨this.1,Nat.lt_of_lt_of_le this.2.1 kz.size,this.2.2⟩
          ·exact acu C
         ·exact acu C
        ·have:=cw.1 ok3 n (xe.1 Z);rw[eD]at this;refine T.dz n ?_;rcases this with h | h
         ·exact .inl (by have:=cP h;omega)
         ·exact .inr (cP h)
        ·have zm:(n,z)∈nY ns cn (iL o.dst) (fm c.ro y.1).len D (kR (fh c.ps) y.2):=by
          clear hnr;generalize nY ns cn (iL o.dst) (fm c.ro y.1).len D (kR (fh c.ps) y.2)=l at hz
          induction l with
          |nil=>cases hz
          | cons p l ih=>
           rw[List.lookup_cons]at hz;cases C:n==p.1 with
           | true=>
            rw[C]at hz;have e:n=p.1:=by simpa using C
            injection hz with hz;rw[e,<- hz]
            grind
           | false=>
            rw[C]at hz;exact .tail _ (ih hz)
         exact hnr (n,z) zm
       have aoG:pN w' w0.heap.size dJ (λn=>iL o.dst+n) (fm c.ro y.1) v:=?_
       ·obtain⟨rW,HJ,xj⟩:=BJ dJ _ a w' v oP aoG;exact hK v w' dJ _ rW HJ (by rw[aco,GQ];exact hv) acs xj
       have VC:∀(L:Nat),L=(fm c.ro y.1).len -> ∀n,n<L -> nm n=iL o.dst+n:=λL hL n Z=>bM
       generalize aHc:fm c.ro y.1=res at lF VC;cases res with
       | one p=>
        have lF:ju w' w.heap.size O nm 0 [p] [v]:=lF;exact ju.zj [p] 0 [v] lF hB e2 e1 (λn _ Z=>VC _ rfl n (by simpa [fR.len]using Z))
       | eS w8=>
        obtain⟨vs,e,jM⟩:=lF;exact⟨vs,e,ju.zj w8 0 vs.toList jM hB e2 e1 (λn _ Z=>VC _ rfl n (by simpa [fR.len]using Z))⟩
      ·show (if (fm c.ro y.1).len+k<(fm c.ro y.1).len then iL o.dst+((fm c.ro y.1).len+k)else (zu _ (fm c.ro y.1).len D).getD ((fm c.ro y.1).len+k-(fm c.ro y.1).len) 0)=n;rw[bX,show (fm c.ro y.1).len+k-(fm c.ro y.1).len=k by omega,eY,Z];rfl
      ·rw[BI]at hp;show (match hd.lookup p.1 with|some v=>Loc.dX v|none=>ρ p.1) = .dX p.2;rw[acr p hp]
   ·cases h2
 ·cases h
def aoH{f:Nat}{args:Array Operand}{E:Array TypeId}{c:nU}{k:S -> ah X}(L:o.op = .call { callee:=.value (.func f),args,argTypes:=E })(O:enters P f)(T:tj P f c)(h:rU N σ o.dst c args.toList k=some r):∃ C,k C=some r/\lA P w0 N o σ C:=by
 obtain⟨C,VD,cn,U,_,_,_,Y⟩:=VA L O T h
 refine⟨C,U,λa w K Q D Z=>?_⟩
 obtain⟨aj,ρ,D⟩:=D;exact Y a w K Q aj ρ D λv w' dJ eU rW dG _ _ _=>Z _ _ ⟨dJ,rW,dG⟩
end
end Go.Proofs.YtnilicojgkhpnaaGreat
