/-
  Running the program over pure contents, and that it follows (part 2). Nothing here is a claim.
-/
import Derived.Laws.StructEq
import Derived.Test.YtnilicojgkhpnaaGreatV1
set_option linter.unusedSimpArgs false
namespace Go.Proofs.YtnilicojgkhpnaaGreat
set_option linter.defProp false
open Go.RowKit
set_option linter.unusedVariables false
def aFY{X:Type}(N:Nat)(σ:S)(C:ah Tmp)(c x y:A)(k:S->ah X):ah X:=
 match c with
 |.lf (.v (.bool b))=>bif b then gd N σ C x k else gd N σ C y k
 |_=>none
def F5{X:Type}(P:Program)(s:TypeId)(x:A)(f:Nat)(k:A->ah X):ah X:=
 match FO P s f,x with
 | some C,.agg cs=>(match hJ P C.type,CS P C.type with
  |some n,some true=>if C.offset+n<=cs.length then k (.agg ((cs.drop C.offset).take n))else none
  | some _,some false=>(match cs[C.offset]? with
   |some y=>k (.lf y)
   |none=>none)
  |_,_=>none)
 |_,_=>none
def C3{X:Type}(C:Bool)(x y:A)(k:A->ah X):ah X:=
 match x,y with
 |.lf (.v (.int D a)),.lf (.v (.int _ b))=>k (.lf (.v (.int D (bif C then (if b > a then b else a)else (if b<a then b else a)))))
 |_,_=>none
def F6{X:Type}(P:Program)(t:TypeId)(x i:A)(k:A->ah X):ah X:=
 match x,i with
 | .lf (.v (.str s)),.lf (.v (.int _ iv))=>(match P.underlying t with
  |some .string=>if h:0<=iv/\iv.toNat<s.size then k (.lf (.v (.int .u8 ((s[iv.toNat]'h.2).toNat:Int))))else none
  |_=>none)
 |_,_=>none
def rE{X:Type}(x:ah A)(d:Int)(k:Int->ah X):ah X:=
 match x with
 |none=>k d
 |some (.lf (.v (.int _ n)))=>k n
 |_=>none
def vF{X:Type}(P:Program)(t:TypeId)(x:A)(lo hi:ah A)(k:A->ah X):ah X:=
 match x with
 | .lf (.v (.str s))=>(match P.underlying t with
  |some .string=>rE lo 0 λl=>rE hi (s.size:Int) λh=>if 0<=l/\l<=h/\h<=(s.size:Int)then k (.lf (.v (.str (s.extract l.toNat h.toNat))))else none
  |_=>none)
 | .lf (.v (.sl C g D l))=>(match n9 P t with
  | some e=>(match hJ P e with
   |some n=>if n=aA C then (bif Nat.blt g 2 then rE lo 0 λa=>rE hi (l.length:Int) λb=>if 0<=a/\a<=b/\b<=(l.length:Int)then k (.lf (.v (.sl C g false ((l.take b.toNat).drop a.toNat))))else none else none)else none
   |none=>none)
  |none=>none)
 |_=>none
def C4(P:Program)(C D:TypeId):Bool:=
 match P.underlying C,P.underlying D with
 | some (.slice e),some .string=>(match P.underlying e with
  |some (.int .u8)=>true
  |_=>false)
 |_,_=>false
def My{X:Type}(P:Program)(C D:TypeId)(z:V)(k:A->ah X):ah X:=
 match z with
 |.sl .u8 _ _ l=>bif C4 P C D then k (.lf (.v (.str (strOfNums l))))else none
 |.nil=>bif C4 P C D then k (.lf (.v (.str (strOfNums []))))else none
 |_=>none
def xN{X:Type}(P:Program)(σ:S)(C D:TypeId)(x:A)(k:A->ah X):ah X:=
 match x with
 | .lf (.v (.int _ n))=>(match P.underlying C,P.underlying D with
  |some _,some (.int E)=>k (.lf (.v (.int E (E.wrap n))))
  |_,_=>none)
 |.lf y=>nj σ y λz=>My P C D z k
 |_=>none
section
variable {P:Program} {w w':World} {w0:Wd} {B N:Nat} {aj ax:bw} {ρ ρ':Nat->Loc} {σ:S} {a:Act} {X:Type} {d:Nat} {r:X} {o:Oper}
def aFZ{α:Type}(f:α -> aa Value)(s:Nat)(C:∀ x,(f x).length=s)(l:aa α):(l.flatMap f).length=l.length*s:=by
 induction l with
 |nil=>simp
 |cons a l D=>grind
def amZ{α:Type}(f:α -> aa Value)(s:Nat)(D:∀ x,(f x).length=s):∀ (l:aa α) (k:Nat) (C:k<l.length) (j:Nat),j<s -> (l.flatMap f)[k*s+j]?=(f l[k])[j]?:=by
 intro l
 induction l with
 |nil=>simp_all
 | cons a l E=>
  intro k C j L;rw[List.flatMap_cons];cases k with
  |zero=>grind
  |succ k =>grind
def aaQ(z:Array Value)(s n:Nat)(C:z.size=s)(E:0<s):(madeCells z (n*s)).toList=(List.replicate n z.toList).flatten:=by
 have e:(List.replicate n z.toList).flatten=(List.replicate n ()).flatMap (λ_=>z.toList):=by
  rw[List.flatMap_def,List.map_replicate]
 rw[e];have L:((List.replicate n ()).flatMap (λ_=>z.toList)).length=n*s:=by
  simp_all
 apply List.ext_getElem?;intro i;rcases Nat.lt_or_ge i _ with hi|hi
 ·have O:i / s<n:=Nat.div_lt_of_lt_mul (by rw[Nat.mul_comm];exact hi);have T:i % s<s:=Nat.mod_lt _ E;have U:i=i / s*s+i % s:=by rw[Nat.mul_comm];exact(Nat.div_add_mod i s).symm
  have D:=amZ (λ_=>z.toList) s (λ_=>by simpa using C) (List.replicate n ()) (i / s) (by simpa using O) (i % s) T;rw[<- U]at D;rw[D];have Y:i % s<z.size:=by omega
  simp only[madeCells,Array.toList_map,Array.toList_range,List.getElem?_map,List.getElem?_range hi,Option.map_some,C];simp[Y]
 ·rw[List.getElem?_eq_none (by rw[Array.length_toList,size_madeCells];exact hi),List.getElem?_eq_none (by rw[L];exact hi)]
def am0{t:TypeId}{len:Nat}{parts:Array (Nat×Operand)}{k:S -> ah X}(h:xK P N σ d t len parts.toList k=some r):∃ cy,k cy=some r /\ ∀ aj ρ a w,Rl w0 N aj ρ σ a w ->
  ∃w' ax ρ' v,(Instr.buildSlice t len (parts.map λ(i,x)=>(i,a.eval x))).run P w = .ok v w'/\Rl w0 N ax ρ' cy (a.put (some d) v) w':=by
 unfold xK at h;split at h
 ·rename_i e C nt;obtain⟨fj,ht,i,hi,Z,iE⟩:=xF nt;split at h
  ·rename_i z hz;cases U:(Nat.beq (full C) 0&&Nat.beq z.cells.size (aA C)&&Nat.blt (len*aA C) 16777217)with
   |false=>rw[U]at h;cases h
   | true=>
    rw[U,cond_true]at h;simp only[Bool.and_eq_true]at U;have hf:=Nat.eq_of_beq_eq_true U.1.1;have kR:=Nat.eq_of_beq_eq_true U.1.2;have hsm:len*aA C<16777217:=by have:=Nat.le_of_ble_eq_true U.2;omega
    have nu:i.zero=some z:=by unfold zeroOf at hz;simpa [hi]using hz
    split at h
    ·rename_i cs fB;split at h
     ·rename_i vs iN;split at h
      ·rename_i l hl;obtain⟨hd,h⟩:=nq h
       refine⟨_,h,λaj ρ a w hR=>?_⟩
       obtain⟨C5,Af,gz⟩:=TJ C 0 len vs l hl;have TK:dM w w0.heap.size aj ρ (List.replicate len (z.cells.toList.map mm)).flatten (madeCells z.cells (len*aA C)):=by
        have e1:(List.replicate len (z.cells.toList.map mm)).flatten=((List.replicate len z.cells.toList).flatten).map mm:=by
         rw[List.map_flatten,List.map_replicate]
        rw[e1,<- aaQ z.cells (aA C) len kR (mY C)]
        refine⟨by simp,λj x D=>?_⟩
        rw[List.getElem?_map]at D;cases L:(madeCells z.cells (len*aA C)).toList[j]? with
        |none=>rw[L]at D;cases D
        | some v=>
         rw[L]at D;injection D with D;subst D;exact⟨v,by simpa using L,Mo v⟩
       obtain⟨O,vG,cW⟩:=Mv (w:=w) (B:=w0.heap.size) (aj:=aj) (ρ:=ρ) _ _ _ (parts.toList.map λp=>(p.1,a.eval p.2)) cs fB TK (by simp) (λj p q T hq=>by
        rw[List.getElem?_map]at T hq;cases D:parts.toList[j]? with
        |none=>rw[D]at T;cases T
        | some x=>
         rw[D]at T hq;injection T with T;injection hq with hq;subst T hq;exact⟨rfl,hR.aH x.2⟩)
       have aaR:=Mw cs vs iN;have am1:O.size=len*aA C:=by rw[cW.1,aaR,List.length_map,Af]
       have cV:(Instr.buildSlice t len (parts.map λ(i,x)=>(i,a.eval x))).run P w = .ok (.slice (some ⟨w.heap.size,0,none⟩) len len) (w.alloc (.cells O e)):=by
        have F4:(parts.map λ(i,x)=>(i,a.eval x)).toList=parts.toList.map λp=>(p.1,a.eval p.2):=by simp
        by_cases h0:len*aA C=0
        ·have hm:madeCells z.cells (len*aA C) = #[]:=by rw[h0];simp[madeCells]
         rw[hm]at vG;have TL:len*i.size=0:=by rw[Z];exact h0
         rw[<- Z]at vG;have e0:∀f:Nat -> Value,Array.map f (Array.range 0) = #[]:=λf=>by simp
         simp only[Instr.buildSlice,Sem.run_bind,run_underlying fj,sizeOf,typeInfo];simp[hi,TL];rw[e0,vG];simp[newRow]
        ·exact run_buildSlice (P:=P) w t e len _ O i z fj hi nu (by rw[Z];omega) (by rw[Z];exact h0) (by rw[Z,F4];exact vG)
       refine⟨_,bO aj w.heap.size (some [d]),bO ρ d (.dw (.slice (some ⟨w.heap.size,0,none⟩) len len)),_,cV,(hR.CY (hR.cT d (.inl hd)) (λr hr=>cw _ _ _ hr) (.sl _ _ (bR _ _ _) ?_)).set ⟨rfl,by simp[cH,bR]⟩ hd⟩
       have oa:∀ E (Y:E<l.length) j x,(enc C 0 l[E])[j]?=some x -> ∃ v,O[E*aA C+j]?=some v /\ ∀ (w':World) (B':Nat) (ax:bw) (q':aa Nat),RV w' B' ax q' x v:=by
        intro E Y j x D;obtain⟨y,hy,hw⟩:=gz E Y j x D;obtain⟨v,L,hr⟩:=cW.2 (E*aA C+j) (.v y) (by rw[aaR,List.getElem?_map,hy];rfl);exact⟨v,L,λw' B' ax q'=>(hr.2.wk hw).ru (xm C 0 l[E] hf x (List.mem_of_getElem? D))⟩
       have:=RV.own (w:=w.alloc (.cells O e)) (B:=w0.heap.size) (aj:=bO aj w.heap.size (some [d])) [d] C 0 true l w.heap.size len O (λi j=>(O[i*aA C+j]?).getD undef)
        (bR _ _ _) (by rw[ht];exact heap_alloc_new w _) am1 (by omega) ⟨by have:=Nat.le_mul_of_pos_right len (mY C);unfold maxLen;omega,λ_=>C5.symm⟩ (λE Y j x D=>?_) (λE Y j x D=>?_)
       ·rw[C5]at this;exact this
       ·obtain⟨v,L,_⟩:=oa E Y j x D;rw[L];rfl
       ·obtain⟨v,L,hr⟩:=oa E Y j x D;rw[L];exact hr _ _ _ _
      ·cases h
     ·cases h
    ·cases h
  ·cases h
 ·cases h
def aaS{C:Bool}{x y:A}{k:A->ah X}(h:C3 C x y k=some r):∃ z,k z=some r/\∀ (w:World) (B:Nat) (aj:bw) (ρ:Nat->Loc) (t ty:TypeId) (u v:Value),RA w B aj ρ x u->RA w B aj ρ y v->
  ∃D,((bif C then Builtin.max_ #[t,t] ty #[u,v]else Builtin.min_ #[t,t] ty #[u,v]):Sem Value).run P w = .ok D w/\RA w B aj ρ z D:=by
 unfold C3 at h;split at h
 ·refine⟨_,h,λw B aj ρ t ty u v E L=>?_⟩
  obtain rfl:=E.2.gf;obtain rfl:=L.2.gf;cases C with
  |true=>exact⟨_,by simp[Builtin.max_,Builtin.max2],rfl,.int _ _ _⟩
  |false=>exact⟨_,by simp[Builtin.min_,Builtin.min2],rfl,.int _ _ _⟩
 ·cases h
def am2{t:TypeId}{x i:A}{k:A->ah X}(h:F6 P t x i k=some r):∃ z,k z=some r/\∀ (w:World) (B:Nat) (aj:bw) (ρ:Nat->Loc) (u v:Value),RA w B aj ρ x u->RA w B aj ρ i v->
  ∃C,(Instr.index t u v).run P w = .ok C w/\RA w B aj ρ z C:=by
 unfold F6 at h;split at h
 ·rename_i s T iv;split at h
  ·rename_i E;split at h
   ·rename_i D
    refine⟨_,h,λw B aj ρ u v L O=>?_⟩
    obtain rfl:=L.2.vr;obtain rfl:=O.2.gf;exact⟨_,by simp[Instr.index,asIntOf,run_underlying E,D.1,D.2],rfl,.int _ _ _⟩
   ·cases h
  ·cases h
 ·cases h
def aaT{C D:TypeId}(h:C4 P C D=true):∃ e,P.underlying C=some (.slice e)/\P.underlying D=some .string/\P.underlying e=some (.int .u8):=by
 unfold C4 at h
 grind
def aaU(l:aa Int)(i:Nat)(hi:i<l.length):l.getD i 0=l[i]:=by rw[List.getD_eq_getElem?_getD,List.getElem?_eq_getElem hi];rfl
def RV.toStr{L O e:TypeId}(Y:P.underlying L=some (.slice e))(Z:P.underlying O=some .string)(he:P.underlying e=some (.int .u8)){o:Nat}{qn:Bool}{l:aa (T .u8)}{q:aa Nat}{B:Nat}{u:Value}(h:RV w B aj q (.sl .u8 o qn l) u):
  (convert L O u).run P w = .ok (.string (strOfNums l)) w:=by
 generalize C:V.sl .u8 o qn l=y at h;cases h with
 |int=>cases C
 |bool=>cases C
 |str=>cases C
 |nil=>cases C
 | dH q t o'=>
  injection C with D e2 e3 E;subst D;obtain rfl:=eq_of_heq E;rw[run_convert_bytes_nil w L e Y he 0 0 O Z];rfl
 | eF q t o' A c ho=>
  injection C with D e2 e3 E;subst D;obtain rfl:=eq_of_heq E;have hl:=run_loadCells_list (P:=P) w A [] (λj v hj=>by simp at hj);rw[run_convert_bytes_string w L O e _ 0 c Y he Z];rfl
 | eP q t o' A c ho=>
  injection C with D e2 e3 E;subst D;obtain rfl:=eq_of_heq E;have hl:(loadCells A 0).run P w = .ok (([]:aa Int).map (Value.int .u8)).toArray w:=run_loadCells_list (P:=P) w A [] (λj v hj=>by simp at hj);rw[run_convert_bytes_string w L O e _ 0 c Y he Z,run_bytesToString w A 0 c [] hl];rfl
 | aC q t o' TM l' b off cap uu ho hl hb h1 gH hc hr=>
  injection C with D e2 e3 E;subst D;obtain rfl:=eq_of_heq E
  refine run_convert_bytes_arg w L e Y he b off _ cap l rfl (λi hi=>?_) O Z
  have U:=hc i hi 0 (.int .u8 l[i]) rfl;have h3:=(hr i hi 0 (.int .u8 l[i]) rfl).gf;simp only[aA,Nat.mul_one,Nat.add_zero]at U;have hg:=aaU (show aa Int from l) i hi;rw[U,h3];exact congrArg (λz=>some (Value.int .u8 z)) hg.symm
 | own q t o' TM l' b cap cs uu hl hh nh hn hm hc hr=>
  injection C with D e2 e3 E;subst D;obtain rfl:=eq_of_heq E
  refine run_convert_bytes_arg w L e Y he b 0 _ cap l rfl (λi hi=>?_) O Z
  have U:=hc i hi 0 (.int .u8 l[i]) rfl;have h3:=(hr i hi 0 (.int .u8 l[i]) rfl).gf;simp only[aA,Nat.mul_one,Nat.add_zero]at U;have hg:=aaU (show aa Int from l) i hi;rw[h3]at U;have h4:w.cell? ⟨b,0+i,none⟩=some (.int .u8 l[i]):=by simp[World.cell?,hh,U]
  rw[h4];exact congrArg (λz=>some (Value.int .u8 z)) hg.symm
def am3{E L:TypeId}{x:A}{k:A -> ah X}(h:xN P σ E L x k=some r):∃ z,k z=some r /\ ∀ aj ρ a w,Rl w0 N aj ρ σ a w -> ∀ u,RA w w0.heap.size aj ρ x u ->
  ∃t',(convert E L u).run P w = .ok t' w/\RA w w0.heap.size aj ρ z t':=by
 unfold xN at h;split at h
 ·rename_i kk n;split at h
  ·rename_i d1 kd hs hd
   refine⟨_,h,λaj ρ a w _ u C=>?_⟩
   obtain rfl:=C.2.gf;exact⟨_,by simp[convert,run_underlying hs,run_underlying hd,Conv.intToInt],rfl,.int _ _ _⟩
  ·cases h
 ·rename_i y _;have key:∃ z,(∀ aj ρ a w,Rl w0 N aj ρ σ a w -> ∀ u,dm w w0.heap.size aj ρ y u -> ∃ q,RV w w0.heap.size aj q z u)/\My P E L z k=some r:=by
   cases y with
   |v z=>exact⟨z,λaj ρ a w _ u C=>⟨[],C.2⟩,h⟩
   |dead=>cases h
   | own q=>
    obtain⟨z,U,h⟩:=qm q _ h
    refine⟨z,λaj ρ a w O u C=>?_,h⟩
    obtain⟨v,hv,Y⟩:=U.ok O.root;have h3:=C.2
    grind
  obtain⟨z,U,D⟩:=key;clear h;unfold My at D;split at D
  ·rename_i o qn l;cases T:C4 P E L with
   |false=>simp_all
   | true=>
    rw[T]at D;obtain⟨e,Z,e2,e3⟩:=aaT T
    refine⟨_,D,λaj ρ a w O u C=>?_⟩
    obtain⟨q,Y⟩:=U aj ρ a w O u C;exact⟨_,Y.toStr Z e2 e3,rfl,.str _ _⟩
  ·cases T:C4 P E L with
   |false=>simp_all
   | true=>
    rw[T,cond_true]at D;obtain⟨e,Z,e2,e3⟩:=aaT T
    refine⟨_,D,λaj ρ a w O u C=>?_⟩
    obtain⟨q,Y⟩:=U aj ρ a w O u C;cases Y;exact⟨_,by rw[run_convert_bytes_nil w E e Z e3 0 0 L e2];rfl,rfl,.str _ _⟩
  ·cases D
 ·cases h
def am4{s:TypeId}{x:A}{f:Nat}{k:A -> ah X}(h:F5 P s x f k=some r):∃ z,k z=some r /\ ∀ (w:World) (B:Nat) (aj:bw) (ρ:Nat -> Loc) (u:Value),RA w B aj ρ x u ->
  ∃t',(Instr.field s u f).run P w = .ok t' w/\RA w B aj ρ z t':=by
 unfold F5 at h;split at h
 ·rename_i E cs O;have iO:∃ T,P.underlying s=some (.struct T)/\T[f]?=some E:=by
   unfold FO at O;split at O
   ·simp_all
   ·cases O
  obtain⟨T,jh,xO⟩:=iO;split at h
  ·rename_i n U C;split at h
   ·rename_i hle
    refine⟨_,h,λw B aj ρ u D=>?_⟩
    obtain⟨us,rfl,L⟩:=D;have Y:(isAgg E.type).run P w = .ok true w:=by
     unfold CS at C;split at C
     next fs' D=>unfold isAgg;rw[Sem.run_bind,run_underlying D];rfl
     next c e D=>unfold isAgg;rw[Sem.run_bind,run_underlying D];rfl
     ·cases C
     ·cases C
    unfold hJ at U;cases hi:P.info? E.type with
    |none=>simp_all
    | some i=>
     have vp:i.size=n:=by simpa [hi]using U
     refine⟨.agg (us.extract E.offset (E.offset+n)),by simp[Instr.field,run_underlying jh,xO,asAgg,part,Sem.run_bind,Y,sizeOf,typeInfo,hi,vp],_,rfl,?_,λj y Z=>?_⟩
     ·have:=L.1
      grind
     ·obtain⟨hj,F7⟩:=Mh _ _ _ _ _ Z;obtain⟨v,hv,hr⟩:=L.2 _ y F7
      grind
   ·cases h
  ·rename_i n U C;split at h
   ·rename_i y Z
    refine⟨_,h,λw B aj ρ u D=>?_⟩
    obtain⟨us,rfl,L⟩:=D;obtain⟨v,hv,hr⟩:=L.2 _ y Z;have Y:(isAgg E.type).run P w = .ok false w:=by
     unfold CS at C;split at C
     ·cases C
     ·cases C
     next d hs ha D=>unfold isAgg;rw[Sem.run_bind,run_underlying D];simp_all
     ·cases C
    exact⟨v,by simp[Instr.field,run_underlying jh,xO,asAgg,part,Sem.run_bind,Y,hv],hr⟩
   ·cases h
  ·cases h
 ·cases h
end
def V.val:V->Value
 |.int k n=>.int k n
 |.bool b=>.bool b
 |.str s=>.string s
 |_=>undef
def Mz:TypeDesc->V->V->ah Bool
 |.int _,.int k a,.int C b=>if k=C then some (a==b)else none
 |.bool,.bool a,.bool b=>some (a==b)
 |.string,.str a,.str b=>some (a.toList==b.toList)
 |_,_,_=>none
def F8(P:Program)(g:TypeId->aa V->aa V->ah Bool)(xs ys:aa V):aa Field->ah Bool
 |[]=>some true
 | f :: C=>bif f.name == "_" then F8 P g xs ys C else (match hJ P f.type with
  | some n=>bif Nat.ble (f.offset+n) xs.length then (match g f.type ((xs.drop f.offset).take n) ((ys.drop f.offset).take n),F8 P g xs ys C with
   |some a,some b=>some (a&&b)
   |_,_=>none)else none
  |none=>none)
def xP(P:Program):Nat->TypeId->aa V->aa V->ah Bool
 |0,_,_,_=>none
 | n+1,t,xs,ys=>match P.underlying t with
  |some (.struct C)=>bif P.stoodInHeld t ||!Nat.beq xs.length ys.length then none else F8 P (xP P n) xs ys C.toList
  | some d=>(match xs,ys with
   |[x],[y]=>Mz d x y
   |_,_=>none)
  |none=>none
def MA:BinOp->ah Bool
 |.eql=>some false
 |.neq=>some true
 |_=>none
def ir{α:Type}:aa α->Bool
 |[]=>true
 |_=>false
def isStr(P:Program)(t:TypeId):Bool:=match P.underlying t with
 |some (.struct _)=>true
 |_=>false
def xQ{X:Type}(P:Program)(σ:S)(D:BinOp)(t:TypeId)(x y:A)(k:A->ah X):ah X:=
 match MA D,x,y with
 | some C,.agg cs,.agg E=>(match oX cs,oX E with
  | some xs,some ys=>bif P.eqGuardType P.depth t || !isStr P t then none else (match xP P 20 t xs ys with
   |some b=>k (.lf (.v (.bool (bif C then !b else b))))
   |none=>none)
  |_,_=>none)
 | some C,.lf l,.lf (.v .nil)=>(match n9 P t with
  | some _=>nj σ l λz=>(match z with
   |.nil=>k (.lf (.v (.bool (bif C then false else true))))
   |.sl _ _ true _=>k (.lf (.v (.bool (bif C then true else false))))
   |.sl _ _ false l=>bif ir l then none else k (.lf (.v (.bool (bif C then true else false))))
   |_=>none)
  |none=>none)
 |_,_,_=>vK x λa=>vK y λb=>FL P t D a b λz=>k (.lf (.v z))
section
variable {P:Program} {w w':World} {w0:Wd} {B N:Nat} {aj ax:bw} {ρ ρ':Nat->Loc} {σ:S} {a:Act} {X:Type} {d:Nat} {r:X} {o:Oper}
def am5{D:TypeDesc}{x y:V}{b:Bool}{t:TypeId}{n:Nat}(C:P.underlying t=some D)(h:Mz D x y=some b):(Op.equalIn (n+1) t x.val y.val).run P w = .ok b w:=by
 unfold Mz at h;split at h
 ·split at h
  next L _ a k O E=>subst E;injection h with h;subst h;exact run_equalIn_int w n t _ _ _ _ C
  ·cases h
 ·injection h with h;subst h;exact run_equalIn_bool' w n t _ _ C
 ·injection h with h;subst h;exact run_equalIn_string w n t _ _ C
 ·cases h
def rF(P:Program)(t:TypeId)(xs:aa V)(u:Value):Prop:=
 match P.underlying t with
 |some (.struct _)=>u = .agg (xs.map V.val).toArray
 |_=>∃x,xs=[x]/\u=x.val
def aaV{t:TypeId}{n off:Nat}{xs:aa V}(O:hJ P t=some n)(hle:off+n <= xs.length)(T:∃ d,P.underlying t=some d/\(∀ c e,d ≠ .array c e)/\((∀ C,d ≠ .struct C) -> n=1)):
  ∃u,(part t (xs.map V.val).toArray off).run P w = .ok u w/\rF P t ((xs.drop off).take n) u:=by
 obtain⟨d,D,U,Y⟩:=T;unfold hJ at O;cases hi:P.info? t with
 |none=>grind
 | some i=>
  have Z:i.size=n:=by simpa [hi]using O
  by_cases E:∃C,d = .struct C
  ·obtain⟨C,rfl⟩:=E;have L:(isAgg t).run P w = .ok true w:=by
    unfold isAgg;rw[Sem.run_bind,run_underlying D];rfl
   refine⟨.agg ((xs.map V.val).toArray.extract off (off+n)),by simp[part,Sem.run_bind,L,sizeOf,typeInfo,hi,Z],?_⟩;unfold rF;rw[D];simp only;congr 1;apply Array.ext';simp[List.map_drop,List.map_take]
  ·have L:(isAgg t).run P w = .ok false w:=by
    unfold isAgg;rw[Sem.run_bind,run_underlying D w];cases d<;>first|rfl|(exfalso;exact E ⟨_,rfl⟩)|(exfalso;exact U _ _ rfl)
   have xR:n=1:=Y λC e=>E ⟨C,e⟩
   subst xR;have cU:off<xs.length:=by omega
   have oa:(xs.map V.val).toArray[off]?=some (xs[off]).val:=by simp[cU]
   refine⟨(xs[off]).val,by simp[part,Sem.run_bind,L,oa],?_⟩;have e1:(xs.drop off).take 1=[xs[off]]:=by
    rw[List.drop_eq_getElem_cons];rfl
   unfold rF;rw[D];split
   ·grind
   ·grind
def am6{n:Nat}{t:TypeId}{xs ys:aa V}{b:Bool}(h:xP P n t xs ys=some b):∃ d,P.underlying t=some d/\(∀ c e,d ≠ .array c e)/\((∀ C,d ≠ .struct C) -> xs.length=1):=by
 cases n with
 |zero=>cases h
 | succ n=>
  unfold xP at h;split at h
  ·simp_all
  ·rename_i d L D;split at h
   next x y=>exact⟨d,D,(λc e E=>by subst E;simp[Mz]at h),λ_=>rfl⟩
   ·cases h
  ·cases h
def TN{n:Nat}{xs ys:aa V}(hlen:xs.length=ys.length)(L:∀ t xs ys b,xP P n t xs ys=some b -> ∀ u v,rF P t xs u -> rF P t ys v -> ∀ k,(Op.equalIn (k+n) t u v).run P w = .ok b w)(k:Nat):∀ (C:aa Field) (b:Bool),F8 P (xP P n) xs ys C=some b ->
  (Op.eqFields (k+n) (xs.map V.val).toArray (ys.map V.val).toArray C).run P w = .ok b w
 | [],b,h=>by
  injection h with h;subst h;simp[Op.eqFields]
 | f :: C,b,h=>by
  unfold F8 at h;cases D:f.name == "_" with
  | true=>
   rw[D]at h;have:f.name = "_":=by simpa using D
   simp[Op.eqFields,this,not_true];exact TN hlen L k C b h
  | false=>
   rw[D,cond_false]at h;have cJ:f.name ≠ "_":=by simpa using D
   split at h
   ·rename_i s O;cases E:Nat.ble (f.offset+s) xs.length with
    |false=>simp_all
    | true=>
     rw[E,cond_true]at h;have E:=Nat.le_of_ble_eq_true E;split at h
     ·rename_i c e T h2;injection h with h;subst h;obtain⟨U,Y,Z,nB⟩:=am6 T;have o6:((xs.drop f.offset).take s).length=s:=by simp;omega
      obtain⟨u,TO,o9⟩:=aaV (w:=w) O E ⟨U,Y,Z,λh=>o6.symm.trans (nB h)⟩;obtain⟨v,TP,vH⟩:=aaV (w:=w) (xs:=ys) (off:=f.offset) O (by omega) ⟨U,Y,Z,λh=>o6.symm.trans (nB h)⟩;have hr:=L _ _ _ c T u v o9 vH k;have tR:=TN hlen L k C e h2;simp only[Op.eqFields,cJ,ne_eq,not_false_eq_true,if_true,Sem.run_bind,TO,TP,hr,Result.andThen_ok];cases c
      ·simp
      ·simp_all
     ·cases h
   ·cases h
def aaW:∀ (n:Nat) (t:TypeId) (xs ys:aa V) (b:Bool),xP P n t xs ys=some b -> ∀ u v,rF P t xs u -> rF P t ys v -> ∀ k,(Op.equalIn (k+n) t u v).run P w = .ok b w
 |0,t,xs,ys,b,h=>by cases h
 | n+1,t,xs,ys,b,h=>by
  intro u v C D k;unfold xP at h;split at h
  ·rename_i U L;cases E:(P.stoodInHeld t || !Nat.beq xs.length ys.length)with
   |true=>simp_all
   | false=>
    rw[E,cond_false]at h;rw[Bool.or_eq_false_iff,Bool.not_eq_false']at E;have hlen:=Nat.eq_of_beq_eq_true E.2;unfold rF at C D;rw[L]at C D;simp only at C D;subst C D;have Y:P.fieldsOf t=U:=by simp[Program.fieldsOf,L]
    rw[<- Nat.add_assoc,run_equalIn_struct w (k+n) t _ _ (by rw[Y];exact L) E.1,Y];exact TN hlen (aaW n) k U.toList b h
  ·rename_i d FK Z;split at h
   ·rename_i x y;unfold rF at C D;rw[Z]at C D;split at C
    ·simp_all
    ·split at D
     ·simp_all
     ·obtain⟨x',O,rfl⟩:=C;obtain⟨y',T,rfl⟩:=D;injection O with O;injection T with T;subst O T;exact am5 Z h
   ·cases h
  ·cases h
def aaX{cs:aa Lf}{xs:aa V}(h:oX cs=some xs){u:Value}(D:RA w B aj ρ (.agg cs) u):u = .agg (xs.map V.val).toArray:=by
 obtain⟨e,E⟩:=Mi _ _ h;obtain⟨us,rfl,Y,L⟩:=D;congr 1;apply Array.ext';apply List.ext_getElem?;intro j;rw[ List.getElem?_map,Array.getElem?_toList];cases C:xs[j]? with
 |none =>simp_all
 | some x=>
  obtain⟨v,O,T⟩:=L j _ (by rw[e,List.getElem?_map,C];rfl);rw[O];have:=E x (List.mem_of_getElem? C);have U:=T.2;cases U<;>first|rfl|cases this
def C6{C:BinOp}{D:Bool}(E:MA C=some D){t e:TypeId}(L:P.underlying t=some (.slice e))(O T:Operand)(A:ah Addr)(n c:Nat):
  (do eqGuard C t O T (.slice A n c) (.slice none 0 0);binOp C t (.slice A n c) (.slice none 0 0):Sem Value).run P w = .ok (.bool (bif D then !A.isNone else A.isNone)) w:=by
 have U:(Op.equal t (.slice A n c) (.slice none 0 0)).run P w = .ok A.isNone w:=by
  have h:∀ d,(Op.equalIn (d+1) t (.slice A n c) (.slice none 0 0)).run P w = .ok A.isNone w:=by
   intro d;cases A<;>simp[Op.equalIn,run_underlying L]
  exact h 9999
 cases C<;>simp[MA]at E<;>subst E<;>simp[eqGuard,binOp,U]
def am7{op:BinOp}{t:TypeId}{x y:A}{k:A -> ah X}(h:xQ P σ op t x y k=some r):∃ z,k z=some r /\ ∀ aj ρ a w,Rl w0 N aj ρ σ a w -> ∀ C D u v,RA w w0.heap.size aj ρ x u -> RA w w0.heap.size aj ρ y v ->
  ∃t',(do eqGuard op t C D u v;binOp op t u v:Sem Value).run P w = .ok t' w/\RA w w0.heap.size aj ρ z t':=by
 unfold xQ at h;split at h
 ·rename_i T cs ds O;split at h
  ·rename_i xs ys lC F9;cases hg:(P.eqGuardType P.depth t || !isStr P t)with
   |true=>simp_all
   | false=>
    rw[hg,cond_false]at h;rw[Bool.or_eq_false_iff,Bool.not_eq_false']at hg;obtain⟨hg,iO⟩:=hg;split at h
    ·rename_i b hb
     refine⟨_,h,λaj ρ a w Y C D u v E L=>?_⟩
     have E:=aaX lC E;have L:=aaX F9 L;subst E L;have hs:∃ fs,P.underlying t=some (.struct fs):=by
      unfold isStr at iO;split at iO
      ·simp_all
      ·cases iO
     obtain⟨fs,xO⟩:=hs;have Z:=aaW (w:=w) 20 t xs ys b hb (.agg (xs.map V.val).toArray) (.agg (ys.map V.val).toArray) (by unfold rF;rw[xO]) (by unfold rF;rw[xO]) 9980;refine⟨.bool (bif T then !b else b),?_,rfl,.bool _ _⟩;rw[Sem.run_bind,run_eqGuard_agg w op t C D _ _ hg,Result.andThen_ok];cases op<;>simp[MA]at O<;>subst O
     ·rw[run_eql_struct,Z];rfl
     ·rw[run_neq_struct,Z];rfl
    ·cases h
  ·cases h
 ·rename_i T l O;split at h
  ·rename_i e he;have ht:P.underlying t=some (.slice e):=by
    unfold n9 at he;split at he
    ·simp_all
    ·cases he
   obtain⟨z,hz,U⟩:=TG (w0:=w0) (N:=N) h;clear h;split at U
   ·refine⟨_,U,λaj ρ a w Y C D u v E L=>?_⟩
    obtain⟨q,hq⟩:=hz aj ρ a w Y u E;cases hq;cases L.2;exact⟨_,C6 O ht C D none 0 0,rfl,by cases T<;>exact .bool _ _⟩
   ·refine⟨_,U,λaj ρ a w Y C D u v E L=>?_⟩
    obtain⟨q,hq⟩:=hz aj ρ a w Y u E;cases L.2;cases hq with
    |aC _ _ _ _ _ b off cap us ho hl hb h1 gH hc Z=>exact⟨_,C6 O ht C D _ _ _,rfl,by cases T<;>exact .bool _ _⟩
    |own=>exact⟨_,C6 O ht C D _ _ _,rfl,by cases T<;>exact .bool _ _⟩
    |eP=>exact⟨_,C6 O ht C D _ _ _,rfl,by cases T<;>exact .bool _ _⟩
   ·rename_i t' o' l';cases hl:ir l' with
    |true=>simp_all
    | false=>
     rw[hl,cond_false]at U
     refine⟨_,U,λaj ρ a w Y C D u v E L=>?_⟩
     obtain⟨q,hq⟩:=hz aj ρ a w Y u E;cases L.2;cases hq with
     |dH=>cases hl
     |eF=>cases hl
     |aC _ _ _ _ _ b off cap us ho vE hb h1 gH hc Z=>exact⟨_,C6 O ht C D _ _ _,rfl,by cases T<;>exact .bool _ _⟩
     |own=>exact⟨_,C6 O ht C D _ _ _,rfl,by cases T<;>exact .bool _ _⟩
   ·cases U
  ·cases h
 ·obtain⟨u0,hx,h1⟩:=Tl h;obtain⟨v0,hy,U⟩:=Tl h1;obtain⟨z,h3,hp,hs⟩:=amz U;subst hx hy
  refine⟨_,h3,λaj ρ a w Y C D u v E L=>?_⟩
  obtain⟨t',cV,Z⟩:=hs w _ aj C D [] [] _ _ E.2 L.2;exact⟨t',cV,V.FN hp,Z⟩
/-! Parts of slices that nobody writes. -/
def C7{x:ah A}{C:Int}{k:Int->ah X}(h:rE x C k=some r):∃ n,k n=some r/\(∀ (E:Type) (D:Int->ah E),rE x C D=D n)/\((x=none/\n=C)\/∃ L,x=some (.lf (.v (.int L n)))):=by
 unfold rE at h;split at h
 ·exact⟨_,h,λ_ _=>rfl,.inl ⟨rfl,rfl⟩⟩
 ·exact⟨_,h,λ_ _=>rfl,.inr ⟨_,rfl⟩⟩
 ·cases h
def am8{t:TypeId}{x:A}{lo hi:ah A}{k:A -> ah X}(h:vF P t x lo hi k=some r):∃ y,k y=some r/\(∀ (U:Type) (O:A -> ah U),vF P t x lo hi O=O y) /\
  ((∃ (s:ByteArray) (l h:Int),x = .lf (.v (.str s))/\P.underlying t=some .string/\((lo=none/\l=0) \/ ∃ C,lo=some (.lf (.v (.int C l))))/\((hi=none/\h=s.size) \/ ∃ C,hi=some (.lf (.v (.int C h))))/\0 <= l/\l <= h/\h <= (s.size:Int)/\y = .lf (.v (.str (s.extract l.toNat h.toNat)))) \/
   ∃(L:TC) (g:Nat) (Y:Bool) (xs:aa (T L)) (e:TypeId) (l h:Int),x = .lf (.v (.sl L g Y xs))/\n9 P t=some e/\hJ P e=some (aA L)/\g<2/\((lo=none/\l=0) \/ ∃C,lo=some (.lf (.v (.int C l))))/\((hi=none/\h=xs.length) \/ ∃C,hi=some (.lf (.v (.int C h))))/\0 <= l/\l <= h/\h <= (xs.length:Int)/\y = .lf (.v (.sl L g false ((xs.take h.toNat).drop l.toNat)))):=by
 unfold vF at h;split at h
 ·rename_i s;split at h
  ·rename_i hu;obtain⟨l,Z,d1,e1⟩:=C7 h;obtain⟨m,D,d2,e2⟩:=C7 Z;split at D
   ·rename_i E
    refine⟨_,D,λU O=>?_,.inl ⟨s,l,m,rfl,hu,e1,e2,E.1,E.2.1,E.2.2,rfl⟩⟩
    simp[vF,hu];simp_all
   ·cases D
  ·cases h
 ·rename_i L g Y xs;split at h
  ·rename_i e he;split at h
   ·rename_i n hn;split at h
    ·rename_i tN;subst tN;cases hg:Nat.blt g 2 with
     |false=>simp_all
     | true=>
      rw[hg,cond_true]at h;obtain⟨l,Z,d1,e1⟩:=C7 h;obtain⟨m,D,d2,e2⟩:=C7 Z;split at D
      ·rename_i E
       refine⟨_,D,λU O=>?_,.inr ⟨L,g,Y,xs,e,l,m,rfl,he,hn,Nat.le_of_ble_eq_true hg,e1,e2,E.1,E.2.1,E.2.2,rfl⟩⟩
       simp[vF,he,hn,if_true,hg,cond_true];simp_all
      ·cases D
    ·cases h
   ·cases h
  ·cases h
 ·cases h
def am9{t:TypeId}{x:A}{lo hi:ah A}{k:A->ah X}(h:vF P t x lo hi k=some r):∃ y,k y=some r/\(∀ (X':Type) (k':A->ah X'),vF P t x lo hi k'=k' y)/\
  ∀ (w:World) (B:Nat) (aj:bw) (ρ:Nat->Loc) (u:Value) (U C:ah Value),RA w B aj ρ x u->(∀ a,lo=some a->∃ v,U=some v/\RA w B aj ρ a v)->(lo=none->U=none)->(∀ a,hi=some a->∃ v,C=some v/\RA w B aj ρ a v)->(hi=none->C=none)->
   ∃t',(Instr.sliceAt t u U C none).run P w = .ok t' w/\RA w B aj ρ y t':=by
 obtain⟨y,h1,hd,hc⟩:=am8 h
 refine⟨y,h1,hd,λw B aj ρ u U C Z o6 ji MB xS=>?_⟩
 have bl:∀ {o:ah A} {E:ah Value} {n Am:Int},(∀ a,o=some a->∃ v,E=some v/\RA w B aj ρ a v)->(o=none->E=none)->((o=none/\n=Am)\/∃ L,o=some (.lf (.v (.int L n))))->(E=none/\n=Am)\/∃ L,E=some (.int L n):=by
  intro o E n Am g1 g2 g3;rcases g3 with ⟨e,e'⟩|⟨L,e⟩
  ·exact .inl ⟨g2 e,e'⟩
  ·obtain⟨v,C,hr⟩:=g1 _ e;exact .inr ⟨L,by rw[C,hr.2.gf]⟩
 rcases hc with ⟨s,l,m,rfl,O,e1,e2,b1,b2,b3,rfl⟩|⟨tc,g,qn,xs,e,l,m,rfl,D,hn,hg,e1,e2,b1,b2,b3,rfl⟩
 ·have h5:=bl o6 ji e1;have h6:=bl MB xS e2;obtain rfl:=Z.2.vr;have em:(m.toNat:Int)=m:=Int.toNat_of_nonneg (by omega);refine⟨.string (s.extract l.toNat m.toNat),?_,rfl,.str _ _⟩;rw[run_sliceAt_string w t _ _ _ _ O];have TQ:0<=m:=by omega
  rcases h5 with ⟨rfl,h7⟩|⟨kl,rfl⟩<;>rcases h6 with ⟨rfl,h8⟩|⟨kh,rfl⟩
  all_goals simp_all [Instr.slice,run_underlying O,Instr.sliceBounds,run_sliceBound]
 ·have h5:=bl o6 ji e1;have h6:=bl MB xS e2;have O:P.underlying t=some (.slice e):=by
   unfold n9 at D;split at D
   next e' tM=>injection D with D;rw[<-D];exact tM
   ·cases D
  have gz:P.elem t=e:=by simp[Program.elem,O]
  have T:P.underlying t=some (.slice (P.elem t)):=by rw[gz];exact O
  have Y:(sizeOf (P.elem t)).run P w = .ok (aA tc) w:=by
   unfold hJ at hn;cases hi:P.info? e with
   |none=>simp[hi]at hn
   | some i=>
    have:i.size=aA tc:=by simpa [hi]using hn
    simp[sizeOf,typeInfo,gz,hi,this]
  have jh:∃ A n c,u = .slice A n c:=by
   cases Z.2 with
   |dH=>exact⟨_,_,_,rfl⟩
   |eF=>exact⟨_,_,_,rfl⟩
   |eP=>exact⟨_,_,_,rfl⟩
   |aC=>exact⟨_,_,_,rfl⟩
   |own=>exact⟨_,_,_,rfl⟩
  obtain⟨A,n,c,rfl⟩:=jh;obtain⟨hp,xR,TR⟩:=Z.2.part (a:=l.toNat) (h:=m.toNat) hg (by omega) (by omega);refine⟨_,?_,by simp[V.aC,hg],hp⟩;rw[run_sliceAt_slice w t _ _ _ _ T];rcases h5 with ⟨rfl,rfl⟩|⟨kl,rfl⟩<;>rcases h6 with ⟨rfl,rfl⟩|⟨kh,rfl⟩
  ·rw[run_slice_all w t A n c T,Y,xR];simp
  ·rw[run_slice_h w t A n c T kh m (by omega) (by omega),Y];simp
  ·rw[run_slice_l w t A n c T kl l (by omega) (by omega),Y,xR];simp
  ·rw[run_slice_lh w t A n c T kl kh l m (by omega) (by omega) (by omega),Y];simp
/-! Parts of slices that are owned. -/
def C8{X:Type}(n:Nat)(q:aa Nat)(C:ah Nat)(lo hi:ah A)(y:V)(k:A->ah X):ah X:=
 match y with
 |.sl D _ _ l=>if n=aA D then rE lo 0 λa=>rE hi ((C.getD l.length:Nat):Int) λb=>if 0<=a/\a<=b/\b<=(l.length:Int)then k (.view q n a.toNat b.toNat)else none else none
 |_=>none
def An{X:Type}(P:Program)(σ:S)(t:TypeId)(q:aa Nat)(C:ah Nat)(lo hi:ah A)(k:A->ah X):ah X:=
 match n9 P t with
 | some e=>(match hJ P e with
  |some n=>gU σ.m q λy=>C8 n q C lo hi y k
  |none=>none)
 |none=>none
def xT{X:Type}(P:Program)(σ:S)(t:TypeId)(x:A)(lo hi:ah A)(k:A->ah X):ah X:=
 match x with
 |.lf (.own q)=>An P σ t q none lo hi k
 |.view q _ 0 j=>An P σ t q (some j) lo hi k
 |x=>vF P t x lo hi k
def ana{n:Nat}{q:aa Nat}{D:ah Nat}{lo hi:ah A}{y:V}{k:A -> ah X}(h:C8 n q D lo hi y k=some r):∃ (C:TC) (g:Nat) (E:Bool) (xs:aa (T C)) (l h:Int),y = .sl C g E xs/\n=aA C /\
  ((lo=none/\l=0) \/ ∃L,lo=some (.lf (.v (.int L l))))/\((hi=none/\h=((D.getD xs.length:Nat):Int)) \/ ∃L,hi=some (.lf (.v (.int L h))))/\0 <= l/\l <= h/\h <= (xs.length:Int)/\k (.view q n l.toNat h.toNat)=some r /\
  ∀(Z:Type) (O:A -> ah Z),C8 n q D lo hi y O=O (.view q n l.toNat h.toNat):=by
 unfold C8 at h;split at h
 ·rename_i C g E xs;split at h
  ·rename_i tN;obtain⟨l,h1,d1,e1⟩:=C7 h;obtain⟨m,U,d2,e2⟩:=C7 h1;split at U
   ·rename_i Y
    refine⟨C,g,E,xs,l,m,rfl,tN,e1,e2,Y.1,Y.2.1,Y.2.2,U,λZ O=>?_⟩
    simp[C8,if_pos tN];simp_all
   ·cases U
  ·cases h
 ·cases h
def aaY{t:TypeId}{q:aa Nat}{dh:ah Nat}{lo hi:ah A}{k:A -> ah X}(h:An P σ t q dh lo hi k=some r):∃ y,k y=some r /\
  ∀ aj ρ a w,Rl w0 N aj ρ σ a w -> ∀ (D:ah Addr) (n c C:Nat) (U E:ah Value),cH w aj ρ q=some (.slice D n c) -> C=dh.getD n -> C <= n -> (∀ a,lo=some a -> ∃ v,U=some v/\RA w w0.heap.size aj ρ a v) -> (lo=none -> U=none) -> (∀ a,hi=some a -> ∃ v,E=some v/\RA w w0.heap.size aj ρ a v) -> (hi=none -> E=none) ->
   ∃t',(Instr.sliceAt t (.slice D C c) U E none).run P w = .ok t' w/\RA w w0.heap.size aj ρ y t':=by
 unfold An at h;split at h
 ·rename_i e he;split at h
  ·rename_i n hn;obtain⟨y0,TS,h2⟩:=qm q _ h;obtain⟨tc,g,qn,xs,l,m,rfl,tN,e1,e2,b1,b2,b3,h3,_⟩:=ana h2
   refine⟨_,h3,λaj ρ a w hR D n' c C U E gq TT hle o6 ji MB xS=>?_⟩
   have bl:∀ {o:ah A} {L:ah Value} {n Am:Int},(∀ a,o=some a -> ∃ v,L=some v/\RA w w0.heap.size aj ρ a v) -> (o=none -> L=none) -> ((o=none/\n=Am) \/ ∃ O,o=some (.lf (.v (.int O n)))) -> (L=none/\n=Am) \/ ∃ O,L=some (.int O n):=by
    intro o L n Am g1 g2 g3;rcases g3 with ⟨e,e'⟩|⟨O,e⟩
    ·grind
    ·obtain⟨v,E,hr⟩:=g1 _ e;exact .inr ⟨O,by rw[E,hr.2.gf]⟩
   have h5:=bl o6 ji e1;have h6:=bl MB xS e2;have fj:P.underlying t=some (.slice e):=by
    unfold n9 at he;split at he
    ·grind
    ·cases he
   have gz:P.elem t=e:=by simp[Program.elem,fj]
   have T:P.underlying t=some (.slice (P.elem t)):=by rw[gz];exact fj
   have Y:(sizeOf (P.elem t)).run P w = .ok n w:=by
    unfold hJ at hn;cases hi:P.info? e with
    |none=>grind
    | some i=>
     have:i.size=n:=by simpa [hi]using hn
     simp[sizeOf,typeInfo,gz,hi,this]
   obtain⟨v0,Z,gA⟩:=TS.ok hR.root;rw[gq]at Z;injection Z with Z;subst Z;have hf:RV w 0 (λ_=>none) [] (.sl tc 0 qn xs) (.slice D n' c):=gA.fA;obtain⟨hp,xR,TR⟩:=hf.part (a:=l.toNat) (h:=m.toNat) (by omega) (by omega) (by omega);have anb:((dh.getD xs.length:Nat):Int)=(C:Int):=by rw[TT,xR]
   rw[anb]at h6;refine⟨sliced D l.toNat m.toNat c n,?_,D,n',c,gq,by omega,by omega,rfl⟩;rw[run_sliceAt_slice w t _ _ _ _ T];rcases h5 with ⟨rfl,rfl⟩|⟨kl,rfl⟩<;>rcases h6 with ⟨rfl,rfl⟩|⟨kh,rfl⟩
   ·rw[run_slice_all w t D C c T,Y];simp
   ·rw[run_slice_h w t D C c T kh m (by omega) (by omega),Y];simp
   ·rw[run_slice_l w t D C c T kl l (by omega) (by omega),Y];simp
   ·rw[run_slice_lh w t D C c T kl kh l m (by omega) (by omega) (by omega),Y];simp
  ·cases h
 ·cases h
def anc{t:TypeId}{x:A}{lo hi:ah A}{k:A -> ah X}(h:xT P σ t x lo hi k=some r):∃ y,k y=some r /\
  ∀ aj ρ a w,Rl w0 N aj ρ σ a w -> ∀ (u:Value) (C D:ah Value),RA w w0.heap.size aj ρ x u -> (∀ a,lo=some a -> ∃ v,C=some v/\RA w w0.heap.size aj ρ a v) -> (lo=none -> C=none) -> (∀ a,hi=some a -> ∃ v,D=some v/\RA w w0.heap.size aj ρ a v) -> (hi=none -> D=none) ->
   ∃t',(Instr.sliceAt t u C D none).run P w = .ok t' w/\RA w w0.heap.size aj ρ y t':=by
 unfold xT at h;split at h
 ·rename_i q;obtain⟨y,E,L⟩:=aaY h
  refine⟨y,E,λaj ρ a w T u C D O U Y Z xS=>?_⟩
  have fh:∃ A n c,u = .slice A n c:=by
   have:=O.1;cases u<;>first|cases this;done|exact⟨_,_,_,rfl⟩
  obtain⟨A,n,c,rfl⟩:=fh;exact L aj ρ a w T A n c n C D O.2 rfl (Nat.le_refl _) U Y Z xS
 ·rename_i q s j;obtain⟨y,E,L⟩:=aaY h
  refine⟨y,E,λaj ρ a w T u C D O U Y Z xS=>?_⟩
  obtain⟨A,n,c,gq,_,a2,rfl⟩:=O;have e:sliced A 0 j c s = .slice A j c:=by cases A<;>simp[sliced,Addr.add]
  rw[e];exact L aj ρ a w T A n c j C D gq rfl a2 U Y Z xS
 ·obtain⟨y,E,_,L⟩:=am9 h;exact⟨y,E,λaj ρ a w _ u C D=>L w _ aj ρ u C D⟩
end
abbrev Pt:=Bool×aa V
def PV(w:World)(B:Nat)(aj:bw)(key:Nat->aa Nat)(p:Pt)(u:Value):Prop:=
 ∃us:Array Value,(match p.1 with|true=>u = .agg us|false=>us = #[u])/\us.size=p.2.length/\∀(j:Nat) x,p.2[j]?=some x->∃v,us[j]?=some v/\RV w B aj (key j) x v
def xU(w:World)(cs:aa V)(u:Value):Prop:=
 ∃b off,u = .pointer (some ⟨b,off,none⟩)/\b<w.heap.size/\∀(j:Nat) x,cs[j]?=some x->∃v,w.cell? ⟨b,off+j,none⟩=some v/\RV w w.heap.size (λ_=>none) [] x v
inductive PA (w:World):Pt->Value->Prop
 |v (p:Pt) (u:Value) (h:PV w w.heap.size (λ_=>none) (λ_=>[]) p u):PA w p u
 |p (c:V) (cs:List V) (u:Value) (h:xU w (c::cs) u):PA w (false,.bool true::c::cs) u
 |f (g:Nat) (c:V) (cs:List V) (u:Value) (h:xU w (c::cs) u):PA w (false,.bool false::.int .i64 (g:Int)::c::cs) (.func (.func g) #[] #[u])
def nD(w:World)(args:aa Pt)(bN:Array Value):Prop:=
 bN.size=args.length/\∀(i:Nat) p,args[i]?=some p->∃u,bN[i]?=some u/\PA w p u
def PA.pv{w:World}{x:V}{u:Value}(h:PA w (false,[x]) u):PV w w.heap.size (λ_=>none) (λ_=>[]) (false,[x]) u:=by
 cases h with
 |v _ _ h=>exact h
def PA.pvS{w:World}{xs:aa V}{u:Value}(h:PA w (true,xs) u):PV w w.heap.size (λ_=>none) (λ_=>[]) (true,xs) u:=by
 cases h with
 |v _ _ h=>exact h
inductive eY where
 |one (p:Pt)
 |dW (ps:List Pt)
def xV(t:TC):Nat->Bool
 |0=>false
 |1=>true
 |o+2=>Nat.ble (full t) o ||Nat.beq (o % 2) 1
def V.loc:V->Bool
 |.sl t o _ _=>xV t o
 |_=>true
def iu(w:World)(B:Nat)(aj:bw)(nm:Nat->Nat):Nat->aa Pt->aa Value->Prop
 |_,[],[]=>True
 |off,p::ps,v::C=>(p.2.all V.loc=true/\PV w B aj (λj=>[nm (off+j)]) p v)/\iu w B aj nm (off+p.2.length) ps C
 |_,_,_=>False
def oe(w:World)(B:Nat)(aj:bw)(nm:Nat->Nat):eY->Value->Prop
 |.one p,v=>iu w B aj nm 0 [p] [v]
 |.dW ps,v=>∃C:Array Value,v = .tuple C/\iu w B aj nm 0 ps C.toList
structure gI where
 run:(X:Type)->List Pt->(eY->Option X)->Option X
def gu(P:Program)(f:Nat)(c:gI):Prop:=
 (∀ args,cv λX k=>c.run X args k)/\∀ args C,c.run eY args some=some C->∀ (nm:Nat->Nat) (w:World) (bN:Array Value),nD w args bN->Hd w (λ_=>none)->
  Calls P f bN w λe w'=>∃v ax,e = .returned v/\Below w.heap.size w w'/\(∀b k,ax b=some k->w.heap.size<=b/\b<w'.heap.size/\k≠[])/\oe w' w.heap.size ax nm C v
def pg{X:Type}(σ:S):aa Lf->(aa V->ah X)->ah X
 |[],k=>k []
 |x::xs,k=>nj σ x λy=>pg σ xs λys=>k (y.fA::ys)
def mq{X:Type}(σ:S)(x:A)(k:Pt->ah X):ah X:=
 match x with
 |.lf y=>pg σ [y] λC=>k (false,C)
 |.agg ys=>pg σ ys λC=>k (true,C)
 |.view q s i j=>tJ σ q s i j λy=>k (false,[y])
 |.gS (c::cs)=>k (false,.bool true::c.fA::cs.map V.fA)
 |_=>none
def tS{X:Type}(σ:S)(x:A)(k:Pt->ah X):ah X:=
 match x with
 |.gS (c::cs)=>k (false,.bool true::c.fA::cs.map V.fA)
 |.ld f (c::cs)=>k (false,.bool false::.int .i64 (f:Int)::c.fA::cs.map V.fA)
 | .aG r j=>(match σ.m r with
  | some (.az cs)=>pg σ (cs.drop j) λC=>(match C with
   |c::cs=>k (false,.bool true::c::cs)
   |[]=>none)
  |_=>none)
 | .fn f [(r,j)]=>(match σ.m r with
  | some (.az cs)=>pg σ (cs.drop j) λC=>(match C with
   |c::cs=>k (false,.bool false::.int .i64 (f:Int)::c::cs)
   |[]=>none)
  |_=>none)
 |x=>mq σ x k
def tT{X:Type}(f:A->(Pt->ah X)->ah X)(σ:S):aa Operand->(aa Pt->ah X)->ah X
 |[],k=>k []
 |x::xs,k=>f (aH σ x) λp=>tT f σ xs λps=>k (p::ps)
def Ao{X:Type}(σ:S)(xs:aa Operand)(k:aa Pt->ah X):ah X:=tT (tS σ) σ xs k
def qt{X:Type}(σ:S)(xs:aa Operand)(k:aa Pt->ah X):ah X:=tT (mq σ) σ xs k
def mw(c:Nat):aa V->aa Lf
 |[]=>[]
 |x::xs=>(bif x.aC then .v x else .own [c])::mw (c+1) xs
def kz(c:Nat)(σ:S):aa V->S
 |[]=>σ
 |x::xs=>kz (c+1) (bif x.aC then σ else (σ.drop c).root c (.sl x)) xs
def qv(c:Nat):aa Pt->aa (Bool×aa Lf)
 |[]=>[]
 |p::ps=>(p.1,mw c p.2)::qv (c+p.2.length) ps
def nE(c:Nat)(σ:S):aa Pt->S
 |[]=>σ
 |p::ps=>nE (c+p.2.length) (kz c σ p.2) ps
def mz{X:Type}(σ:S)(d:Nat)(C:eY)(k:S->ah X):ah X:=match C with
 | .one p=>(match xz (p.1,mw (1000000000100000+1000*d) p.2)with
  |some y=>k ((kz (1000000000100000+1000*d) σ p.2).set d y)
  |none=>none)
 |.dW ps=>k ((nE (1000000000100000+1000*d) σ ps).set d (.dW (qv (1000000000100000+1000*d) ps)))
def qw{X:Type}(N:Nat)(σ:S)(d:Nat)(c:gI)(ev:(aa Pt->ah X)->ah X)(k:S->ah X):ah X:=
 bif Nat.blt d N then ev λps=>c.run X ps λC=>mz σ d C k else none
def ane{X:Type}(N:Nat)(σ:S)(d:Nat)(c:gI)(args:aa Operand)(k:S->ah X):ah X:=qw N σ d c (Ao σ args) k
def anf{X:Type}(N:Nat)(σ:S)(d:Nat)(c:gI)(args:aa Operand)(k:S->ah X):ah X:=qw N σ d c (qt σ args) k
section
variable {P:Program} {w w':World} {w0:Wd} {B N:Nat} {aj ax:bw} {ρ ρ':Nat->Loc} {σ:S} {a:Act} {X:Type} {d:Nat} {r:X} {o:Oper}
def Ga:∀ (xs:aa Lf) (k:aa V -> ah X),pg σ xs k=some r -> ∃ C,k C=some r/\C.length=xs.length /\ ∀ aj ρ a w,Rl w0 N aj ρ σ a w -> ∀ (j:Nat) x y u,xs[j]?=some x -> C[j]?=some y -> dm w w0.heap.size aj ρ x u -> RV w w.heap.size (λ_=>none) [] y u
 |[],k,h=>⟨[],h,rfl,λ_ _ _ _ _ j x y u L=>by simp at L⟩
 | x :: xs,k,h=>by
  obtain⟨y,O,T⟩:=TG h;obtain⟨ys,U,Y,hr⟩:=Ga xs _ T
  refine⟨y.fA::ys,U,by simp[Y],λaj ρ a w Z j x' y' u D E hu=>?_⟩
  cases j with
  | zero=>
   simp at D E;subst D E;obtain⟨q,hq⟩:=O aj ρ a w Z u hu;exact hq.fA
  |succ j=>grind
def aaZ{D C:Nat}{cs:aa Lf}{E:aa V}(Z:σ.m D=some (.az cs))(hl:E.length=(cs.drop C).length)
  (hr:∀aj ρ a w,Rl w0 N aj ρ σ a w->∀(j:Nat) x y u,(cs.drop C)[j]?=some x->E[j]?=some y->dm w w0.heap.size aj ρ x u->RV w w.heap.size (λ_=>none) [] y u)
  {aj:bw} {ρ:Nat->Loc} {a:Act} {w:World} {u:Value} (L:Rl w0 N aj ρ σ a w) (hu:RA w w0.heap.size aj ρ (.aG D C) u):xU w E u:=by
 obtain⟨b,off,e1,rfl⟩:=hu;cases L.root D _ Z with
 | az b' FP cells e _ us O jA T hs hc=>
  rw[e1]at O;injection O with q1 q2;subst q1 q2
  refine⟨b,off+C,rfl,(Array.getElem?_eq_some_iff.1 T).1,λj x U=>?_⟩
  have hj:j<(cs.drop C).length:=by rw[<-hl];exact(List.getElem?_eq_some_iff.1 U).1
  have Y:=List.getElem?_eq_getElem hj;have ang:cs[C+j]?=some (cs.drop C)[j]:=by rw[<-List.getElem?_drop];exact Y
  obtain⟨k1,k2⟩:=hc _ _ ang;refine⟨us (C+j),?_,hr aj ρ a w L j _ x _ Y U k2⟩;rw[Nat.add_assoc,cell_of_row w b _ cells _ _ T];exact k1
def TU{cs:aa V}{u:Value}(E:RF w B aj cs u):xU w (cs.map V.fA) u:=by
 obtain⟨b,off,rfl,L,Y,O⟩:=E
 refine⟨b,off,rfl,L,λj x C=>?_⟩
 rw[List.getElem?_map]at C;cases D:cs[j]? with
 |none=>simp_all
 | some y=>
  rw[D]at C;injection C with C;subst C;obtain⟨_,v,T,U⟩:=O j y D;exact⟨v,T,U.fA⟩
def aa0{x:A}{k:Pt -> ah X}(h:mq σ x k=some r):∃ p,k p=some r /\ ∀ aj ρ a w,Rl w0 N aj ρ σ a w -> ∀ u,RA w w0.heap.size aj ρ x u -> PA w p u:=by
 unfold mq at h;split at h
 ·rename_i y;obtain⟨Z,E,O,U⟩:=Ga (w0:=w0) (N:=N) _ _ h
  refine⟨_,E,λaj ρ a w L u C=>.v _ _ ⟨#[u],rfl,by simp[O],λj x D=>?_⟩⟩
  have T:j=0:=by
   grind
  subst T;exact⟨u,rfl,U aj ρ a w L 0 y x u rfl D C⟩
 ·rename_i ys;obtain⟨Z,E,O,U⟩:=Ga (w0:=w0) (N:=N) _ _ h
  refine⟨_,E,λaj ρ a w L u C=>?_⟩
  obtain⟨us,rfl,Y⟩:=C
  refine .v _ _ ⟨us,rfl,by rw[O];exact Y.1,λj x D=>?_⟩
  have T:j<ys.length:=by rw[<- O];exact(List.getElem?_eq_some_iff.1 D).1
  obtain⟨v,hv,ez⟩:=Y.2 j _ (List.getElem?_eq_getElem T)
  grind
 ·obtain⟨z,E,_,hz⟩:=aav h
  refine⟨_,E,λaj ρ a w L u C=>.v _ _ ⟨#[u],rfl,rfl,λj x D=>?_⟩⟩
  cases j with
  | zero=>
   simp at D;subst D;exact⟨u,rfl,hz _ _ _ _ _ _ L u C _⟩
  |succ j=>simp at D
 next c cs=>exact⟨_,h,λaj ρ a w L u C=>.p _ _ _ (TU C)⟩
 ·cases h
def anh{x:A}{k:Pt -> ah X}(h:tS σ x k=some r):∃ p,k p=some r /\ ∀ aj ρ a w,Rl w0 N aj ρ σ a w -> ∀ u,RA w w0.heap.size aj ρ x u -> PA w p u:=by
 unfold tS at h;split at h
 ·rename_i c cs
  refine⟨_,h,λaj ρ a w E u C=>?_⟩
  exact .p _ _ _ (TU C)
 ·rename_i f c cs
  refine⟨_,h,λaj ρ a w E u C=>?_⟩
  obtain⟨pv,rfl,L⟩:=C;exact .f _ _ _ _ (TU L)
 ·rename_i Z Y;split at h
  ·rename_i cs O;obtain⟨vs,D,T,U⟩:=Ga (w0:=w0) (N:=N) _ _ h;split at D
   ·rename_i c dK
    refine⟨_,D,λaj ρ a w E u C=>?_⟩
    exact .p _ _ _ (aaZ O T U E C)
   ·cases D
  ·cases h
 ·rename_i f Z Y;split at h
  ·rename_i cs O;obtain⟨vs,D,T,U⟩:=Ga (w0:=w0) (N:=N) _ _ h;split at D
   ·rename_i c dK
    refine⟨_,D,λaj ρ a w E u C=>?_⟩
    obtain⟨ps,rfl,hs,L⟩:=C;obtain⟨b,off,e1,e2⟩:=L 0 _ rfl;have e:ps = #[.pointer (some ⟨b,off+Y,none⟩)]:=by
     grind
    subst e;exact .f _ _ _ _ (aaZ O T U E ⟨b,off,e1,rfl⟩)
   ·cases D
  ·cases h
 ·exact aa0 h
def TV{f:A->(Pt->ah X)->ah X}(L:∀ x k,f x k=some r->∃ p,k p=some r/\∀ aj ρ a w,Rl w0 N aj ρ σ a w->∀ u,RA w w0.heap.size aj ρ x u->PA w p u):
  ∀(xs:aa Operand) (k:aa Pt->ah X),tT f σ xs k=some r->∃ps,k ps=some r/\∀aj ρ a w,Rl w0 N aj ρ σ a w->nD w ps (xs.map a.eval).toArray
 |[],k,h=>⟨[],h,λ_ _ _ _ _=>⟨rfl,λi p D=>by simp at D⟩⟩
 | x :: xs,k,h=>by
  unfold tT at h;obtain⟨p,T,D⟩:=L _ _ h;obtain⟨ps,U,O⟩:=TV L xs _ T
  refine⟨p::ps,U,λaj ρ a w C=>⟨?_,λi q E=>?_⟩⟩
  ·have:=(O aj ρ a w C).1;simp at this;simp[this]
  ·cases i with
   | zero=>
    simp at E;subst E;exact⟨_,rfl,D aj ρ a w C _ (C.aH x)⟩
   | succ i=>
    obtain⟨u,Y,Z⟩:=(O aj ρ a w C).2 i q (by simpa using E);exact⟨u,by simpa using Y,Z⟩
def ani(xs:aa Operand)(k:aa Pt->ah X)(h:Ao σ xs k=some r):∃ps,k ps=some r/\∀aj ρ a w,Rl w0 N aj ρ σ a w->nD w ps (xs.map a.eval).toArray:=TV (λ_ _=>anh) xs k h
def aa1(xs:aa Operand)(k:aa Pt->ah X)(h:qt σ xs k=some r):∃ps,k ps=some r/\∀aj ρ a w,Rl w0 N aj ρ σ a w->nD w ps (xs.map a.eval).toArray:=TV (λ_ _=>aa0) xs k h
def anj{t:TC}{o:Nat}(h:xV t (o+2)=true)(x:T t):∀ y∈enc t o x,y.loc=true:=by
 intro y D;have L:=xo t o x y D;cases y with
 | sl E C q l=>
  have O:C=o:=by simpa [V.gr]using L
  subst O;have U:full E+2 <= full t:=Nat.le_of_ble_eq_true (L8 t C x _ D);show xV E C=true;simp only[xV,Bool.or_eq_true]at h;rcases h with h|h
  ·have h:=Nat.le_of_ble_eq_true h
   match C,h with
   |0,h=>omega
   |1,h=>rfl
   | n+2,h=>
    simp only[xV,Bool.or_eq_true];left;exact Nat.ble_eq_true_of_le (by omega)
  ·have h:=Nat.eq_of_beq_eq_true h
   match C,h with
   |0,h=>omega
   |1,h=>rfl
   | n+2,h=>
    simp only[xV,Bool.or_eq_true];simp_all
 |_=>rfl
def RV.xW{q:aa Nat}{x:V}{v:Value}(h:RV w B aj q x v){B':Nat}(hB:B' <= B)(Y:∀ b,B <= b -> ax b=aj b)(Z:∀ b k,aj b=some k -> ax b=some k)(O:x.loc=true):RV w B' ax q x v:=by
 induction h with
 |int=>exact .int _ _ _
 |bool=>exact .bool _ _
 |str=>exact .str _ _
 |nil=>exact .nil _
 |dH=>exact .dH _ _ _
 |eF=>exact .eF _ _ _ _ _ (by first|assumption|omega)
 |eP=>exact .eP _ _ _ _ _ (by first|assumption|omega)
 | aC q t o qn l b off cap u T D hb h1 gH E hr L=>
  have Ap:o=1:=by
   match o,T,O with
   |1,_,_=>rfl
  subst Ap;have U:=h1 rfl
  refine .aC _ _ _ _ _ _ _ _ u T ((Y b U).trans D) hb (λ_=>Nat.le_trans hB U) gH E (λi h j x C=>L i h j x C ?_)
  have:=xo t 1 l[i] x (List.mem_of_getElem? C);cases x with
  | sl t' o' q' l'=>
   have:o'=1:=by simpa [V.gr]using this
   subst this;rfl
  |_=>rfl
 | own q t o qn l b cap cs u D hh hs hn hm E hr L=>
  exact .own _ _ _ _ _ _ _ cs u (Z b q D) hh hs hn hm E (λi h j x C=>L i h j x C (anj O l[i] x (List.mem_of_getElem? C)))
def RV.home{q:aa Nat}{x:V}{v:Value}(h:RV w B aj q x v){B':Nat}(hB:B'<=B)(C:∀ b,B<=b->ax b=aj b)(D:∀ b k,aj b=some k->B<=b)(E:x.loc=true):RV w B' ax q x v:=
 h.xW hB C (λb k h=>(C b (D b k h)).trans h) E
def TW:∀ (xs:aa V) (c:Nat) (σ:S) (ρ:Nat -> Loc) (us:aa Value),60000 <= c -> Rl w0 N aj ρ σ a w -> us.length=xs.length -> (∀ (j:Nat) x u,xs[j]?=some x -> us[j]?=some u -> RV w w0.heap.size aj [c+j] x u) ->
  ∃ρ',Rl w0 N aj ρ' (kz c σ xs) a w/\(∀r,r<c -> ρ' r=ρ r) /\ ∀(j:Nat) x u,(mw c xs)[j]?=some x -> us[j]?=some u -> dm w w0.heap.size aj ρ' x u
 |[],c,σ,ρ,us,_,h,O,E=>⟨ρ,h,λ_ _=>rfl,λj x u hx=>by simp[mw]at hx⟩
 | x :: xs,c,σ,ρ,us,hc,h,O,E=>by
  cases us with
  |nil=>simp at O
  | cons u us=>
   have T:=E 0 x u rfl rfl;rw[Nat.add_zero]at T;have tR:∀ (j:Nat) U Y,xs[j]?=some U -> us[j]?=some Y -> RV w w0.heap.size aj [c+1+j] U Y:=λj U Y hx hu=>by
    have:=E (j+1) U Y (by simpa using hx) (by simpa using hu)
    grind
   cases C:x.aC with
   | true=>
    obtain⟨ρ',cW,Z,vI⟩:=TW xs (c+1) σ ρ us (by omega) h (by simpa using O) tR
    refine⟨ρ',?_,λr E=>Z r (by omega),λj y v D L=>?_⟩
    ·simp[kz,C];exact cW
    ·simp only[mw,C,cond_true]at D;cases j with
     | zero=>
      simp at D L;subst D L;exact⟨C,T.key C⟩
     |succ j=>grind
   | false=>
    have fh:=T.Tb C;obtain⟨ρ',cW,Z,vI⟩:=TW xs (c+1) _ _ us (by omega) (h.new (d:=c) (x:=.sl x) (.dw u) (.sl u x (bR _ _ _) T) (h.cT c (.inr hc))) (by simpa using O) tR
    refine⟨ρ',?_,λr E=>?_,λj y v D L=>?_⟩
    ·simp[kz,C];exact cW
    ·rw[Z r (by omega)];exact cw _ _ _ (by omega)
    ·simp only[mw,C,cond_false]at D;cases j with
     | zero=>
      simp at D L;subst D L;refine⟨fh,?_⟩;have:ρ' c = .dw u:=by rw[Z c (by omega)];exact bR _ _ _
      simp[cH,this]
     |succ j=>grind
def ank(xs:aa V):∀ c,(mw c xs).length=xs.length:=by
 induction xs with
 |nil=>intro c;rfl
 |cons x xs C=>intro c;simp[mw,C]
end
def enters(P:Program)(f:Nat):Prop:=∃fn,P.funcs[f]?=some fn/\(fn.name == "runtime.NumGoroutine")=false/\fn.body.isNone=false
/-! What a function gives back. -/
def MC:A->ah (Bool×aa Lf)
 |.lf x=>some (false,[x])
 |.agg xs=>some (true,xs)
 |_=>none
def qx{X:Type}(P:Program)(σ:S):aa ResultVar->(aa (Bool×aa Lf)->ah X)->ah X
 |[],k=>k []
 | .tmp t :: rest,k=>(match MC (σ.t t)with
  |some p=>qx P σ rest λps=>k (p::ps)
  |none=>none)
 | .cell p ty :: rest,k=>mh P σ ty (σ.t p) λx=>(match MC x with
  |some p=>qx P σ rest λps=>k (p::ps)
  |none=>none)
def TX(m:Nat->ah aU):Lf->ah (V×ah Nat)
 |.v x=>bif x.loc&&x.aC then some (x,none)else none
 | .own [r]=>match m r with
  |some (.sl y)=>bif y.loc then some (y,some r)else none
  |_=>none
 |_=>none
def Gb(m:Nat->ah aU)(off:Nat):aa Lf->ah (aa V×aa (Nat×Nat))
 |[]=>some ([],[])
 | x :: xs=>match TX m x,Gb m (off+1) xs with
  |some (y,none),some (ys,rs)=>some (y::ys,rs)
  |some (y,some r),some (ys,rs)=>some (y::ys,(r,off)::rs)
  |_,_=>none
def C9(m:Nat->ah aU)(off:Nat):aa (Bool×aa Lf)->ah (aa Pt×aa (Nat×Nat))
 |[]=>some ([],[])
 | p :: ps=>match Gb m off p.2,C9 m (off+p.2.length) ps with
  |some (C,rs),some (D,E)=>some ((p.1,C)::D,rs++E)
  |_,_=>none
def once(rs:aa (Nat×Nat)):Bool:=rs.all λp=>(rs.lookup p.1).any λn=>Nat.beq n p.2
def Gc{X:Type}(P:Program)(σ:S)(fn:Array ResultVar)(k:eY->ah X):ah X:=
 qx P σ fn.toList λps=>match C9 σ.m 0 ps with
  | some (qs,rs)=>bif once rs then (match qs with
   |[p]=>k (.one p)
   |qs=>k (.dW qs))else none
  |none=>none
section
variable {P:Program} {w w':World} {w0:Wd} {B N:Nat} {aj ax:bw} {ρ ρ':Nat->Loc} {σ:S} {a:Act} {X:Type} {d:Nat} {r:X} {o:Oper}
def aa2:∀ (xs:aa V) (c:Nat) (j:Nat) x u,(mw c xs)[j]?=some x -> dm w B aj ρ x u -> (∀ r,r<c+xs.length -> ρ' r=ρ r) -> dm w B aj ρ' x u
 |[],c,j,x,u,D,_,_=>by simp[mw]at D
 | y :: ys,c,j,x,u,D,C,E=>by
  cases j with
  | zero=>
   simp[mw,List.getElem?_cons_zero,Option.some.injEq]at D;subst D;cases L:y.aC with
   |true=>rw[L]at C;simp;exact C
   | false=>
    rw[L]at C;refine⟨C.1,?_⟩;have:=C.2;simp[cH,E c (by simp)]at this ⊢;exact this
  | succ j=>
   exact aa2 ys _ j x u D C (λr h=>E r (by simp;omega))
def PV.cells{key:Nat -> aa Nat}{p:Pt}{u:Value}(h:PV w B aj key p u):∃ us:aa Value,us.length=p.2.length/\(∀ (j:Nat) x v,p.2[j]?=some x -> us[j]?=some v -> RV w B aj (key j) x v) /\
  ∀(ρ:Nat -> Loc) (C:aa Lf),C.length=p.2.length -> (∀(j:Nat) x v,C[j]?=some x -> us[j]?=some v -> dm w B aj ρ x v) -> RP w B aj ρ (p.1,C) u:=by
 obtain⟨us,D,E,Z⟩:=h;obtain⟨b,xs⟩:=p
 refine⟨us.toList,by simpa using E,λj x v L hv=>?_,λρ C O Y=>?_⟩
 ·grind
 ·have T:dM w B aj ρ C us:=⟨by rw[E,O],λj x L=>by
   have U:j<us.size:=by rw[E,<- O];exact(List.getElem?_eq_some_iff.1 L).1
   exact⟨us[j],Array.getElem?_eq_getElem U,Y j x _ L (by rw[Array.getElem?_toList,Array.getElem?_eq_getElem U])⟩⟩
  cases b with
  |true=>exact⟨us,D,T⟩
  |false=>have D:=D;subst D;exact T
def Gd:∀ (ps:aa Pt) (c0 off:Nat) (σ:S) (ρ:Nat -> Loc) (C:aa Value),60000 <= c0 -> Rl w0 N aj ρ σ a w -> iu w w0.heap.size aj (λn=>c0+n) off ps C ->
  ∃ρ',Rl w0 N aj ρ' (nE (c0+off) σ ps) a w/\(∀r,r<c0+off -> ρ' r=ρ r)/\C.length=(qv (c0+off) ps).length /\ ∀(i:Nat) p v,(qv (c0+off) ps)[i]?=some p -> C[i]?=some v -> RP w w0.heap.size aj ρ' p v
 | [],c0,off,σ,ρ,C,_,h,D=>by
  cases C with
  |nil=>exact⟨ρ,h,λ_ _=>rfl,rfl,λi p v T=>by simp[qv]at T⟩
  |cons v C=>exact D.elim
 | p :: ps,c0,off,σ,ρ,C,hc,h,D=>by
  cases C with
  |nil=>exact D.elim
  | cons v C=>
   obtain⟨⟨_,T⟩,D⟩:=D;obtain⟨us,hl,iM,tU⟩:=T.cells;obtain⟨rG,h1,TY,vI⟩:=TW p.2 (c0+off) σ ρ us (by omega) h hl (λj x u L E=>by
    have:RV w _ aj [c0+(off+j)] x u:=iM j x u L E;rw[<- Nat.add_assoc]at this;exact this)
   obtain⟨dY,Y,U,hlen,Z⟩:=Gd ps c0 (off+p.2.length) (kz (c0+off) σ p.2) rG C hc h1 D;rw[<- Nat.add_assoc]at Y U hlen Z
   refine⟨dY,Y,λr D=>(U r (by omega)).trans (TY r D),by simp[qv,hlen],λi q u O E=>?_⟩
   cases i with
   | zero=>
    simp[qv,List.getElem?_cons_zero,Option.some.injEq]at O E;subst O E
    refine tU dY _ (ank _ _) (λj x u L E=>aa2 p.2 _ j x u L (vI j x u L E) U)
   | succ i=>
    simp[ List.getElem?_cons_succ]at O E;exact Z i q u O E
def iu.home{nm:Nat -> Nat}:∀ (ps:aa Pt) (off:Nat) (C:aa Value) {B':Nat},iu w B aj nm off ps C -> B' <= B -> (∀ b,B <= b -> ax b=aj b) -> (∀ b k,aj b=some k -> B <= b) -> iu w B' ax nm off ps C
 |[],_,[],_,h,_,_,_=>h
 | p :: ps,off,v :: C,B',h,hB,D,E=>by
  obtain⟨⟨L,us,T,U,Y⟩,Z⟩:=h
  refine⟨⟨L,us,T,U,λj x O=>?_⟩,iu.home ps _ C Z hB D E⟩
  obtain⟨v',rq,ez⟩:=Y j x O;exact⟨v',rq,ez.home hB D E (List.all_eq_true.1 L x (List.mem_of_getElem? O))⟩
def TZ(w:World)(o:Oper)(a:Act)(f:Nat)(args:Array Operand)(D:Array TypeId)(E:o.op = .call { callee:=.value (.func f),args,argTypes:=D })(L:enters P f):(execOp a.eval o).run P w = .ok (.enter f (args.map a.eval)) w:=by
 obtain⟨fn,O,T,C⟩:=L;have U:¬ fn.name = "runtime.NumGoroutine":=by simpa using T
 have Y:¬ fn.body=none:=by intro e;rw[e]at C;cases C
 simp[execOp,E,resolve,Act.eval,Deferred.ofValue,invoke,callFunc,Sem.run,O,U,Y]
def anl{f:Nat}{args:Array Operand}{jB:Array TypeId}{c:gI}{k:S->ah X}(ho:o.op = .call { callee:=.value (.func f),args,argTypes:=jB })(hd:o.dst=some d)(he:enters P f)(hc:gu P f c)(Aq:d<N){ps:aa Pt}(jQ:∀ aj ρ a w,Rl w0 N aj ρ σ a w->nD w ps (args.toList.map a.eval).toArray)
  (h2:(c.run X ps λE=>mz σ d E k)=some r):∃cy,k cy=some r/\jN P w0 N o σ cy:=by
 obtain⟨E,L,T0⟩:=(hc.1 ps).lA h2;have Ge:=hc.2 ps E (T0 _ _);unfold mz at L;have step:∀ a w K Q aj ρ,Rl w0 N aj ρ σ a w->(∀ v w' ax,Below w.heap.size w w'->Rl w0 N ax ρ σ a w'->oe w' w0.heap.size ax (λn=>1000000000100000+1000*d+n) E v->K (a.put o.dst v) w')->o.wp P a w K Q:=by
  intro a w K Q aj ρ C U;unfold Oper.wp;rw[TZ w o a f args jB ho he,Oper.upon_enter];have As:(args.map a.eval)=(args.toList.map a.eval).toArray:=by apply Array.ext';rw[Array.toList_map]
  rw[As]
  refine(Ge (λn=>1000000000100000+1000*d+n) w _ (jQ aj ρ a w C) (w0.on C.below (λ_ _ h=>by cases h))).mono λe w' rH=>?_
  obtain⟨v,Gf,rfl,Y,jA,O⟩:=rH;have hB:=C.below.size;let cZ:bw:=λb=>if b<w.heap.size then aj b else Gf b
  have e1:∀b,b<w.heap.size->cZ b=aj b:=λb Z=>if_pos Z
  have e2:∀b,w.heap.size<=b->cZ b=Gf b:=λb Z=>if_neg (by omega)
  refine U v w' cZ Y (C.grow Y e1 (λb k Z T=>?_)) ?_
  ·rw[e2 b Z]at T;exact(jA b k T).2
  ·cases E with
   |one p=>exact iu.home [p] 0 [v] O hB e2 (λb k T=>(jA b k T).1)
   | dW vJ=>
    obtain⟨D,e,hv⟩:=O;exact⟨D,e,iu.home vJ 0 D.toList hv hB e2 (λb k T=>(jA b k T).1)⟩
 cases E with
 | one p=>
  simp only at L;split at L
  ·rename_i y hy
   refine⟨_,L,λa w K Q C U=>?_⟩
   obtain⟨aj,ρ,C⟩:=C
   refine step a w K Q aj ρ C λv w' ax Y cW O=>?_
   obtain⟨ρ',nG,_,_,pn⟩:=Gd [p] (1000000000100000+1000*d) 0 σ ρ [v] (by omega) cW O;rw[hd];have T1:=pn 0 _ v rfl rfl;exact U _ _ ⟨ax,ρ',nG.set (Tt hy T1) Aq⟩
  ·cases L
 | dW vJ=>
  refine⟨_,L,λa w K Q C U=>?_⟩
  obtain⟨aj,ρ,C⟩:=C
  refine step a w K Q aj ρ C λv w' ax Y cW O=>?_
  obtain⟨D,rfl,hv⟩:=O;obtain⟨ρ',nG,_,hlen,pn⟩:=Gd vJ (1000000000100000+1000*d) 0 σ ρ D.toList (by omega) cW hv;rw[hd]
  refine U _ _ ⟨ax,ρ',nG.set ⟨D,rfl,by simpa using hlen,λj p hp=>?_⟩ Aq⟩
  have hj:j<D.size:=by
   have:=(List.getElem?_eq_some_iff.1 hp).1;rw[Nat.add_zero]at hlen;rw[<-hlen]at this
   simpa using this
  exact⟨D[j],Array.getElem?_eq_getElem hj,pn j p _ hp (by rw[Array.getElem?_toList,Array.getElem?_eq_getElem hj])⟩
def aa3{f:Nat}{args:Array Operand}{E:Array TypeId}{c:gI}{k:S->ah X}{ev:(aa Pt->ah X)->ah X}(L:o.op = .call { callee:=.value (.func f),args,argTypes:=E })(O:o.dst=some d)(T:enters P f)(U:gu P f c)
  (Y:∀k,ev k=some r->∃ps,k ps=some r/\∀aj ρ a w,Rl w0 N aj ρ σ a w->nD w ps (args.toList.map a.eval).toArray) (h:qw N σ d c ev k=some r):∃D,k D=some r/\jN P w0 N o σ D:=by
 unfold qw at h;cases C:Nat.blt d N with
 |false=>rw[C]at h;cases h
 | true=>
  rw[C,cond_true]at h;obtain⟨ps,Z,jQ⟩:=Y _ h;exact anl L O T U (Nat.le_of_ble_eq_true C) jQ Z
end
def dI(aj:bw)(rs:aa (Nat×Nat))(nm:Nat->Nat):bw:=λb=>
 match aj b with
 |none=>none
 | some k=>match k.getLast? with
  |none=>none
  |some r=>(rs.lookup r).map λn=>k.dropLast++[nm n]
section
variable {P:Program} {w w':World} {w0:Wd} {B N:Nat} {aj ax:bw} {ρ ρ':Nat->Loc} {σ:S} {a:Act} {X:Type} {d:Nat} {r:X} {rs:aa (Nat×Nat)} {nm:Nat->Nat}
def xX{b:Nat}(h:aj b=none):dI aj rs nm b=none:=by simp[dI,h]
def RV.dI{p:aa Nat}{r n:Nat}{x:V}{v:Value}(h:RV w B aj (p++[r]) x v)(D:rs.lookup r=some n):RV w B (dI aj rs nm) (p++[nm n]) x v:=
 h.map (Q:=λq C=>∃ p,q=p++[r]/\C=p++[nm n]) (Nat.le_refl _) (λb _ h=>⟨rfl,xX h⟩) (λb q C _ E e=>by
  obtain⟨p,rfl,rfl⟩:=e;exact⟨rfl,by simp[Proofs.YtnilicojgkhpnaaGreat.dI,E,D],λj i s=>⟨j::i::s::p,rfl,rfl⟩⟩) (.inr ⟨p,rfl,rfl⟩)
def T2{m:Nat -> ah aU}:∀ (xs:aa Lf) (off:Nat) (ys:aa V) (E:aa (Nat×Nat)),Gb m off xs=some (ys,E) -> ys.length=xs.length /\ ∀ (j:Nat) x,xs[j]?=some x -> ∃ y,ys[j]?=some y/\y.loc=true/\((x = .v y/\y.aC=true) \/ ∃ r,x = .own [r]/\m r=some (.sl y)/\(r,off+j)∈E)
 | [],off,ys,E,h=>by
  simp only[Gb,Option.some.injEq,Prod.mk.injEq]at h;obtain⟨rfl,rfl⟩:=h;exact⟨rfl,λj x C=>by simp at C⟩
 | x :: xs,off,ys,E,h=>by
  have Z:∀ y z,TX m x=some (y,z) -> y.loc=true/\((z=none/\x = .v y/\y.aC=true) \/ ∃ r,z=some r/\x = .own [r]/\m r=some (.sl y)):=by
   intro y z D;unfold TX at D
   grind
  unfold Gb at h;split at h
  ·rename_i y L O T U;simp only[Option.some.injEq,Prod.mk.injEq]at h;obtain⟨rfl,rfl⟩:=h;obtain⟨Y,h2⟩:=T2 xs (off+1) L O U
   refine⟨by simp[Y],λj x' C=>?_⟩
   cases j with
   | zero=>
    simp at C;subst C;obtain⟨hl,D|⟨r,D,_⟩⟩:=Z y none T
    ·simp_all
    ·cases D
   |succ j =>grind
  ·rename_i y r L O T U;simp only[Option.some.injEq,Prod.mk.injEq]at h;obtain⟨rfl,rfl⟩:=h;obtain⟨Y,h2⟩:=T2 xs (off+1) L O U
   refine⟨by simp[Y],λj x' C=>?_⟩
   cases j with
   | zero=>
    simp at C;subst C;obtain⟨hl,D|⟨r',D,e1,e2⟩⟩:=Z y (some r) T
    ·cases D.1
    ·simp_all
   |succ j =>grind
  ·cases h
def T3{m:Nat -> ah aU}(hm:∀ r x,m r=some x -> dx w B aj ρ r x):∀ (ps:aa (Bool×aa Lf)) (off:Nat) (L:aa Pt) (O:aa (Nat×Nat)) (C:aa Value),C9 m off ps=some (L,O) -> (∀ p∈O,rs.lookup p.1=some p.2) -> C.length=ps.length ->
  (∀(i:Nat) p v,ps[i]?=some p -> C[i]?=some v -> RP w B aj ρ p v) -> iu w B (dI aj rs nm) nm off L C
 | [],off,L,O,C,h,_,T,_=>by
  have:C=[]:=List.eq_nil_of_length_eq_zero T;subst this;simp only[C9,Option.some.injEq,Prod.mk.injEq]at h;obtain⟨rfl,rfl⟩:=h;trivial
 | p :: ps,off,L,O,C,h,iw,T,hp=>by
  cases C with
  |nil=>simp at T
  | cons v C=>
   unfold C9 at h;split at h
   ·rename_i ys rs1 qs' At h1 h2;simp only[Option.some.injEq,Prod.mk.injEq]at h;obtain⟨rfl,rfl⟩:=h;obtain⟨hlen,L5⟩:=T2 _ _ _ _ h1;have tR:=T3 hm ps _ qs' At C h2 (λq hq=>iw q (List.mem_append_right _ hq)) (by simpa using T) (λi q u hq hu=>hp (i+1) q u (by simpa using hq) (by simpa using hu));have xY:=hp 0 p v rfl rfl;have key:∀ us:Array Value,dM w B aj ρ p.2 us -> (us.size=ys.length /\ ∀ (j:Nat) x,ys[j]?=some x -> ∃ u,us[j]?=some u/\RV w B (dI aj rs nm) [nm (off+j)] x u):=by
     intro us U
     refine⟨by rw[hlen];exact U.1,λj y Y=>?_⟩
     have Z:j<p.2.length:=by rw[<- hlen];exact(List.getElem?_eq_some_iff.1 Y).1
     obtain⟨y',E,Da,hz⟩:=L5 j _ (List.getElem?_eq_getElem Z);rw[Y]at E;injection E with E;subst E;obtain⟨u,hu,hr⟩:=U.2 j _ (List.getElem?_eq_getElem Z);refine⟨u,hu,?_⟩;rcases hz with ⟨e,hf⟩|⟨r,e,hmr,x4⟩
     ·rw[e]at hr;exact(hr.2.L9 hf (λb=>xX)).key hf
     ·rw[e]at hr;have dN:=hm r _ hmr;generalize D:aU.sl y=z at dN;cases dN with
      |az=>cases D
      |mp=>cases D
      |gh=>cases D
      | sl v' y' bW iM=>
       injection D with D;subst D;have Gg:v'=u:=by
        have h4:=hr.2;simp only[cH,bW]at h4;simp_all
       subst Gg;exact RV.dI (p:=[]) iM (iw (r,off+j) (List.mem_append_left _ x4))
    refine⟨⟨?_,?_⟩,?_⟩
    ·rw[List.all_eq_true];intro y Y;obtain⟨j,Z⟩:=List.mem_iff_getElem?.1 Y;have Ae:j<p.2.length:=by rw[<- hlen];exact(List.getElem?_eq_some_iff.1 Z).1
     obtain⟨y',E,Da,_⟩:=L5 j _ (List.getElem?_eq_getElem Ae);simp_all
    ·obtain⟨b,xs⟩:=p;cases b with
     | true=>
      obtain⟨us,e,U⟩:=xY;obtain⟨k1,k2⟩:=key us U;exact⟨us,e,k1,k2⟩
     | false=>
      obtain⟨k1,k2⟩:=key #[v] xY;exact⟨#[v],rfl,k1,k2⟩
    ·grind
   ·cases h
def anm{t:TypeId}{x:A}{k:A->ah X}(h:mh P σ t x k=some r){u:Value}(C:RA w B aj ρ x u):∃ ad,u = .pointer (some ad):=by
 unfold mh at h;split at h
 ·cases h
 ·split at h
  ·obtain⟨b,off,_,rfl⟩:=C;exact⟨_,rfl⟩
  ·obtain⟨b,off,rfl,_⟩:=C;exact⟨_,rfl⟩
  ·obtain⟨ad,rfl,_⟩:=C;exact⟨_,rfl⟩
  ·cases h
def aa4{x:A}{p:Bool×aa Lf}(h:MC x=some p){u:Value}(D:RA w B aj ρ x u):RP w B aj ρ p u:=by
 unfold MC at h;split at h
 ·injection h with h;subst h
  refine⟨rfl,λj y C=>?_⟩
  cases j with
  |zero=>simp at C;subst C;exact⟨u,rfl,D⟩
  |succ j=>simp at C
 ·injection h with h;subst h;exact D
 ·cases h
def rI(tmps:Array Value):ResultVar->Sem Value
 |.tmp t=>pure (tmps.getD t undef)
 |.cell a t=>do loadVar t (<-asAddr (tmps.getD a undef))
def Gh:∀ (l:aa ResultVar) (k:aa (Bool×aa Lf) -> ah X),qx P σ l k=some r -> ∃ ps,k ps=some r /\ ∀ aj ρ a w,Rl w0 N aj ρ σ a w -> ∃ C,(l.mapM (rI a.tmps)).run P w = .ok C w/\C.length=ps.length /\ ∀ (i:Nat) p v,ps[i]?=some p -> C[i]?=some v -> RP w w0.heap.size aj ρ p v
 |[],k,h=>⟨[],h,λ_ _ _ _ _=>⟨[],rfl,rfl,λi p v E=>by simp at E⟩⟩
 | .tmp t :: rest,k,h=>by
  simp only[qx]at h;split at h
  ·rename_i p E;obtain⟨ps,U,Y⟩:=Gh rest _ h
   refine⟨p::ps,U,λaj ρ a w D=>?_⟩
   obtain⟨C,Z,hl,hv⟩:=Y aj ρ a w D
   refine⟨a.tmps.getD t undef::C,?_,by simp[hl],λi q u L O=>?_⟩
   ·rw[List.mapM_cons];simp[rI,Sem.run_pure,Result.andThen_ok,Sem.run_bind,Z]
   ·cases i with
    |zero=>simp only[List.getElem?_cons_zero,Option.some.injEq]at L O;subst L O;exact aa4 E (D.tmp t)
    |succ i=>grind
  ·cases h
 | .cell c ty :: rest,k,h=>by
  simp only[qx]at h;obtain⟨y,hy,hld⟩:=aax (w0:=w0) (N:=N) h;split at hy
  ·rename_i p E;obtain⟨ps,U,Y⟩:=Gh rest _ hy
   refine⟨p::ps,U,λaj ρ a w D=>?_⟩
   obtain⟨C,Z,hl,hv⟩:=Y aj ρ a w D;obtain⟨v,T,vH⟩:=hld aj ρ a w D _ (D.tmp c);obtain⟨ad,ni⟩:=anm h (D.tmp c);rw[ni]at T;have T:(loadVar ty ad).run P w = .ok v w:=by
    simpa [Instr.loadAt,Instr.sureAddr]using T
   refine⟨v::C,?_,by simp[hl],λi q u L O=>?_⟩
   ·rw[List.mapM_cons];simp[rI,ni,asAddr,Sem.run_pure,Result.andThen_ok,Sem.run_bind,Z,T]
   ·cases i with
    |zero=>simp at L O;subst L O;exact aa4 E vH
    |succ i=>grind
  ·cases hy
def ann{fn:Func}{k:eY -> ah X}(h:Gc P σ fn.results k=some r):∃ res,k res=some r /\ ∀ aj ρ a w,Rl w0 N aj ρ σ a w -> ∀ nm,∃ v ax,(results fn a.tmps).run P w = .ok v w/\(∀ b k,ax b=some k -> (w0.heap.size <= b \/ w0.L b≠none)/\b<w.heap.size/\k≠[])/\oe w w0.heap.size ax nm res v:=by
 unfold Gc at h;obtain⟨ps,T,pn⟩:=Gh (w0:=w0) (N:=N) _ _ h;clear h;split at T
 ·rename_i Y rs T4;cases ho:once rs with
  |false=>grind
  | true=>
   rw[ho,cond_true]at T;have iw:∀ p∈rs,rs.lookup p.1=some p.2:=by
    intro p hp;have:=List.all_eq_true.1 ho p hp;obtain⟨n,hn,he⟩:=(Option.any_eq_true _ _).1 this;simp_all
   have core:∀ aj ρ a w,Rl w0 N aj ρ σ a w -> ∀ nm:Nat -> Nat,∃ C:aa Value,(fn.results.mapM (rI a.tmps)).run P w = .ok C.toArray w/\(∀ b k,dI aj rs nm b=some k -> (w0.heap.size <= b \/ w0.L b≠none)/\b<w.heap.size/\k≠[])/\iu w w0.heap.size (dI aj rs nm) nm 0 Y C:=by
    intro aj ρ a w O nm;obtain⟨C,U,hl,hv⟩:=pn aj ρ a w O
    refine⟨C,?_,λb k E=>?_,T3 O.root ps 0 Y rs C T4 iw hl hv⟩
    ·rw[Array.mapM_eq_mapM_toList];simp[U]
    ·unfold dI at E;split at E
     ·cases E
     ·rename_i k' ny;have:=O.cL b k' ny;split at E
      ·cases E
      ·cases rJ:rs.lookup _ with
       |none=>rw[rJ]at E;cases E
       | some n=>
        rw[rJ]at E;injection E with E;subst E;simp_all
   have jR:∀ (tmps:Array Value),results fn tmps=(do let C <- fn.results.mapM (rI tmps);pure (if h:C.size=1 then C[0]else .tuple C)):=λtmps=>by
    unfold results;congr 1
   split at T
   ·rename_i p
    refine⟨_,T,λaj ρ a w O nm=>?_⟩
    obtain⟨C,U,Z,D⟩:=core aj ρ a w O nm
    match C,D with
    |[v],D=>exact⟨v,_,by rw[jR,Sem.run_bind,U];rfl,Z,D⟩
    |[],D=>exact D.elim
    |_::_::_,D=>exact D.2.elim
   ·rename_i cJ
    refine⟨_,T,λaj ρ a w O nm=>?_⟩
    obtain⟨C,U,Z,D⟩:=core aj ρ a w O nm;have fN:C.toArray.size≠1:=by
     intro e
     match Y,C,D,cJ with
     |[q],[v],_,cJ=>exact cJ q rfl
     |[],[v],D,_=>exact D.elim
     |_::_::_,[v],D,_=>exact D.2.elim
    refine⟨.tuple C.toArray,_,?_,Z,C.toArray,rfl,D⟩;rw[jR,Sem.run_bind,U,Result.andThen_ok];simp only[fN,dif_neg,not_false_eq_true,Sem.run_pure]
 ·cases T
end
inductive In where
 |az (cs:List V)
 |sl (y:V)
def nF(i:Nat):Nat:=20000+1000*i
def nC(i j:Nat)(x:V):Nat:=bif x.aC then 20001+1000*i+j else 60000+1000*i+j
def x5(i j:Nat)(x:V):Lf:=bif x.plain then .v x else .own [nC i j x]
def x6(i:Nat):Nat->aa V->aa Lf
 |_,[]=>[]
 |j,x::xs=>x5 i j x::x6 i (j+1) xs
def T5(i:Nat):Nat->aa V->(Nat->ah aU)->(Nat->ah aU)
 |_,[],m=>m
 |j,x::xs,m=>T5 i (j+1) xs (bif x.plain then m else bO m (nC i j x) (some (.sl x)))
def MD:Nat->aa In->(Nat->ah aU)->(Nat->ah aU)
 |_,[],m=>m
 |i,.az cs::r,m=>MD (i+1) r (T5 i 0 cs (bO m (nF i) (some (.az (x6 i 0 cs)))))
 |i,.sl y::r,m=>MD (i+1) r (bO m (nF i) (some (.sl y)))
inductive Ar where
 |pt (p:Pt)
 |mut (i off:Nat)
def T6(C:aa In):Ar->A
 |.pt (false,[x])=>.lf (.v x)
 |.pt (true,xs)=>.agg (xs.map .v)
 |.pt (false,.bool false::.int .i64 g::c::cs)=>.ld g.toNat (c::cs)
 |.pt _=>.undef
 | .mut i off=>match C[i]? with
  |some (.az _)=>.aG (nF i) off
  |some (.sl _)=>.lf (.own [nF i])
  |none=>.undef
def Au(C:aa In)(args:aa Ar):S:=⟨λk=>match args[k]? with
 |some x=>T6 C x
 |none=>.undef,MD 0 C (λ_=>none)⟩
def pq(w w':World)(ax:bw)(ρ:Nat->Loc)(nm:Nat->Nat):Nat->Nat->aa In->aa In->Prop
 |_,_,[],[]=>True
 | i,D,.az cs :: r,.az dK :: L=>(∃ b off cells O e U,ρ (nF i) = .az b off/\w.heap[b]?=some (.cells cells e (0,0))/\w'.heap[b]?=some (.cells O U (0,0))/\ax b=some [nm D]/\off+dK.length<=O.size/\dK.length=cs.length/\
   ∀(j:Nat) C,dK[j]?=some C->∃u,O[off+j]?=some u/\((C.plain=true/\∀(w:World) (B:Nat) (aj:bw) (q:aa Nat),RV w B aj q C u)\/(C = .nil/\u = .slice none 0 0/\∃E,cs[j]?=some E/\E.aC=false)\/(C.plain=false/\C.aC=true/\C.iL=true/\(∃E,cs[j]?=some E/\Wk E C)/\cells[off+j]?=some u)\/(C.aC=false/\RV w' w.heap.size ax [nm (D+1+j)] C u)))/\
   pq w w' ax ρ nm (i+1) (D+1+cs.length) r L
 |i,D,.sl y::r,.sl T::L=>(T = .nil\/∃v,ρ (nF i) = .dw v/\RV w' w.heap.size ax [nm D] T v)/\pq w w' ax ρ nm (i+1) (D+1) r L
 |_,_,_,_=>False
def Gi(w w':World)(ax:bw)(ρ:Nat->Loc)(nm:Nat->Nat):Nat->Nat->aa In->aa In->Prop
 |_,_,[],[]=>True
 | i,D,.az cs :: r,.az dK :: E=>(∃ b off cells L e T,ρ (nF i) = .az b off/\w.heap[b]?=some (.cells cells e (0,0))/\w'.heap[b]?=some (.cells L T (0,0))/\ax b=some [nm D]/\off+dK.length<=L.size/\dK.length=cs.length/\
   ∀(j:Nat) C,dK[j]?=some C->∃u,L[off+j]?=some u/\((C.plain=true/\∀(w:World) (B:Nat) (aj:bw) (q:aa Nat),RV w B aj q C u)\/(C.plain=false/\C.aC=true/\cells[off+j]?=some u)\/(C.aC=false/\RV w' w.heap.size ax [nm (D+1+j)] C u)))/\
   Gi w w' ax ρ nm (i+1) (D+1+cs.length) r E
 |i,D,.sl y::r,.sl O::E=>(O = .nil\/∃v,ρ (nF i) = .dw v/\RV w' w.heap.size ax [nm D] O v)/\Gi w w' ax ρ nm (i+1) (D+1) r E
 |_,_,_,_=>False
def eY.len:eY->Nat
 |.one p=>p.2.length
 |.dW ps=>(ps.map λp=>p.2.length).sum
def nH(w:World)(B:Nat)(aj:bw)(ρ:Nat->Loc):Nat->aa In->Prop
 |_,[]=>True
 |i,.az cs::r=>dx w B aj ρ (nF i) (.az (x6 i 0 cs))/\(∀(j:Nat) x,cs[j]?=some x->x.plain=false->dx w B aj ρ (nC i j x) (.sl x))/\nH w B aj ρ (i+1) r
 |i,.sl y::r=>dx w B aj ρ (nF i) (.sl y)/\nH w B aj ρ (i+1) r
/-! The end: what is given back,and what the written parameters hold. -/
def T7(m:Nat->ah aU)(i j:Nat)(C:V):Lf->ah (V×ah Nat)
 |.v x=>bif x.plain then some (x,none)else (bif !x.iL && !C.aC then some (.nil,none)else none)
 | .own [r]=>match m r with
  |some (.sl y)=>bif y.aC then (bif !C.plain&&(C.aC&&C.iL)&&Nat.beq r (20001+1000*i+j)&&Nat.blt r 60000 then some (C,none)else none)else (bif y.loc then some (y,some r)else none)
  |_=>none
 |_=>none
def Av(m:Nat->ah aU)(i C:Nat):Nat->aa V->aa Lf->ah (aa V×aa (Nat×Nat))
 |_,[],[]=>some ([],[])
 | j,D :: xs,l :: E=>match T7 m i j D l,Av m i C (j+1) xs E with
  |some (y,none),some (ys,rs)=>some (y::ys,rs)
  |some (y,some r),some (ys,rs)=>some (y::ys,(r,C+1+j)::rs)
  |_,_=>none
 |_,_,_=>none
def V.gone:V->Bool
 |.sl _ o _ _=>Nat.ble 1000000 o
 |_=>false
def x7(m:Nat->ah aU):Nat->Nat->aa In->ah (aa In×aa (Nat×Nat))
 |_,_,[]=>some ([],[])
 | i,C,.az cs :: r=>match bif Nat.blt (nF i) 60000 then m (nF i)else none with
  | some (.az L)=>match Av m i C 0 cs L,x7 m (i+1) (C+1+cs.length) r with
   |some (dK,rs),some (os,D)=>some (.az dK::os,(nF i,C)::(rs++D))
   |_,_=>none
  |_=>none
 | i,C,.sl O :: r=>bif O.gone then (match x7 m (i+1) (C+1) r with
   |some (os,D)=>some (.sl .nil::os,D)
   |none=>none)else match bif Nat.blt (nF i) 60000 then m (nF i)else none with
  | some (.sl E)=>bif E.loc && !E.aC then (match x7 m (i+1) (C+1) r with
   |some (os,D)=>some (.sl E::os,(nF i,C)::D)
   |none=>none)else none
  |_=>none
def Gj{X:Type}(P:Program)(σ:S)(fn:Array ResultVar)(C:aa In)(k:aa In->eY->ah X):ah X:=
 qx P σ fn.toList λps=>match C9 σ.m 0 ps with
  | some (qs,rs)=>match x7 σ.m 0 (qs.map λp=>p.2.length).sum C with
   | some (os,D)=>bif once (rs++D)then (match qs with
    |[p]=>k os (.one p)
    |qs=>k os (.dW qs))else none
   |none=>none
  |none=>none
/-! Types of parameters and results. -/
def gB:aa (Bool×TC×Nat)->Type
 |[]=>af
 |[(_,t,_)]=>T t
 |(_,t,_)::r=>T t×gB r
def rK:(l:aa (Bool×TC×Nat))->gB l->aa Pt
 |[],_=>[]
 |[(b,t,g)],x=>[(b,enc t g x)]
 |(b,t,g)::q::r,x=>(b,enc t g x.1)::rK (q::r) x.2
def og:(l:aa (Bool×TC×Nat))->aa Pt->ah (gB l)
 |[],[]=>some ()
 |[(b,t,g)],[(C,D)]=>bif b==C then dec t g D else none
 | (b,t,g) :: q :: r,(C,D) :: ps=>bif b==C then (match dec t g D,og (q :: r) ps with
  |some x,some xs=>some (x,xs)
  |_,_=>none)else none
 |_,_=>none
def jS(l:aa (Bool×TC×Nat)):eY->ah (gB l)
 |.one p=>og l [p]
 |.dW ps=>bif Nat.beq ps.length 1 then none else og l ps
def eA(l:aa (Bool×TC×Nat))(x:gB l):eY:=
 match rK l x with
 |[p]=>.one p
 |ps=>.dW ps
inductive PK where
 |v (b:Bool) (t:TC)
 |p (t:TC) (g off:Nat)
 |s (t:TC) (g:Nat)
def kA:aa PK->Type
 |[]=>af
 |.v _ t::r=>T t×kA r
 |.p t _ _::r=>T t×kA r
 |.s t _::r=>aa (T t)×kA r
def qy:aa (Bool×TC×Nat)->Type
 |[]=>af
 |(true,t,_)::r=>T t×qy r
 |(false,t,_)::r=>aa (T t)×qy r
def jC:(l:aa (Bool×TC×Nat))->qy l->aa In
 |[],_=>[]
 |(true,t,g)::r,x=>.az (enc t g x.1)::jC r x.2
 |(false,t,g)::r,x=>.sl (bif Nat.ble 1000000 g then .nil else .sl t (g+2) false x.1)::jC r x.2
def ep:aa PK->aa (Bool×TC×Nat)
 |[]=>[]
 |.v _ _::r=>ep r
 |.p t g _::r=>(true,t,g)::ep r
 |.s t g::r=>(false,t,g)::ep r
def lE:(l:aa PK)->kA l->aa In
 |[],_=>[]
 |.v _ _::r,x=>lE r x.2
 |.p t g _::r,x=>.az (enc t g x.1)::lE r x.2
 |.s t g::r,x=>.sl (.sl t (g+2) false x.1)::lE r x.2
def iP:(l:aa PK)->Nat->kA l->aa Ar
 |[],_,_=>[]
 |.v b t::r,i,x=>.pt (b,enc t 0 x.1)::iP r i x.2
 |.p _ _ off::r,i,x=>.mut i off::iP r (i+1) x.2
 |.s _ _::r,i,x=>.mut i 0::iP r (i+1) x.2
structure mA where
 ps:List PK
 ro:List (Bool×TC×Nat)
 F:kA ps->Option (gB ro×qy (ep ps))
def rL(P:Program)(f:Nat)(c:mA):Prop:=
 ∀ x y,c.F x=some y->∀ (nm:Nat->Nat) (w:World) (aj:bw) (ρ:Nat->Loc) (bN:Array Value),nH w w.heap.size aj ρ 0 (lE c.ps x)->(∀ b k,aj b=some k->b<w.heap.size/\k≠[])->
     bN.size=c.ps.length->(∀i,RA w w.heap.size aj ρ ((Au (lE c.ps x) (iP c.ps 0 x)).t i) (bN.getD i undef))->∀C:Hd w aj,
     Calls P f bN w λe w'=>∃v ax,e = .returned v/\gT ⟨w,aj,λ_=>none,C,λ_ _=>rfl⟩ w w'/\(∀b k,ax b=some k->(w.heap.size<=b\/aj b≠none)/\b<w'.heap.size/\k≠[])/\oe w' w.heap.size ax nm (eA c.ro y.1) v/\Gi w w' ax ρ nm 0 (eA c.ro y.1).len (lE c.ps x) (jC (ep c.ps) y.2)
def Gk(w:World)(ρ:Nat->Loc):Nat->aa In->Prop
 |_,[]=>True
 |i,.az cs::r=>(∃b off cells e,ρ (nF i) = .az b off/\w.heap[b]?=some (.cells cells e (0,0))/\∀(j:Nat) x,cs[j]?=some x->x.plain=false->x.aC=true->∃u,cells[off+j]?=some u/\ρ (20001+1000*i+j) = .dw u)/\Gk w ρ (i+1) r
 |i,.sl y::r=>(∃v,ρ (nF i) = .dw v)/\Gk w ρ (i+1) r
section
variable {P:Program} {w w':World} {w0:Wd} {B N:Nat} {aj ax:bw} {ρ ρ':Nat->Loc} {σ:S} {a:Act} {X:Type} {d:Nat} {r:X} {rs:aa (Nat×Nat)} {nm:Nat->Nat}
def T8{m:Nat -> ah aU}{i pos:Nat}:∀ (xs:aa V) (U:aa Lf) (D:Nat) (ys:aa V) (Y:aa (Nat×Nat)),Av m i pos D xs U=some (ys,Y) -> ys.length=xs.length/\U.length=xs.length /\
  ∀(j:Nat) y,ys[j]?=some y -> ∃l x0,U[j]?=some l/\xs[j]?=some x0/\((l = .v y/\y.plain=true) \/ (l = .v .nil/\y = .nil/\x0.aC=false) \/ (l = .own [20001+1000*i+(D+j)]/\y=x0/\y.plain=false/\(y.aC&&y.iL)=true/\20001+1000*i+(D+j)<60000) \/ (∃q,l = .own [q]/\m q=some (.sl y)/\y.aC=false/\(q,pos+1+(D+j))∈Y))
 | [],[],D,ys,Y,h=>by
  simp only[Av,Option.some.injEq,Prod.mk.injEq]at h;obtain⟨rfl,rfl⟩:=h;exact⟨rfl,rfl,λj y hy=>by simp at hy⟩
 |[],_::_,D,ys,Y,h=>by simp[Av]at h
 |_::_,[],D,ys,Y,h=>by simp[Av]at h
 | x0 :: xs,l :: U,D,ys,Y,h=>by
  have hc:∀ y z,T7 m i D x0 l=some (y,z) -> (z=none/\l = .v y/\y.plain=true) \/ (z=none/\l = .v .nil/\y = .nil/\x0.aC=false) \/ (z=none/\l = .own [20001+1000*i+D]/\y=x0/\y.plain=false/\(y.aC&&y.iL)=true/\20001+1000*i+D<60000) \/ (∃ q,z=some q/\l = .own [q]/\m q=some (.sl y)/\y.aC=false):=by
   intro y z C;unfold T7 at C;split at C
   ·rename_i x;cases hp:x.plain with
    | false=>
     rw[hp,cond_false]at C;cases E:(!x.iL && !x0.aC)with
     |false=>rw[E]at C;cases C
     | true=>
      rw[E,cond_true]at C;simp only[Option.some.injEq,Prod.mk.injEq]at C;obtain⟨rfl,rfl⟩:=C;rw[Bool.and_eq_true,Bool.not_eq_true',Bool.not_eq_true']at E;have hx:x = .nil:=by
       cases x<;>first|rfl|(exact absurd E.1 (by simp[V.iL]))
      subst hx;exact .inr (.inl ⟨rfl,rfl,rfl,E.2⟩)
    |true =>grind
   ·rename_i q;split at C
    ·rename_i y1 hy1;cases hf:y1.aC with
     | true=>
      rw[hf,cond_true]at C;cases E:(!x0.plain&&(x0.aC&&x0.iL)&&Nat.beq q (20001+1000*i+D)&&Nat.blt q 60000)with
      |false=>rw[E]at C;cases C
      | true=>
       rw[E,cond_true]at C;simp only[Option.some.injEq,Prod.mk.injEq]at C;obtain⟨rfl,rfl⟩:=C;rw[Bool.and_eq_true,Bool.and_eq_true,Bool.and_eq_true,Bool.not_eq_true']at E;obtain⟨⟨⟨b1,b2⟩,b3⟩,b4⟩:=E;obtain rfl:=Nat.eq_of_beq_eq_true b3;exact .inr (.inr (.inl ⟨rfl,rfl,rfl,b1,b2,by have:=Nat.le_of_ble_eq_true b4;omega⟩))
     | false=>
      rw[hf,cond_false]at C;cases hl:y1.loc with
      |false=>rw[hl]at C;cases C
      |true =>grind
    ·cases C
   ·cases C
  unfold Av at h;split at h
  ·rename_i y T9 Ua hy F9;simp only[Option.some.injEq,Prod.mk.injEq]at h;obtain⟨rfl,rfl⟩:=h;obtain⟨h1,h2,h3⟩:=T8 xs U (D+1) T9 Ua F9
   refine⟨by simp[h1],by simp[h2],λj y' L=>?_⟩
   cases j with
   | zero=>
    simp at L;subst L;refine⟨l,x0,rfl,rfl,?_⟩;rcases hc y none hy with ⟨_,O,T⟩|⟨_,O,T,Z⟩|⟨_,O,T,Z,e4,e5⟩|⟨q,hq,_⟩
    ·simp[*]
    ·simp[*]
    ·exact .inr (.inr (.inl ⟨O,T,Z,e4,e5⟩))
    ·cases hq
   | succ j=>
    obtain⟨l',x',g1,g2,g3⟩:=h3 j y' (by simpa using L);rw[show D+1+j=D+(j+1) by omega]at g3;exact⟨l',x',by simpa using g1,by simpa using g2,g3⟩
  ·rename_i y q T9 Ua hy F9;simp only[Option.some.injEq,Prod.mk.injEq]at h;obtain⟨rfl,rfl⟩:=h;obtain⟨h1,h2,h3⟩:=T8 xs U (D+1) T9 Ua F9
   refine⟨by simp[h1],by simp[h2],λj y' L=>?_⟩
   cases j with
   | zero=>
    simp at L;subst L;refine⟨l,x0,rfl,rfl,?_⟩;rcases hc y (some q) hy with ⟨e0,_⟩|⟨e0,_⟩|⟨e0,_⟩|⟨q',hq,O,T,Z⟩
    ·cases e0
    ·cases e0
    ·cases e0
    ·injection hq with hq;subst hq;exact .inr (.inr (.inr ⟨q,O,T,Z,.head _⟩))
   | succ j=>
    obtain⟨l',x',g1,g2,g3⟩:=h3 j y' (by simpa using L);rw[show D+1+j=D+(j+1) by omega]at g3;exact⟨l',x',by simpa using g1,by simpa using g2,g3.imp id (λg=>g.imp id (λg=>g.imp id λ⟨q',O,T,Z,e4⟩=>⟨q',O,T,Z,.tail _ e4⟩))⟩
  ·cases h
def ME{w1:World}{Ub:Nat -> Loc}{m:Nat -> ah aU}(T:∀ r,20000 <= r -> r<60000 -> ρ r=Ub r)(U:∀ r x,m r=some x -> dx w w1.heap.size aj ρ r x):
  ∀(ins:aa In) (i Z:Nat) (outs:aa In) (Gl:aa (Nat×Nat)),x7 m i Z ins=some (outs,Gl) -> (∀p∈Gl,rs.lookup p.1=some p.2) -> Gk w1 Ub i ins -> pq w1 w (dI aj rs nm) Ub nm i Z ins outs
 | [],i,Z,outs,Gl,h,L,he=>by
  simp only[x7,Option.some.injEq,Prod.mk.injEq]at h;obtain⟨rfl,rfl⟩:=h;trivial
 | .az cs :: r,i,Z,outs,Gl,h,L,he=>by
  unfold x7 at h;cases hi:Nat.blt (nF i) 60000 with
  |false=>grind
  | true=>
   rw[hi,cond_true]at h;have hi:=Nat.le_of_ble_eq_true hi;split at h
   ·rename_i ls Uc;split at h
    ·rename_i dK rs1 os At h1 h2;simp only[Option.some.injEq,Prod.mk.injEq]at h;obtain⟨rfl,rfl⟩:=h;obtain⟨⟨b,off,cells,e,aa5,TT,vL⟩,Gm⟩:=he;obtain⟨k1,k2,k3⟩:=T8 _ _ _ _ _ h1
     refine⟨?_,ME T U r (i+1) _ os At h2 (λp D=>L p (.tail _ (List.mem_append_right _ D))) Gm⟩
     have O:=U _ _ Uc;have Ud:=T (nF i) (by unfold nF;omega) (by omega);generalize C:aU.az ls=x at O;cases O with
     |sl=>cases C
     |mp=>cases C
     |gh=>cases C
     | az b' FP vM e' ls' us E hl hh hs hc=>
      injection C with C;subst C;rw[Ud,aa5]at E;injection E with e1 e2;subst e1 e2
      refine⟨b,off,cells,vM,e,e',aa5,TT,hh,?_,by rw[k1,<- k2];exact hs,k1,λj y hy=>?_⟩
      ·have:=L _ (List.Mem.head _);simp[dI,hl,this]
      ·obtain⟨l,x0,g1,g2,g3⟩:=k3 j y hy;obtain⟨c1,c2⟩:=hc j l g1;refine⟨_,c1,?_⟩;rw[Nat.zero_add]at g3;rcases g3 with ⟨rfl,D⟩ | ⟨rfl,rfl,Mt⟩ | ⟨rfl,rfl,D,xO,cU⟩ | ⟨q,rfl,hq,hf,x4⟩
       ·exact .inl ⟨D,λ_ _ _ _=>c2.2.ru D⟩
       ·exact .inr (.inl ⟨rfl,by have h9:=c2.2;generalize us j=u9 at h9 ⊢;cases h9;rfl,x0,g2,Mt⟩)
       ·rw[Bool.and_eq_true]at xO;obtain⟨hf,hs0⟩:=xO;obtain⟨u,hu,ano⟩:=vL j y g2 D hf;refine .inr (.inr (.inl ⟨D,hf,hs0,⟨y,g2,.same _⟩,?_⟩));have Y:=c2.2;have Ue:=T (20001+1000*i+j) (by omega) cU;simp only[cH,Ue,ano]at Y;simp_all
       ·refine .inr (.inr (.inr ⟨hf,?_⟩));have O:=U _ _ hq;generalize C:aU.sl y=x at O;cases O with
        |az=>cases C
        |mp=>cases C
        |gh=>cases C
        | sl v y' E hr=>
         injection C with C;subst C;have Y:=c2.2;simp only[cH,E]at Y;injection Y with Y;rw[<- Y];exact RV.dI (p:=[]) hr (L _ (.tail _ (List.mem_append_left _ x4)))
    ·cases h
   ·cases h
 | .sl y :: r,i,Z,outs,Gl,h,L,he=>by
  unfold x7 at h;cases hg:y.gone with
  | true=>
   rw[hg,cond_true]at h;split at h
   next os At h2=>simp at h;obtain⟨rfl,rfl⟩:=h;exact⟨.inl rfl,ME T U r _ _ os At h2 L he.2⟩
   ·cases h
  |false=>
  rw[hg,cond_false]at h;cases hi:Nat.blt (nF i) 60000 with
  |false=>grind
  | true=>
   rw[hi,cond_true]at h;have hi:=Nat.le_of_ble_eq_true hi;split at h
   ·rename_i y' F7;cases hl:(y'.loc && !y'.aC)with
    |false=>grind
    | true=>
     rw[hl,cond_true]at h;split at h
     ·rename_i os At h2;simp only[Option.some.injEq,Prod.mk.injEq]at h;obtain⟨rfl,rfl⟩:=h;obtain⟨⟨v,hv⟩,Gm⟩:=he
      refine⟨.inr ⟨v,hv,?_⟩,ME T U r (i+1) _ os At h2 (λp D=>L p (.tail _ D)) Gm⟩
      have Ud:=T (nF i) (by unfold nF;omega) (by omega);have O:=U _ _ F7;generalize C:aU.sl y'=x at O;cases O with
      |az=>cases C
      |mp=>cases C
      |gh=>cases C
      | sl v' y'' E hr=>
       injection C with C;subst C;rw[Ud,hv]at E;injection E with E;subst E;exact RV.dI (p:=[]) hr (L _ (.head _))
     ·cases h
   ·cases h
def anp{w1:World}{Z:Nat -> Loc}{fn:Func}{U:aa In}{k:aa In -> eY -> ah X}(hw:w0.w=w1)(hF:∀ r,20000 <= r -> r<60000 -> w0.F r=some (Z r))(he:Gk w1 Z 0 U)(h:Gj P σ fn.results U k=some r):
  ∃outs res,k outs res=some r /\ ∀aj ρ a w,Rl w0 N aj ρ σ a w -> ∀nm,∃v ax,(results fn a.tmps).run P w = .ok v w/\(∀b k,ax b=some k -> (w0.heap.size <= b \/ w0.L b≠none)/\b<w.heap.size/\k≠[])/\oe w w0.heap.size ax nm res v/\pq w1 w ax Z nm 0 res.len U outs:=by
 unfold Gj at h;obtain⟨ps,E,pn⟩:=Gh (w0:=w0) (N:=N) _ _ h;clear h;split at E
 ·rename_i qs Uf T4;split at E
  ·rename_i os Ug hos;cases ho:once (Uf++Ug)with
   |false=>rw[ho]at E;cases E
   | true=>
    rw[ho,cond_true]at E;generalize aa6:Uf++Ug=rs at ho;have iw:∀ p∈rs,rs.lookup p.1=some p.2:=by
     intro p hp;have:=List.all_eq_true.1 ho p hp;obtain⟨n,hn,he⟩:=(Option.any_eq_true _ _).1 this;simp_all
    have core:∀ aj ρ a w,Rl w0 N aj ρ σ a w -> ∀ nm:Nat -> Nat,∃ C:aa Value,(fn.results.mapM (rI a.tmps)).run P w = .ok C.toArray w/\(∀ b k,dI aj rs nm b=some k -> (w0.heap.size <= b \/ w0.L b≠none)/\b<w.heap.size/\k≠[])/\iu w w0.heap.size (dI aj rs nm) nm 0 qs C /\
      pq w1 w (dI aj rs nm) Z nm 0 (qs.map λp=>p.2.length).sum U os:=by
     intro aj ρ a w T nm;obtain⟨C,cV,hl,hv⟩:=pn aj ρ a w T
     refine⟨C,?_,λb k O=>?_,T3 T.root ps 0 qs Uf C T4 (λp hp=>iw p (by rw[<- aa6];exact List.mem_append_left _ hp)) hl hv,
      ME (λr h1 E=>T.fix r _ (hF r h1 E)) (by rw[<- hw];exact T.root) U 0 _ os Ug hos (λp hp=>iw p (by rw[<- aa6];exact List.mem_append_right _ hp)) he⟩
     ·rw[Array.mapM_eq_mapM_toList];simp[cV]
     ·unfold dI at O;split at O
      ·cases O
      ·rename_i k' ny;have:=T.cL b k' ny;split at O
       ·cases O
       ·cases rJ:rs.lookup _ with
        |none=>rw[rJ]at O;cases O
        | some n=>
         rw[rJ]at O;injection O with O;subst O;simp_all
    have jR:∀ (tmps:Array Value),results fn tmps=(do let C <- fn.results.mapM (rI tmps);pure (if h:C.size=1 then C[0]else .tuple C)):=λtmps=>by
     unfold results;congr 1
    split at E
    ·rename_i p
     refine⟨_,_,E,λaj ρ a w T nm=>?_⟩
     obtain⟨C,cV,jA,D,Y⟩:=core aj ρ a w T nm;have Y:pq w1 w (dI aj rs nm) Z nm 0 (eY.one p).len U os:=by simpa [eY.len]using Y
     match C,D with
     |[v],D=>exact⟨v,_,by rw[jR,Sem.run_bind,cV];rfl,jA,D,Y⟩
     |[],D=>exact D.elim
     |_::_::_,D=>exact D.2.elim
    ·rename_i cJ
     refine⟨_,_,E,λaj ρ a w T nm=>?_⟩
     obtain⟨C,cV,jA,D,Y⟩:=core aj ρ a w T nm;have fN:C.toArray.size≠1:=by
      intro e;clear Y;have e:C.length=1:=by simpa using e
      match qs,C,D,cJ,e with
      |[q],[v],_,cJ,_=>exact cJ q rfl
      |[],[v],D,_,_=>exact D.elim
      |_::_::_,[v],D,_,_=>exact D.2.elim
     refine⟨.tuple C.toArray,_,?_,jA,⟨C.toArray,rfl,D⟩,Y⟩;rw[jR,Sem.run_bind,cV,Result.andThen_ok];simp only[fN,dif_neg,not_false_eq_true,Sem.run_pure]
  ·cases E
 ·cases E
def aa7{i:Nat}:∀ (cs:aa V) (D:Nat) (m:Nat -> ah aU) (r:Nat) (x:aU),T5 i D cs m r=some x -> m r=some x \/ ∃ j y,cs[j]?=some y/\y.plain=false/\r=nC i (D+j) y/\x = .sl y
 |[],D,m,r,x,h=>.inl h
 | c :: cs,D,m,r,x,h=>by
  rcases aa7 cs _ _ r x h with C|⟨j,y,C,O,T,U⟩
  ·cases E:c.plain with
   |true=>simp_all
   | false=>
    rw[E,cond_false]at C;by_cases L:r=nC i D c
    ·subst L;rw[bR]at C;injection C with C;exact .inr ⟨0,c,rfl,E,rfl,C.symm⟩
    ·rw[cw _ _ _ L]at C;simp_all
  ·exact .inr ⟨j+1,y,by simpa using C,O,by rw[T];congr 1;omega,U⟩
def nH.roots:∀ (C:aa In) (i:Nat) (m:Nat -> ah aU),nH w B aj ρ i C -> (∀ r x,m r=some x -> dx w B aj ρ r x) -> ∀ r x,MD i C m r=some x -> dx w B aj ρ r x
 |[],i,m,_,L,r,x,h=>L r x h
 | .az cs :: C,i,m,O,L,r,x,h=>by
  obtain⟨Y,Z,T⟩:=O
  refine nH.roots C _ _ T (λr x E=>?_) r x h
  rcases aa7 cs 0 _ r x E with U|⟨j,y,g1,g2,g3,g4⟩
  ·by_cases D:r=nF i
   ·subst D;rw[bR]at U;simp_all
   ·rw[cw _ _ _ D]at U;simp_all
  ·simp_all
 | .sl y :: C,i,m,O,L,r,x,h=>by
  obtain⟨Y,T⟩:=O
  refine nH.roots C _ _ T (λr x E=>?_) r x h
  by_cases D:r=nF i
  ·subst D;rw[bR]at E;simp_all
  ·rw[cw _ _ _ D]at E;simp_all
def Uh{i:Nat}:∀ (cs:aa V) (C j:Nat) x,cs[j]?=some x->(x6 i C cs)[j]?=some (x5 i (C+j) x)
 |[],C,j,x,h=>by simp at h
 |c::cs,C,0,x,h=>by simp at h;subst h;rfl
 | c :: cs,C,j+1,x,h=>by
  simp only[x6,List.getElem?_cons_succ];rw[Uh cs (C+1) j x (by simpa using h)];congr 2;omega
def nH.Ui:∀ (C:aa In) (i:Nat),nH w B aj ρ i C -> Gk w ρ i C
 |[],_,_=>trivial
 | .az cs :: C,i,L=>by
  obtain⟨E,_,O⟩:=L;refine⟨?_,nH.Ui C (i+1) O⟩;generalize D:aU.az (x6 i 0 cs)=x at E;cases E with
  |sl=>cases D
  |mp=>cases D
  |gh=>cases D
  | az b off cells e ls us Y hl Z hs hc=>
   injection D with D;subst D
   refine⟨b,off,cells,e,Y,Z,λj x hj hp hf=>?_⟩
   obtain⟨c1,T⟩:=hc j _ (Uh cs 0 j x hj);rw[Nat.zero_add]at T;refine⟨_,c1,?_⟩;have e1:x5 i j x = .own [20001+1000*i+j]:=by simp[x5,hp,nC,hf]
   rw[e1]at T;have U:=T.2;simp only[cH]at U;split at U
   ·simp_all
   ·cases U
 | .sl y :: C,i,L=>by
  obtain⟨E,O⟩:=L;refine⟨?_,nH.Ui C (i+1) O⟩;cases E with
  |sl v y' Y hr=>simp_all
end
def cX(n:Nat):aa Nat->Bool
 |[]=>false
 |m::l=>Nat.beq n m ||cX n l
def vN{n:Nat}:∀ {l:aa Nat},cX n l=true ↔ n∈l
 |[]=>by simp[cX]
 | m :: l=>by
  simp only[cX,Bool.or_eq_true,List.mem_cons,vN];simp_all
def aa8{n:Nat}{l:aa Nat}(h:cX n l=false):n ∉ l:=λk=>by rw[vN.2 k]at h;cases h
def fC(k l:aa Nat):Bool:=match k.getLast? with
 |some r=>cX r l
 |none=>false
def Db(ns cn:aa Nat):lu:=⟨λk=>fC k cn ||(fC k ns && !(Nat.beq k.length 1)),λk=>fC k cn ||fC k ns,λr=>cX r cn⟩
def Lf.dZ(ns cn:aa Nat):Lf->Lf:=Lf.cc (Db ns cn).l
def A.dZ(ns cn:aa Nat):A->A:=A.cc (Db ns cn)
def aU.dZ(ns cn:aa Nat):aU->aU:=aU.cc (Db ns cn)
def S.dZ(σ:S)(ns cn:aa Nat)(nr:aa (Nat×aU)):S:=⟨λk=>(σ.t k).dZ ns cn,λr=>match nr.lookup r with
 |some x=>some x
 |none=>bif cX r ns ||cX r cn then none else (σ.m r).map (aU.dZ ns cn)⟩
structure rM (w w':World) (aj cZ:bw) (ρ dY:Nat->Loc) (ns cn:List Nat):Prop where
 size:w.heap.size<=w'.heap.size
 same:∀b,b<w.heap.size->(∀k,aj b=some k->fC k ns=false)->w'.heap[b]?=w.heap[b]?/\cZ b=aj b
 dX:∀r,cX r cn=false->dY r=ρ r
 aj:∀b k,aj b=some k->b<w.heap.size/\k≠[]
section
variable {P:Program} {w w':World} {w0:Wd} {B N:Nat} {aj cZ ax:bw} {ρ dY:Nat->Loc} {σ:S} {a:Act} {X:Type} {d:Nat} {r:X} {ns cn:aa Nat}
def aa9{j i s:Nat}{q l:aa Nat}(h:q≠[]):fC (j :: i :: s :: q) l=fC q l:=by
 cases q with
 |nil=>simp_all
 |cons x q=>simp[fC]
def rM.tr(C:rM w w' aj cZ ρ dY ns cn):Tr w w' aj cZ ρ dY (λk=>fC k ns) (λr=>cX r cn):=
 ⟨C.size,λb O D=>let e:=C.same b O (λk E=>by rw[D]at E;cases E);⟨e.1,e.2.trans D⟩,λb k D E=>let e:=C.same b (C.aj b k D).1 (λT L=>by rw[D]at L;injection L with L;subst L;exact E);⟨e.1,e.2.trans D⟩,C.dX,λj i s x q=>aa9 (by simp),λb O=>absurd rfl (C.aj b [] O).2⟩
def Uj:(Db ns cn).OK (λk=>fC k ns) (λr=>cX r cn):=by
 refine⟨λk D=>?_,λk D=>?_,λ_ h=>h⟩
 ·obtain⟨E,C⟩:=Bool.or_eq_false_iff.1 D;refine⟨?_,E⟩;cases L:fC k ns with
  |false=>exact .inr rfl
  | true=>
   rw[L,Bool.true_and,Bool.not_eq_false']at C;exact .inl (Nat.eq_of_beq_eq_true C)
 ·obtain⟨E,C⟩:=Bool.or_eq_false_iff.1 D;exact⟨C,E⟩
def RV.rN(C:rM w w' aj cZ ρ dY ns cn){q:aa Nat}{x:V}{v:Value}(h:RV w B aj q x v)(D:fC q ns=false\/x.aC=true):RV w' B cZ q x v:=h.tr C.tr D.symm
def RA.rN(C:rM w w' aj cZ ρ dY ns cn){x:A}{u:Value}(h:RA w B aj ρ x u):RA w' B cZ dY (x.dZ ns cn) u:=h.tr C.tr Uj
def dm.rN(C:rM w w' aj cZ ρ dY ns cn){x:Lf}{u:Value}(h:dm w B aj ρ x u):dm w' B cZ dY (x.dZ ns cn) u:=h.tr C.tr Uj
def dx.rN(C:rM w w' aj cZ ρ dY ns cn){n:Nat}{x:aU}(h:dx w B aj ρ n x)(D:cX n ns=false)(E:cX n cn=false):dx w' B cZ dY n (x.dZ ns cn):=h.tr C.tr Uj D E
def Rl.rN(h:Rl w0 N aj ρ σ a w)(D:rM w w' aj cZ ρ dY ns cn)(O:gT w0 w w')(T:∀ b k,cZ b=some k -> (w0.heap.size <= b \/ w0.L b≠none)/\b<w'.heap.size/\k≠[])(Z:∀ r,cX r cn=true -> w0.F r=none){nr:aa (Nat×aU)}
  (rB:∀r x,nr.lookup r=some x -> dx w' w0.heap.size cZ dY r x):Rl w0 N cZ dY (σ.dZ ns cn nr) a w':=by
 refine⟨h.below.trans O,T,λr x C=>?_,λk=>(h.tmp k).rN D,h.size,h.defers,λr l U=>?_,h.cT⟩
 ·simp only[S.dZ]at C;split at C
  ·simp_all
  ·cases hm:(cX r ns || cX r cn)with
   |true=>simp_all
   | false=>
    rw[hm]at C;rw[Bool.or_eq_false_iff]at hm;cases E:σ.m r with
    |none=>simp_all
    | some y=>
     rw[E]at C;injection C with C;subst C;exact(h.root r y E).rN D hm.1 hm.2
 ·have Y:cX r cn=false:=by
   grind
  exact(D.dX r Y).trans (h.fix r l U)
end
inductive Mu where
 |az (r:Nat) (cs:List Lf) (vs:List (V×Option Nat))
 |sl (q:Nat) (y:V)
def Mu.root:Mu->Nat
 |.az r _ _=>r
 |.sl q _=>q
def ya(m:Nat->ah aU):Lf->ah (V×ah Nat)
 |.v x=>some (x.fA,none)
 | .own [q]=>match m q with
  |some (.sl y)=>bif y.aC then some (y.fA,none)else some (y,some q)
  |_=>none
 |_=>none
def rO(m:Nat->ah aU):aa Lf->ah (aa (V×ah Nat))
 |[]=>some []
 | l :: C=>match ya m l,rO m C with
  |some v,some D=>some (v::D)
  |_,_=>none
def Aw(σ:S):PK->A->ah (ah Mu)
 |.v _ _,_=>some none
 | .p _ _ off,.aG r j=>(match (bif Nat.beq j off then σ.m r else none)with
  | some (.az cs)=>(match rO σ.m cs with
   |some C=>bif Nat.blt cs.length 999 then some (some (.az r cs C))else none
   |none=>none)
  |_=>none)
 | .s _ _,.lf (.own [q])=>(match σ.m q with
  |some (.sl y)=>bif y.aC then none else some (some (.sl q y))
  |_=>none)
 |_,_=>none
def lF(σ:S):aa PK->aa Operand->ah (aa Mu)
 |[],[]=>some []
 | p :: ps,x :: xs=>(match Aw σ p (aH σ x),lF σ ps xs with
  |some (some D),some C=>some (D::C)
  |some none,some C=>some C
  |_,_=>none)
 |_,_=>none
def Gn(i:Nat):Nat->aa (V×ah Nat)->aa (Nat×Nat)
 |_,[]=>[]
 |j,(_,some q)::C=>(q,60000+1000*i+j)::Gn i (j+1) C
 |j,(_,none)::C=>Gn i (j+1) C
def mB:Nat->aa Mu->aa (Nat×Nat)
 |_,[]=>[]
 |i,.az r _ D::C=>(r,nF i)::(Gn i 0 D++mB (i+1) C)
 |i,.sl q _::C=>(q,nF i)::mB (i+1) C
def Uk(ns:aa Nat):Lf->Bool
 |.own k=>!fC k ns
 |_=>true
def vO{X:Type}(σ:S)(ns:aa Nat):aa Lf->(aa V->ah X)->ah X
 |[],k=>k []
 |x::xs,k=>bif Uk ns x then nj σ x λy=>vO σ ns xs λys=>k (y.fA::ys)else none
def tV{X:Type}(σ:S)(ns:aa Nat)(x:A)(k:Pt->ah X):ah X:=
 match x with
 |.lf y=>vO σ ns [y] λC=>k (false,C)
 |.agg ys=>vO σ ns ys λC=>k (true,C)
 |.ld f (c::cs)=>k (false,.bool false::.int .i64 (f:Int)::c.fA::cs.map V.fA)
 | .fn f [(r,j)]=>bif cX r ns then none else (match σ.m r with
  | some (.az cs)=>(match oX (cs.drop j)with
   |some (c::C)=>k (false,.bool false::.int .i64 (f:Int)::c::C)
   |_=>none)
  |_=>none)
 |_=>none
def mC{X:Type}(σ:S)(ns:aa Nat):(ps:aa PK)->aa Operand->aa Mu->(kA ps->ah X)->ah X
 |[],[],[],k=>k ()
 | .v b t :: ps,x :: xs,C,k=>tV σ ns (aH σ x) λp=>bif p.1==b then (match dec t 0 p.2 with
  |some y=>mC σ ns ps xs C λys=>k (y,ys)
  |none=>none)else none
 | .p t g _ :: ps,_ :: xs,.az _ _ D :: C,k=>(match (bif Nat.beq (g % 2) 0 then dec t g (D.map (·.1))else none)with
  |some y=>mC σ ns ps xs C λys=>k (y,ys)
  |none=>none)
 | .s t g :: ps,_ :: xs,.sl _ y :: C,k=>(match (bif Nat.beq (g % 2) 0 then y.eo t (g+2)else none)with
  |some z=>mC σ ns ps xs C λys=>k (z,ys)
  |none=>none)
 |_,_,_,_=>none
def vP(w:World)(ρ:Nat->Loc)(rs:aa Nat):Nat->Loc:=λn=>
 if n<60000 then (if (n-20000) % 1000=0 then ρ (rs.getD ((n-20000) / 1000) 0)else (match ρ (rs.getD ((n-20000) / 1000) 0)with
  |.az b off=>.dw ((w.cell? ⟨b,off+((n-20000) % 1000-1),none⟩).getD undef)
  |.dw v=>.dw v
  |.bN us=>.bN us))
 else (match ρ (rs.getD ((n-60000) / 1000) 0)with
  |.az b off=>.dw ((w.cell? ⟨b,off+(n-60000) % 1000,none⟩).getD undef)
  |.dw v=>.dw v
  |.bN us=>.bN us)
def Gq{w:World}{ρ:Nat -> Loc}{rs:aa Nat}{i r:Nat}(h:rs[i]?=some r)(hi:i<40):vP w ρ rs (nF i)=ρ r:=by
 have C:nF i<60000:=by unfold nF;omega
 have D:(nF i-20000) % 1000=0:=by unfold nF;omega
 have E:(nF i-20000) / 1000=i:=by unfold nF;omega
 have L:rs.getD i 0=r:=by rw[List.getD_eq_getElem?_getD,h];rfl
 unfold vP;simp_all
def anq{w:World}{ρ:Nat -> Loc}{rs:aa Nat}{i j r b off:Nat}{u:Value}{x:V}(h:rs[i]?=some r)(hi:i<40)(C:j<999)(D:ρ r = .az b off)(E:w.cell? ⟨b,off+j,none⟩=some u):vP w ρ rs (nC i j x) = .dw u:=by
 have L:rs.getD i 0=r:=by rw[List.getD_eq_getElem?_getD,h];rfl
 unfold vP nC;cases x.aC with
 |true =>grind
 |false =>grind
def V.MF:V->Bool
 |.sl _ o _ _=>Nat.beq (o % 2) 0
 |_=>true
section
variable {P:Program} {w w':World} {w0:Wd} {B N:Nat} {aj cZ ax:bw} {ρ dY:Nat->Loc} {σ:S} {a:Act} {X:Type} {d:Nat} {r:X} {ns cn:aa Nat}
def RV.reB{B':Nat}{q:aa Nat}{x:V}{v:Value}(h:RV w B aj q x v)(D:x.MF=true):RV w B' aj q x v:=by
 induction h with
 |int=>exact .int _ _ _
 |bool=>exact .bool _ _
 |str=>exact .str _ _
 |nil=>exact .nil _
 |dH=>exact .dH _ _ _
 |eF=>exact .eF _ _ _ _ _ (by first|assumption|omega)
 |eP=>exact .eP _ _ _ _ _ (by first|assumption|omega)
 | aC q t o U l b off cap u Y E Z h1 gH L hr O=>
  have D:=Nat.eq_of_beq_eq_true D;have ho0:o=0:=by omega
  subst ho0
  refine .aC _ _ _ _ _ _ _ _ u Y E Z (by omega) gH L (λi h j x C=>O i h j x C ?_)
  have:=xo t 0 l[i] x (List.mem_of_getElem? C);cases x with
  | sl t' T q' l'=>
   have:T=0:=by simpa [V.gr]using this
   subst this;rfl
  |_=>rfl
 | own q t o U l b cap cs u E hh hs hn hm L hr O=>
  have D:=Nat.eq_of_beq_eq_true D
  refine .own _ _ _ _ _ _ _ cs u E hh hs hn hm L (λi h j x C=>O i h j x C ?_)
  have:=xo t o l[i] x (List.mem_of_getElem? C);cases x with
  | sl t' T q' l'=>
   have:T=o:=by simpa [V.gr]using this
   show Nat.beq _ 0=true;simp_all
  |_=>rfl
def RV.out{q O:aa Nat}{x:V}{v:Value}(h:RV w B aj q x v)(Z:∀ b,aj b=none -> ax b=none)(h2:∀ b k,aj b=some k -> k≠[]/\(fC k ns=false -> ax b=none))(hq:x.aC=true \/ fC q ns=false){B':Nat}:RV w B' ax O x.fA v:=by
 induction h generalizing O with
 |int=>exact .int _ _ _
 |bool=>exact .bool _ _
 |str=>exact .str _ _
 |nil=>exact .nil _
 |dH=>exact .dH _ _ _
 |eF=>exact .eF _ _ _ _ _ (by first|assumption|omega)
 |eP=>exact .eP _ _ _ _ _ (by first|assumption|omega)
 | aC q t o qn l b off cap u ho E hb h1' gH T hr L=>
  refine .aC _ _ _ _ _ _ _ _ u (by omega) (Z b E) hb (by omega) gH (λi h j x C=>?_) (λi h j x C=>?_)
  ·obtain⟨y,D,_⟩:=vk t o l[i] j x C;simp_all
  ·obtain⟨y,D,rfl⟩:=vk t o l[i] j x C;exact L i h j y D (.inl (qi t o l[i] ho j y D))
 | own q t o qn l b cap cs u E U hs hn hm T hr L=>
  have Y:fC q ns=false:=by
   rcases hq with hq|hq
   ·simp[V.aC]at hq;omega
   ·exact hq
  obtain⟨cJ,oc⟩:=h2 b q E
  refine .aC _ _ _ _ _ _ _ _ u (by omega) (oc Y) (Array.getElem?_eq_some_iff.1 U).1 (by omega) hn (λi h j x C=>?_) (λi h j x C=>?_)
  ·obtain⟨y,D,_⟩:=vk t o l[i] j x C;have:=T i h j y D;rw[Nat.zero_add,cell_of_row w b _ cs _ _ U];exact this
  ·obtain⟨y,D,rfl⟩:=vk t o l[i] j x C;exact L i h j y D (.inr (by rw[aa9 cJ];exact Y))
def anr{x:Lf}{k:V -> ah X}(h:nj σ x k=some r):∃ y,k y=some r /\ ∀ aj ρ a w,Rl w0 N aj ρ σ a w -> ∀ u,dm w w0.heap.size aj ρ x u -> ∃ q,(x = .own q \/ y.aC=true)/\RV w w0.heap.size aj q y u:=by
 cases x with
 |v y=>exact⟨y,h,λaj ρ a w D u C=>⟨[],.inr C.1,C.2⟩⟩
 |dead=>cases h
 | own q=>
  obtain⟨y,E,L⟩:=qm q k h
  refine⟨y,L,λaj ρ a w D u C=>⟨q,.inl rfl,?_⟩⟩
  obtain⟨v,O,T⟩:=E.ok D.root;have:v=u:=by
   have U:=C.2;simp_all
  simp_all
structure Ax (ns:List Nat) (aj ax:bw):Prop where
 none:∀b,aj b=none->ax b=none
 rest:∀b k,aj b=some k->k≠[]/\(fC k ns=false->ax b=Option.none)
def Ul:∀ (xs:aa Lf) (k:aa V -> ah X),vO σ ns xs k=some r -> ∃ C,k C=some r/\C.length=xs.length /\ ∀ aj ρ a w ax,Rl w0 N aj ρ σ a w -> Ax ns aj ax -> ∀ (j:Nat) x y u,xs[j]?=some x -> C[j]?=some y -> dm w w0.heap.size aj ρ x u -> RV w w.heap.size ax [] y u
 |[],k,h=>⟨[],h,rfl,λ_ _ _ _ _ _ _ j x y u T=>by simp at T⟩
 | x :: xs,k,h=>by
  unfold vO at h;cases D:Uk ns x with
  |false=>simp_all
  | true=>
   rw[D,cond_true]at h;obtain⟨y,U,Y⟩:=anr (w0:=w0) (N:=N) h;obtain⟨ys,Z,hl,hr⟩:=Ul xs _ U
   refine⟨y.fA::ys,Z,by simp[hl],λaj ρ a w ax hR E j x' y' u L O hu=>?_⟩
   cases j with
   | zero=>
    simp at L O;subst L O;obtain⟨q,hq,iM⟩:=Y aj ρ a w hR u hu;refine iM.out E.none E.rest ?_;rcases hq with rfl|hq
    ·exact .inr (by simpa [Uk]using D)
    ·simp_all
   |succ j=>grind
inductive PM (w:World) (ax:bw):Pt->Value->Prop
 |v (p:Pt) (u:Value) (h:PV w w.heap.size ax (λ_=>[]) p u):PM w ax p u
 |f (g:Nat) (c:V) (cs:List V) (u:Value) (h:RF w w.heap.size ax (c::cs) u):PM w ax (false,.bool false::.int .i64 (g:Int)::c::cs) (.func (.func g) #[] #[u])
def ans{g:Nat}{c:V}{cs ys:aa V}(D:(V.bool false :: .int .i64 (g:Int) :: c :: cs).length=ys.length)(h:∀ (j:Nat) x z,(V.bool false :: .int .i64 (g:Int) :: c :: cs)[j]?=some x -> ys[j]?=some z -> Wk x z):∃ C dK,ys = .bool false :: .int .i64 (g:Int) :: C :: dK/\jz (c :: cs) (C :: dK):=by
 match ys,D,h with
 | a :: b :: C :: dK,D,h=>
  have E:=h 0 _ a rfl rfl;have L:=h 1 _ b rfl rfl;cases E;cases L;exact⟨C,dK,rfl,by simpa using D,λj x z O T=>h (j+2) x z (by simpa using O) (by simpa using T)⟩
def RF.rP{cs C:aa V}{u:Value}(h:RF w B aj cs u)(E:jz cs C)(O:∀ (j:Nat) z,C[j]?=some z->z.aC=true):RF w B aj C u:=by
 obtain⟨b,off,rfl,T,U,Y⟩:=h
 refine⟨b,off,rfl,T,U,λj x D=>?_⟩
 have L:j<cs.length:=by rw[E.1];exact(List.getElem?_eq_some_iff.1 D).1
 obtain⟨_,v,Z,h5⟩:=Y j _ (List.getElem?_eq_getElem L);exact⟨O j x D,v,Z,h5.wk (E.2 j _ x (List.getElem?_eq_getElem L) D)⟩
def RF.fA{cs:aa V}{u:Value}(h:RF w B aj cs u)(D:∀ b,aj b=none -> ax b=none)(L:∀ b k,aj b=some k -> k≠[]/\(fC k ns=false -> ax b=none)){B':Nat}:RF w B' ax (cs.map V.fA) u:=by
 obtain⟨b,off,rfl,O,T,U⟩:=h
 refine⟨b,off,rfl,O,D b T,λj x C=>?_⟩
 rw[List.getElem?_map]at C;cases E:cs[j]? with
 |none=>simp_all
 | some y=>
  rw[E]at C;injection C with C;subst C;obtain⟨Y,v,Z,h5⟩:=U j y E;exact⟨V.ams y,v,Z,h5.out D L (.inl Y)⟩
def ant{x:A}{k:Pt -> ah X}(h:tV σ ns x k=some r):∃ p,k p=some r /\ ∀ aj ρ a w ax,Rl w0 N aj ρ σ a w -> Ax ns aj ax -> ∀ u,RA w w0.heap.size aj ρ x u -> PM w ax p u:=by
 unfold tV at h;split at h
 ·rename_i y;obtain⟨vs,U,O,Y⟩:=Ul (w0:=w0) (N:=N) _ _ h
  refine⟨_,U,λaj ρ a w ax L C u D=>.v _ _ ⟨#[u],rfl,by simp[O],λj x E=>?_⟩⟩
  have T:j=0:=by
   grind
  subst T;exact⟨u,rfl,Y aj ρ a w ax L C 0 y x u rfl E D⟩
 ·rename_i ys;obtain⟨vs,U,O,Y⟩:=Ul (w0:=w0) (N:=N) _ _ h
  refine⟨_,U,λaj ρ a w ax L C u D=>?_⟩
  obtain⟨us,rfl,Z⟩:=D
  refine .v _ _ ⟨us,rfl,by rw[O];exact Z.1,λj x E=>?_⟩
  have T:j<ys.length:=by rw[<- O];exact(List.getElem?_eq_some_iff.1 E).1
  obtain⟨v,hv,ez⟩:=Z.2 j _ (List.getElem?_eq_getElem T);exact⟨v,hv,Y aj ρ a w ax L C j _ x v (List.getElem?_eq_getElem T) E ez⟩
 ·rename_i f c cs
  refine⟨_,h,λaj ρ a w ax L C u D=>?_⟩
  obtain⟨pv,rfl,qz⟩:=D;exact .f f _ _ _ (qz.fA C.none C.rest)
 ·rename_i f r' j;cases hmb:cX r' ns with
  |true=>grind
  | false=>
   rw[hmb,cond_false]at h;split at h
   ·rename_i cs hm;split at h
    ·rename_i c vs qk;obtain⟨e,hp⟩:=Mi _ _ qk
     refine⟨_,h,λaj ρ a w ax L C u D=>?_⟩
     obtain⟨us,rfl,jh,gH⟩:=D;obtain⟨b,off,bW,oY⟩:=gH 0 _ rfl;have oY:us[0]?=some (.pointer (some ⟨b,off+j,none⟩)):=oY;have aF0:us.size=1:=jh;have anu:us = #[.pointer (some ⟨b,off+j,none⟩)]:=by
      apply Array.ext';apply List.ext_getElem?;intro i;cases i with
      |zero=>grind
      |succ i=>grind
     subst anu;refine .f f _ _ _ ?_;cases L.root r' _ hm with
     | az b' FP cells e' _ Ml fR jA hh Z hc=>
      rw[bW]at fR;injection fR with q1 q2;subst q1 q2
      refine⟨b,off+j,rfl,(Array.getElem?_eq_some_iff.1 hh).1,(C.rest b _ jA).2 (by simpa [fC]using hmb),λi x E=>?_⟩
      have hpx:=hp x (List.mem_of_getElem? E);have hcd:(cs.drop j)[i]?=some (.v x):=by rw[e,List.getElem?_map,E];rfl
      rw[List.getElem?_drop]at hcd;obtain⟨k1,k2⟩:=hc _ _ hcd;refine⟨(by cases x<;>first|rfl|cases hpx),Ml (j+i),?_,k2.2.ru hpx⟩;rw[Nat.add_assoc,cell_of_row w b _ cells _ _ hh];exact k1
    ·cases h
   ·cases h
 ·cases h
def Ay(σ:S):Mu->Prop
 |.az r cs C=>σ.m r=some (.az cs)/\rO σ.m cs=some C/\cs.length<999
 |.sl q y=>σ.m q=some (.sl y)/\y.aC=false
def Gr:aa Mu->aa In->Prop
 |[],[]=>True
 |.az _ _ L::C,.az xs::D=>(jz (L.map (·.1)) xs/\∀x∈xs,x.iL=true/\x.MF=true)/\Gr C D
 |.sl _ y::C,.sl E::D=>(Wk y E/\E.MF=true)/\Gr C D
 |_,_=>False
def Dc(w:World)(B:Nat)(aj:bw)(ρ:Nat->Loc)(C:aa In):aa Ar->aa Value->Prop
 |[],[]=>True
 |x::xs,v::D=>RA w B aj ρ (T6 C x) v/\Dc w B aj ρ C xs D
 |_,_=>False
def Dc.get{D:aa In}:∀ (xs:aa Ar) (C:aa Value),Dc w B aj ρ D xs C -> C.length=xs.length /\ ∀ i,RA w B aj ρ ((Au D xs).t i) (C.toArray.getD i undef)
 |[],[],_=>⟨rfl,λi=>trivial⟩
 | x :: xs,v :: C,h=>by
  obtain⟨E,L⟩:=Dc.get xs C h.2
  refine⟨by simp[E],λi=>?_⟩
  cases i with
  |zero=>exact h.1
  | succ i=>
   have:=L i;simp at this ⊢;exact this
def anv{t:TC}{g:Nat}{x:T t}(D:Nat.beq (g % 2) 0=true):∀ y∈enc t g x,y.iL=true/\y.MF=true:=by
 intro y C;refine⟨Ta t g x y C,?_⟩;have:=xo t g x y C;cases y with
 | sl L E O U=>
  have:E=g:=by simpa [V.gr]using this
  subst this;exact D
 |_=>rfl
def anw(σ:S):PK->A->ah Mu->Prop
 |.v _ _,_,none=>True
 |.p _ _ off,x,some (.az r cs C)=>x = .aG r off/\Ay σ (.az r cs C)
 |.s _ _,x,some (.sl q y)=>x = .lf (.own [q])/\Ay σ (.sl q y)
 |_,_,_=>False
def Az{p:PK}{x:A}{z:ah Mu}(h:Aw σ p x=some z):anw σ p x z:=by
 cases p with
 | v b t=>
  injection h with h;subst h;trivial
 | p t g off=>
  cases x with
  | aG r j=>
   have h:(match (bif Nat.beq j off then σ.m r else none)with
    | some (.az cs)=>(match rO σ.m cs with
     |some L=>bif Nat.blt cs.length 999 then some _ else none
     |none=>none)
    |_=>none)=some z:=h
   cases C:Nat.beq j off with
   |false=>rw[C]at h;cases h
   | true=>
    obtain rfl:=Nat.eq_of_beq_eq_true C;rw[C,cond_true]at h;split at h
    ·rename_i cs O;split at h
     ·rename_i L T;cases D:Nat.blt cs.length 999 with
      |false=>rw[D]at h;cases h
      | true=>
       rw[D]at h;injection h with h;subst h;exact⟨rfl,O,T,by have:=Nat.le_of_ble_eq_true D;omega⟩
     ·cases h
    ·cases h
  |_=>cases h
 | s t g=>
  have U:(∃ q,x = .lf (.own [q])):=by
   unfold Aw at h;split at h
   next e=>cases e
   next e=>cases e
   ·simp[*]
   ·cases h
  obtain⟨q,rfl⟩:=U;have h:(match σ.m q with
   |some (.sl y)=>bif y.aC then none else some _
   |_=>none)=some z:=h
  split at h
  ·rename_i y Y;cases E:y.aC with
   |true=>rw[E]at h;cases h
   | false=>
    rw[E]at h;injection h with h;subst h;exact⟨rfl,Y,E⟩
  ·cases h
def MG:∀ (ps:aa PK) (xs:aa Operand) (D:aa Mu),lF σ ps xs=some D -> ∀ O∈D,Ay σ O
 |[],[],D,h=>by injection h with h;subst h;simp
 | p :: ps,x :: xs,D,h=>by
  unfold lF at h;split at h
  ·rename_i O E C L;injection h with h;subst h;have T:=MG ps xs E L;have C:=Az C;intro z hz;rcases List.mem_cons.1 hz with rfl | hz
   ·cases p with
    |v=>exact C.elim
    | p=>
     cases z with
     |az=>exact C.2
     |sl=>exact C.elim
    | s=>
     cases z with
     |az=>exact C.elim
     |sl=>exact C.2
   ·simp_all
  next E C L=>injection h with h;subst h;exact MG ps xs E L
  ·cases h
 |[],_::_,D,h=>by cases h
 |_::_,[],D,h=>by cases h
def Gs:∀ {ps:aa PK} (i C:Nat) (x:kA ps),(iP ps i x).length=(iP ps C x).length
 |[],_,_,_=>rfl
 |.v _ _::ps,i,C,x=>by simp[iP,List.length_cons];rw[Gs]
 |.p _ _ _::ps,i,C,x=>by simp only[iP,List.length_cons];rw[Gs (i+1) (C+1)]
 |.s _ _::ps,i,C,x=>by simp only[iP,List.length_cons];rw[Gs (i+1) (C+1)]
def MI:∀ (ps:aa PK) (xs:aa Operand) (O:aa Mu) (k:kA ps -> ah X),lF σ ps xs=some O -> mC σ ns ps xs O k=some r -> ∃ x,k x=some r/\Gr O (lE ps x)/\(iP ps 0 x).length=xs.length /\
  ∀aj ρ a w ax ρ',Rl w0 N aj ρ σ a w -> Ax ns aj ax -> ∀(T:aa In) (i:Nat),(∀j z,(lE ps x)[j]?=some z -> T[i+j]?=some z) -> (∀j U,O[j]?=some U -> ρ' (nF (i+j))=ρ U.root) -> Dc w w.heap.size ax ρ' T (iP ps i x) (xs.map a.eval)
 | [],[],O,k,C,h=>by
  injection C with C;subst C;exact⟨(),h,trivial,rfl,λ_ _ _ _ _ _ _ _ _ _ _ _=>trivial⟩
 | .v b t :: ps,x :: xs,O,k,C,h=>by
  have tL:lF σ ps xs=some O:=by
   unfold lF at C;split at C
   next U qA D L=>exact(Az D).elim
   next qA D L=>rw[L];exact C
   ·cases C
  unfold mC at h;obtain⟨p,L,hp⟩:=ant (w0:=w0) (N:=N) h;cases hb:p.1==b with
  |false=>rw[hb]at L;cases L
  | true=>
   rw[hb,cond_true]at L;have hb:p.1=b:=by simpa using hb
   subst hb;split at L
   ·rename_i y Y;obtain⟨ys,h3,h4,h5,h6⟩:=MI ps xs O _ tL L
    refine⟨(y,ys),h3,h4,?_,λaj ρ a w ax ρ' Z hS T i hi bW=>⟨?_,h6 aj ρ a w ax ρ' Z hS T i hi bW⟩⟩
    ·simp[iP,h5]
    ·have qz:=hp aj ρ a w ax Z hS _ (Z.aH x);have hk:=ko t 0 p.2 y Y;generalize a.eval x=ux at qz ⊢;rcases qz with ⟨_,_,us,hu,hs,hr⟩ | ⟨g,c,cs,pv,qz⟩
     case f=>
      have he:∀(j:Nat) z,(enc t 0 y)[j]?=some z -> z.aC=true:=λj z E=>qi t 0 y (by omega) j z E
      obtain⟨c',dK,e,hw⟩:=ans hk.1 hk.2;rw[e]at he ⊢;exact⟨pv,rfl,qz.rP hw λj z E=>he (j+2) z (by simpa using E)⟩
     have hU:∀ (j:Nat) z,(enc t 0 y)[j]?=some z -> ∃ v,us[j]?=some v/\z.aC=true/\RV w w.heap.size ax [] z v:=by
      intro j z E;have hj:j<p.2.length:=by rw[hk.1];exact(List.getElem?_eq_some_iff.1 E).1
      obtain⟨v,hv,ez⟩:=hr j _ (List.getElem?_eq_getElem hj);exact⟨v,hv,qi t 0 y (by omega) j z E,ez.wk (hk.2 j _ z (List.getElem?_eq_getElem hj) E)⟩
     have hlen:us.size=(enc t 0 y).length:=hs.trans hk.1;obtain⟨b,vs⟩:=p;cases b with
     | true=>
      show RA _ _ _ _ (.agg ((enc t 0 y).map .v)) _
      refine⟨us,hu,by rw[List.length_map];exact hlen,λj z E=>?_⟩
      rw[List.getElem?_map]at E;cases CT:(enc t 0 y)[j]? with
      |none=>rw[CT]at E;cases E
      | some z'=>
       rw[CT]at E;injection E with E;subst E;obtain⟨v,hv,g1,g2⟩:=hU j z' CT;exact⟨v,hv,g1,g2⟩
     | false=>
      have hu:us = #[ux]:=hu;subst hu;show RA _ _ _ _ (T6 T (.pt (false,enc t 0 y))) _
      match he:enc t 0 y,hU,hlen with
      | [z],hU,_=>
       obtain⟨v,hv,g1,g2⟩:=hU 0 z rfl;have:ux=v:=by simpa using hv
       rw[this];exact⟨g1,g2⟩
      |[],_,_=>trivial
      |_::_::_,_,hlen=>exact absurd hlen (by simp)
   ·cases L
 | .p t g off :: ps,x :: xs,O,k,C,h=>by
  unfold lF at C;split at C
  ·rename_i U qA D L;injection C with C;subst C;have D:=Az D;cases U with
   |sl=>exact D.elim
   | az r cs vs=>
    have D:aH σ x = .aG r off/\Ay σ (.az r cs vs):=D;unfold mC at h;split at h
    ·rename_i y Y;cases hg:Nat.beq (g % 2) 0 with
     |false=>rw[hg]at Y;cases Y
     | true=>
      rw[hg,cond_true]at Y;obtain⟨ys,h3,h4,h5,h6⟩:=MI ps xs qA _ L h
      refine⟨(y,ys),h3,⟨⟨ko t g _ y Y,anv hg⟩,h4⟩,by simp[iP,Gs 1 0,h5],λaj ρ a w ax ρ' Z hS T i hi bW=>⟨?_,?_⟩⟩
      ·have Gt:=hi 0 _ rfl;rw[Nat.add_zero]at Gt;have hx:=Z.aH x;rw[D.1]at hx;obtain⟨b,o,e1,e2⟩:=hx;show RA _ _ _ _ (match T[i]? with|some (.az _)=>.aG (nF i) off|some (.sl _)=>.lf (.own [nF i])|none=>.undef) _;rw[Gt];have gA:=bW 0 _ rfl;rw[Nat.add_zero]at gA;exact⟨b,o,gA.trans e1,e2⟩
      ·refine h6 aj ρ a w ax ρ' Z hS T (i+1) (λj z E=>?_) (λj U iy=>?_)
       ·rw[show i+1+j=i+(j+1) by omega];exact hi _ z E
       ·rw[show i+1+j=i+(j+1) by omega];exact bW _ U iy
    ·cases h
  next qA D L=>exact(Az D).elim
  ·cases C
 | .s t g :: ps,x :: xs,O,k,C,h=>by
  unfold lF at C;split at C
  ·rename_i U qA D L;injection C with C;subst C;have D:=Az D;cases U with
   |az=>exact D.elim
   | sl q y0=>
    have D:aH σ x = .lf (.own [q])/\Ay σ (.sl q y0):=D;unfold mC at h;split at h
    ·rename_i y Y;cases hg:Nat.beq (g % 2) 0 with
     |false=>rw[hg]at Y;cases Y
     | true=>
      rw[hg,cond_true]at Y;obtain⟨ys,h3,h4,h5,h6⟩:=MI ps xs qA _ L h
      refine⟨(y,ys),h3,⟨⟨V.FB Y,?_⟩,h4⟩,by simp[iP,Gs 1 0,h5],λaj ρ a w ax ρ' Z hS T i hi bW=>⟨?_,?_⟩⟩
      ·show Nat.beq ((g+2) % 2) 0=true;simp[*]
      ·have Gt:=hi 0 _ rfl;rw[Nat.add_zero]at Gt;have hx:=Z.aH x;rw[D.1]at hx;show RA _ _ _ _ (match T[i]? with|some (.az _)=>.aG (nF i) 0|some (.sl _)=>.lf (.own [nF i])|none=>.undef) _;rw[Gt];have gA:=bW 0 _ rfl;rw[Nat.add_zero]at gA;refine⟨hx.1,?_⟩;have L:=hx.2;simp only[cH]at L ⊢;rw[gA];exact L
      ·refine h6 aj ρ a w ax ρ' Z hS T (i+1) (λj z E=>?_) (λj U iy=>?_)
       ·rw[show i+1+j=i+(j+1) by omega];exact hi _ z E
       ·rw[show i+1+j=i+(j+1) by omega];exact bW _ U iy
    ·cases h
  next qA D L=>exact(Az D).elim
  ·cases C
 |[],_::_,O,k,C,h=>by cases C
 |_::_,[],O,k,C,h=>by cases C
end
def nI(c0:Nat):Nat->aa (V×ah Nat)->aa Nat
 |_,[]=>[]
 |n,(_,some q)::C=>q::nI c0 (n+1) C
 |n,(_,none)::C=>(c0+n)::nI c0 (n+1) C
def yb(c0:Nat):Nat->aa Mu->aa Nat
 |_,[]=>[]
 |pos,.az r _ D::C=>r::(nI c0 (pos+1) D++yb c0 (pos+1+D.length) C)
 |pos,.sl q _::C=>q::yb c0 (pos+1) C
def AA:aa Nat->aa V->aa Nat
 |n::C,x::xs=>bif x.aC then AA C xs else n::AA C xs
 |_,_=>[]
def oh(c0:Nat):Nat->aa Mu->aa In->aa Nat
 |pos,.az _ _ D::C,.az xs::outs=>AA (nI c0 (pos+1) D) xs++oh c0 (pos+1+D.length) C outs
 |pos,.sl _ _::C,.sl _::outs=>oh c0 (pos+1) C outs
 |_,_,_=>[]
def om(ns cn:aa Nat):aa Nat->aa Lf->aa V->aa Lf
 |n::C,l::D,x::xs=>(bif x.plain then .v x else bif x.aC then l.dZ ns cn else .own [n])::om ns cn C D xs
 |_,_,_=>[]
def yc:aa Nat->aa V->aa (Nat×aU)
 |n::C,x::xs=>bif x.aC then yc C xs else (n,.sl x)::yc C xs
 |_,_=>[]
def mD(ns cn:aa Nat)(c0:Nat):Nat->aa Mu->aa In->aa (Nat×aU)
 |pos,.az r cs D::C,.az xs::outs=>(r,.az (om ns cn (nI c0 (pos+1) D) cs xs))::(yc (nI c0 (pos+1) D) xs++mD ns cn c0 (pos+1+D.length) C outs)
 |pos,.sl q _::C,.sl y::outs=>bif y.iL then (q,.sl y)::mD ns cn c0 (pos+1) C outs else mD ns cn c0 (pos+1) C outs
 |_,_,_=>[]
def MJ:aa Nat->Bool
 |[]=>true
 |n::l=>!cX n l&&MJ l
def aba:In->Bool
 |.az xs=>xs.all λx=>x.aC ||x.loc
 |.sl y=>y.loc
def gJ:ah Tmp->Nat
 |some d=>1000000000100000+1000*d
 |none=>90000
def tW{X:Type}(N:Nat)(σ:S)(C:ah Tmp)(D:eY)(k:S->ah X):ah X:=
 match C with
 |none=>k σ
 |some d=>bif Nat.blt d N then mz σ d D k else none
def Gu(N:Nat)(C:aa Mu)(outs:aa In)(cn:aa Nat):Bool:=
 MJ cn&&(C.all λD=>!cX D.root cn)&&(cn.all λn=>Nat.blt n N ||Nat.ble 60000 n)&&outs.all aba
def MK{X:Type}(N:Nat)(σ:S)(C:ah Tmp)(D:aa Mu)(ns cn:aa Nat)(E:eY)(outs:aa In)(k:S->ah X):ah X:=
 bif Gu N D outs cn then tW N (σ.dZ ns cn (mD ns cn (gJ C) E.len D outs)) C E k else none
def qB{X:Type}(N:Nat)(σ:S)(D:ah Tmp)(c:mA)(args:aa Operand)(k:S->ah X):ah X:=
 match lF σ c.ps args with
 | some C=>bif once (mB 0 C)&&Nat.ble C.length 40 then
   mC σ ((mB 0 C).map (·.1)) c.ps args C λx=>(match c.F x with
    |some y=>MK N σ D C ((mB 0 C).map (·.1)) (oh (gJ D) (eA c.ro y.1).len C (jC (ep c.ps) y.2)) (eA c.ro y.1) (jC (ep c.ps) y.2) k
    |none=>none)else none
 |none=>none
section
variable {P:Program} {w w':World} {w0:Wd} {B N:Nat} {aj cZ ax:bw} {ρ dY ρ':Nat->Loc} {σ:S} {a:Act} {X:Type} {d:Nat} {r:X} {ns cn:aa Nat} {o:Oper} {rs:aa Nat} {dA:aa (Nat×Nat)}
def abb{n:Nat}:∀ {l:aa (Nat×Nat)},cX n (l.map (·.1))=false -> l.lookup n=none
 |[],_=>rfl
 | p :: l,h=>by
  simp[List.map_cons,cX,Bool.or_eq_false_iff]at h;rw[List.lookup_cons];have:(n==p.1)=false:=by
   cases C:n==p.1 with
   |false=>rfl
   |true =>simp_all
  rw[this];exact abb h.2
def anx{b:Nat}{k:aa Nat}{n m:Nat}(h:aj b=some k)(C:k.getLast?=some n)(D:dA.lookup n=some m):dI aj dA id b=some (k.dropLast++[m]):=by
 simp[dI,h,C,D]
def anz(D:∀ b k,aj b=some k -> k≠[]):Ax (dA.map (·.1)) aj (dI aj dA id):=by
 refine⟨λb h=>xX h,λb k h=>⟨D b k h,λC=>?_⟩⟩
 simp[dI,h];cases E:k.getLast? with
 |none=>rfl
 | some n=>
  simp[fC,E]at C;simp[abb C]
def Um{m:Nat -> ah aU}:∀ (cs:aa Lf) (C:aa (V×ah Nat)),rO m cs=some C -> C.length=cs.length /\ ∀ (j:Nat) l,cs[j]?=some l -> ∃ v,C[j]?=some v/\ya m l=some v
 |[],C,h=>by injection h with h;subst h;exact⟨rfl,λj l D=>by simp at D⟩
 | c :: cs,C,h=>by
  unfold rO at h;split at h
  ·rename_i v E O L;injection h with h;subst h;obtain⟨T,U⟩:=Um cs E L
   grind
  ·cases h
def anA{l:Lf}{v:V}{E:ah Nat}(h:ya σ.m l=some (v,E))(Y:Rl w0 N aj ρ σ a w)(D:Ax ns aj ax){u:Value}(L:dm w w0.heap.size aj ρ l u):
  (E=none /\ ∀B' O,RV w B' ax O v u) \/ (∃q,E=some q/\v.aC=false/\RV w w0.heap.size aj [q] v u):=by
 unfold ya at h;split at h
 ·simp at h;obtain⟨rfl,rfl⟩:=h;exact .inl ⟨rfl,λB' O=>L.2.out D.none D.rest (.inl L.1)⟩
 ·rename_i q;split at h
  ·rename_i y Z;have T:=Y.root q _ Z;generalize C:aU.sl y=x at T;cases T with
   |az=>cases C
   |mp=>cases C
   |gh=>cases C
   | sl v' y' bW hr=>
    injection C with C;subst C;have Gg:v'=u:=by
     have h2:=L.2;simp only[cH,bW]at h2;simp_all
    subst Gg;cases U:y.aC with
    | true=>
     rw[U,cond_true]at h;obtain⟨rfl,rfl⟩:=h;exact .inl ⟨rfl,λB' O=>hr.out D.none D.rest (.inl U)⟩
    |false =>grind
  ·cases h
 ·cases h
def abc{i:Nat}{v:V}{q:Nat}:∀ (D:aa (V×ah Nat)) (C j:Nat),D[j]?=some (v,some q) -> (q,60000+1000*i+(C+j))∈Gn i C D
 |[],C,j,h=>by simp at h
 | (L,E) :: D,C,j,h=>by
  cases j with
  | zero=>
   obtain⟨rfl,rfl⟩:=h;exact .head _
  | succ j=>
   have:=abc (i:=i) D (C+1) j (by simpa using h);rw[show C+1+j=C+(j+1) by omega]at this;cases E with
   |none=>exact this
   |some O=>exact .tail _ this
def Un{i:Nat}:∀ (cs:aa V) (C:Nat),(x6 i C cs).length=cs.length
 |[],_=>rfl
 |c::cs,C=>by simp[x6,Un cs]
def RV.kZ{q:aa Nat}{x:V}{u:Value}(h:RV w B aj q x u)(C:x.plain=false)(D:x.iL=true):kZ u=true:=by
 cases h<;>first|rfl|cases C|cases D
def Wk.abd{x y:V}(h:Wk x y)(C:x.aC=false):y.aC=false:=by
 cases h with
 |same=>exact C
 |nil=>cases C
 |q=>exact C
 |gr t o D E l L O=>simp[V.aC];omega
def Uo(hR:Rl w0 N aj ρ σ a w)(hS:Ax ns aj (dI aj dA id)):∀ (L:aa Mu) (T:aa In) (i:Nat),(∀ p∈mB i L,dA.lookup p.1=some p.2) -> (∀ j E,L[j]?=some E -> rs[i+j]?=some E.root) -> (∀ E∈L,Ay σ E) -> Gr L T -> i+L.length <= 40 ->
  nH w w.heap.size (dI aj dA id) (vP w ρ rs) i T
 |[],[],_,_,_,_,_,_=>trivial
 |[],_::_,_,_,_,_,h,_=>h.elim
 |.az _ _ _::_,[],_,_,_,_,h,_=>h.elim
 |.sl _ _::_,[],_,_,_,_,h,_=>h.elim
 |.az _ _ _::_,.sl _::_,_,_,_,_,h,_=>h.elim
 |.sl _ _::_,.az _::_,_,_,_,_,h,_=>h.elim
 | .az r cs vs :: L,.az xs :: T,i,U,iw,iy,hrel,hi=>by
  obtain⟨hm,hg,hlen⟩:=iy _ (.head _);obtain⟨⟨hw,hx⟩,AB⟩:=hrel;obtain⟨g1,g2⟩:=Um cs vs hg;have Y:=iw 0 _ rfl;rw[Nat.add_zero]at Y;simp only[List.length_cons]at hi;have lC:xs.length=cs.length:=by rw[<- hw.1,List.length_map,g1]
  have dN:=hR.root r _ hm;generalize C:aU.az cs=z at dN;cases dN with
  |sl=>cases C
  |mp=>cases C
  |gh=>cases C
  | az b off cells e dK us bW hl hh hs hc=>
   injection C with C;subst C;have hU:∀ (j:Nat) x,xs[j]?=some x -> cells[off+j]?=some (us j)/\RV w w.heap.size (dI aj dA id) [nC i j x] x (us j)/\(x.plain=false -> vP w ρ rs (nC i j x) = .dw (us j)):=by
    intro j x O;have Ae:j<cs.length:=by rw[<- lC];exact(List.getElem?_eq_some_iff.1 O).1
    obtain⟨v,hv,Gw⟩:=g2 j _ (List.getElem?_eq_getElem Ae);obtain⟨c1,Z⟩:=hc j _ (List.getElem?_eq_getElem Ae);obtain⟨v,qo⟩:=v;have Up:Wk v x:=hw.2 j v x (by rw[List.getElem?_map,hv];rfl) O;obtain⟨hx1,Tp⟩:=hx x (List.mem_of_getElem? O)
    refine⟨c1,?_,λD=>?_⟩
    ·rcases anA Gw hR hS Z with ⟨rfl,h1⟩ | ⟨q,rfl,hf,h1⟩
     ·exact(h1 _ _).wk Up
     ·have Ue:=Up.abd hf;have hq:=U _ (.tail _ (List.mem_append_left _ (abc vs 0 j hv)));rw[Nat.zero_add]at hq;have h2:=(RV.dI (nm:=id) (p:=[]) h1 hq).wk Up;have e1:nC i j x=60000+1000*i+j:=by simp[nC,Ue]
      rw[e1];exact h2.reB Tp
    ·exact anq Y (by omega) (by omega) bW (by rw[cell_of_row w b _ cells _ _ hh];exact c1)
   refine⟨.az b off cells e _ us ((Gq Y (by omega)).trans bW) ?_ hh (by rw[Un,lC];exact hs) (λj z C=>?_),λj x O D=>?_,Uo hR hS L T (i+1) (λp D=>U p (.tail _ (List.mem_append_right _ D))) (λj E AD=>?_) (λE h=>iy E (.tail _ h)) AB (by omega)⟩
   ·exact anx hl rfl (U _ (.head _))
   ·have O:j<xs.length:=by rw[<- Un (i:=i) xs 0];exact(List.getElem?_eq_some_iff.1 C).1
    have Dd:=Uh (i:=i) xs 0 j _ (List.getElem?_eq_getElem O);rw[C]at Dd;injection Dd with Dd;subst Dd;rw[Nat.zero_add];obtain⟨c1,Z,c3⟩:=hU j _ (List.getElem?_eq_getElem O);refine⟨c1,?_⟩;cases D:(xs[j]).plain with
    | true=>
     have e1:x5 i j xs[j] = .v xs[j]:=by simp[x5,D]
     rw[e1];exact⟨V.FN D,Z.ru D⟩
    | false=>
     have e1:x5 i j xs[j] = .own [nC i j xs[j]]:=by simp[x5,D]
     rw[e1];exact⟨Z.kZ D (hx _ (List.getElem_mem _)).1,by simp only[cH,c3 D]⟩
   ·obtain⟨c1,Z,c3⟩:=hU j x O;exact .sl _ x (c3 D) Z
   ·have:=iw (j+1) E (by simpa using AD);rw[show i+(j+1)=i+1+j by omega]at this;exact this
 | .sl q y :: L,.sl y' :: T,i,U,iw,iy,hrel,hi=>by
  obtain⟨hm,hf⟩:=iy _ (.head _);obtain⟨⟨hw,hx⟩,AB⟩:=hrel;have Y:=iw 0 _ rfl;rw[Nat.add_zero]at Y;simp only[List.length_cons]at hi;have dN:=hR.root q _ hm;generalize C:aU.sl y=z at dN;cases dN with
  |az=>cases C
  |mp=>cases C
  |gh=>cases C
  | sl v y0 bW hr=>
   injection C with C;subst C
   refine⟨.sl v y' ((Gq Y (by omega)).trans bW) ?_,Uo hR hS L T (i+1) (λp D=>U p (.tail _ D)) (λj E AD=>?_) (λE h=>iy E (.tail _ h)) AB (by omega)⟩
   ·exact((RV.dI (p:=[]) hr (U _ (.head _))).wk hw).reB hx
   ·have:=iw (j+1) E (by simpa using AD);rw[show i+(j+1)=i+1+j by omega]at this;exact this
end
def Uq:Loc->Nat×Nat
 |.az b off=>(b,off)
 |.dw _=>(0,0)
 |.bN _=>(0,0)
def yd(w:World)(b off:Nat):Nat->aa Nat->aa V->aa (Nat×Value)
 |j,n::C,x::xs=>bif x.aC then yd w b off (j+1) C xs else (n,(w.cell? ⟨b,off+j,none⟩).getD undef)::yd w b off (j+1) C xs
 |_,_,_=>[]
def qC(w:World)(ρ:Nat->Loc)(c0:Nat):Nat->aa Mu->aa In->aa (Nat×Value)
 |pos,.az r _ D::C,.az xs::outs=>yd w (Uq (ρ r)).1 (Uq (ρ r)).2 0 (nI c0 (pos+1) D) xs++qC w ρ c0 (pos+1+D.length) C outs
 |pos,.sl _ _::C,.sl _::outs=>qC w ρ c0 (pos+1) C outs
 |_,_,_=>[]
def abe(l:aa (Nat×Value))(ρ:Nat->Loc):Nat->Loc:=λn=>match l.lookup n with
 |some v=>.dw v
 |none=>ρ n
def Ur{w:World}{b off:Nat}:∀ (C:aa Nat) (xs:aa V) (j:Nat),(yd w b off j C xs).map (·.1)=AA C xs
 |[],[],_=>rfl
 |[],_::_,_=>rfl
 |_::_,[],_=>rfl
 | n :: C,x :: xs,j=>by
  simp[yd,AA];cases x.aC with
  |true=>exact Ur C xs _
  |false=>simp;rw[Ur]
def ML{w:World}{ρ:Nat -> Loc}{c0:Nat}:∀ (C:aa Mu) (outs:aa In) (D:Nat),(qC w ρ c0 D C outs).map (·.1)=oh c0 D C outs
 | .az r _ E :: C,.az xs :: outs,D=>by
  simp[qC,oh,List.map_append];rw[Ur,ML]
 | .sl _ _ :: C,.sl _ :: outs,D=>by
  simp only[qC,oh];exact ML C outs _
 |[],_,_=>by simp[qC,oh]
 |.az _ _ _::_,[],_=>rfl
 |.sl _ _::_,[],_=>rfl
 |.az _ _ _::_,.sl _::_,_=>rfl
 |.sl _ _::_,.az _::_,_=>rfl
def abf{n:Nat}:∀ {l:aa (Nat×Value)},cX n (l.map (·.1))=false -> l.lookup n=none
 |[],_=>rfl
 | p :: l,h=>by
  simp[List.map_cons,cX,Bool.or_eq_false_iff]at h;rw[List.lookup_cons];cases C:n==p.1 with
  |false=>exact abf h.2
  |true =>simp_all
def abg:∀ {l:aa (Nat×Value)},MJ (l.map (·.1))=true -> ∀ p∈l,l.lookup p.1=some p.2
 |[],_,p,hp=>by cases hp
 | q :: l,h,p,hp=>by
  simp[List.map_cons,MJ,Bool.and_eq_true,Bool.not_eq_true']at h;rw[List.lookup_cons];rcases List.mem_cons.1 hp with rfl|hp
  ·simp
  ·cases C:p.1==q.1 with
   |false=>exact abg h.2 p hp
   | true=>
    have e:p.1=q.1:=by simpa using C
    exact absurd (List.mem_map_of_mem (f:=(·.1)) hp) (by rw[e];exact aa8 h.1)
def Gx{c0:Nat}:∀ (C:aa (V×ah Nat)) (n:Nat),(nI c0 n C).length=C.length
 |[],_=>rfl
 |(_,some _)::C,n=>by simp[nI,Gx]
 |(_,none)::C,n=>by simp[nI,Gx C]
def abh{ns cn:aa Nat}:∀ (D:aa Nat) (C:aa Lf) (xs:aa V),D.length=C.length -> xs.length=C.length -> (om ns cn D C xs).length=C.length /\
  ∀(j:Nat) z,(om ns cn D C xs)[j]?=some z -> ∃n l x,D[j]?=some n/\C[j]?=some l/\xs[j]?=some x/\z=(bif x.plain then .v x else bif x.aC then l.dZ ns cn else .own [n])
 |[],[],[],_,_=>⟨rfl,λj z E=>by simp[om]at E⟩
 | n :: D,l :: C,x :: xs,L,O=>by
  obtain⟨T,U⟩:=abh (ns:=ns) (cn:=cn) D C xs (by simpa using L) (by simpa using O)
  refine⟨by simp[om,T],λj z E=>?_⟩
  cases j with
  |zero=>simp[om,List.getElem?_cons_zero,Option.some.injEq]at E;exact⟨n,l,x,rfl,rfl,rfl,E.symm⟩
  |succ j=>exact U j z (by simpa [om]using E)
def abi:∀ (C:aa Nat) (xs:aa V),∀ p∈yc C xs,∃ (j:Nat) (x:V),C[j]?=some p.1/\xs[j]?=some x/\x.aC=false/\p.2 = .sl x
 |[],[],p,hp=>by cases hp
 |[],_::_,p,hp=>by cases hp
 | n :: C,x :: xs,p,hp=>by
  simp[yc]at hp;have rest:p∈yc C xs -> ∃ (j:Nat) (y:V),(n :: C)[j]?=some p.1/\(x :: xs)[j]?=some y/\y.aC=false/\p.2 = .sl y:=λhp=>by
   obtain⟨j,y,E,L,O,T⟩:=abi C xs p hp;exact⟨j+1,y,by simpa using E,by simpa using L,O,T⟩
  cases D:x.aC with
  |true=>grind
  | false=>
   rw[D]at hp;rcases List.mem_cons.1 hp with rfl|hp
   ·exact⟨0,x,rfl,rfl,D,rfl⟩
   ·grind
def abj{w:World}{b off n:Nat}{x:V}:∀ (D:aa Nat) (xs:aa V) (C j:Nat),D[j]?=some n -> xs[j]?=some x -> x.aC=false -> (n,(w.cell? ⟨b,off+(C+j),none⟩).getD undef)∈yd w b off C D xs
 |[],_,_,j,h,_,_=>by simp at h
 | m :: D,y :: xs,C,j,E,L,O=>by
  cases j with
  | zero=>
   simp at E L;subst E L;simp only[yd,O];simp_all
  | succ j=>
   have:=abj (w:=w) (b:=b) (off:=off) D xs (C+1) j (by simpa using E) (by simpa using L) O;rw[show C+1+j=C+(j+1) by omega]at this;simp[yd]
   grind
section
variable {P:Program} {w w':World} {w0:Wd} {B N:Nat} {aj cZ ax:bw} {ρ dY ρ':Nat->Loc} {σ:S} {a:Act} {X:Type} {d:Nat} {r:X} {ns cn:aa Nat} {o:Oper} {rs:aa Nat} {dA:aa (Nat×Nat)} {nm MM:Nat->Nat} {c0:Nat}
def iu.xW{nm:Nat -> Nat}:∀ (ps:aa Pt) (off:Nat) (C:aa Value) {B':Nat},iu w B aj nm off ps C -> B' <= B -> (∀ b,B <= b -> ax b=aj b) -> (∀ b k,aj b=some k -> ax b=some k) -> (∀ n,off <= n -> n<off+(ps.map λp=>p.2.length).sum -> nm n=MM n) -> iu w B' ax MM off ps C
 |[],_,[],_,h,_,_,_,_=>h
 | p :: ps,off,v :: C,B',h,hB,L,O,D=>by
  obtain⟨⟨T,us,Y,Z,hr⟩,tR⟩:=h;simp only[List.map_cons,List.sum_cons]at D
  refine⟨⟨T,us,Y,Z,λj x E=>?_⟩,iu.xW ps _ C tR hB L O (λn h1 h2=>D n (by omega) (by omega))⟩
  obtain⟨U,rq,ez⟩:=hr j x E;have hj:j<p.2.length:=(List.getElem?_eq_some_iff.1 E).1;refine⟨U,rq,?_⟩;show RV w B' ax [MM (off+j)] x U;rw[<- D (off+j) (by omega) (by omega)];exact ez.xW hB L O (List.all_eq_true.1 T x (List.mem_of_getElem? E))
def Us(hR:Rl w0 N aj ρ σ a w)(hv:rM w w' aj cZ ρ dY ns cn)(jA:∀ b k,ax b=some k -> cZ b=some k)(ng:∀ b,w.heap.size <= b -> cZ b=ax b)(hB:w0.heap.size <= w.heap.size):
  ∀(E:aa Mu) (ins outs:aa In) (i C:Nat),(∀j D,E[j]?=some D -> rs[i+j]?=some D.root) -> (∀D∈E,Ay σ D) -> Gr E ins -> i+E.length <= 40 -> Gi w w' ax (vP w ρ rs) nm i C ins outs ->
  (∀k n,(yb c0 C E)[k]?=some n -> nm (C+k)=n) -> (∀p∈qC w' ρ c0 C E outs,dY p.1 = .dw p.2) -> (∀D∈E,cX D.root cn=false) -> outs.all aba=true -> ∀p∈mD ns cn c0 C E outs,dx w' w0.heap.size cZ dY p.1 p.2
 |[],[],[],_,_,_,_,_,_,_,_,_,_,_,p,hp=>by simp[mD]at hp
 |[],[],_::_,_,_,_,_,_,_,h,_,_,_,_,_,_=>h.elim
 |[],_::_,_,_,_,_,_,h,_,_,_,_,_,_,_,_=>h.elim
 |.az _ _ _::_,[],_,_,_,_,_,h,_,_,_,_,_,_,_,_=>h.elim
 |.sl _ _::_,[],_,_,_,_,_,h,_,_,_,_,_,_,_,_=>h.elim
 |.az _ _ _::_,.sl _::_,_,_,_,_,_,h,_,_,_,_,_,_,_,_=>h.elim
 |.sl _ _::_,.az _::_,_,_,_,_,_,h,_,_,_,_,_,_,_,_=>h.elim
 |.az _ _ _::_,.az _::_,[],_,_,_,_,_,_,h,_,_,_,_,_,_=>h.elim
 |.sl _ _::_,.sl _::_,[],_,_,_,_,_,_,h,_,_,_,_,_,_=>h.elim
 |.az _ _ _::_,.az _::_,.sl _::_,_,_,_,_,_,_,h,_,_,_,_,_,_=>h.elim
 |.sl _ _::_,.sl _::_,.az _::_,_,_,_,_,_,_,h,_,_,_,_,_,_=>h.elim
 | .az r cs L :: E,.az xs0 :: ins,.az xs :: outs,i,C,iw,iy,hrel,hi,hO,nJ,AE,nA,Y,p,hp=>by
  obtain⟨hm,hg,hlen⟩:=iy _ (.head _);obtain⟨⟨hw,hx⟩,AB⟩:=hrel;obtain⟨g1,g2⟩:=Um cs L hg;have mj:=iw 0 _ rfl;rw[Nat.add_zero]at mj;simp only[List.length_cons]at hi;have Ut:xs0.length=cs.length:=by rw[<- hw.1,List.length_map,g1]
  obtain⟨⟨b,off,cells,vM,e,e',Z,h2,h3,h4,h5,h6,h7⟩,Uu⟩:=hO;have dN:=hR.root r _ hm;generalize hz:aU.az cs=z at dN;cases dN with
  |sl=>cases hz
  |mp=>cases hz
  |gh=>cases hz
  | az b0 U abk e0 dK us bW hl hh hs hc=>
   injection hz with hz;subst hz;rw[Gq mj (by omega)]at Z;have Z:ρ r = .az b off:=Z;rw[bW]at Z;injection Z with e1 e2;subst e1 e2;have anB:abk=cells:=by
    rw[hh]at h2;injection h2 with h2;injection h2
   subst anB;have gA:=nA _ (.head _);have De:dY r = .az b0 U:=(hv.dX r gA).trans bW;have rC:nm C=r:=by have:=nJ 0 r rfl;rwa [Nat.add_zero]at this
   have anC:∀ (j:Nat) n,(nI c0 (C+1) L)[j]?=some n -> nm (C+1+j)=n:=by
    intro j n hn;have hj:j<(nI c0 (C+1) L).length:=(List.getElem?_eq_some_iff.1 hn).1;have:=nJ (j+1) n (by simp only[yb,List.getElem?_cons_succ];rw[List.getElem?_append_left hj];exact hn);rw[show C+1+j=C+(j+1) by omega];exact this
   have hU:∀ (j:Nat) x,xs[j]?=some x -> ∃ u,vM[U+j]?=some u/\w'.cell? ⟨b0,U+j,none⟩=some u/\((x.plain=true /\ ∀ (w:World) (B:Nat) (aj:bw) (q:aa Nat),RV w B aj q x u) \/ (x.plain=false/\x.aC=true/\abk[U+j]?=some u) \/ (x.aC=false/\RV w' w.heap.size ax [nm (C+1+j)] x u)):=by
    intro j x hj;obtain⟨u,hu,hd⟩:=h7 j x hj;exact⟨u,hu,by rw[cell_of_row w' b0 _ vM _ _ h3];exact hu,hd⟩
   have xH:∀ (j:Nat) n x u,(nI c0 (C+1) L)[j]?=some n -> xs[j]?=some x -> x.aC=false -> w'.cell? ⟨b0,U+j,none⟩=some u -> dY n = .dw u:=by
    intro j n x u hn hxj hf hu;have x4:=abj (w:=w') (b:=b0) (off:=U) _ xs 0 j hn hxj hf;rw[Nat.zero_add,hu]at x4;exact AE (n,u) (by simp only[qC,bW,Uq];exact List.mem_append_left _ x4)
   simp only[mD]at hp;rcases List.mem_cons.1 hp with rfl|hp
   ·obtain⟨k1,k2⟩:=abh (ns:=ns) (cn:=cn) (nI c0 (C+1) L) cs xs (by rw[Gx,g1]) (by rw[h6,Ut])
    refine .az b0 U vM e' _ (λj=>vM.getD (U+j) undef) De (jA _ _ (by rw[h4,rC])) h3 (by show U+(om _ _ _ _ _).length <= _;rw[k1,<- Ut,<- h6];exact h5) (λj z hz=>?_)
    obtain⟨n,l,x,n1,n2,n3,rfl⟩:=k2 j z hz;obtain⟨u,hu,Uv,hd⟩:=hU j x n3;have eu:vM.getD (U+j) undef=u:=by rw[Array.getD_eq_getD_getElem?,hu];rfl
    rw[eu];refine⟨hu,?_⟩;rcases hd with ⟨O,T⟩|⟨O,T,d3⟩|⟨O,T⟩
    ·rw[O,cond_true];exact⟨V.FN O,T _ _ _ _⟩
    ·rw[O,T,cond_false,cond_true];obtain⟨c1,c2⟩:=hc j l n2;rw[c1]at d3;injection d3 with d3;rw[<- d3];exact c2.rN hv
    ·have xY:x.plain=false:=by
      cases xY:x.plain with
      |false=>rfl
      |true=>rw[V.FN xY]at O;cases O
     rw[xY,O,cond_false,cond_false];exact⟨T.Tb O,by simp only[cH,xH j n x u n1 n3 O Uv]⟩
   ·rcases List.mem_append.1 hp with hp | hp
    ·obtain⟨j,x,n1,n2,n3,n4⟩:=abi _ _ p hp;obtain⟨u,hu,Uv,hd⟩:=hU j x n2;rw[n4];refine .sl u x (xH j p.1 x u n1 n2 n3 Uv) ?_;rcases hd with ⟨O,T⟩ | ⟨O,T,d3⟩ | ⟨O,T⟩
     ·simp[*]
     ·rw[n3]at T;cases T
     ·rw[anC j _ n1]at T;refine T.xW hB ng jA ?_;rw[List.all_cons,Bool.and_eq_true]at Y;have:=List.all_eq_true.1 Y.1 x (List.mem_of_getElem? n2)
      rwa [n3,Bool.false_or]at this
    ·rw[List.all_cons,Bool.and_eq_true]at Y
     refine Us hR hv jA ng hB E ins outs (i+1) (C+1+L.length) (λj D AD=>?_) (λD h=>iy D (.tail _ h)) AB (by omega) ?_ (λk n hn=>?_) (λp hp=>AE p ?_) (λD h=>nA D (.tail _ h)) Y.2 p hp
     ·have:=iw (j+1) D (by simpa using AD);rw[show i+(j+1)=i+1+j by omega]at this;exact this
     ·rw[g1,<- Ut];exact Uu
     ·have:=nJ (1+L.length+k) n (by
       rw[show 1+L.length+k=(L.length+k)+1 by omega];simp only[yb,List.getElem?_cons_succ];rw[List.getElem?_append_right (by rw[Gx];omega),Gx];rw[show L.length+k-L.length=k by omega];exact hn)
      rw[show C+1+L.length+k=C+(1+L.length+k) by omega];exact this
     ·simp only[qC];exact List.mem_append_right _ hp
 | .sl q y0 :: E,.sl y1 :: ins,.sl y :: outs,i,C,iw,iy,hrel,hi,hO,nJ,AE,nA,Y,p,hp=>by
  obtain⟨hm,hf⟩:=iy _ (.head _);obtain⟨_,AB⟩:=hrel;have mj:=iw 0 _ rfl;rw[Nat.add_zero]at mj;simp only[List.length_cons]at hi;obtain⟨hO1,Uu⟩:=hO;rw[List.all_cons,Bool.and_eq_true]at Y;have rC:nm C=q:=by have:=nJ 0 q rfl;rwa [Nat.add_zero]at this
  have hp:(p=(q,.sl y)/\y.iL=true) \/ p∈mD ns cn c0 (C+1) E outs:=by
   simp only[mD]at hp;cases hy:y.iL with
   |false=>rw[hy]at hp;exact .inr hp
   | true=>
    rw[hy]at hp;rcases List.mem_cons.1 hp with h|h
    ·grind
    ·simp[*]
  rcases hp with ⟨rfl,hy⟩|hp
  ·obtain⟨v,Z,h2⟩:=hO1.resolve_left (by rintro rfl;cases hy);rw[Gq mj (by omega)]at Z;rw[rC]at h2;exact .sl v y ((hv.dX q (nA _ (.head _))).trans Z) (h2.xW hB ng jA Y.1)
  ·refine Us hR hv jA ng hB E ins outs (i+1) (C+1) (λj D AD=>?_) (λD h=>iy D (.tail _ h)) AB (by omega) Uu (λk n hn=>?_) (λp hp=>AE p hp) (λD h=>nA D (.tail _ h)) Y.2 p hp
   ·have:=iw (j+1) D (by simpa using AD);rw[show i+(j+1)=i+1+j by omega]at this;exact this
   ·have:=nJ (k+1) n (by simpa [yb]using hn);rw[show C+1+k=C+(k+1) by omega];exact this
end
section
variable {P:Program} {w w':World} {w0:Wd} {B N:Nat} {aj cZ ax:bw} {ρ dY ρ':Nat->Loc} {σ:S} {a:Act} {X:Type} {d:Nat} {r:X} {ns cn:aa Nat} {o:Oper} {rs:aa Nat} {dA:aa (Nat×Nat)} {nm MM:Nat->Nat} {c0:Nat}
def anD{C:ah Tmp}{E:eY}{k:S -> ah X}(h:tW N σ C E k=some r):∃ cy,k cy=some r /\ ∀ aj ρ a w v,Rl w0 N aj ρ σ a w -> oe w w0.heap.size aj (λn=>gJ C+n) E v -> ∃ ρ',Rl w0 N aj ρ' cy (a.put C v) w /\ ∀ r,r<gJ C -> ρ' r=ρ r:=by
 unfold tW at h;cases C with
 |none=>exact⟨σ,h,λaj ρ a w v D _=>⟨ρ,D,λ_ _=>rfl⟩⟩
 | some d=>
  have h:(bif Nat.blt d N then (match E with
   | .one p=>(match xz (p.1,mw (1000000000100000+1000*d) p.2)with
    |some y=>k ((kz _ σ p.2).set d y)
    |none=>none)
   |.dW ps=>k ((nE _ σ ps).set d _))else none)=some r:=h
  cases O:Nat.blt d N with
  |false=>rw[O]at h;cases h
  | true=>
   rw[O,cond_true]at h;have Aq:d<N:=Nat.le_of_ble_eq_true O;cases E with
   | one p=>
    simp only at h;split at h
    ·rename_i y hy
     refine⟨_,h,λaj ρ a w v D T=>?_⟩
     obtain⟨ρ',U,Y,_,Z⟩:=Gd [p] (1000000000100000+1000*d) 0 σ ρ [v] (by omega) D T;have T1:=Z 0 _ v rfl rfl;exact⟨ρ',U.set (Tt hy T1) Aq,Y⟩
    ·cases h
   | dW vJ=>
    refine⟨_,h,λaj ρ a w v D T=>?_⟩
    obtain⟨L,rfl,hv⟩:=T;obtain⟨ρ',U,Y,hlen,Z⟩:=Gd vJ (1000000000100000+1000*d) 0 σ ρ L.toList (by omega) D hv
    refine⟨ρ',U.set ⟨L,rfl,by simpa using hlen,λj p hp=>?_⟩ Aq,Y⟩
    have hj:j<L.size:=by
     have:=(List.getElem?_eq_some_iff.1 hp).1
     grind
    exact⟨L[j],Array.getElem?_eq_getElem hj,Z j p _ hp (by rw[Array.getElem?_toList,Array.getElem?_eq_getElem hj])⟩
def Uw{f:Nat}{args:Array Operand}{jB:Array TypeId}{c:mA}{k:S -> ah X}(ho:o.op = .call { callee:=.value (.func f),args,argTypes:=jB })(he:enters P f)(hc:rL P f c)(h:qB N σ o.dst c args.toList k=some r):∃ cy D cn,k cy=some r/\lF σ c.ps args.toList=some D/\(∀ n,cX n cn=true -> n<N \/ 60000 <= n)/\(∀ Y∈D,cX Y.root cn=false) /\
  ∀a w K Q aj ρ,Rl w0 N aj ρ σ a w -> (∀v w' cZ dY qD,Rl w0 N cZ qD cy (a.put o.dst v) w' -> rM w w' aj cZ ρ dY ((mB 0 D).map (·.1)) cn -> gT w0 w w' -> (∀r,r<gJ o.dst -> qD r=dY r) -> K (a.put o.dst v) w') -> o.wp P a w K Q:=by
 unfold qB at h;split at h
 ·rename_i D ye;generalize abl:mB 0 D=dA at h;cases kB:(once dA&&Nat.ble D.length 40)with
  |false=>rw[kB]at h;cases h
  | true=>
   rw[kB,cond_true]at h;rw[Bool.and_eq_true]at kB;have aF1:=Nat.le_of_ble_eq_true kB.2;have rJ:∀ p∈mB 0 D,dA.lookup p.1=some p.2:=by
    intro p hp;rw[abl]at hp;have:=List.all_eq_true.1 kB.1 p hp;obtain⟨n,Z,he⟩:=(Option.any_eq_true _ _).1 this;simp_all
   obtain⟨x,h2,hrel,aF2,jQ⟩:=MI (w0:=w0) (N:=N) _ _ D _ ye h;clear h;split at h2
   ·rename_i y hy;unfold MK at h2;generalize nA:oh (gJ o.dst) (eA c.ro y.1).len D (jC (ep c.ps) y.2)=cn at h2;generalize FK:dA.map (·.1)=ns at h2 jQ;cases eB:Gu N D (jC (ep c.ps) y.2) cn with
    |false=>rw[eB]at h2;cases h2
    | true=>
     rw[eB,cond_true]at h2;simp only[Gu,Bool.and_eq_true]at eB;obtain⟨⟨⟨ok1,ok2⟩,ok3⟩,ok4⟩:=eB;obtain⟨cy,h3,AF⟩:=anD (w0:=w0) h2
     refine⟨cy,D,cn,h3,ye,λn Z=>?_,λY iy=>by simpa using List.all_eq_true.1 ok2 Y iy,λa w K Q aj ρ T hK=>?_⟩
     ·have:=List.all_eq_true.1 ok3 n (vN.1 Z);rw[Bool.or_eq_true]at this;rcases this with h | h
      ·exact .inl (by have:=Nat.le_of_ble_eq_true h;omega)
      ·exact .inr (Nat.le_of_ble_eq_true h)
     have hS:Ax ns aj (dI aj dA id):=by rw[<- FK];exact anz (λb k C=>(T.cL b k C).2.2)
     have abm:=MG _ _ _ ye;let rs:=D.map Mu.root
     have iw:∀ j Y,D[j]?=some Y -> rs[0+j]?=some Y.root:=by
      intro j Y hj;rw[Nat.zero_add,List.getElem?_map,hj];rfl
     have hE:=Uo (rs:=rs) T hS D (lE c.ps x) 0 rJ iw abm hrel (by omega);have hA:=jQ aj ρ a w (dI aj dA id) (vP w ρ rs) T hS (lE c.ps x) 0 (λj z hz=>by rw[Nat.zero_add];exact hz) (λj Y hj=>by
      have h1:=iw j Y hj;rw[Nat.zero_add]at h1 ⊢;exact Gq h1 (by have:=(List.getElem?_eq_some_iff.1 hj).1;omega))
     obtain⟨hA1,TH⟩:=Dc.get _ _ hA;let nm:Nat -> Nat:=λn=>if n<(eA c.ro y.1).len then gJ o.dst+n else (yb (gJ o.dst) (eA c.ro y.1).len D).getD (n-(eA c.ro y.1).len) 0
     have pn:∀ (ps:aa PK) (i:Nat) (x:kA ps),(iP ps i x).length=ps.length:=by
      intro ps
      induction ps with
      |nil=>intro i x;rfl
      | cons p ps ih=>
       intro i x;cases p with
       |v=>exact congrArg (· + 1) (ih _ _)
       |p=>exact congrArg (· + 1) (ih _ _)
       |s=>exact congrArg (· + 1) (ih _ _)
     unfold Oper.wp;rw[TZ w o a f args jB ho he,Oper.upon_enter];have As:(args.map a.eval)=(args.toList.map a.eval).toArray:=by apply Array.ext';rw[Array.toList_map]
     rw[As];have MN:∀ b k,dI aj dA id b=some k -> (∃ U,aj b=some U/\fC U ns=true)/\k≠[]:=by
      intro b k C;cases E:aj b with
      |none=>rw[hS.none b E]at C;cases C
      | some U=>
       refine⟨⟨U,rfl,?_⟩,?_⟩
       ·cases hq:fC U ns with
        |true=>rfl
        |false=>rw[(hS.rest b U E).2 hq]at C;cases C
       ·simp only[dI,E]at C;split at C
        ·cases C
        ·cases abn:dA.lookup _ with
         |none=>rw[abn]at C;cases C
         |some n=>rw[abn]at C;injection C with C;subst C;simp
     have hQ:Hd w (dI aj dA id):=w0.on T.below (λb k C=>by obtain⟨⟨U,E,_⟩,_⟩:=MN b k C;exact(T.cL b U E).1)
     refine(hc x y hy nm w (dI aj dA id) (vP w ρ rs) _ hE (λb k C=>⟨?_,(MN b k C).2⟩) ?_ TH hQ).mono λe w' rH=>?_
     ·obtain⟨⟨U,E,_⟩,_⟩:=MN b k C;exact(T.cL b U E).2.1
     ·rw[List.size_toArray,hA1,pn]
     ·obtain⟨v,O,rfl,jj,Df,jR,Ux⟩:=rH;have hB:=T.below.size;let cZ:bw:=λb=>match dI aj dA id b with
       |none=>if b<w.heap.size then aj b else O b
       |some _=>O b
      have e1:∀ b k,O b=some k -> cZ b=some k:=by
       intro b k C;show (match dI aj dA id b with|none=>if b<w.heap.size then aj b else O b|some _=>O b)=some k;split
       next gA=>have:=(Df b k C).1;have ng:=this.resolve_right (λh=>h gA);rw[if_neg (by omega)];exact C
       ·exact C
      have e2:∀ b,w.heap.size <= b -> cZ b=O b:=by
       intro b C;show (match dI aj dA id b with|none=>if b<w.heap.size then aj b else O b|some _=>O b)=O b;split
       ·rw[if_neg (by omega)]
       ·rfl
      have abo:∀ p∈qC w' ρ (gJ o.dst) (eA c.ro y.1).len D (jC (ep c.ps) y.2),(qC w' ρ (gJ o.dst) (eA c.ro y.1).len D (jC (ep c.ps) y.2)).lookup p.1=some p.2:=
       abg (by rw[ML,nA];exact ok1)
      generalize AE:qC w' ρ (gJ o.dst) (eA c.ro y.1).len D (jC (ep c.ps) y.2)=hd at abo;have anE:hd.map (·.1)=cn:=by rw[<- AE,ML,nA]
      have hv:rM w w' aj cZ ρ (abe hd ρ) ns cn:=by
       refine⟨jj.size,λb C hk=>?_,λn Z=>?_,λb k C=>(T.cL b k C).2⟩
       ·have gA:dI aj dA id b=none:=by
         cases E:aj b with
         |none=>exact hS.none b E
         |some k=>exact(hS.rest b k E).2 (hk k E)
        refine⟨jj.block b C gA,?_⟩;show (match dI aj dA id b with|none=>if b<w.heap.size then aj b else O b|some _=>O b)=aj b;rw[gA];exact if_pos C
       ·show (match hd.lookup n with|some v=>Loc.dw v|none=>ρ n)=ρ n;rw[abf (by rw[anE];exact Z)]
      have Gy:∀Y∈D,cX Y.root cn=false:=λY iy=>by simpa using List.all_eq_true.1 ok2 Y iy
      have hnr:=Us (c0:=gJ o.dst) (nm:=nm) T hv e1 e2 hB D (lE c.ps x) (jC (ep c.ps) y.2) 0 (eA c.ro y.1).len iw abm hrel (by omega) Ux (λk n Z=>?_) (λp hp=>?_) Gy ok4
      ·have abp:gT w0 w w':=by
        refine⟨jj.os,jj.tape,jj.output,jj.size,λk hk hL=>jj.block k (Nat.lt_of_lt_of_le hk hB) ?_⟩
        cases E:aj k with
        |none=>exact hS.none k E
        |some U=>exact absurd hL ((T.cL k U E).1.resolve_left (by omega))
       have nG:Rl w0 N cZ (abe hd ρ) (σ.dZ ns cn (mD ns cn (gJ o.dst) (eA c.ro y.1).len D (jC (ep c.ps) y.2))) a w':=by
        refine T.rN hv abp (λb k C=>?_) (λn Z=>?_) (λn z hz=>?_)
        ·have C:(match dI aj dA id b with | none=>if b<w.heap.size then aj b else O b | some _=>O b)=some k:=C;have abq:O b=some k -> (w0.heap.size <= b \/ w0.L b≠none)/\b<w'.heap.size/\k≠[]:=by
          intro h1;obtain⟨g1,g2,g3⟩:=Df b k h1;refine⟨?_,g2,g3⟩;rcases g1 with g1|g1
          ·exact .inl (Nat.le_trans hB g1)
          ·cases gA:dI aj dA id b with
           |none=>exact absurd gA g1
           | some k2=>
            obtain⟨⟨U,E,_⟩,_⟩:=MN b k2 gA;exact(T.cL b U E).1
         split at C
         ·split at C
          ·have:=T.cL b k C;exact⟨this.1,Nat.lt_of_lt_of_le this.2.1 jj.size,this.2.2⟩
          ·exact abq C
         ·exact abq C
        ·have:=List.all_eq_true.1 ok3 n (vN.1 Z);rw[Bool.or_eq_true]at this;refine T.cT n ?_;rcases this with h | h
         ·exact .inl (by have:=Nat.le_of_ble_eq_true h;omega)
         ·exact .inr (Nat.le_of_ble_eq_true h)
        ·have x4:(n,z)∈mD ns cn (gJ o.dst) (eA c.ro y.1).len D (jC (ep c.ps) y.2):=by
          clear hnr;generalize mD ns cn (gJ o.dst) (eA c.ro y.1).len D (jC (ep c.ps) y.2)=l at hz
          induction l with
          |nil=>cases hz
          | cons p l ih=>
           rw[List.lookup_cons]at hz;cases C:n==p.1 with
           | true=>
            rw[C]at hz;have e:n=p.1:=by simpa using C
            injection hz with hz;rw[e,<- hz]
            grind
           | false=>
            rw[C]at hz;exact .tail _ (ih hz)
         exact hnr (n,z) x4
       have anF:oe w' w0.heap.size cZ (λn=>gJ o.dst+n) (eA c.ro y.1) v:=?_
       ·obtain⟨qD,Gz,vQ⟩:=AF cZ _ a w' v nG anF;exact hK v w' cZ _ qD Gz (by rw[abl,FK];exact hv) abp vQ
       have Uy:∀(L:Nat),L=(eA c.ro y.1).len -> ∀n,n<L -> nm n=gJ o.dst+n:=λL hL n Z=>if_pos (by omega)
       generalize aF3:eA c.ro y.1=res at jR Uy;cases res with
       | one p=>
        have jR:iu w' w.heap.size O nm 0 [p] [v]:=jR;exact iu.xW [p] 0 [v] jR hB e2 e1 (λn _ Z=>Uy _ rfl n (by simpa [eY.len]using Z))
       | dW vJ=>
        obtain⟨vs,e,iN⟩:=jR;exact⟨vs,e,iu.xW vJ 0 vs.toList iN hB e2 e1 (λn _ Z=>Uy _ rfl n (by simpa [eY.len]using Z))⟩
      ·show (if (eA c.ro y.1).len+k<(eA c.ro y.1).len then gJ o.dst+((eA c.ro y.1).len+k)else (yb _ (eA c.ro y.1).len D).getD ((eA c.ro y.1).len+k-(eA c.ro y.1).len) 0)=n;rw[if_neg (by omega),show (eA c.ro y.1).len+k-(eA c.ro y.1).len=k by omega,List.getD_eq_getElem?_getD,Z];rfl
      ·rw[AE]at hp;show (match hd.lookup p.1 with|some v=>Loc.dw v|none=>ρ p.1) = .dw p.2;rw[abo p hp]
   ·cases h2
 ·cases h
def anG{f:Nat}{args:Array Operand}{E:Array TypeId}{c:mA}{k:S -> ah X}(L:o.op = .call { callee:=.value (.func f),args,argTypes:=E })(O:enters P f)(T:rL P f c)(h:qB N σ o.dst c args.toList k=some r):∃ C,k C=some r/\jN P w0 N o σ C:=by
 obtain⟨C,Uz,cn,U,_,_,_,Y⟩:=Uw L O T h
 refine⟨C,U,λa w K Q D Z=>?_⟩
 obtain⟨aj,ρ,D⟩:=D;exact Y a w K Q aj ρ D λv w' cZ dY qD cW _ _ _=>Z _ _ ⟨cZ,qD,cW⟩
end
end Go.Proofs.YtnilicojgkhpnaaGreat
