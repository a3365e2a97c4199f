/-
  Running the program over pure contents, and that it follows (part 2). Nothing here is a claim.
-/
import Derived.Laws.StructEq
import Derived.Test.YthmgjjfedieljaaGreatV1
set_option linter.unusedSimpArgs false
namespace Go.Proofs.YthmgjjfedieljaaGreat
set_option linter.defProp false
open Go.RowKit
set_option linter.unusedVariables false
def aym{X:Type}(N:Nat)(σ:S)(C:ah Tmp)(c x y:A)(k:S->ah X):ah X:=
 match c with
 |.lf (.v (.bool b))=>bif b then jm N σ C x k else jm N σ C y k
 |_=>none
def Jc{X:Type}(P:Program)(s:TypeId)(x:A)(f:Nat)(k:A->ah X):ah X:=
 match IT P s f,x with
 | some fd,.agg cs=>(match kO P fd.type,FD P fd.type with
  |some n,some true=>if fd.offset+n<=cs.length then k (.agg ((cs.drop fd.offset).take n))else none
  | some _,some false=>(match cs[fd.offset]? with
   |some y=>k (.lf y)
   |none=>none)
  |_,_=>none)
 |_,_=>none
def FM{X:Type}(C:Bool)(x y:A)(k:A->ah X):ah X:=
 match x,y with
 |.lf (.v (.int D a)),.lf (.v (.int _ b))=>k (.lf (.v (.int D (bif C then (if b > a then b else a)else (if b<a then b else a)))))
 |_,_=>none
def Jd{X:Type}(P:Program)(t:TypeId)(x i:A)(k:A->ah X):ah X:=
 match x,i with
 | .lf (.v (.str s)),.lf (.v (.int _ iv))=>(match P.underlying t with
  |some .string=>if h:0<=iv/\iv.toNat<s.size then k (.lf (.v (.int .u8 ((s[iv.toNat]'h.2).toNat:Int))))else none
  |_=>none)
 |_,_=>none
def wV{X:Type}(x:ah A)(d:Int)(k:Int->ah X):ah X:=
 match x with
 |none=>k d
 |some (.lf (.v (.int _ n)))=>k n
 |_=>none
def Af{X:Type}(P:Program)(t:TypeId)(x:A)(lo hi:ah A)(k:A->ah X):ah X:=
 match x with
 | .lf (.v (.str s))=>(match P.underlying t with
  |some .string=>wV lo 0 λl=>wV hi (s.size:Int) λh=>if 0<=l/\l<=h/\h<=(s.size:Int)then k (.lf (.v (.str (s.extract l.toNat h.toNat))))else none
  |_=>none)
 | .lf (.v (.sl C g D l))=>(match sY P t with
  | some e=>(match kO P e with
   |some n=>if n=aF C then (bif Nat.blt g 2 then wV lo 0 λa=>wV hi (l.length:Int) λb=>if 0<=a/\a<=b/\b<=(l.length:Int)then k (.lf (.v (.sl C g false ((l.take b.toNat).drop a.toNat))))else none else none)else none
   |none=>none)
  |none=>none)
 |_=>none
def FN(P:Program)(C D:TypeId):Bool:=
 match P.underlying C,P.underlying D with
 | some (.slice e),some .string=>(match P.underlying e with
  |some (.int .u8)=>true
  |_=>false)
 |_,_=>false
def Nm{X:Type}(P:Program)(C D:TypeId)(z:V)(k:A->ah X):ah X:=
 match z with
 |.sl .u8 _ _ l=>bif FN P C D then k (.lf (.v (.str (strOfNums l))))else none
 |.nil=>bif FN P C D then k (.lf (.v (.str (strOfNums []))))else none
 |_=>none
def BE{X:Type}(P:Program)(σ:S)(C D:TypeId)(x:A)(k:A->ah X):ah X:=
 match x with
 | .lf (.v (.int _ n))=>(match P.underlying C,P.underlying D with
  |some _,some (.int E)=>k (.lf (.v (.int E (E.wrap n))))
  |_,_=>none)
 |.lf y=>rX σ y λz=>Nm P C D z k
 |_=>none
section
variable {P:Program} {w w':World} {w0:Wd} {B N:Nat} {af aC:bB} {ρ ρ':Nat->Loc} {σ:S} {a:Act} {X:Type} {d:Nat} {r:X} {o:Oper}
def ayn{α:Type}(f:α -> aa Value)(s:Nat)(C:∀ x,(f x).length=s)(l:aa α):(l.flatMap f).length=l.length*s:=by
 induction l with
 |nil=>simp
 |cons a l D=>grind
def aky{α:Type}(f:α -> aa Value)(s:Nat)(D:∀ x,(f x).length=s):∀ (l:aa α) (k:Nat) (C:k<l.length) (j:Nat),j<s -> (l.flatMap f)[k*s+j]?=(f l[k])[j]?:=by
 intro l
 induction l with
 |nil=>simp_all
 | cons a l E=>
  intro k C j I;rw[List.flatMap_cons];cases k with
  |zero=>grind
  |succ k =>grind
def aaC(z:Array Value)(s n:Nat)(C:z.size=s)(E:0<s):(madeCells z (n*s)).toList=(List.replicate n z.toList).flatten:=by
 have e:(List.replicate n z.toList).flatten=(List.replicate n ()).flatMap (λ_=>z.toList):=by
  rw[List.flatMap_def,List.map_replicate]
 rw[e];have hl:((List.replicate n ()).flatMap (λ_=>z.toList)).length=n*s:=by
  simp_all
 apply List.ext_getElem?;intro i;rcases Nat.lt_or_ge i _ with hi|hi
 ·have I:i / s<n:=Nat.div_lt_of_lt_mul (by rw[Nat.mul_comm];exact hi);have O:i % s<s:=Nat.mod_lt _ E;have T:i=i / s*s+i % s:=by rw[Nat.mul_comm];exact(Nat.div_add_mod i s).symm
  have D:=aky (λ_=>z.toList) s (λ_=>by simpa using C) (List.replicate n ()) (i / s) (by simpa using I) (i % s) O;rw[<- T]at D;rw[D];have U:i % s<z.size:=by omega
  simp only[madeCells,Array.toList_map,Array.toList_range,fz,List.getElem?_range hi,Option.map_some,C];simp[U]
 ·rw[qL (by rw[nO,size_madeCells];exact hi),qL (by rw[hl];exact hi)]
def akz{t:TypeId}{len:Nat}{parts:Array (Nat×Operand)}{k:S -> ah X}(h:BB P N σ d t len parts.toList k=some r):∃ di,k di=some r /\ ∀ af ρ a w,Rl w0 N af ρ σ a w ->
  ∃w' aC ρ' v,(Instr.buildSlice t len (parts.map λ(i,x)=>(i,a.eval x))).run P w = .ok v w'/\Rl w0 N aC ρ' di (a.put (some d) v) w':=by
 unfold BB at h;split at h
 ·rename_i e tc r3;obtain⟨iN,ht,i,hi,Y,kD⟩:=By r3;split at h
  ·rename_i z hz;cases T:(Nat.beq (full tc) 0&&Nat.beq z.cells.size (aF tc)&&Nat.blt (len*aF tc) 16777217)with
   |false=>rw[T]at h;cases h
   | true=>
    rw[T,av]at h;simp only[aH]at T;have hf:=c8 T.1.1;have qa:=c8 T.1.2;have hsm:len*aF tc<16777217:=by have:=cH T.2;omega
    have r4:i.zero=some z:=by unfold zeroOf at hz;simpa [hi]using hz
    split at h
    ·rename_i cs jn;split at h
     ·rename_i vs lS;split at h
      ·rename_i l hl;obtain⟨hd,h⟩:=qj h
       refine⟨_,h,λaf ρ a w hR=>?_⟩
       obtain⟨Dt,z0,jq⟩:=Nl tc 0 len vs l hl;have Tv:fG w w0.heap.size af ρ (List.replicate len (z.cells.toList.map qT)).flatten (madeCells z.cells (len*aF tc)):=by
        have e1:(List.replicate len (z.cells.toList.map qT)).flatten=((List.replicate len z.cells.toList).flatten).map qT:=by
         rw[List.map_flatten,List.map_replicate]
        rw[e1,<- aaC z.cells (aF tc) len qa (qP tc)]
        refine⟨by simp,λj x C=>?_⟩
        rw[fz]at C;cases E:(madeCells z.cells (len*aF tc)).toList[j]? with
        |none=>rw[E]at C;cases C
        | some v=>
         rw[E]at C;injection C with C;subst C;exact⟨v,by simpa using E,Nf v⟩
       obtain⟨I,Ag,dK⟩:=Nk (w:=w) (B:=w0.heap.size) (af:=af) (ρ:=ρ) _ _ _ (parts.toList.map λp=>(p.1,a.eval p.2)) cs jn Tv (by simp) (λj p q O Z=>by
        rw[fz]at O Z;cases C:parts.toList[j]? with
        |none=>rw[C]at O;cases O
        | some x=>
         rw[C]at O Z;injection O with O;injection Z with Z;subst O Z;exact⟨rfl,hR.aJ x.2⟩)
       have Je:=Ja cs vs lS;have Tw:I.size=len*aF tc:=by rw[dK.1,Je,fN,z0]
       have fJ:(Instr.buildSlice t len (parts.map λ(i,x)=>(i,a.eval x))).run P w = .ok (.slice (some ⟨w.heap.size,0,none⟩) len len) (w.alloc (.cells I e)):=by
        have I9:(parts.map λ(i,x)=>(i,a.eval x)).toList=parts.toList.map λp=>(p.1,a.eval p.2):=by simp
        by_cases h0:len*aF tc=0
        ·have hm:madeCells z.cells (len*aF tc) = #[]:=by rw[h0];simp[madeCells]
         rw[hm]at Ag;have Tx:len*i.size=0:=by rw[Y];exact h0
         rw[<- Y]at Ag;have e0:∀f:Nat -> Value,Array.map f (Array.range 0) = #[]:=λf=>by simp
         simp only[Instr.buildSlice,gW,iY iN,sizeOf,typeInfo];simp[hi,Tx];rw[e0,Ag];simp[newRow]
        ·exact run_buildSlice (P:=P) w t e len _ I i z iN hi r4 (by rw[Y];omega) (by rw[Y];exact h0) (by rw[Y,I9];exact Ag)
       refine⟨_,bK af w.heap.size (some [d]),bK ρ d (.dP (.slice (some ⟨w.heap.size,0,none⟩) len len)),_,fJ,(hR.Dl (hR.cT d (.inl hd)) (λr hr=>cz _ _ _ hr) (.sl _ _ (bT _ _ _) ?_)).set ⟨rfl,by simp[de,bT]⟩ hd⟩
       have qi:∀ D (U:D<l.length) j x,(enc tc 0 l[D])[j]?=some x -> ∃ v,I[D*aF tc+j]?=some v /\ ∀ (w':World) (B':Nat) (aC:bB) (q':aa Nat),RV w' B' aC q' x v:=by
        intro D U j x C;obtain⟨y,hy,hw⟩:=jq D U j x C;obtain⟨v,E,hr⟩:=dK.2 (D*aF tc+j) (.v y) (by rw[Je,fz,hy];rfl);exact⟨v,E,λw' B' aC q'=>(hr.2.wk hw).wK (Bl tc 0 l[D] hf x (iR C))⟩
       have:=RV.own (w:=w.alloc (.cells I e)) (B:=w0.heap.size) (af:=bK af w.heap.size (some [d])) [d] tc 0 true l w.heap.size len I (λi j=>(I[i*aF tc+j]?).getD undef)
        (bT _ _ _) (by rw[ht];exact heap_alloc_new w _) Tw (by omega) ⟨by have:=Nat.le_mul_of_pos_right len (qP tc);unfold maxLen;omega,λ_=>Dt.symm⟩ (λD U j x C=>?_) (λD U j x C=>?_)
       ·rw[Dt]at this;exact this
       ·obtain⟨v,E,_⟩:=qi D U j x C;rw[E];rfl
       ·obtain⟨v,E,hr⟩:=qi D U j x C;rw[E];exact hr _ _ _ _
      ·cases h
     ·cases h
    ·cases h
  ·cases h
 ·cases h
def aaD{C:Bool}{x y:A}{k:A->ah X}(h:FM C x y k=some r):∃ z,k z=some r/\∀ (w:World) (B:Nat) (af:bB) (ρ:Nat->Loc) (t ty:TypeId) (u v:Value),RA w B af ρ x u->RA w B af ρ y v->
  ∃D,((bif C then Builtin.max_ #[t,t] ty #[u,v]else Builtin.min_ #[t,t] ty #[u,v]):Sem Value).run P w = .ok D w/\RA w B af ρ z D:=by
 unfold FM at h;split at h
 ·refine⟨_,h,λw B af ρ t ty u v E I=>?_⟩
  obtain rfl:=E.2.iS;obtain rfl:=I.2.iS;cases C with
  |true=>exact⟨_,by simp[Builtin.max_,Builtin.max2],rfl,.int _ _ _⟩
  |false=>exact⟨_,by simp[Builtin.min_,Builtin.min2],rfl,.int _ _ _⟩
 ·cases h
def akA{t:TypeId}{x i:A}{k:A->ah X}(h:Jd P t x i k=some r):∃ z,k z=some r/\∀ (w:World) (B:Nat) (af:bB) (ρ:Nat->Loc) (u v:Value),RA w B af ρ x u->RA w B af ρ i v->
  ∃C,(Instr.index t u v).run P w = .ok C w/\RA w B af ρ z C:=by
 unfold Jd at h;split at h
 ·rename_i s O iv;split at h
  ·rename_i D;split at h
   ·rename_i hb
    refine⟨_,h,λw B af ρ u v E I=>?_⟩
    obtain rfl:=E.2.zX;obtain rfl:=I.2.iS;exact⟨_,by simp[Instr.index,asIntOf,iY D,hb.1,hb.2],rfl,.int _ _ _⟩
   ·cases h
  ·cases h
 ·cases h
def aaE{C D:TypeId}(h:FN P C D=true):∃ e,P.underlying C=some (.slice e)/\P.underlying D=some .string/\P.underlying e=some (.int .u8):=by
 unfold FN at h
 grind
def aaF(l:aa Int)(i:Nat)(hi:i<l.length):l.getD i 0=l[i]:=by rw[cQ,bL hi];rfl
def RV.toStr{I O e:TypeId}(Y:P.underlying I=some (.slice e))(Z:P.underlying O=some .string)(he:P.underlying e=some (.int .u8)){o:Nat}{qn:Bool}{l:aa (T .u8)}{q:aa Nat}{B:Nat}{u:Value}(h:RV w B af q (.sl .u8 o qn l) u):
  (convert I O u).run P w = .ok (.string (strOfNums l)) w:=by
 generalize C:V.sl .u8 o qn l=y at h;cases h with
 |int=>cases C
 |bool=>cases C
 |str=>cases C
 |nil=>cases C
 | fC q t o'=>
  injection C with D e2 e3 E;subst D;obtain rfl:=eq_of_heq E;rw[run_convert_bytes_nil w I e Y he 0 0 O Z];rfl
 | gF q t o' A c ho=>
  injection C with D e2 e3 E;subst D;obtain rfl:=eq_of_heq E;have hl:=run_loadCells_list (P:=P) w A [] (λj v hj=>by simp at hj);rw[run_convert_bytes_string w I O e _ 0 c Y he Z];rfl
 | gO q t o' A c ho=>
  injection C with D e2 e3 E;subst D;obtain rfl:=eq_of_heq E;have hl:(loadCells A 0).run P w = .ok (([]:aa Int).map (Value.int .u8)).toArray w:=run_loadCells_list (P:=P) w A [] (λj v hj=>by simp at hj);rw[run_convert_bytes_string w I O e _ 0 c Y he Z,run_bytesToString w A 0 c [] hl];rfl
 | aI q t o' Ty l' b off cap uu ho hl hb h1 lQ hc hr=>
  injection C with D e2 e3 E;subst D;obtain rfl:=eq_of_heq E
  refine run_convert_bytes_arg w I e Y he b off _ cap l rfl (λi hi=>?_) O Z
  have U:=hc i hi 0 (.int .u8 l[i]) rfl;have h3:=(hr i hi 0 (.int .u8 l[i]) rfl).iS;simp only[aF,Nat.mul_one,Nat.add_zero]at U;have hg:=aaF (show aa Int from l) i hi;rw[U,h3];exact bE (λz=>some (Value.int .u8 z)) hg.symm
 | own q t o' Ty l' b cap cs uu hl hh rW hn hm hc hr=>
  injection C with D e2 e3 E;subst D;obtain rfl:=eq_of_heq E
  refine run_convert_bytes_arg w I e Y he b 0 _ cap l rfl (λi hi=>?_) O Z
  have U:=hc i hi 0 (.int .u8 l[i]) rfl;have h3:=(hr i hi 0 (.int .u8 l[i]) rfl).iS;simp only[aF,Nat.mul_one,Nat.add_zero]at U;have hg:=aaF (show aa Int from l) i hi;rw[h3]at U;have h4:w.cell? ⟨b,0+i,none⟩=some (.int .u8 l[i]):=by simp[World.cell?,hh,U]
  rw[h4];exact bE (λz=>some (Value.int .u8 z)) hg.symm
def akB{E I:TypeId}{x:A}{k:A -> ah X}(h:BE P σ E I x k=some r):∃ z,k z=some r /\ ∀ af ρ a w,Rl w0 N af ρ σ a w -> ∀ u,RA w w0.heap.size af ρ x u ->
  ∃t',(convert E I u).run P w = .ok t' w/\RA w w0.heap.size af ρ z t':=by
 unfold BE at h;split at h
 ·rename_i kk n;split at h
  ·rename_i d1 kd hs hd
   refine⟨_,h,λaf ρ a w _ u C=>?_⟩
   obtain rfl:=C.2.iS;exact⟨_,by simp[convert,iY hs,iY hd,Conv.intToInt],rfl,.int _ _ _⟩
  ·cases h
 ·rename_i y _;have key:∃ z,(∀ af ρ a w,Rl w0 N af ρ σ a w -> ∀ u,eE w w0.heap.size af ρ y u -> ∃ q,RV w w0.heap.size af q z u)/\Nm P E I z k=some r:=by
   cases y with
   |v z=>exact⟨z,λaf ρ a w _ u C=>⟨[],C.2⟩,h⟩
   |dead=>cases h
   | own q=>
    obtain⟨z,T,h⟩:=vc q _ h
    refine⟨z,λaf ρ a w hR u C=>?_,h⟩
    obtain⟨v,hv,U⟩:=T.ok hR.root;have h3:=C.2
    grind
  obtain⟨z,T,D⟩:=key;clear h;unfold Nm at D;split at D
  ·rename_i o qn l;cases O:FN P E I with
   |false=>simp_all
   | true=>
    rw[O]at D;obtain⟨e,Y,Z,e3⟩:=aaE O
    refine⟨_,D,λaf ρ a w hR u C=>?_⟩
    obtain⟨q,U⟩:=T af ρ a w hR u C;exact⟨_,U.toStr Y Z e3,rfl,.str _ _⟩
  ·cases O:FN P E I with
   |false=>simp_all
   | true=>
    rw[O,av]at D;obtain⟨e,Y,Z,e3⟩:=aaE O
    refine⟨_,D,λaf ρ a w hR u C=>?_⟩
    obtain⟨q,U⟩:=T af ρ a w hR u C;cases U;exact⟨_,by rw[run_convert_bytes_nil w E e Y e3 0 0 I Z];rfl,rfl,.str _ _⟩
  ·cases D
 ·cases h
def akC{s:TypeId}{x:A}{f:Nat}{k:A -> ah X}(h:Jc P s x f k=some r):∃ z,k z=some r /\ ∀ (w:World) (B:Nat) (af:bB) (ρ:Nat -> Loc) (u:Value),RA w B af ρ x u ->
  ∃U,(Instr.field s u f).run P w = .ok U w/\RA w B af ρ z U:=by
 unfold Jc at h;split at h
 ·rename_i fd cs E;have iK:∃ fs,P.underlying s=some (.struct fs)/\fs[f]?=some fd:=by
   unfold IT at E;split at E
   ·simp_all
   ·cases E
  obtain⟨fs,Y,Z⟩:=iK;split at h
  ·rename_i n I C;split at h
   ·rename_i hle
    refine⟨_,h,λw B af ρ u D=>?_⟩
    obtain⟨us,rfl,hR⟩:=D;have O:(isAgg fd.type).run P w = .ok true w:=by
     unfold FD at C;split at C
     next fs' D=>unfold isAgg;rw[gW,iY D];rfl
     next c e D=>unfold isAgg;rw[gW,iY D];rfl
     ·cases C
     ·cases C
    unfold kO at I;cases hi:P.info? fd.type with
    |none=>simp_all
    | some i=>
     have zW:i.size=n:=by simpa [hi]using I
     refine⟨.agg (us.extract fd.offset (fd.offset+n)),by simp[Instr.field,iY Y,Z,asAgg,part,gW,O,sizeOf,typeInfo,hi,zW],_,rfl,?_,λj y T=>?_⟩
     ·have:=hR.1
      grind
     ·obtain⟨hj,Dw⟩:=M5 _ _ _ _ _ T;obtain⟨v,hv,hr⟩:=hR.2 _ y Dw
      grind
   ·cases h
  ·rename_i n I C;split at h
   ·rename_i y T
    refine⟨_,h,λw B af ρ u D=>?_⟩
    obtain⟨us,rfl,hR⟩:=D;obtain⟨v,hv,hr⟩:=hR.2 _ y T;have O:(isAgg fd.type).run P w = .ok false w:=by
     unfold FD at C;split at C
     ·cases C
     ·cases C
     next d hs ha D=>unfold isAgg;rw[gW,iY D];simp_all
     ·cases C
    exact⟨v,by simp[Instr.field,iY Y,Z,asAgg,part,gW,O,hv],hr⟩
   ·cases h
  ·cases h
 ·cases h
end
def V.val:V->Value
 |.int k n=>.int k n
 |.bool b=>.bool b
 |.str s=>.string s
 |_=>undef
def Nn:TypeDesc->V->V->ah Bool
 |.int _,.int k a,.int C b=>if k=C then some (a==b)else none
 |.bool,.bool a,.bool b=>some (a==b)
 |.string,.str a,.str b=>some (a.toList==b.toList)
 |_,_,_=>none
def Jf(P:Program)(g:TypeId->aa V->aa V->ah Bool)(xs ys:aa V):aa Field->ah Bool
 |[]=>some true
 | f :: fs=>bif f.name == "_" then Jf P g xs ys fs else (match kO P f.type with
  | some n=>bif Nat.ble (f.offset+n) xs.length then (match g f.type ((xs.drop f.offset).take n) ((ys.drop f.offset).take n),Jf P g xs ys fs with
   |some a,some b=>some (a&&b)
   |_,_=>none)else none
  |none=>none)
def BF(P:Program):Nat->TypeId->aa V->aa V->ah Bool
 |0,_,_,_=>none
 | n+1,t,xs,ys=>match P.underlying t with
  |some (.struct fs)=>bif P.stoodInHeld t ||!Nat.beq xs.length ys.length then none else Jf P (BF P n) xs ys fs.toList
  | some d=>(match xs,ys with
   |[x],[y]=>Nn d x y
   |_,_=>none)
  |none=>none
def Np:BinOp->ah Bool
 |.eql=>some false
 |.neq=>some true
 |_=>none
def lz{α:Type}:aa α->Bool
 |[]=>true
 |_=>false
def isStr(P:Program)(t:TypeId):Bool:=match P.underlying t with
 |some (.struct _)=>true
 |_=>false
def BG{X:Type}(P:Program)(σ:S)(D:BinOp)(t:TypeId)(x y:A)(k:A->ah X):ah X:=
 match Np D,x,y with
 | some C,.agg cs,.agg E=>(match uc cs,uc E with
  | some xs,some ys=>bif P.eqGuardType P.depth t || !isStr P t then none else (match BF P 20 t xs ys with
   |some b=>k (.lf (.v (.bool (bif C then !b else b))))
   |none=>none)
  |_,_=>none)
 | some C,.lf l,.lf (.v .nil)=>(match sY P t with
  | some _=>rX σ l λz=>(match z with
   |.nil=>k (.lf (.v (.bool (bif C then false else true))))
   |.sl _ _ true _=>k (.lf (.v (.bool (bif C then true else false))))
   |.sl _ _ false l=>bif lz l then none else k (.lf (.v (.bool (bif C then true else false))))
   |_=>none)
  |none=>none)
 |_,_,_=>vK x λa=>vK y λb=>IP P t D a b λz=>k (.lf (.v z))
section
variable {P:Program} {w w':World} {w0:Wd} {B N:Nat} {af aC:bB} {ρ ρ':Nat->Loc} {σ:S} {a:Act} {X:Type} {d:Nat} {r:X} {o:Oper}
def akD{D:TypeDesc}{x y:V}{b:Bool}{t:TypeId}{n:Nat}(C:P.underlying t=some D)(h:Nn D x y=some b):(Op.equalIn (n+1) t x.val y.val).run P w = .ok b w:=by
 unfold Nn at h;split at h
 ·split at h
  next I _ a k b' E=>subst E;injection h with h;subst h;exact run_equalIn_int w n t _ _ _ _ C
  ·cases h
 ·injection h with h;subst h;exact run_equalIn_bool' w n t _ _ C
 ·injection h with h;subst h;exact run_equalIn_string w n t _ _ C
 ·cases h
def wW(P:Program)(t:TypeId)(xs:aa V)(u:Value):Prop:=
 match P.underlying t with
 |some (.struct _)=>u = .agg (xs.map V.val).toArray
 |_=>∃x,xs=[x]/\u=x.val
def aaG{t:TypeId}{n off:Nat}{xs:aa V}(I:kO P t=some n)(hle:off+n <= xs.length)(O:∃ d,P.underlying t=some d/\(∀ c e,d ≠ .array c e)/\((∀ fs,d ≠ .struct fs) -> n=1)):
  ∃u,(part t (xs.map V.val).toArray off).run P w = .ok u w/\wW P t ((xs.drop off).take n) u:=by
 obtain⟨d,C,T,U⟩:=O;unfold kO at I;cases hi:P.info? t with
 |none=>grind
 | some i=>
  have Y:i.size=n:=by simpa [hi]using I
  by_cases D:∃fs,d = .struct fs
  ·obtain⟨fs,rfl⟩:=D;have E:(isAgg t).run P w = .ok true w:=by
    unfold isAgg;rw[gW,iY C];rfl
   refine⟨.agg ((xs.map V.val).toArray.extract off (off+n)),by simp[part,gW,E,sizeOf,typeInfo,hi,Y],?_⟩;unfold wW;rw[C];simp only;congr 1;apply Array.ext';simp[List.map_drop,List.map_take]
  ·have E:(isAgg t).run P w = .ok false w:=by
    unfold isAgg;rw[gW,iY C w];cases d<;>first|rfl|(exfalso;exact D ⟨_,rfl⟩)|(exfalso;exact T _ _ rfl)
   have Z:n=1:=U λfs e=>D ⟨fs,e⟩
   subst Z;have dA:off<xs.length:=by omega
   have qi:(xs.map V.val).toArray[off]?=some (xs[off]).val:=by simp[dA]
   refine⟨(xs[off]).val,by simp[part,gW,E,qi],?_⟩;have e1:(xs.drop off).take 1=[xs[off]]:=by
    rw[List.drop_eq_getElem_cons];rfl
   unfold wW;rw[C];split
   ·grind
   ·grind
def akE{n:Nat}{t:TypeId}{xs ys:aa V}{b:Bool}(h:BF P n t xs ys=some b):∃ d,P.underlying t=some d/\(∀ c e,d ≠ .array c e)/\((∀ fs,d ≠ .struct fs) -> xs.length=1):=by
 cases n with
 |zero=>cases h
 | succ n=>
  unfold BF at h;split at h
  ·simp_all
  ·rename_i d E C;split at h
   next x y=>exact⟨d,C,(λc e D=>by subst D;simp[Nn]at h),λ_=>rfl⟩
   ·cases h
  ·cases h
def Tz{n:Nat}{xs ys:aa V}(hlen:xs.length=ys.length)(E:∀ t xs ys b,BF P n t xs ys=some b -> ∀ u v,wW P t xs u -> wW P t ys v -> ∀ k,(Op.equalIn (k+n) t u v).run P w = .ok b w)(k:Nat):∀ (fs:aa Field) (b:Bool),Jf P (BF P n) xs ys fs=some b ->
  (Op.eqFields (k+n) (xs.map V.val).toArray (ys.map V.val).toArray fs).run P w = .ok b w
 | [],b,h=>by
  injection h with h;subst h;simp[Op.eqFields]
 | f :: fs,b,h=>by
  unfold Jf at h;cases C:f.name == "_" with
  | true=>
   rw[C]at h;have:f.name = "_":=by simpa using C
   simp[Op.eqFields,this,not_true];exact Tz hlen E k fs b h
  | false=>
   rw[C,ax]at h;have bQ:f.name ≠ "_":=by simpa using C
   split at h
   ·rename_i s I;cases D:Nat.ble (f.offset+s) xs.length with
    |false=>simp_all
    | true=>
     rw[D,av]at h;have D:=cH D;split at h
     ·rename_i c e O h2;injection h with h;subst h;obtain⟨d1,T,U,Y⟩:=akE O;have Z:((xs.drop f.offset).take s).length=s:=by simp;omega
      obtain⟨u,TA,n6⟩:=aaG (w:=w) I D ⟨d1,T,U,λh=>Z.symm.trans (Y h)⟩;obtain⟨v,Jg,Ah⟩:=aaG (w:=w) (xs:=ys) (off:=f.offset) I (by omega) ⟨d1,T,U,λh=>Z.symm.trans (Y h)⟩;have hr:=E _ _ _ c O u v n6 Ah k;have yE:=Tz hlen E k fs e h2;simp only[Op.eqFields,bQ,ne_eq,not_false_eq_true,if_true,gW,TA,Jg,hr,nQ];cases c
      ·simp
      ·simp_all
     ·cases h
   ·cases h
def aaH:∀ (n:Nat) (t:TypeId) (xs ys:aa V) (b:Bool),BF P n t xs ys=some b -> ∀ u v,wW P t xs u -> wW P t ys v -> ∀ k,(Op.equalIn (k+n) t u v).run P w = .ok b w
 |0,t,xs,ys,b,h=>by cases h
 | n+1,t,xs,ys,b,h=>by
  intro u v C D k;unfold BF at h;split at h
  ·rename_i fs I;cases E:(P.stoodInHeld t || !Nat.beq xs.length ys.length)with
   |true=>simp_all
   | false=>
    rw[E,ax]at h;rw[qM,Bool.not_eq_false']at E;have hlen:=c8 E.2;unfold wW at C D;rw[I]at C D;simp only at C D;subst C D;have U:P.fieldsOf t=fs:=by simp[Program.fieldsOf,I]
    rw[<- Nat.add_assoc,run_equalIn_struct w (k+n) t _ _ (by rw[U];exact I) E.1,U];exact Tz hlen (aaH n) k fs.toList b h
  ·rename_i d Z Y;split at h
   ·rename_i x y;unfold wW at C D;rw[Y]at C D;split at C
    ·simp_all
    ·split at D
     ·simp_all
     ·obtain⟨x',O,rfl⟩:=C;obtain⟨y',T,rfl⟩:=D;injection O with O;injection T with T;subst O T;exact akD Y h
   ·cases h
  ·cases h
def aaI{cs:aa Lf}{xs:aa V}(h:uc cs=some xs){u:Value}(D:RA w B af ρ (.agg cs) u):u = .agg (xs.map V.val).toArray:=by
 obtain⟨e,E⟩:=M6 _ _ h;obtain⟨us,rfl,Y,I⟩:=D;congr 1;apply Array.ext';apply List.ext_getElem?;intro j;rw[ fz,Array.getElem?_toList];cases C:xs[j]? with
 |none =>simp_all
 | some x=>
  obtain⟨v,O,T⟩:=I j _ (by rw[e,fz,C];rfl);rw[O];have:=E x (iR C);have U:=T.2;cases U<;>first|rfl|cases this
def FO{C:BinOp}{D:Bool}(E:Np C=some D){t e:TypeId}(I:P.underlying t=some (.slice e))(O T:Operand)(A:ah Addr)(n c:Nat):
  (do eqGuard C t O T (.slice A n c) (.slice none 0 0);binOp C t (.slice A n c) (.slice none 0 0):Sem Value).run P w = .ok (.bool (bif D then !A.isNone else A.isNone)) w:=by
 have U:(Op.equal t (.slice A n c) (.slice none 0 0)).run P w = .ok A.isNone w:=by
  have h:∀ d,(Op.equalIn (d+1) t (.slice A n c) (.slice none 0 0)).run P w = .ok A.isNone w:=by
   intro d;cases A<;>simp[Op.equalIn,iY I]
  exact h 9999
 cases C<;>simp[Np]at E<;>subst E<;>simp[eqGuard,binOp,U]
def akF{op:BinOp}{t:TypeId}{x y:A}{k:A -> ah X}(h:BG P σ op t x y k=some r):∃ z,k z=some r /\ ∀ af ρ a w,Rl w0 N af ρ σ a w -> ∀ C D u v,RA w w0.heap.size af ρ x u -> RA w w0.heap.size af ρ y v ->
  ∃t',(do eqGuard op t C D u v;binOp op t u v:Sem Value).run P w = .ok t' w/\RA w w0.heap.size af ρ z t':=by
 unfold BG at h;split at h
 ·rename_i T cs ds O;split at h
  ·rename_i xs ys rZ BH;cases hg:(P.eqGuardType P.depth t || !isStr P t)with
   |true=>simp_all
   | false=>
    rw[hg,ax]at h;rw[qM,Bool.not_eq_false']at hg;obtain⟨hg,iK⟩:=hg;split at h
    ·rename_i b hb
     refine⟨_,h,λaf ρ a w hR C D u v E I=>?_⟩
     have E:=aaI rZ E;have I:=aaI BH I;subst E I;have hs:∃ fs,P.underlying t=some (.struct fs):=by
      unfold isStr at iK;split at iK
      ·simp_all
      ·cases iK
     obtain⟨fs,Jh⟩:=hs;have Y:=aaH (w:=w) 20 t xs ys b hb (.agg (xs.map V.val).toArray) (.agg (ys.map V.val).toArray) (by unfold wW;rw[Jh]) (by unfold wW;rw[Jh]) 9980;refine⟨.bool (bif T then !b else b),?_,rfl,.bool _ _⟩;rw[gW,run_eqGuard_agg w op t C D _ _ hg,nQ];cases op<;>simp[Np]at O<;>subst O
     ·rw[run_eql_struct,Y];rfl
     ·rw[run_neq_struct,Y];rfl
    ·cases h
  ·cases h
 ·rename_i T l O;split at h
  ·rename_i e he;have Z:P.underlying t=some (.slice e):=by
    unfold sY at he;split at he
    ·simp_all
    ·cases he
   obtain⟨z,hz,U⟩:=Ts (w0:=w0) (N:=N) h;clear h;split at U
   ·refine⟨_,U,λaf ρ a w hR C D u v E I=>?_⟩
    obtain⟨q,hq⟩:=hz af ρ a w hR u E;cases hq;cases I.2;exact⟨_,FO O Z C D none 0 0,rfl,by cases T<;>exact .bool _ _⟩
   ·refine⟨_,U,λaf ρ a w hR C D u v E I=>?_⟩
    obtain⟨q,hq⟩:=hz af ρ a w hR u E;cases I.2;cases hq with
    |aI _ _ _ _ _ b off cap us ho hl hb h1 lQ hc Y=>exact⟨_,FO O Z C D _ _ _,rfl,by cases T<;>exact .bool _ _⟩
    |own=>exact⟨_,FO O Z C D _ _ _,rfl,by cases T<;>exact .bool _ _⟩
    |gO=>exact⟨_,FO O Z C D _ _ _,rfl,by cases T<;>exact .bool _ _⟩
   ·rename_i t' o' l';cases hl:lz l' with
    |true=>simp_all
    | false=>
     rw[hl,ax]at U
     refine⟨_,U,λaf ρ a w hR C D u v E I=>?_⟩
     obtain⟨q,hq⟩:=hz af ρ a w hR u E;cases I.2;cases hq with
     |fC=>cases hl
     |gF=>cases hl
     |aI _ _ _ _ _ b off cap us ho Jb hb h1 lQ hc Y=>exact⟨_,FO O Z C D _ _ _,rfl,by cases T<;>exact .bool _ _⟩
     |own=>exact⟨_,FO O Z C D _ _ _,rfl,by cases T<;>exact .bool _ _⟩
   ·cases U
  ·cases h
 ·obtain⟨u0,hx,h1⟩:=S7 h;obtain⟨v0,hy,U⟩:=S7 h1;obtain⟨z,h3,hp,hs⟩:=aj9 U;subst hx hy
  refine⟨_,h3,λaf ρ a w hR C D u v E I=>?_⟩
  obtain⟨t',fJ,Y⟩:=hs w _ af C D [] [] _ _ E.2 I.2;exact⟨t',fJ,V.IS hp,Y⟩
/-! Parts of slices that nobody writes. -/
def FP{x:ah A}{C:Int}{k:Int->ah X}(h:wV x C k=some r):∃ n,k n=some r/\(∀ (E:Type) (D:Int->ah E),wV x C D=D n)/\((x=none/\n=C)\/∃ I,x=some (.lf (.v (.int I n)))):=by
 unfold wV at h;split at h
 ·exact⟨_,h,λ_ _=>rfl,.inl ⟨rfl,rfl⟩⟩
 ·exact⟨_,h,λ_ _=>rfl,.inr ⟨_,rfl⟩⟩
 ·cases h
def akG{t:TypeId}{x:A}{lo hi:ah A}{k:A -> ah X}(h:Af P t x lo hi k=some r):∃ y,k y=some r/\(∀ (I:Type) (E:A -> ah I),Af P t x lo hi E=E y) /\
  ((∃ (s:ByteArray) (l h:Int),x = .lf (.v (.str s))/\P.underlying t=some .string/\((lo=none/\l=0) \/ ∃ C,lo=some (.lf (.v (.int C l))))/\((hi=none/\h=s.size) \/ ∃ C,hi=some (.lf (.v (.int C h))))/\0 <= l/\l <= h/\h <= (s.size:Int)/\y = .lf (.v (.str (s.extract l.toNat h.toNat)))) \/
   ∃(tc:TC) (g:Nat) (O:Bool) (xs:aa (T tc)) (e:TypeId) (l h:Int),x = .lf (.v (.sl tc g O xs))/\sY P t=some e/\kO P e=some (aF tc)/\g<2/\((lo=none/\l=0) \/ ∃C,lo=some (.lf (.v (.int C l))))/\((hi=none/\h=xs.length) \/ ∃C,hi=some (.lf (.v (.int C h))))/\0 <= l/\l <= h/\h <= (xs.length:Int)/\y = .lf (.v (.sl tc g false ((xs.take h.toNat).drop l.toNat)))):=by
 unfold Af at h;split at h
 ·rename_i s;split at h
  ·rename_i hu;obtain⟨l,U,d1,Y⟩:=FP h;obtain⟨m,D,d2,Z⟩:=FP U;split at D
   ·rename_i hb
    refine⟨_,D,λI E=>?_,.inl ⟨s,l,m,rfl,hu,Y,Z,hb.1,hb.2.1,hb.2.2,rfl⟩⟩
    simp[Af,hu];simp_all
   ·cases D
  ·cases h
 ·rename_i tc g O xs;split at h
  ·rename_i e he;split at h
   ·rename_i n hn;split at h
    ·rename_i Dk;subst Dk;cases hg:Nat.blt g 2 with
     |false=>simp_all
     | true=>
      rw[hg,av]at h;obtain⟨l,U,d1,Y⟩:=FP h;obtain⟨m,D,d2,Z⟩:=FP U;split at D
      ·rename_i hb
       refine⟨_,D,λI E=>?_,.inr ⟨tc,g,O,xs,e,l,m,rfl,he,hn,cH hg,Y,Z,hb.1,hb.2.1,hb.2.2,rfl⟩⟩
       simp[Af,he,hn,if_true,hg,av];simp_all
      ·cases D
    ·cases h
   ·cases h
  ·cases h
 ·cases h
def akH{t:TypeId}{x:A}{lo hi:ah A}{k:A->ah X}(h:Af P t x lo hi k=some r):∃ y,k y=some r/\(∀ (X':Type) (k':A->ah X'),Af P t x lo hi k'=k' y)/\
  ∀ (w:World) (B:Nat) (af:bB) (ρ:Nat->Loc) (u:Value) (U C:ah Value),RA w B af ρ x u->(∀ a,lo=some a->∃ v,U=some v/\RA w B af ρ a v)->(lo=none->U=none)->(∀ a,hi=some a->∃ v,C=some v/\RA w B af ρ a v)->(hi=none->C=none)->
   ∃t',(Instr.sliceAt t u U C none).run P w = .ok t' w/\RA w B af ρ y t':=by
 obtain⟨y,h1,hd,hc⟩:=akG h
 refine⟨y,h1,hd,λw B af ρ u U C Z yD lT Nq yF=>?_⟩
 have bl:∀ {o:ah A} {E:ah Value} {n Dz:Int},(∀ a,o=some a->∃ v,E=some v/\RA w B af ρ a v)->(o=none->E=none)->((o=none/\n=Dz)\/∃ I,o=some (.lf (.v (.int I n))))->(E=none/\n=Dz)\/∃ I,E=some (.int I n):=by
  intro o E n Dz g1 g2 g3;rcases g3 with ⟨e,e'⟩|⟨I,e⟩
  ·exact .inl ⟨g2 e,e'⟩
  ·obtain⟨v,C,hr⟩:=g1 _ e;exact .inr ⟨I,by rw[C,hr.2.iS]⟩
 rcases hc with ⟨s,l,m,rfl,O,e1,e2,b1,b2,b3,rfl⟩|⟨tc,g,qn,xs,e,l,m,rfl,D,hn,hg,e1,e2,b1,b2,b3,rfl⟩
 ·have h5:=bl yD lT e1;have h6:=bl Nq yF e2;obtain rfl:=Z.2.zX;have em:(m.toNat:Int)=m:=Int.toNat_of_nonneg (by omega);refine⟨.string (s.extract l.toNat m.toNat),?_,rfl,.str _ _⟩;rw[run_sliceAt_string w t _ _ _ _ O];have Ns:0<=m:=by omega
  rcases h5 with ⟨rfl,h7⟩|⟨kl,rfl⟩<;>rcases h6 with ⟨rfl,h8⟩|⟨kh,rfl⟩
  all_goals simp_all [Instr.slice,iY O,Instr.sliceBounds,run_sliceBound]
 ·have h5:=bl yD lT e1;have h6:=bl Nq yF e2;have O:P.underlying t=some (.slice e):=by
   unfold sY at D;split at D
   next e' yB=>injection D with D;rw[<-D];exact yB
   ·cases D
  have jq:P.elem t=e:=by simp[Program.elem,O]
  have T:P.underlying t=some (.slice (P.elem t)):=by rw[jq];exact O
  have Y:(sizeOf (P.elem t)).run P w = .ok (aF tc) w:=by
   unfold kO at hn;cases hi:P.info? e with
   |none=>simp[hi]at hn
   | some i=>
    have:i.size=aF tc:=by simpa [hi]using hn
    simp[sizeOf,typeInfo,jq,hi,this]
  have oK:∃ A n c,u = .slice A n c:=by
   cases Z.2 with
   |fC=>exact⟨_,_,_,rfl⟩
   |gF=>exact⟨_,_,_,rfl⟩
   |gO=>exact⟨_,_,_,rfl⟩
   |aI=>exact⟨_,_,_,rfl⟩
   |own=>exact⟨_,_,_,rfl⟩
  obtain⟨A,n,c,rfl⟩:=oK;obtain⟨hp,FQ,TB⟩:=Z.2.part (a:=l.toNat) (h:=m.toNat) hg (by omega) (by omega);refine⟨_,?_,by simp[V.aI,hg],hp⟩;rw[run_sliceAt_slice w t _ _ _ _ T];rcases h5 with ⟨rfl,rfl⟩|⟨kl,rfl⟩<;>rcases h6 with ⟨rfl,rfl⟩|⟨kh,rfl⟩
  ·rw[run_slice_all w t A n c T,Y,FQ];simp
  ·rw[run_slice_h w t A n c T kh m (by omega) (by omega),Y];simp
  ·rw[run_slice_l w t A n c T kl l (by omega) (by omega),Y,FQ];simp
  ·rw[run_slice_lh w t A n c T kl kh l m (by omega) (by omega) (by omega),Y];simp
/-! Parts of slices that are owned. -/
def FR{X:Type}(n:Nat)(q:aa Nat)(C:ah Nat)(lo hi:ah A)(y:V)(k:A->ah X):ah X:=
 match y with
 |.sl D _ _ l=>if n=aF D then wV lo 0 λa=>wV hi ((C.getD l.length:Nat):Int) λb=>if 0<=a/\a<=b/\b<=(l.length:Int)then k (.view q n a.toNat b.toNat)else none else none
 |_=>none
def DA{X:Type}(P:Program)(σ:S)(t:TypeId)(q:aa Nat)(C:ah Nat)(lo hi:ah A)(k:A->ah X):ah X:=
 match sY P t with
 | some e=>(match kO P e with
  |some n=>kI σ.m q λy=>FR n q C lo hi y k
  |none=>none)
 |none=>none
def BI{X:Type}(P:Program)(σ:S)(t:TypeId)(x:A)(lo hi:ah A)(k:A->ah X):ah X:=
 match x with
 |.lf (.own q)=>DA P σ t q none lo hi k
 |.view q _ 0 j=>DA P σ t q (some j) lo hi k
 |x=>Af P t x lo hi k
def akI{n:Nat}{q:aa Nat}{C:ah Nat}{lo hi:ah A}{y:V}{k:A -> ah X}(h:FR n q C lo hi y k=some r):∃ (tc:TC) (g:Nat) (D:Bool) (xs:aa (T tc)) (l h:Int),y = .sl tc g D xs/\n=aF tc /\
  ((lo=none/\l=0) \/ ∃E,lo=some (.lf (.v (.int E l))))/\((hi=none/\h=((C.getD xs.length:Nat):Int)) \/ ∃E,hi=some (.lf (.v (.int E h))))/\0 <= l/\l <= h/\h <= (xs.length:Int)/\k (.view q n l.toNat h.toNat)=some r /\
  ∀(U:Type) (I:A -> ah U),FR n q C lo hi y I=I (.view q n l.toNat h.toNat):=by
 unfold FR at h;split at h
 ·rename_i tc g D xs;split at h
  ·rename_i Y;obtain⟨l,Z,d1,e1⟩:=FP h;obtain⟨m,O,d2,e2⟩:=FP Z;split at O
   ·rename_i hb
    refine⟨tc,g,D,xs,l,m,rfl,Y,e1,e2,hb.1,hb.2.1,hb.2.2,O,λU I=>?_⟩
    simp[FR,aV Y];simp_all
   ·cases O
  ·cases h
 ·cases h
def aaJ{t:TypeId}{q:aa Nat}{dh:ah Nat}{lo hi:ah A}{k:A -> ah X}(h:DA P σ t q dh lo hi k=some r):∃ y,k y=some r /\
  ∀ af ρ a w,Rl w0 N af ρ σ a w -> ∀ (D:ah Addr) (n c C:Nat) (U E:ah Value),de w af ρ q=some (.slice D n c) -> C=dh.getD n -> C <= n -> (∀ a,lo=some a -> ∃ v,U=some v/\RA w w0.heap.size af ρ a v) -> (lo=none -> U=none) -> (∀ a,hi=some a -> ∃ v,E=some v/\RA w w0.heap.size af ρ a v) -> (hi=none -> E=none) ->
   ∃t',(Instr.sliceAt t (.slice D C c) U E none).run P w = .ok t' w/\RA w w0.heap.size af ρ y t':=by
 unfold DA at h;split at h
 ·rename_i e he;split at h
  ·rename_i n hn;obtain⟨y0,TD,h2⟩:=vc q _ h;obtain⟨tc,g,qn,xs,l,m,rfl,Dk,e1,e2,b1,b2,b3,h3,_⟩:=akI h2
   refine⟨_,h3,λaf ρ a w hR D n' c C U E ng TE hle yD lT Nq yF=>?_⟩
   have bl:∀ {o:ah A} {I:ah Value} {n Dz:Int},(∀ a,o=some a -> ∃ v,I=some v/\RA w w0.heap.size af ρ a v) -> (o=none -> I=none) -> ((o=none/\n=Dz) \/ ∃ O,o=some (.lf (.v (.int O n)))) -> (I=none/\n=Dz) \/ ∃ O,I=some (.int O n):=by
    intro o I n Dz g1 g2 g3;rcases g3 with ⟨e,e'⟩|⟨O,e⟩
    ·grind
    ·obtain⟨v,E,hr⟩:=g1 _ e;exact .inr ⟨O,by rw[E,hr.2.iS]⟩
   have h5:=bl yD lT e1;have h6:=bl Nq yF e2;have iN:P.underlying t=some (.slice e):=by
    unfold sY at he;split at he
    ·grind
    ·cases he
   have jq:P.elem t=e:=by simp[Program.elem,iN]
   have T:P.underlying t=some (.slice (P.elem t)):=by rw[jq];exact iN
   have Y:(sizeOf (P.elem t)).run P w = .ok n w:=by
    unfold kO at hn;cases hi:P.info? e with
    |none=>grind
    | some i=>
     have:i.size=n:=by simpa [hi]using hn
     simp[sizeOf,typeInfo,jq,hi,this]
   obtain⟨v0,Z,jw⟩:=TD.ok hR.root;rw[ng]at Z;injection Z with Z;subst Z;have hf:RV w 0 (λ_=>none) [] (.sl tc 0 qn xs) (.slice D n' c):=jw.ir;obtain⟨hp,FQ,TB⟩:=hf.part (a:=l.toNat) (h:=m.toNat) (by omega) (by omega) (by omega);have akJ:((dh.getD xs.length:Nat):Int)=(C:Int):=by rw[TE,FQ]
   rw[akJ]at h6;refine⟨sliced D l.toNat m.toNat c n,?_,D,n',c,ng,by omega,by omega,rfl⟩;rw[run_sliceAt_slice w t _ _ _ _ T];rcases h5 with ⟨rfl,rfl⟩|⟨kl,rfl⟩<;>rcases h6 with ⟨rfl,rfl⟩|⟨kh,rfl⟩
   ·rw[run_slice_all w t D C c T,Y];simp
   ·rw[run_slice_h w t D C c T kh m (by omega) (by omega),Y];simp
   ·rw[run_slice_l w t D C c T kl l (by omega) (by omega),Y];simp
   ·rw[run_slice_lh w t D C c T kl kh l m (by omega) (by omega) (by omega),Y];simp
  ·cases h
 ·cases h
def akK{t:TypeId}{x:A}{lo hi:ah A}{k:A -> ah X}(h:BI P σ t x lo hi k=some r):∃ y,k y=some r /\
  ∀ af ρ a w,Rl w0 N af ρ σ a w -> ∀ (u:Value) (C D:ah Value),RA w w0.heap.size af ρ x u -> (∀ a,lo=some a -> ∃ v,C=some v/\RA w w0.heap.size af ρ a v) -> (lo=none -> C=none) -> (∀ a,hi=some a -> ∃ v,D=some v/\RA w w0.heap.size af ρ a v) -> (hi=none -> D=none) ->
   ∃t',(Instr.sliceAt t u C D none).run P w = .ok t' w/\RA w w0.heap.size af ρ y t':=by
 unfold BI at h;split at h
 ·rename_i q;obtain⟨y,E,I⟩:=aaJ h
  refine⟨y,E,λaf ρ a w hR u C D O T U Y Z=>?_⟩
  have gX:∃ A n c,u = .slice A n c:=by
   have:=O.1;cases u<;>first|cases this;done|exact⟨_,_,_,rfl⟩
  obtain⟨A,n,c,rfl⟩:=gX;exact I af ρ a w hR A n c n C D O.2 rfl (dg _) T U Y Z
 ·rename_i q s j;obtain⟨y,E,I⟩:=aaJ h
  refine⟨y,E,λaf ρ a w hR u C D O T U Y Z=>?_⟩
  obtain⟨A,n,c,ng,_,a2,rfl⟩:=O;have e:sliced A 0 j c s = .slice A j c:=by cases A<;>simp[sliced,Addr.add]
  rw[e];exact I af ρ a w hR A n c j C D ng rfl a2 T U Y Z
 ·obtain⟨y,E,_,I⟩:=akH h;exact⟨y,E,λaf ρ a w _ u C D=>I w _ af ρ u C D⟩
end
abbrev Pt:=Bool×aa V
def PV(w:World)(B:Nat)(af:bB)(key:Nat->aa Nat)(p:Pt)(u:Value):Prop:=
 ∃us:Array Value,(match p.1 with|true=>u = .agg us|false=>us = #[u])/\us.size=p.2.length/\∀(j:Nat) x,p.2[j]?=some x->∃v,us[j]?=some v/\RV w B af (key j) x v
def BJ(w:World)(cs:aa V)(u:Value):Prop:=
 ∃b off,u = .pointer (some ⟨b,off,none⟩)/\b<w.heap.size/\∀(j:Nat) x,cs[j]?=some x->∃v,w.cell? ⟨b,off+j,none⟩=some v/\RV w w.heap.size (λ_=>none) [] x v
inductive PA (w:World):Pt->Value->Prop
 |v (p:Pt) (u:Value) (h:PV w w.heap.size (λ_=>none) (λ_=>[]) p u):PA w p u
 |p (c:V) (cs:List V) (u:Value) (h:BJ w (c::cs) u):PA w (false,.bool true::c::cs) u
 |f (g:Nat) (c:V) (cs:List V) (u:Value) (h:BJ w (c::cs) u):PA w (false,.bool false::.int .i64 (g:Int)::c::cs) (.func (.func g) #[] #[u])
def r8(w:World)(args:aa Pt)(bJ:Array Value):Prop:=
 bJ.size=args.length/\∀(i:Nat) p,args[i]?=some p->∃u,bJ[i]?=some u/\PA w p u
def PA.pv{w:World}{x:V}{u:Value}(h:PA w (false,[x]) u):PV w w.heap.size (λ_=>none) (λ_=>[]) (false,[x]) u:=by
 cases h with
 |v _ _ h=>exact h
def PA.pvS{w:World}{xs:aa V}{u:Value}(h:PA w (true,xs) u):PV w w.heap.size (λ_=>none) (λ_=>[]) (true,xs) u:=by
 cases h with
 |v _ _ h=>exact h
inductive gU where
 |one (p:Pt)
 |fX (ps:List Pt)
def BM(t:TC):Nat->Bool
 |0=>false
 |1=>true
 |o+2=>Nat.ble (full t) o ||Nat.beq (o % 2) 1
def V.loc:V->Bool
 |.sl t o _ _=>BM t o
 |_=>true
def lA(w:World)(B:Nat)(af:bB)(nm:Nat->Nat):Nat->aa Pt->aa Value->Prop
 |_,[],[]=>True
 |off,p::ps,v::C=>(p.2.all V.loc=true/\PV w B af (λj=>[nm (off+j)]) p v)/\lA w B af nm (off+p.2.length) ps C
 |_,_,_=>False
def s9(w:World)(B:Nat)(af:bB)(nm:Nat->Nat):gU->Value->Prop
 |.one p,v=>lA w B af nm 0 [p] [v]
 |.fX ps,v=>∃C:Array Value,v = .tuple C/\lA w B af nm 0 ps C.toList
structure kP where
 run:(X:Type)->List Pt->(gU->Option X)->Option X
def jZ(P:Program)(f:Nat)(c:kP):Prop:=
 (∀ args,cE λX k=>c.run X args k)/\∀ args C,c.run gU args some=some C->∀ (nm:Nat->Nat) (w:World) (bJ:Array Value),r8 w args bJ->Hd w (λ_=>none)->
  Calls P f bJ w λe w'=>∃v aC,e = .returned v/\Below w.heap.size w w'/\(∀b k,aC b=some k->w.heap.size<=b/\b<w'.heap.size/\k≠[])/\s9 w' w.heap.size aC nm C v
def ue{X:Type}(σ:S):aa Lf->(aa V->ah X)->ah X
 |[],k=>k []
 |x::xs,k=>rX σ x λy=>ue σ xs λys=>k (y.ir::ys)
def qV{X:Type}(σ:S)(x:A)(k:Pt->ah X):ah X:=
 match x with
 |.lf y=>ue σ [y] λC=>k (false,C)
 |.agg ys=>ue σ ys λC=>k (true,C)
 |.view q s i j=>yA σ q s i j λy=>k (false,[y])
 |.kG (c::cs)=>k (false,.bool true::c.ir::cs.map V.ir)
 |_=>none
def yG{X:Type}(σ:S)(x:A)(k:Pt->ah X):ah X:=
 match x with
 |.kG (c::cs)=>k (false,.bool true::c.ir::cs.map V.ir)
 |.qf f (c::cs)=>k (false,.bool false::.int .i64 (f:Int)::c.ir::cs.map V.ir)
 | .aL r j=>(match σ.m r with
  | some (.aD cs)=>ue σ (cs.drop j) λC=>(match C with
   |c::cs=>k (false,.bool true::c::cs)
   |[]=>none)
  |_=>none)
 | .fn f [(r,j)]=>(match σ.m r with
  | some (.aD cs)=>ue σ (cs.drop j) λC=>(match C with
   |c::cs=>k (false,.bool false::.int .i64 (f:Int)::c::cs)
   |[]=>none)
  |_=>none)
 |x=>qV σ x k
def yH{X:Type}(f:A->(Pt->ah X)->ah X)(σ:S):aa Operand->(aa Pt->ah X)->ah X
 |[],k=>k []
 |x::xs,k=>f (aJ σ x) λp=>yH f σ xs λps=>k (p::ps)
def DB{X:Type}(σ:S)(xs:aa Operand)(k:aa Pt->ah X):ah X:=yH (yG σ) σ xs k
def vk{X:Type}(σ:S)(xs:aa Operand)(k:aa Pt->ah X):ah X:=yH (qV σ) σ xs k
def qW(c:Nat):aa V->aa Lf
 |[]=>[]
 |x::xs=>(bif x.aI then .v x else .own [c])::qW (c+1) xs
def oQ(c:Nat)(σ:S):aa V->S
 |[]=>σ
 |x::xs=>oQ (c+1) (bif x.aI then σ else (σ.drop c).root c (.sl x)) xs
def vl(c:Nat):aa Pt->aa (Bool×aa Lf)
 |[]=>[]
 |p::ps=>(p.1,qW c p.2)::vl (c+p.2.length) ps
def qX(c:Nat)(σ:S):aa Pt->S
 |[]=>σ
 |p::ps=>qX (c+p.2.length) (oQ c σ p.2) ps
def qp{X:Type}(σ:S)(d:Nat)(C:gU)(k:S->ah X):ah X:=match C with
 | .one p=>(match Bu (p.1,qW (1000000000100000+1000*d) p.2)with
  |some y=>k ((oQ (1000000000100000+1000*d) σ p.2).set d y)
  |none=>none)
 |.fX ps=>k ((qX (1000000000100000+1000*d) σ ps).set d (.fX (vl (1000000000100000+1000*d) ps)))
def vm{X:Type}(N:Nat)(σ:S)(d:Nat)(c:kP)(ev:(aa Pt->ah X)->ah X)(k:S->ah X):ah X:=
 bif Nat.blt d N then ev λps=>c.run X ps λC=>qp σ d C k else none
def akL{X:Type}(N:Nat)(σ:S)(d:Nat)(c:kP)(args:aa Operand)(k:S->ah X):ah X:=vm N σ d c (DB σ args) k
def akM{X:Type}(N:Nat)(σ:S)(d:Nat)(c:kP)(args:aa Operand)(k:S->ah X):ah X:=vm N σ d c (vk σ args) k
section
variable {P:Program} {w w':World} {w0:Wd} {B N:Nat} {af aC:bB} {ρ ρ':Nat->Loc} {σ:S} {a:Act} {X:Type} {d:Nat} {r:X} {o:Oper}
def Ji:∀ (xs:aa Lf) (k:aa V -> ah X),ue σ xs k=some r -> ∃ C,k C=some r/\C.length=xs.length /\ ∀ af ρ a w,Rl w0 N af ρ σ a w -> ∀ (j:Nat) x y u,xs[j]?=some x -> C[j]?=some y -> eE w w0.heap.size af ρ x u -> RV w w.heap.size (λ_=>none) [] y u
 |[],k,h=>⟨[],h,rfl,λ_ _ _ _ _ j x y u I=>by simp at I⟩
 | x :: xs,k,h=>by
  obtain⟨y,O,T⟩:=Ts h;obtain⟨ys,U,hl,hr⟩:=Ji xs _ T
  refine⟨y.ir::ys,U,by simp[hl],λaf ρ a w hR j x' y' u D E Y=>?_⟩
  cases j with
  | zero=>
   simp at D E;subst D E;obtain⟨q,Z⟩:=O af ρ a w hR u Y;exact Z.ir
  |succ j=>grind
def aaK{r' C:Nat}{cs:aa Lf}{D:aa V}(U:σ.m r'=some (.aD cs))(hl:D.length=(cs.drop C).length)
  (Y:∀af ρ a w,Rl w0 N af ρ σ a w->∀(j:Nat) x y u,(cs.drop C)[j]?=some x->D[j]?=some y->eE w w0.heap.size af ρ x u->RV w w.heap.size (λ_=>none) [] y u)
  {af:bB} {ρ:Nat->Loc} {a:Act} {w:World} {u:Value} (hR:Rl w0 N af ρ σ a w) (Z:RA w w0.heap.size af ρ (.aL r' C) u):BJ w D u:=by
 obtain⟨b,off,e1,rfl⟩:=Z;cases hR.root r' _ U with
 | aD b' Dh cells e _ us E qY I hs hc=>
  rw[e1]at E;injection E with q1 q2;subst q1 q2
  refine⟨b,off+C,rfl,(jH.1 I).1,λj x O=>?_⟩
  have hj:j<(cs.drop C).length:=by rw[<-hl];exact(dW.1 O).1
  have T:=bL hj;have akN:cs[C+j]?=some (cs.drop C)[j]:=by rw[<-List.getElem?_drop];exact T
  obtain⟨k1,k2⟩:=hc _ _ akN;refine⟨us (C+j),?_,Y af ρ a w hR j _ x _ T O k2⟩;rw[Nat.add_assoc,cell_of_row w b _ cells _ _ I];exact k1
def TF{cs:aa V}{u:Value}(E:RF w B af cs u):BJ w (cs.map V.ir) u:=by
 obtain⟨b,off,rfl,I,Y,O⟩:=E
 refine⟨b,off,rfl,I,λj x C=>?_⟩
 rw[fz]at C;cases D:cs[j]? with
 |none=>simp_all
 | some y=>
  rw[D]at C;injection C with C;subst C;obtain⟨_,v,T,U⟩:=O j y D;exact⟨v,T,U.ir⟩
def aaL{x:A}{k:Pt -> ah X}(h:qV σ x k=some r):∃ p,k p=some r /\ ∀ af ρ a w,Rl w0 N af ρ σ a w -> ∀ u,RA w w0.heap.size af ρ x u -> PA w p u:=by
 unfold qV at h;split at h
 ·rename_i y;obtain⟨U,E,hl,O⟩:=Ji (w0:=w0) (N:=N) _ _ h
  refine⟨_,E,λaf ρ a w hR u C=>.v _ _ ⟨#[u],rfl,by simp[hl],λj x D=>?_⟩⟩
  have I:j=0:=by
   grind
  subst I;exact⟨u,rfl,O af ρ a w hR 0 y x u rfl D C⟩
 ·rename_i ys;obtain⟨U,E,hl,O⟩:=Ji (w0:=w0) (N:=N) _ _ h
  refine⟨_,E,λaf ρ a w hR u C=>?_⟩
  obtain⟨us,rfl,T⟩:=C
  refine .v _ _ ⟨us,rfl,by rw[hl];exact T.1,λj x D=>?_⟩
  have I:j<ys.length:=by rw[<- hl];exact(dW.1 D).1
  obtain⟨v,Z,fP⟩:=T.2 j _ (bL I)
  grind
 ·obtain⟨z,E,_,Y⟩:=aah h
  refine⟨_,E,λaf ρ a w hR u C=>.v _ _ ⟨#[u],rfl,rfl,λj x D=>?_⟩⟩
  cases j with
  | zero=>
   simp at D;subst D;exact⟨u,rfl,Y _ _ _ _ _ _ hR u C _⟩
  |succ j=>simp at D
 next c cs=>exact⟨_,h,λaf ρ a w hR u C=>.p _ _ _ (TF C)⟩
 ·cases h
def akO{x:A}{k:Pt -> ah X}(h:yG σ x k=some r):∃ p,k p=some r /\ ∀ af ρ a w,Rl w0 N af ρ σ a w -> ∀ u,RA w w0.heap.size af ρ x u -> PA w p u:=by
 unfold yG at h;split at h
 ·rename_i c cs
  refine⟨_,h,λaf ρ a w hR u C=>?_⟩
  exact .p _ _ _ (TF C)
 ·rename_i f c cs
  refine⟨_,h,λaf ρ a w hR u C=>?_⟩
  obtain⟨pv,rfl,E⟩:=C;exact .f _ _ _ _ (TF E)
 ·rename_i r' T;split at h
  ·rename_i cs I;obtain⟨U,D,hl,O⟩:=Ji (w0:=w0) (N:=N) _ _ h;split at D
   ·rename_i c fW
    refine⟨_,D,λaf ρ a w hR u C=>?_⟩
    exact .p _ _ _ (aaK I hl O hR C)
   ·cases D
  ·cases h
 ·rename_i f r' T;split at h
  ·rename_i cs I;obtain⟨U,D,hl,O⟩:=Ji (w0:=w0) (N:=N) _ _ h;split at D
   ·rename_i c fW
    refine⟨_,D,λaf ρ a w hR u C=>?_⟩
    obtain⟨ps,rfl,Z,E⟩:=C;obtain⟨b,off,Y,e2⟩:=E 0 _ rfl;have e:ps = #[.pointer (some ⟨b,off+T,none⟩)]:=by
     grind
    subst e;exact .f _ _ _ _ (aaK I hl O hR ⟨b,off,Y,rfl⟩)
   ·cases D
  ·cases h
 ·exact aaL h
def TG{f:A->(Pt->ah X)->ah X}(E:∀ x k,f x k=some r->∃ p,k p=some r/\∀ af ρ a w,Rl w0 N af ρ σ a w->∀ u,RA w w0.heap.size af ρ x u->PA w p u):
  ∀(xs:aa Operand) (k:aa Pt->ah X),yH f σ xs k=some r->∃ps,k ps=some r/\∀af ρ a w,Rl w0 N af ρ σ a w->r8 w ps (xs.map a.eval).toArray
 |[],k,h=>⟨[],h,λ_ _ _ _ _=>⟨rfl,λi p C=>by simp at C⟩⟩
 | x :: xs,k,h=>by
  unfold yH at h;obtain⟨p,O,C⟩:=E _ _ h;obtain⟨ps,T,I⟩:=TG E xs _ O
  refine⟨p::ps,T,λaf ρ a w hR=>⟨?_,λi q D=>?_⟩⟩
  ·have:=(I af ρ a w hR).1;simp at this;simp[this]
  ·cases i with
   | zero=>
    simp at D;subst D;exact⟨_,rfl,C af ρ a w hR _ (hR.aJ x)⟩
   | succ i=>
    obtain⟨u,U,Y⟩:=(I af ρ a w hR).2 i q (by simpa using D);exact⟨u,by simpa using U,Y⟩
def akP(xs:aa Operand)(k:aa Pt->ah X)(h:DB σ xs k=some r):∃ps,k ps=some r/\∀af ρ a w,Rl w0 N af ρ σ a w->r8 w ps (xs.map a.eval).toArray:=TG (λ_ _=>akO) xs k h
def aaM(xs:aa Operand)(k:aa Pt->ah X)(h:vk σ xs k=some r):∃ps,k ps=some r/\∀af ρ a w,Rl w0 N af ρ σ a w->r8 w ps (xs.map a.eval).toArray:=TG (λ_ _=>aaL) xs k h
def akQ{t:TC}{o:Nat}(h:BM t (o+2)=true)(x:T t):∀ y∈enc t o x,y.loc=true:=by
 intro y D;have I:=Bm t o x y D;cases y with
 | sl E C q l=>
  have O:C=o:=by simpa [V.gr]using I
  subst O;have U:full E+2 <= full t:=cH (MW t C x _ D);show BM E C=true;simp only[BM,eZ]at h;rcases h with h|h
  ·have h:=cH h
   match C,h with
   |0,h=>omega
   |1,h=>rfl
   | n+2,h=>
    simp only[BM,eZ];left;exact jI (by omega)
  ·have h:=c8 h
   match C,h with
   |0,h=>omega
   |1,h=>rfl
   | n+2,h=>
    simp only[BM,eZ];simp_all
 |_=>rfl
def RV.BN{q:aa Nat}{x:V}{v:Value}(h:RV w B af q x v){B':Nat}(hB:B' <= B)(hl:∀ b,B <= b -> aC b=af b)(Y:∀ b k,af b=some k -> aC b=some k)(O:x.loc=true):RV w B' aC q x v:=by
 induction h with
 |int=>exact .int _ _ _
 |bool=>exact .bool _ _
 |str=>exact .str _ _
 |nil=>exact .nil _
 |fC=>exact .fC _ _ _
 |gF=>exact .gF _ _ _ _ _ (by first|assumption|omega)
 |gO=>exact .gO _ _ _ _ _ (by first|assumption|omega)
 | aI q t o Z l b off cap u T D hb h1 lQ E hr I=>
  have DC:o=1:=by
   match o,T,O with
   |1,_,_=>rfl
  subst DC;have U:=h1 rfl
  refine .aI _ _ _ _ _ _ _ _ u T ((hl b U).trans D) hb (λ_=>Nat.le_trans hB U) lQ E (λi h j x C=>I i h j x C ?_)
  have:=Bm t 1 l[i] x (iR C);cases x with
  | sl t' o' q' l'=>
   have:o'=1:=by simpa [V.gr]using this
   subst this;rfl
  |_=>rfl
 | own q t o Z l b cap cs u D hh hs hn hm E hr I=>
  exact .own _ _ _ _ _ _ _ cs u (Y b q D) hh hs hn hm E (λi h j x C=>I i h j x C (akQ O l[i] x (iR C)))
def RV.home{q:aa Nat}{x:V}{v:Value}(h:RV w B af q x v){B':Nat}(hB:B'<=B)(hl:∀ b,B<=b->aC b=af b)(C:∀ b k,af b=some k->B<=b)(D:x.loc=true):RV w B' aC q x v:=
 h.BN hB hl (λb k h=>(hl b (C b k h)).trans h) D
def TH:∀ (xs:aa V) (c:Nat) (σ:S) (ρ:Nat -> Loc) (us:aa Value),60000 <= c -> Rl w0 N af ρ σ a w -> us.length=xs.length -> (∀ (j:Nat) x u,xs[j]?=some x -> us[j]?=some u -> RV w w0.heap.size af [c+j] x u) ->
  ∃ρ',Rl w0 N af ρ' (oQ c σ xs) a w/\(∀r,r<c -> ρ' r=ρ r) /\ ∀(j:Nat) x u,(qW c xs)[j]?=some x -> us[j]?=some u -> eE w w0.heap.size af ρ' x u
 |[],c,σ,ρ,us,_,h,hl,E=>⟨ρ,h,λ_ _=>rfl,λj x u Z=>by simp[qW]at Z⟩
 | x :: xs,c,σ,ρ,us,hc,h,hl,E=>by
  cases us with
  |nil=>simp at hl
  | cons u us=>
   have O:=E 0 x u rfl rfl;rw[Nat.add_zero]at O;have yE:∀ (j:Nat) T U,xs[j]?=some T -> us[j]?=some U -> RV w w0.heap.size af [c+1+j] T U:=λj T U Z hu=>by
    have:=E (j+1) T U (by simpa using Z) (by simpa using hu)
    grind
   cases C:x.aI with
   | true=>
    obtain⟨ρ',dK,Y,Ai⟩:=TH xs (c+1) σ ρ us (by omega) h (by simpa using hl) yE
    refine⟨ρ',?_,λr E=>Y r (by omega),λj y v D I=>?_⟩
    ·simp[oQ,C];exact dK
    ·simp only[qW,C,av]at D;cases j with
     | zero=>
      simp at D I;subst D I;exact⟨C,O.key C⟩
     |succ j=>grind
   | false=>
    have gX:=O.SY C;obtain⟨ρ',dK,Y,Ai⟩:=TH xs (c+1) _ _ us (by omega) (h.new (d:=c) (x:=.sl x) (.dP u) (.sl u x (bT _ _ _) O) (h.cT c (.inr hc))) (by simpa using hl) yE
    refine⟨ρ',?_,λr E=>?_,λj y v D I=>?_⟩
    ·simp[oQ,C];exact dK
    ·rw[Y r (by omega)];exact cz _ _ _ (by omega)
    ·simp only[qW,C,ax]at D;cases j with
     | zero=>
      simp at D I;subst D I;refine⟨gX,?_⟩;have:ρ' c = .dP u:=by rw[Y c (by omega)];exact bT _ _ _
      simp[de,this]
     |succ j=>grind
def akR(xs:aa V):∀ c,(qW c xs).length=xs.length:=by
 induction xs with
 |nil=>intro c;rfl
 |cons x xs C=>intro c;simp[qW,C]
end
def enters(P:Program)(f:Nat):Prop:=∃fn,P.funcs[f]?=some fn/\(fn.name == "runtime.NumGoroutine")=false/\fn.body.isNone=false
/-! What a function gives back. -/
def Nt:A->ah (Bool×aa Lf)
 |.lf x=>some (false,[x])
 |.agg xs=>some (true,xs)
 |_=>none
def vn{X:Type}(P:Program)(σ:S):aa ResultVar->(aa (Bool×aa Lf)->ah X)->ah X
 |[],k=>k []
 | .tmp t :: rest,k=>(match Nt (σ.t t)with
  |some p=>vn P σ rest λps=>k (p::ps)
  |none=>none)
 | .cell p ty :: rest,k=>qR P σ ty (σ.t p) λx=>(match Nt x with
  |some p=>vn P σ rest λps=>k (p::ps)
  |none=>none)
def TI(m:Nat->ah aU):Lf->ah (V×ah Nat)
 |.v x=>bif x.loc&&x.aI then some (x,none)else none
 | .own [r]=>match m r with
  |some (.sl y)=>bif y.loc then some (y,some r)else none
  |_=>none
 |_=>none
def Jj(m:Nat->ah aU)(off:Nat):aa Lf->ah (aa V×aa (Nat×Nat))
 |[]=>some ([],[])
 | x :: xs=>match TI m x,Jj m (off+1) xs with
  |some (y,none),some (ys,rs)=>some (y::ys,rs)
  |some (y,some r),some (ys,rs)=>some (y::ys,(r,off)::rs)
  |_,_=>none
def FT(m:Nat->ah aU)(off:Nat):aa (Bool×aa Lf)->ah (aa Pt×aa (Nat×Nat))
 |[]=>some ([],[])
 | p :: ps=>match Jj m off p.2,FT m (off+p.2.length) ps with
  |some (C,rs),some (D,E)=>some ((p.1,C)::D,rs++E)
  |_,_=>none
def once(rs:aa (Nat×Nat)):Bool:=rs.all λp=>(rs.lookup p.1).any λn=>Nat.beq n p.2
def Jk{X:Type}(P:Program)(σ:S)(fn:Array ResultVar)(k:gU->ah X):ah X:=
 vn P σ fn.toList λps=>match FT σ.m 0 ps with
  | some (qs,rs)=>bif once rs then (match qs with
   |[p]=>k (.one p)
   |qs=>k (.fX qs))else none
  |none=>none
section
variable {P:Program} {w w':World} {w0:Wd} {B N:Nat} {af aC:bB} {ρ ρ':Nat->Loc} {σ:S} {a:Act} {X:Type} {d:Nat} {r:X} {o:Oper}
def aaN:∀ (xs:aa V) (c:Nat) (j:Nat) x u,(qW c xs)[j]?=some x -> eE w B af ρ x u -> (∀ r,r<c+xs.length -> ρ' r=ρ r) -> eE w B af ρ' x u
 |[],c,j,x,u,D,_,_=>by simp[qW]at D
 | y :: ys,c,j,x,u,D,C,E=>by
  cases j with
  | zero=>
   simp[qW,List.getElem?_cons_zero,jJ]at D;subst D;cases I:y.aI with
   |true=>rw[I]at C;simp;exact C
   | false=>
    rw[I]at C;refine⟨C.1,?_⟩;have:=C.2;simp[de,E c (by simp)]at this ⊢;exact this
  | succ j=>
   exact aaN ys _ j x u D C (λr h=>E r (by simp;omega))
def PV.cells{key:Nat -> aa Nat}{p:Pt}{u:Value}(h:PV w B af key p u):∃ us:aa Value,us.length=p.2.length/\(∀ (j:Nat) x v,p.2[j]?=some x -> us[j]?=some v -> RV w B af (key j) x v) /\
  ∀(ρ:Nat -> Loc) (C:aa Lf),C.length=p.2.length -> (∀(j:Nat) x v,C[j]?=some x -> us[j]?=some v -> eE w B af ρ x v) -> RP w B af ρ (p.1,C) u:=by
 obtain⟨us,D,E,Y⟩:=h;obtain⟨b,xs⟩:=p
 refine⟨us.toList,by simpa using E,λj x v I Z=>?_,λρ C hl U=>?_⟩
 ·grind
 ·have O:fG w B af ρ C us:=⟨by rw[E,hl],λj x I=>by
   have T:j<us.size:=by rw[E,<- hl];exact(dW.1 I).1
   exact⟨us[j],Array.getElem?_eq_getElem T,U j x _ I (by rw[Array.getElem?_toList,Array.getElem?_eq_getElem T])⟩⟩
  cases b with
  |true=>exact⟨us,D,O⟩
  |false=>have D:=D;subst D;exact O
def Jl:∀ (ps:aa Pt) (c0 off:Nat) (σ:S) (ρ:Nat -> Loc) (C:aa Value),60000 <= c0 -> Rl w0 N af ρ σ a w -> lA w w0.heap.size af (λn=>c0+n) off ps C ->
  ∃ρ',Rl w0 N af ρ' (qX (c0+off) σ ps) a w/\(∀r,r<c0+off -> ρ' r=ρ r)/\C.length=(vl (c0+off) ps).length /\ ∀(i:Nat) p v,(vl (c0+off) ps)[i]?=some p -> C[i]?=some v -> RP w w0.heap.size af ρ' p v
 | [],c0,off,σ,ρ,C,_,h,D=>by
  cases C with
  |nil=>exact⟨ρ,h,λ_ _=>rfl,rfl,λi p v T=>by simp[vl]at T⟩
  |cons v C=>exact D.elim
 | p :: ps,c0,off,σ,ρ,C,hc,h,D=>by
  cases C with
  |nil=>exact D.elim
  | cons v C=>
   obtain⟨⟨_,T⟩,D⟩:=D;obtain⟨us,hl,lR,yI⟩:=T.cells;obtain⟨FU,h1,TJ,Ai⟩:=TH p.2 (c0+off) σ ρ us (by omega) h hl (λj x u I E=>by
    have:RV w _ af [c0+(off+j)] x u:=lR j x u I E;rw[<- Nat.add_assoc]at this;exact this)
   obtain⟨fZ,Y,U,hlen,Z⟩:=Jl ps c0 (off+p.2.length) (oQ (c0+off) σ p.2) FU C hc h1 D;rw[<- Nat.add_assoc]at Y U hlen Z
   refine⟨fZ,Y,λr D=>(U r (by omega)).trans (TJ r D),by simp[vl,hlen],λi q u O E=>?_⟩
   cases i with
   | zero=>
    simp[vl,List.getElem?_cons_zero,jJ]at O E;subst O E
    refine yI fZ _ (akR _ _) (λj x u I E=>aaN p.2 _ j x u I (Ai j x u I E) U)
   | succ i=>
    simp[ List.getElem?_cons_succ]at O E;exact Z i q u O E
def lA.home{nm:Nat -> Nat}:∀ (ps:aa Pt) (off:Nat) (C:aa Value) {B':Nat},lA w B af nm off ps C -> B' <= B -> (∀ b,B <= b -> aC b=af b) -> (∀ b k,af b=some k -> B <= b) -> lA w B' aC nm off ps C
 |[],_,[],_,h,_,_,_=>h
 | p :: ps,off,v :: C,B',h,hB,hl,D=>by
  obtain⟨⟨E,us,O,T,U⟩,Y⟩:=h
  refine⟨⟨E,us,O,T,λj x I=>?_⟩,lA.home ps _ C Y hB hl D⟩
  obtain⟨Z,wJ,fP⟩:=U j x I;exact⟨Z,wJ,fP.home hB hl D (cm.1 E x (iR I))⟩
def Nu(w:World)(o:Oper)(a:Act)(f:Nat)(args:Array Operand)(D:Array TypeId)(E:o.op = .call { callee:=.value (.func f),args,argTypes:=D })(I:enters P f):(execOp a.eval o).run P w = .ok (.enter f (args.map a.eval)) w:=by
 obtain⟨fn,O,T,C⟩:=I;have U:¬ fn.name = "runtime.NumGoroutine":=by simpa using T
 have Y:¬ fn.body=none:=by intro e;rw[e]at C;cases C
 simp[execOp,E,resolve,Act.eval,Deferred.ofValue,invoke,callFunc,Sem.run,O,U,Y]
def akS{f:Nat}{args:Array Operand}{lC:Array TypeId}{c:kP}{k:S->ah X}(ho:o.op = .call { callee:=.value (.func f),args,argTypes:=lC })(hd:o.dst=some d)(he:enters P f)(hc:jZ P f c)(Aj:d<N){ps:aa Pt}(n8:∀ af ρ a w,Rl w0 N af ρ σ a w->r8 w ps (args.toList.map a.eval).toArray)
  (h2:(c.run X ps λD=>qp σ d D k)=some r):∃di,k di=some r/\nc P w0 N o σ di:=by
 obtain⟨D,E,TK⟩:=(hc.1 ps).nZ h2;have Jm:=hc.2 ps D (TK _ _);unfold qp at E;have step:∀ a w K Q af ρ,Rl w0 N af ρ σ a w->(∀ v w' aC,Below w.heap.size w w'->Rl w0 N aC ρ σ a w'->s9 w' w0.heap.size aC (λn=>1000000000100000+1000*d+n) D v->K (a.put o.dst v) w')->o.wp P a w K Q:=by
  intro a w K Q af ρ hR T;unfold Oper.wp;rw[Nu w o a f args lC ho he,Oper.upon_enter];have Ak:(args.map a.eval)=(args.toList.map a.eval).toArray:=by apply Array.ext';rw[Array.toList_map]
  rw[Ak]
  refine(Jm (λn=>1000000000100000+1000*d+n) w _ (n8 af ρ a w hR) (w0.on hR.below (λ_ _ h=>by cases h))).mono λe w' uf=>?_
  obtain⟨v,FV,rfl,U,Y,I⟩:=uf;have hB:=hR.below.size;let dQ:bB:=λb=>if b<w.heap.size then af b else FV b
  have e1:∀b,b<w.heap.size->dQ b=af b:=λb hb=>aV hb
  have Z:∀b,w.heap.size<=b->dQ b=FV b:=λb hb=>aX
  refine T v w' dQ U (hR.grow U e1 (λb k hb O=>?_)) ?_
  ·rw[Z b hb]at O;exact(Y b k O).2
  ·cases D with
   |one p=>exact lA.home [p] 0 [v] I hB Z (λb k O=>(Y b k O).1)
   | fX Al=>
    obtain⟨C,e,hv⟩:=I;exact⟨C,e,lA.home Al 0 C.toList hv hB Z (λb k O=>(Y b k O).1)⟩
 cases D with
 | one p=>
  simp only at E;split at E
  ·rename_i y hy
   refine⟨_,E,λa w K Q hR T=>?_⟩
   obtain⟨af,ρ,hR⟩:=hR
   refine step a w K Q af ρ hR λv w' aC U dK I=>?_
   obtain⟨ρ',mB,_,_,qZ⟩:=Jl [p] (1000000000100000+1000*d) 0 σ ρ [v] (by omega) dK I;rw[hd];have TL:=qZ 0 _ v rfl rfl;exact T _ _ ⟨aC,ρ',mB.set (Td hy TL) Aj⟩
  ·cases E
 | fX Al=>
  refine⟨_,E,λa w K Q hR T=>?_⟩
  obtain⟨af,ρ,hR⟩:=hR
  refine step a w K Q af ρ hR λv w' aC U dK I=>?_
  obtain⟨C,rfl,hv⟩:=I;obtain⟨ρ',mB,_,hlen,qZ⟩:=Jl Al (1000000000100000+1000*d) 0 σ ρ C.toList (by omega) dK hv;rw[hd]
  refine T _ _ ⟨aC,ρ',mB.set ⟨C,rfl,by simpa using hlen,λj p hp=>?_⟩ Aj⟩
  have hj:j<C.size:=by
   have:=(dW.1 hp).1;rw[Nat.add_zero]at hlen;rw[<-hlen]at this
   simpa using this
  exact⟨C[j],Array.getElem?_eq_getElem hj,qZ j p _ hp (by rw[Array.getElem?_toList,Array.getElem?_eq_getElem hj])⟩
def aaO{f:Nat}{args:Array Operand}{E:Array TypeId}{c:kP}{k:S->ah X}{ev:(aa Pt->ah X)->ah X}(I:o.op = .call { callee:=.value (.func f),args,argTypes:=E })(O:o.dst=some d)(T:enters P f)(U:jZ P f c)
  (Y:∀k,ev k=some r->∃ps,k ps=some r/\∀af ρ a w,Rl w0 N af ρ σ a w->r8 w ps (args.toList.map a.eval).toArray) (h:vm N σ d c ev k=some r):∃D,k D=some r/\nc P w0 N o σ D:=by
 unfold vm at h;cases C:Nat.blt d N with
 |false=>rw[C]at h;cases h
 | true=>
  rw[C,av]at h;obtain⟨ps,Z,n8⟩:=Y _ h;exact akS I O T U (cH C) n8 Z
end
def fD(af:bB)(rs:aa (Nat×Nat))(nm:Nat->Nat):bB:=λb=>
 match af b with
 |none=>none
 | some k=>match k.getLast? with
  |none=>none
  |some r=>(rs.lookup r).map λn=>k.dropLast++[nm n]
section
variable {P:Program} {w w':World} {w0:Wd} {B N:Nat} {af aC:bB} {ρ ρ':Nat->Loc} {σ:S} {a:Act} {X:Type} {d:Nat} {r:X} {rs:aa (Nat×Nat)} {nm:Nat->Nat}
def BO{b:Nat}(h:af b=none):fD af rs nm b=none:=by simp[fD,h]
def RV.fD{p:aa Nat}{r n:Nat}{x:V}{v:Value}(h:RV w B af (p++[r]) x v)(D:rs.lookup r=some n):RV w B (fD af rs nm) (p++[nm n]) x v:=
 h.map (Q:=λq C=>∃ p,q=p++[r]/\C=p++[nm n]) (dg _) (λb _ h=>⟨rfl,BO h⟩) (λb q C _ hl e=>by
  obtain⟨p,rfl,rfl⟩:=e;exact⟨rfl,by simp[Proofs.YthmgjjfedieljaaGreat.fD,hl,D],λj i s=>⟨j::i::s::p,rfl,rfl⟩⟩) (.inr ⟨p,rfl,rfl⟩)
def TM{m:Nat -> ah aU}:∀ (xs:aa Lf) (off:Nat) (ys:aa V) (E:aa (Nat×Nat)),Jj m off xs=some (ys,E) -> ys.length=xs.length /\ ∀ (j:Nat) x,xs[j]?=some x -> ∃ y,ys[j]?=some y/\y.loc=true/\((x = .v y/\y.aI=true) \/ ∃ r,x = .own [r]/\m r=some (.sl y)/\(r,off+j)∈E)
 | [],off,ys,E,h=>by
  simp only[Jj,jJ,Prod.mk.injEq]at h;obtain⟨rfl,rfl⟩:=h;exact⟨rfl,λj x C=>by simp at C⟩
 | x :: xs,off,ys,E,h=>by
  have Z:∀ y z,TI m x=some (y,z) -> y.loc=true/\((z=none/\x = .v y/\y.aI=true) \/ ∃ r,z=some r/\x = .own [r]/\m r=some (.sl y)):=by
   intro y z D;unfold TI at D
   grind
  unfold Jj at h;split at h
  ·rename_i y I O T U;simp only[jJ,Prod.mk.injEq]at h;obtain⟨rfl,rfl⟩:=h;obtain⟨Y,h2⟩:=TM xs (off+1) I O U
   refine⟨by simp[Y],λj x' C=>?_⟩
   cases j with
   | zero=>
    simp at C;subst C;obtain⟨hl,D|⟨r,D,_⟩⟩:=Z y none T
    ·simp_all
    ·cases D
   |succ j =>grind
  ·rename_i y r I O T U;simp only[jJ,Prod.mk.injEq]at h;obtain⟨rfl,rfl⟩:=h;obtain⟨Y,h2⟩:=TM xs (off+1) I O U
   refine⟨by simp[Y],λj x' C=>?_⟩
   cases j with
   | zero=>
    simp at C;subst C;obtain⟨hl,D|⟨r',D,e1,e2⟩⟩:=Z y (some r) T
    ·cases D.1
    ·simp_all
   |succ j =>grind
  ·cases h
def TN{m:Nat -> ah aU}(hm:∀ r x,m r=some x -> eV w B af ρ r x):∀ (ps:aa (Bool×aa Lf)) (off:Nat) (I:aa Pt) (O:aa (Nat×Nat)) (C:aa Value),FT m off ps=some (I,O) -> (∀ p∈O,rs.lookup p.1=some p.2) -> C.length=ps.length ->
  (∀(i:Nat) p v,ps[i]?=some p -> C[i]?=some v -> RP w B af ρ p v) -> lA w B (fD af rs nm) nm off I C
 | [],off,I,O,C,h,_,hl,_=>by
  have:C=[]:=uS hl;subst this;simp only[FT,jJ,Prod.mk.injEq]at h;obtain⟨rfl,rfl⟩:=h;trivial
 | p :: ps,off,I,O,C,h,jx,hl,hp=>by
  cases C with
  |nil=>simp at hl
  | cons v C=>
   unfold FT at h;split at h
   ·rename_i ys rs1 qs' DD h1 h2;simp only[jJ,Prod.mk.injEq]at h;obtain⟨rfl,rfl⟩:=h;obtain⟨hlen,MT⟩:=TM _ _ _ _ h1;have yE:=TN hm ps _ qs' DD C h2 (λq hq=>jx q (List.mem_append_right _ hq)) (by simpa using hl) (λi q u hq hu=>hp (i+1) q u (by simpa using hq) (by simpa using hu));have wX:=hp 0 p v rfl rfl;have key:∀ us:Array Value,fG w B af ρ p.2 us -> (us.size=ys.length /\ ∀ (j:Nat) x,ys[j]?=some x -> ∃ u,us[j]?=some u/\RV w B (fD af rs nm) [nm (off+j)] x u):=by
     intro us T
     refine⟨by rw[hlen];exact T.1,λj y U=>?_⟩
     have Y:j<p.2.length:=by rw[<- hlen];exact(dW.1 U).1
     obtain⟨y',E,TO,hz⟩:=MT j _ (bL Y);rw[U]at E;injection E with E;subst E;obtain⟨u,hu,Z⟩:=T.2 j _ (bL Y);refine⟨u,hu,?_⟩;rcases hz with ⟨e,hf⟩|⟨r,e,hmr,kJ⟩
     ·rw[e]at Z;exact(Z.2.MX hf (λb=>BO)).key hf
     ·rw[e]at Z;have fk:=hm r _ hmr;generalize D:aU.sl y=z at fk;cases fk with
      |aD=>cases D
      |mp=>cases D
      |gh=>cases D
      | sl v' y' cv lR=>
       injection D with D;subst D;have Jn:v'=u:=by
        have h4:=Z.2;simp only[de,cv]at h4;simp_all
       subst Jn;exact RV.fD (p:=[]) lR (jx (r,off+j) (List.mem_append_left _ kJ))
    refine⟨⟨?_,?_⟩,?_⟩
    ·rw[cm];intro y U;obtain⟨j,Y⟩:=List.mem_iff_getElem?.1 U;have wM:j<p.2.length:=by rw[<- hlen];exact(dW.1 Y).1
     obtain⟨y',E,TO,_⟩:=MT j _ (bL wM);simp_all
    ·obtain⟨b,xs⟩:=p;cases b with
     | true=>
      obtain⟨us,e,T⟩:=wX;obtain⟨k1,k2⟩:=key us T;exact⟨us,e,k1,k2⟩
     | false=>
      obtain⟨k1,k2⟩:=key #[v] wX;exact⟨#[v],rfl,k1,k2⟩
    ·grind
   ·cases h
def akT{t:TypeId}{x:A}{k:A->ah X}(h:qR P σ t x k=some r){u:Value}(C:RA w B af ρ x u):∃ ad,u = .pointer (some ad):=by
 unfold qR at h;split at h
 ·cases h
 ·split at h
  ·obtain⟨b,off,_,rfl⟩:=C;exact⟨_,rfl⟩
  ·obtain⟨b,off,rfl,_⟩:=C;exact⟨_,rfl⟩
  ·obtain⟨ad,rfl,_⟩:=C;exact⟨_,rfl⟩
  ·cases h
def aaP{x:A}{p:Bool×aa Lf}(h:Nt x=some p){u:Value}(D:RA w B af ρ x u):RP w B af ρ p u:=by
 unfold Nt at h;split at h
 ·injection h with h;subst h
  refine⟨rfl,λj y C=>?_⟩
  cases j with
  |zero=>simp at C;subst C;exact⟨u,rfl,D⟩
  |succ j=>simp at C
 ·injection h with h;subst h;exact D
 ·cases h
def ug(tmps:Array Value):ResultVar->Sem Value
 |.tmp t=>pure (tmps.getD t undef)
 |.cell a t=>do loadVar t (<-asAddr (tmps.getD a undef))
def Jo:∀ (l:aa ResultVar) (k:aa (Bool×aa Lf) -> ah X),vn P σ l k=some r -> ∃ ps,k ps=some r /\ ∀ af ρ a w,Rl w0 N af ρ σ a w -> ∃ C,(l.mapM (ug a.tmps)).run P w = .ok C w/\C.length=ps.length /\ ∀ (i:Nat) p v,ps[i]?=some p -> C[i]?=some v -> RP w w0.heap.size af ρ p v
 |[],k,h=>⟨[],h,λ_ _ _ _ _=>⟨[],rfl,rfl,λi p v D=>by simp at D⟩⟩
 | .tmp t :: rest,k,h=>by
  simp only[vn]at h;split at h
  ·rename_i p D;obtain⟨ps,T,U⟩:=Jo rest _ h
   refine⟨p::ps,T,λaf ρ a w hR=>?_⟩
   obtain⟨C,Y,hl,hv⟩:=U af ρ a w hR
   refine⟨a.tmps.getD t undef::C,?_,by simp[hl],λi q u E I=>?_⟩
   ·rw[List.mapM_cons];simp[ug,Sem.run_pure,nQ,gW,Y]
   ·cases i with
    |zero=>simp only[List.getElem?_cons_zero,jJ]at E I;subst E I;exact aaP D (hR.tmp t)
    |succ i=>grind
  ·cases h
 | .cell c ty :: rest,k,h=>by
  simp only[vn]at h;obtain⟨y,Z,hld⟩:=aaj (w0:=w0) (N:=N) h;split at Z
  ·rename_i p D;obtain⟨ps,T,U⟩:=Jo rest _ Z
   refine⟨p::ps,T,λaf ρ a w hR=>?_⟩
   obtain⟨C,Y,hl,hv⟩:=U af ρ a w hR;obtain⟨v,O,Ah⟩:=hld af ρ a w hR _ (hR.tmp c);obtain⟨ad,oL⟩:=akT h (hR.tmp c);rw[oL]at O;have O:(loadVar ty ad).run P w = .ok v w:=by
    simpa [Instr.loadAt,Instr.sureAddr]using O
   refine⟨v::C,?_,by simp[hl],λi q u E I=>?_⟩
   ·rw[List.mapM_cons];simp[ug,oL,asAddr,Sem.run_pure,nQ,gW,Y,O]
   ·cases i with
    |zero=>simp at E I;subst E I;exact aaP D Ah
    |succ i=>grind
  ·cases Z
def akU{fn:Func}{k:gU -> ah X}(h:Jk P σ fn.results k=some r):∃ Z,k Z=some r /\ ∀ af ρ a w,Rl w0 N af ρ σ a w -> ∀ nm,∃ v aC,(results fn a.tmps).run P w = .ok v w/\(∀ b k,aC b=some k -> (w0.heap.size <= b \/ w0.L b≠none)/\b<w.heap.size/\k≠[])/\s9 w w0.heap.size aC nm Z v:=by
 unfold Jk at h;obtain⟨ps,I,qZ⟩:=Jo (w0:=w0) (N:=N) _ _ h;clear h;split at I
 ·rename_i T rs TP;cases ho:once rs with
  |false=>grind
  | true=>
   rw[ho,av]at I;have jx:∀ p∈rs,rs.lookup p.1=some p.2:=by
    intro p hp;have:=cm.1 ho p hp;obtain⟨n,hn,he⟩:=(Option.any_eq_true _ _).1 this;simp_all
   have core:∀ af ρ a w,Rl w0 N af ρ σ a w -> ∀ nm:Nat -> Nat,∃ C:aa Value,(fn.results.mapM (ug a.tmps)).run P w = .ok C.toArray w/\(∀ b k,fD af rs nm b=some k -> (w0.heap.size <= b \/ w0.L b≠none)/\b<w.heap.size/\k≠[])/\lA w w0.heap.size (fD af rs nm) nm 0 T C:=by
    intro af ρ a w hR nm;obtain⟨C,O,hl,hv⟩:=qZ af ρ a w hR
    refine⟨C,?_,λb k E=>?_,TN hR.root ps 0 T rs C TP jx hl hv⟩
    ·rw[Array.mapM_eq_mapM_toList];simp[O]
    ·unfold fD at E;split at E
     ·cases E
     ·rename_i k' oP;have:=hR.dj b k' oP;split at E
      ·cases E
      ·cases wY:rs.lookup _ with
       |none=>rw[wY]at E;cases E
       | some n=>
        rw[wY]at E;injection E with E;subst E;simp_all
   have lU:∀ (tmps:Array Value),results fn tmps=(do let C <- fn.results.mapM (ug tmps);pure (if h:C.size=1 then C[0]else .tuple C)):=λtmps=>by
    unfold results;congr 1
   split at I
   ·rename_i p
    refine⟨_,I,λaf ρ a w hR nm=>?_⟩
    obtain⟨C,O,U,D⟩:=core af ρ a w hR nm
    match C,D with
    |[v],D=>exact⟨v,_,by rw[lU,gW,O];rfl,U,D⟩
    |[],D=>exact D.elim
    |_::_::_,D=>exact D.2.elim
   ·rename_i Y
    refine⟨_,I,λaf ρ a w hR nm=>?_⟩
    obtain⟨C,O,U,D⟩:=core af ρ a w hR nm;have iI:C.toArray.size≠1:=by
     intro e
     match T,C,D,Y with
     |[q],[v],_,Y=>exact Y q rfl
     |[],[v],D,_=>exact D.elim
     |_::_::_,[v],D,_=>exact D.2.elim
    refine⟨.tuple C.toArray,_,?_,U,C.toArray,rfl,D⟩;rw[lU,gW,O,nQ];simp only[iI,dif_neg,not_false_eq_true,Sem.run_pure]
 ·cases I
end
inductive In where
 |aD (cs:List V)
 |sl (y:V)
def nF(i:Nat):Nat:=20000+1000*i
def nC(i j:Nat)(x:V):Nat:=bif x.aI then 20001+1000*i+j else 60000+1000*i+j
def BP(i j:Nat)(x:V):Lf:=bif x.plain then .v x else .own [nC i j x]
def BQ(i:Nat):Nat->aa V->aa Lf
 |_,[]=>[]
 |j,x::xs=>BP i j x::BQ i (j+1) xs
def TQ(i:Nat):Nat->aa V->(Nat->ah aU)->(Nat->ah aU)
 |_,[],m=>m
 |j,x::xs,m=>TQ i (j+1) xs (bif x.plain then m else bK m (nC i j x) (some (.sl x)))
def Nv:Nat->aa In->(Nat->ah aU)->(Nat->ah aU)
 |_,[],m=>m
 |i,.aD cs::r,m=>Nv (i+1) r (TQ i 0 cs (bK m (nF i) (some (.aD (BQ i 0 cs)))))
 |i,.sl y::r,m=>Nv (i+1) r (bK m (nF i) (some (.sl y)))
inductive Ar where
 |pt (p:Pt)
 |mut (i off:Nat)
def TR(C:aa In):Ar->A
 |.pt (false,[x])=>.lf (.v x)
 |.pt (true,xs)=>.agg (xs.map .v)
 |.pt (false,.bool false::.int .i64 g::c::cs)=>.qf g.toNat (c::cs)
 |.pt _=>.undef
 | .mut i off=>match C[i]? with
  |some (.aD _)=>.aL (nF i) off
  |some (.sl _)=>.lf (.own [nF i])
  |none=>.undef
def Am(C:aa In)(args:aa Ar):S:=⟨λk=>match args[k]? with
 |some x=>TR C x
 |none=>.undef,Nv 0 C (λ_=>none)⟩
def uh(w w':World)(aC:bB)(ρ:Nat->Loc)(nm:Nat->Nat):Nat->Nat->aa In->aa In->Prop
 |_,_,[],[]=>True
 | i,D,.aD cs :: r,.aD fW :: r'=>(∃ b off cells I e T,ρ (nF i) = .aD b off/\w.heap[b]?=some (.cells cells e (0,0))/\w'.heap[b]?=some (.cells I T (0,0))/\aC b=some [nm D]/\off+fW.length<=I.size/\fW.length=cs.length/\
   ∀(j:Nat) C,fW[j]?=some C->∃u,I[off+j]?=some u/\((C.plain=true/\∀(w:World) (B:Nat) (af:bB) (q:aa Nat),RV w B af q C u)\/(C = .nil/\u = .slice none 0 0/\∃E,cs[j]?=some E/\E.aI=false)\/(C.plain=false/\C.aI=true/\C.lP=true/\(∃E,cs[j]?=some E/\Wk E C)/\cells[off+j]?=some u)\/(C.aI=false/\RV w' w.heap.size aC [nm (D+1+j)] C u)))/\
   uh w w' aC ρ nm (i+1) (D+1+cs.length) r r'
 |i,D,.sl y::r,.sl O::r'=>(O = .nil\/∃v,ρ (nF i) = .dP v/\RV w' w.heap.size aC [nm D] O v)/\uh w w' aC ρ nm (i+1) (D+1) r r'
 |_,_,_,_=>False
def Jp(w w':World)(aC:bB)(ρ:Nat->Loc)(nm:Nat->Nat):Nat->Nat->aa In->aa In->Prop
 |_,_,[],[]=>True
 | i,D,.aD cs :: r,.aD fW :: r'=>(∃ b off cells E e O,ρ (nF i) = .aD b off/\w.heap[b]?=some (.cells cells e (0,0))/\w'.heap[b]?=some (.cells E O (0,0))/\aC b=some [nm D]/\off+fW.length<=E.size/\fW.length=cs.length/\
   ∀(j:Nat) C,fW[j]?=some C->∃u,E[off+j]?=some u/\((C.plain=true/\∀(w:World) (B:Nat) (af:bB) (q:aa Nat),RV w B af q C u)\/(C.plain=false/\C.aI=true/\cells[off+j]?=some u)\/(C.aI=false/\RV w' w.heap.size aC [nm (D+1+j)] C u)))/\
   Jp w w' aC ρ nm (i+1) (D+1+cs.length) r r'
 |i,D,.sl y::r,.sl I::r'=>(I = .nil\/∃v,ρ (nF i) = .dP v/\RV w' w.heap.size aC [nm D] I v)/\Jp w w' aC ρ nm (i+1) (D+1) r r'
 |_,_,_,_=>False
def gU.len:gU->Nat
 |.one p=>p.2.length
 |.fX ps=>(ps.map λp=>p.2.length).sum
def r9(w:World)(B:Nat)(af:bB)(ρ:Nat->Loc):Nat->aa In->Prop
 |_,[]=>True
 |i,.aD cs::r=>eV w B af ρ (nF i) (.aD (BQ i 0 cs))/\(∀(j:Nat) x,cs[j]?=some x->x.plain=false->eV w B af ρ (nC i j x) (.sl x))/\r9 w B af ρ (i+1) r
 |i,.sl y::r=>eV w B af ρ (nF i) (.sl y)/\r9 w B af ρ (i+1) r
/-! The end: what is given back,and what the written parameters hold. -/
def TS(m:Nat->ah aU)(i j:Nat)(C:V):Lf->ah (V×ah Nat)
 |.v x=>bif x.plain then some (x,none)else (bif !x.lP && !C.aI then some (.nil,none)else none)
 | .own [r]=>match m r with
  |some (.sl y)=>bif y.aI then (bif !C.plain&&(C.aI&&C.lP)&&Nat.beq r (20001+1000*i+j)&&Nat.blt r 60000 then some (C,none)else none)else (bif y.loc then some (y,some r)else none)
  |_=>none
 |_=>none
def DE(m:Nat->ah aU)(i C:Nat):Nat->aa V->aa Lf->ah (aa V×aa (Nat×Nat))
 |_,[],[]=>some ([],[])
 | j,D :: xs,l :: E=>match TS m i j D l,DE m i C (j+1) xs E with
  |some (y,none),some (ys,rs)=>some (y::ys,rs)
  |some (y,some r),some (ys,rs)=>some (y::ys,(r,C+1+j)::rs)
  |_,_=>none
 |_,_,_=>none
def V.gone:V->Bool
 |.sl _ o _ _=>Nat.ble 1000000 o
 |_=>false
def BR(m:Nat->ah aU):Nat->Nat->aa In->ah (aa In×aa (Nat×Nat))
 |_,_,[]=>some ([],[])
 | i,C,.aD cs :: r=>match bif Nat.blt (nF i) 60000 then m (nF i)else none with
  | some (.aD I)=>match DE m i C 0 cs I,BR m (i+1) (C+1+cs.length) r with
   |some (fW,rs),some (os,D)=>some (.aD fW::os,(nF i,C)::(rs++D))
   |_,_=>none
  |_=>none
 | i,C,.sl O :: r=>bif O.gone then (match BR m (i+1) (C+1) r with
   |some (os,D)=>some (.sl .nil::os,D)
   |none=>none)else match bif Nat.blt (nF i) 60000 then m (nF i)else none with
  | some (.sl E)=>bif E.loc && !E.aI then (match BR m (i+1) (C+1) r with
   |some (os,D)=>some (.sl E::os,(nF i,C)::D)
   |none=>none)else none
  |_=>none
def Jq{X:Type}(P:Program)(σ:S)(fn:Array ResultVar)(C:aa In)(k:aa In->gU->ah X):ah X:=
 vn P σ fn.toList λps=>match FT σ.m 0 ps with
  | some (qs,rs)=>match BR σ.m 0 (qs.map λp=>p.2.length).sum C with
   | some (os,D)=>bif once (rs++D)then (match qs with
    |[p]=>k os (.one p)
    |qs=>k os (.fX qs))else none
   |none=>none
  |none=>none
/-! Types of parameters and results. -/
def jN:aa (Bool×TC×Nat)->Type
 |[]=>aj
 |[(_,t,_)]=>T t
 |(_,t,_)::r=>T t×jN r
def wZ:(l:aa (Bool×TC×Nat))->jN l->aa Pt
 |[],_=>[]
 |[(b,t,g)],x=>[(b,enc t g x)]
 |(b,t,g)::q::r,x=>(b,enc t g x.1)::wZ (q::r) x.2
def ta:(l:aa (Bool×TC×Nat))->aa Pt->ah (jN l)
 |[],[]=>some ()
 |[(b,t,g)],[(b',C)]=>bif b==b' then dec t g C else none
 | (b,t,g) :: q :: r,(b',C) :: ps=>bif b==b' then (match dec t g C,ta (q :: r) ps with
  |some x,some xs=>some (x,xs)
  |_,_=>none)else none
 |_,_=>none
def n9(l:aa (Bool×TC×Nat)):gU->ah (jN l)
 |.one p=>ta l [p]
 |.fX ps=>bif Nat.beq ps.length 1 then none else ta l ps
def fQ(l:aa (Bool×TC×Nat))(x:jN l):gU:=
 match wZ l x with
 |[p]=>.one p
 |ps=>.fX ps
inductive PK where
 |v (b:Bool) (t:TC)
 |p (t:TC) (g off:Nat)
 |s (t:TC) (g:Nat)
def ni:aa PK->Type
 |[]=>aj
 |.v _ t::r=>T t×ni r
 |.p t _ _::r=>T t×ni r
 |.s t _::r=>aa (T t)×ni r
def uj:aa (Bool×TC×Nat)->Type
 |[]=>aj
 |(true,t,_)::r=>T t×uj r
 |(false,t,_)::r=>aa (T t)×uj r
def ke:(l:aa (Bool×TC×Nat))->uj l->aa In
 |[],_=>[]
 |(true,t,g)::r,x=>.aD (enc t g x.1)::ke r x.2
 |(false,t,g)::r,x=>.sl (bif Nat.ble 1000000 g then .nil else .sl t (g+2) false x.1)::ke r x.2
def fF:aa PK->aa (Bool×TC×Nat)
 |[]=>[]
 |.v _ _::r=>fF r
 |.p t g _::r=>(true,t,g)::fF r
 |.s t g::r=>(false,t,g)::fF r
def qq:(l:aa PK)->ni l->aa In
 |[],_=>[]
 |.v _ _::r,x=>qq r x.2
 |.p t g _::r,x=>.aD (enc t g x.1)::qq r x.2
 |.s t g::r,x=>.sl (.sl t (g+2) false x.1)::qq r x.2
def lV:(l:aa PK)->Nat->ni l->aa Ar
 |[],_,_=>[]
 |.v b t::r,i,x=>.pt (b,enc t 0 x.1)::lV r i x.2
 |.p _ _ off::r,i,x=>.mut i off::lV r (i+1) x.2
 |.s _ _::r,i,x=>.mut i 0::lV r (i+1) x.2
structure qt where
 ps:List PK
 ro:List (Bool×TC×Nat)
 F:ni ps->Option (jN ro×uj (fF ps))
def yJ(P:Program)(f:Nat)(c:qt):Prop:=
 ∀ x y,c.F x=some y->∀ (nm:Nat->Nat) (w:World) (af:bB) (ρ:Nat->Loc) (bJ:Array Value),r9 w w.heap.size af ρ 0 (qq c.ps x)->(∀ b k,af b=some k->b<w.heap.size/\k≠[])->
     bJ.size=c.ps.length->(∀i,RA w w.heap.size af ρ ((Am (qq c.ps x) (lV c.ps 0 x)).t i) (bJ.getD i undef))->∀C:Hd w af,
     Calls P f bJ w λe w'=>∃v aC,e = .returned v/\kH ⟨w,af,λ_=>none,C,λ_ _=>rfl⟩ w w'/\(∀b k,aC b=some k->(w.heap.size<=b\/af b≠none)/\b<w'.heap.size/\k≠[])/\s9 w' w.heap.size aC nm (fQ c.ro y.1) v/\Jp w w' aC ρ nm 0 (fQ c.ro y.1).len (qq c.ps x) (ke (fF c.ps) y.2)
def Jr(w:World)(ρ:Nat->Loc):Nat->aa In->Prop
 |_,[]=>True
 |i,.aD cs::r=>(∃b off cells e,ρ (nF i) = .aD b off/\w.heap[b]?=some (.cells cells e (0,0))/\∀(j:Nat) x,cs[j]?=some x->x.plain=false->x.aI=true->∃u,cells[off+j]?=some u/\ρ (20001+1000*i+j) = .dP u)/\Jr w ρ (i+1) r
 |i,.sl y::r=>(∃v,ρ (nF i) = .dP v)/\Jr w ρ (i+1) r
section
variable {P:Program} {w w':World} {w0:Wd} {B N:Nat} {af aC:bB} {ρ ρ':Nat->Loc} {σ:S} {a:Act} {X:Type} {d:Nat} {r:X} {rs:aa (Nat×Nat)} {nm:Nat->Nat}
def TU{m:Nat -> ah aU}{i pos:Nat}:∀ (xs:aa V) (T:aa Lf) (D:Nat) (ys:aa V) (U:aa (Nat×Nat)),DE m i pos D xs T=some (ys,U) -> ys.length=xs.length/\T.length=xs.length /\
  ∀(j:Nat) y,ys[j]?=some y -> ∃l x0,T[j]?=some l/\xs[j]?=some x0/\((l = .v y/\y.plain=true) \/ (l = .v .nil/\y = .nil/\x0.aI=false) \/ (l = .own [20001+1000*i+(D+j)]/\y=x0/\y.plain=false/\(y.aI&&y.lP)=true/\20001+1000*i+(D+j)<60000) \/ (∃q,l = .own [q]/\m q=some (.sl y)/\y.aI=false/\(q,pos+1+(D+j))∈U))
 | [],[],D,ys,U,h=>by
  simp only[DE,jJ,Prod.mk.injEq]at h;obtain⟨rfl,rfl⟩:=h;exact⟨rfl,rfl,λj y Z=>by simp at Z⟩
 |[],_::_,D,ys,U,h=>by simp[DE]at h
 |_::_,[],D,ys,U,h=>by simp[DE]at h
 | x0 :: xs,l :: T,D,ys,U,h=>by
  have hc:∀ y z,TS m i D x0 l=some (y,z) -> (z=none/\l = .v y/\y.plain=true) \/ (z=none/\l = .v .nil/\y = .nil/\x0.aI=false) \/ (z=none/\l = .own [20001+1000*i+D]/\y=x0/\y.plain=false/\(y.aI&&y.lP)=true/\20001+1000*i+D<60000) \/ (∃ q,z=some q/\l = .own [q]/\m q=some (.sl y)/\y.aI=false):=by
   intro y z C;unfold TS at C;split at C
   ·rename_i x;cases hp:x.plain with
    | false=>
     rw[hp,ax]at C;cases hb:(!x.lP && !x0.aI)with
     |false=>rw[hb]at C;cases C
     | true=>
      rw[hb,av]at C;simp only[jJ,Prod.mk.injEq]at C;obtain⟨rfl,rfl⟩:=C;rw[aH,ff,ff]at hb;have hx:x = .nil:=by
       cases x<;>first|rfl|(exact absurd hb.1 (by simp[V.lP]))
      subst hx;exact .inr (.inl ⟨rfl,rfl,rfl,hb.2⟩)
    |true =>grind
   ·rename_i q;split at C
    ·rename_i y1 hy1;cases hf:y1.aI with
     | true=>
      rw[hf,av]at C;cases hb:(!x0.plain&&(x0.aI&&x0.lP)&&Nat.beq q (20001+1000*i+D)&&Nat.blt q 60000)with
      |false=>rw[hb]at C;cases C
      | true=>
       rw[hb,av]at C;simp only[jJ,Prod.mk.injEq]at C;obtain⟨rfl,rfl⟩:=C;rw[aH,aH,aH,ff]at hb;obtain⟨⟨⟨b1,b2⟩,b3⟩,b4⟩:=hb;obtain rfl:=c8 b3;exact .inr (.inr (.inl ⟨rfl,rfl,rfl,b1,b2,by have:=cH b4;omega⟩))
     | false=>
      rw[hf,ax]at C;cases hl:y1.loc with
      |false=>rw[hl]at C;cases C
      |true =>grind
    ·cases C
   ·cases C
  unfold DE at h;split at h
  ·rename_i y TV TW Z BH;simp only[jJ,Prod.mk.injEq]at h;obtain⟨rfl,rfl⟩:=h;obtain⟨h1,h2,h3⟩:=TU xs T (D+1) TV TW BH
   refine⟨by simp[h1],by simp[h2],λj y' E=>?_⟩
   cases j with
   | zero=>
    simp at E;subst E;refine⟨l,x0,rfl,rfl,?_⟩;rcases hc y none Z with ⟨_,I,O⟩|⟨_,I,O,Y⟩|⟨_,I,O,Y,e4,e5⟩|⟨q,hq,_⟩
    ·simp[*]
    ·simp[*]
    ·exact .inr (.inr (.inl ⟨I,O,Y,e4,e5⟩))
    ·cases hq
   | succ j=>
    obtain⟨l',x',g1,g2,g3⟩:=h3 j y' (by simpa using E);rw[show D+1+j=D+(j+1) by omega]at g3;exact⟨l',x',by simpa using g1,by simpa using g2,g3⟩
  ·rename_i y q TV TW Z BH;simp only[jJ,Prod.mk.injEq]at h;obtain⟨rfl,rfl⟩:=h;obtain⟨h1,h2,h3⟩:=TU xs T (D+1) TV TW BH
   refine⟨by simp[h1],by simp[h2],λj y' E=>?_⟩
   cases j with
   | zero=>
    simp at E;subst E;refine⟨l,x0,rfl,rfl,?_⟩;rcases hc y (some q) Z with ⟨e0,_⟩|⟨e0,_⟩|⟨e0,_⟩|⟨q',hq,I,O,Y⟩
    ·cases e0
    ·cases e0
    ·cases e0
    ·injection hq with hq;subst hq;exact .inr (.inr (.inr ⟨q,I,O,Y,.head _⟩))
   | succ j=>
    obtain⟨l',x',g1,g2,g3⟩:=h3 j y' (by simpa using E);rw[show D+1+j=D+(j+1) by omega]at g3;exact⟨l',x',by simpa using g1,by simpa using g2,g3.imp id (λg=>g.imp id (λg=>g.imp id λ⟨q',I,O,Y,e4⟩=>⟨q',I,O,Y,.tail _ e4⟩))⟩
  ·cases h
def Nw{w1:World}{TX:Nat -> Loc}{m:Nat -> ah aU}(T:∀ r,20000 <= r -> r<60000 -> ρ r=TX r)(U:∀ r x,m r=some x -> eV w w1.heap.size af ρ r x):
  ∀(ins:aa In) (i Z:Nat) (outs:aa In) (Js:aa (Nat×Nat)),BR m i Z ins=some (outs,Js) -> (∀p∈Js,rs.lookup p.1=some p.2) -> Jr w1 TX i ins -> uh w1 w (fD af rs nm) TX nm i Z ins outs
 | [],i,Z,outs,Js,h,I,he=>by
  simp only[BR,jJ,Prod.mk.injEq]at h;obtain⟨rfl,rfl⟩:=h;trivial
 | .aD cs :: r,i,Z,outs,Js,h,I,he=>by
  unfold BR at h;cases hi:Nat.blt (nF i) 60000 with
  |false=>grind
  | true=>
   rw[hi,av]at h;have hi:=cH hi;split at h
   ·rename_i ls TY;split at h
    ·rename_i fW rs1 os DD h1 h2;simp only[jJ,Prod.mk.injEq]at h;obtain⟨rfl,rfl⟩:=h;obtain⟨⟨b,off,cells,e,aaQ,TE,oR⟩,Jt⟩:=he;obtain⟨k1,k2,k3⟩:=TU _ _ _ _ _ h1
     refine⟨?_,Nw T U r (i+1) _ os DD h2 (λp D=>I p (.tail _ (List.mem_append_right _ D))) Jt⟩
     have O:=U _ _ TY;have TZ:=T (nF i) (by unfold nF;omega) (by omega);generalize C:aU.aD ls=x at O;cases O with
     |sl=>cases C
     |mp=>cases C
     |gh=>cases C
     | aD b' Dh An e' ls' us E hl hh hs hc=>
      injection C with C;subst C;rw[TZ,aaQ]at E;injection E with e1 e2;subst e1 e2
      refine⟨b,off,cells,An,e,e',aaQ,TE,hh,?_,by rw[k1,<- k2];exact hs,k1,λj y hy=>?_⟩
      ·have:=I _ (List.Mem.head _);simp[fD,hl,this]
      ·obtain⟨l,x0,g1,g2,g3⟩:=k3 j y hy;obtain⟨c1,c2⟩:=hc j l g1;refine⟨_,c1,?_⟩;rw[gy]at g3;rcases g3 with ⟨rfl,D⟩ | ⟨rfl,rfl,Nj⟩ | ⟨rfl,rfl,D,Jh,dA⟩ | ⟨q,rfl,hq,hf,kJ⟩
       ·exact .inl ⟨D,λ_ _ _ _=>c2.2.wK D⟩
       ·exact .inr (.inl ⟨rfl,by have h9:=c2.2;generalize us j=u9 at h9 ⊢;cases h9;rfl,x0,g2,Nj⟩)
       ·rw[aH]at Jh;obtain⟨hf,T0⟩:=Jh;obtain⟨u,hu,akV⟩:=oR j y g2 D hf;refine .inr (.inr (.inl ⟨D,hf,T0,⟨y,g2,.same _⟩,?_⟩));have Y:=c2.2;have T1:=T (20001+1000*i+j) (by omega) dA;simp only[de,T1,akV]at Y;simp_all
       ·refine .inr (.inr (.inr ⟨hf,?_⟩));have O:=U _ _ hq;generalize C:aU.sl y=x at O;cases O with
        |aD=>cases C
        |mp=>cases C
        |gh=>cases C
        | sl v y' E hr=>
         injection C with C;subst C;have Y:=c2.2;simp only[de,E]at Y;injection Y with Y;rw[<- Y];exact RV.fD (p:=[]) hr (I _ (.tail _ (List.mem_append_left _ kJ)))
    ·cases h
   ·cases h
 | .sl y :: r,i,Z,outs,Js,h,I,he=>by
  unfold BR at h;cases hg:y.gone with
  | true=>
   rw[hg,av]at h;split at h
   next os DD h2=>simp at h;obtain⟨rfl,rfl⟩:=h;exact⟨.inl rfl,Nw T U r _ _ os DD h2 I he.2⟩
   ·cases h
  |false=>
  rw[hg,ax]at h;cases hi:Nat.blt (nF i) 60000 with
  |false=>grind
  | true=>
   rw[hi,av]at h;have hi:=cH hi;split at h
   ·rename_i y' Dw;cases hl:(y'.loc && !y'.aI)with
    |false=>grind
    | true=>
     rw[hl,av]at h;split at h
     ·rename_i os DD h2;simp only[jJ,Prod.mk.injEq]at h;obtain⟨rfl,rfl⟩:=h;obtain⟨⟨v,hv⟩,Jt⟩:=he
      refine⟨.inr ⟨v,hv,?_⟩,Nw T U r (i+1) _ os DD h2 (λp D=>I p (.tail _ D)) Jt⟩
      have TZ:=T (nF i) (by unfold nF;omega) (by omega);have O:=U _ _ Dw;generalize C:aU.sl y'=x at O;cases O with
      |aD=>cases C
      |mp=>cases C
      |gh=>cases C
      | sl v' y'' E hr=>
       injection C with C;subst C;rw[TZ,hv]at E;injection E with E;subst E;exact RV.fD (p:=[]) hr (I _ (.head _))
     ·cases h
   ·cases h
def akW{w1:World}{U:Nat -> Loc}{fn:Func}{O:aa In}{k:aa In -> gU -> ah X}(hw:w0.w=w1)(hF:∀ r,20000 <= r -> r<60000 -> w0.F r=some (U r))(he:Jr w1 U 0 O)(h:Jq P σ fn.results O k=some r):
  ∃outs res,k outs res=some r /\ ∀af ρ a w,Rl w0 N af ρ σ a w -> ∀nm,∃v aC,(results fn a.tmps).run P w = .ok v w/\(∀b k,aC b=some k -> (w0.heap.size <= b \/ w0.L b≠none)/\b<w.heap.size/\k≠[])/\s9 w w0.heap.size aC nm res v/\uh w1 w aC U nm 0 res.len O outs:=by
 unfold Jq at h;obtain⟨ps,E,qZ⟩:=Jo (w0:=w0) (N:=N) _ _ h;clear h;split at E
 ·rename_i qs T2 TP;split at E
  ·rename_i os T3 hos;cases ho:once (T2++T3)with
   |false=>rw[ho]at E;cases E
   | true=>
    rw[ho,av]at E;generalize aaR:T2++T3=rs at ho;have jx:∀ p∈rs,rs.lookup p.1=some p.2:=by
     intro p Y;have:=cm.1 ho p Y;obtain⟨n,hn,he⟩:=(Option.any_eq_true _ _).1 this;simp_all
    have core:∀ af ρ a w,Rl w0 N af ρ σ a w -> ∀ nm:Nat -> Nat,∃ C:aa Value,(fn.results.mapM (ug a.tmps)).run P w = .ok C.toArray w/\(∀ b k,fD af rs nm b=some k -> (w0.heap.size <= b \/ w0.L b≠none)/\b<w.heap.size/\k≠[])/\lA w w0.heap.size (fD af rs nm) nm 0 qs C /\
      uh w1 w (fD af rs nm) U nm 0 (qs.map λp=>p.2.length).sum O os:=by
     intro af ρ a w hR nm;obtain⟨C,Z,hl,hv⟩:=qZ af ρ a w hR
     refine⟨C,?_,λb k I=>?_,TN hR.root ps 0 qs T2 C TP (λp Y=>jx p (by rw[<- aaR];exact List.mem_append_left _ Y)) hl hv,
      Nw (λr h1 E=>hR.fix r _ (hF r h1 E)) (by rw[<- hw];exact hR.root) O 0 _ os T3 hos (λp Y=>jx p (by rw[<- aaR];exact List.mem_append_right _ Y)) he⟩
     ·rw[Array.mapM_eq_mapM_toList];simp[Z]
     ·unfold fD at I;split at I
      ·cases I
      ·rename_i k' oP;have:=hR.dj b k' oP;split at I
       ·cases I
       ·cases wY:rs.lookup _ with
        |none=>rw[wY]at I;cases I
        | some n=>
         rw[wY]at I;injection I with I;subst I;simp_all
    have lU:∀ (tmps:Array Value),results fn tmps=(do let C <- fn.results.mapM (ug tmps);pure (if h:C.size=1 then C[0]else .tuple C)):=λtmps=>by
     unfold results;congr 1
    split at E
    ·rename_i p
     refine⟨_,_,E,λaf ρ a w hR nm=>?_⟩
     obtain⟨C,Z,qY,D,T⟩:=core af ρ a w hR nm;have T:uh w1 w (fD af rs nm) U nm 0 (gU.one p).len O os:=by simpa [gU.len]using T
     match C,D with
     |[v],D=>exact⟨v,_,by rw[lU,gW,Z];rfl,qY,D,T⟩
     |[],D=>exact D.elim
     |_::_::_,D=>exact D.2.elim
    ·rename_i bQ
     refine⟨_,_,E,λaf ρ a w hR nm=>?_⟩
     obtain⟨C,Z,qY,D,T⟩:=core af ρ a w hR nm;have iI:C.toArray.size≠1:=by
      intro e;clear T;have e:C.length=1:=by simpa using e
      match qs,C,D,bQ,e with
      |[q],[v],_,bQ,_=>exact bQ q rfl
      |[],[v],D,_,_=>exact D.elim
      |_::_::_,[v],D,_,_=>exact D.2.elim
     refine⟨.tuple C.toArray,_,?_,qY,⟨C.toArray,rfl,D⟩,T⟩;rw[lU,gW,Z,nQ];simp only[iI,dif_neg,not_false_eq_true,Sem.run_pure]
  ·cases E
 ·cases E
def aaS{i:Nat}:∀ (cs:aa V) (D:Nat) (m:Nat -> ah aU) (r:Nat) (x:aU),TQ i D cs m r=some x -> m r=some x \/ ∃ j y,cs[j]?=some y/\y.plain=false/\r=nC i (D+j) y/\x = .sl y
 |[],D,m,r,x,h=>.inl h
 | c :: cs,D,m,r,x,h=>by
  rcases aaS cs _ _ r x h with C|⟨j,y,C,O,T,U⟩
  ·cases E:c.plain with
   |true=>simp_all
   | false=>
    rw[E,ax]at C;by_cases I:r=nC i D c
    ·subst I;rw[bT]at C;injection C with C;exact .inr ⟨0,c,rfl,E,rfl,C.symm⟩
    ·rw[cz _ _ _ I]at C;simp_all
  ·exact .inr ⟨j+1,y,by simpa using C,O,by rw[T];congr 1;omega,U⟩
def r9.roots:∀ (C:aa In) (i:Nat) (m:Nat -> ah aU),r9 w B af ρ i C -> (∀ r x,m r=some x -> eV w B af ρ r x) -> ∀ r x,Nv i C m r=some x -> eV w B af ρ r x
 |[],i,m,_,I,r,x,h=>I r x h
 | .aD cs :: C,i,m,O,I,r,x,h=>by
  obtain⟨Y,Z,T⟩:=O
  refine r9.roots C _ _ T (λr x E=>?_) r x h
  rcases aaS cs 0 _ r x E with U|⟨j,y,g1,g2,g3,g4⟩
  ·by_cases D:r=nF i
   ·subst D;rw[bT]at U;simp_all
   ·rw[cz _ _ _ D]at U;simp_all
  ·simp_all
 | .sl y :: C,i,m,O,I,r,x,h=>by
  obtain⟨Y,T⟩:=O
  refine r9.roots C _ _ T (λr x E=>?_) r x h
  by_cases D:r=nF i
  ·subst D;rw[bT]at E;simp_all
  ·rw[cz _ _ _ D]at E;simp_all
def T4{i:Nat}:∀ (cs:aa V) (C j:Nat) x,cs[j]?=some x->(BQ i C cs)[j]?=some (BP i (C+j) x)
 |[],C,j,x,h=>by simp at h
 |c::cs,C,0,x,h=>by simp at h;subst h;rfl
 | c :: cs,C,j+1,x,h=>by
  simp only[BQ,List.getElem?_cons_succ];rw[T4 cs (C+1) j x (by simpa using h)];congr 2;omega
def r9.T5:∀ (C:aa In) (i:Nat),r9 w B af ρ i C -> Jr w ρ i C
 |[],_,_=>trivial
 | .aD cs :: C,i,I=>by
  obtain⟨E,_,O⟩:=I;refine⟨?_,r9.T5 C (i+1) O⟩;generalize D:aU.aD (BQ i 0 cs)=x at E;cases E with
  |sl=>cases D
  |mp=>cases D
  |gh=>cases D
  | aD b off cells e ls us Y hl Z hs hc=>
   injection D with D;subst D
   refine⟨b,off,cells,e,Y,Z,λj x hj hp hf=>?_⟩
   obtain⟨c1,T⟩:=hc j _ (T4 cs 0 j x hj);rw[gy]at T;refine⟨_,c1,?_⟩;have e1:BP i j x = .own [20001+1000*i+j]:=by simp[BP,hp,nC,hf]
   rw[e1]at T;have U:=T.2;simp only[de]at U;split at U
   ·simp_all
   ·cases U
 | .sl y :: C,i,I=>by
  obtain⟨E,O⟩:=I;refine⟨?_,r9.T5 C (i+1) O⟩;cases E with
  |sl v y' Y hr=>simp_all
end
def dm(n:Nat):aa Nat->Bool
 |[]=>false
 |m::l=>Nat.beq n m ||dm n l
def w7{n:Nat}:∀ {l:aa Nat},dm n l=true ↔ n∈l
 |[]=>by simp[dm]
 | m :: l=>by
  simp only[dm,eZ,ig,w7];simp_all
def aaT{n:Nat}{l:aa Nat}(h:dm n l=false):n ∉ l:=λk=>by rw[w7.2 k]at h;cases h
def gP(k l:aa Nat):Bool:=match k.getLast? with
 |some r=>dm r l
 |none=>false
def yK(ns cn:aa Nat):qg:=⟨λk=>gP k cn ||(gP k ns && !(Nat.beq k.length 1)),λk=>gP k cn ||gP k ns,λr=>dm r cn⟩
def Lf.dD(ns cn:aa Nat):Lf->Lf:=Lf.cy (yK ns cn).l
def A.dD(ns cn:aa Nat):A->A:=A.cy (yK ns cn)
def aU.dD(ns cn:aa Nat):aU->aU:=aU.cy (yK ns cn)
def S.dD(σ:S)(ns cn:aa Nat)(nr:aa (Nat×aU)):S:=⟨λk=>(σ.t k).dD ns cn,λr=>match nr.lookup r with
 |some x=>some x
 |none=>bif dm r ns ||dm r cn then none else (σ.m r).map (aU.dD ns cn)⟩
structure w8 (w w':World) (af dQ:bB) (ρ fZ:Nat->Loc) (ns cn:List Nat):Prop where
 size:w.heap.size<=w'.heap.size
 same:∀b,b<w.heap.size->(∀k,af b=some k->gP k ns=false)->w'.heap[b]?=w.heap[b]?/\dQ b=af b
 fY:∀r,dm r cn=false->fZ r=ρ r
 af:∀b k,af b=some k->b<w.heap.size/\k≠[]
section
variable {P:Program} {w w':World} {w0:Wd} {B N:Nat} {af dQ aC:bB} {ρ fZ:Nat->Loc} {σ:S} {a:Act} {X:Type} {d:Nat} {r:X} {ns cn:aa Nat}
def aaU{j i s:Nat}{q l:aa Nat}(h:q≠[]):gP (j :: i :: s :: q) l=gP q l:=by
 cases q with
 |nil=>simp_all
 |cons x q=>simp[gP]
def w8.tr(C:w8 w w' af dQ ρ fZ ns cn):Tr w w' af dQ ρ fZ (λk=>gP k ns) (λr=>dm r cn):=
 ⟨C.size,λb hb hl=>let e:=C.same b hb (λk D=>by rw[hl]at D;cases D);⟨e.1,e.2.trans hl⟩,λb k hl D=>let e:=C.same b (C.af b k hl).1 (λI E=>by rw[hl]at E;injection E with E;subst E;exact D);⟨e.1,e.2.trans hl⟩,C.fY,λj i s x q=>aaU (by simp),λb hb=>absurd rfl (C.af b [] hb).2⟩
def T6:(yK ns cn).OK (λk=>gP k ns) (λr=>dm r cn):=by
 refine⟨λk D=>?_,λk D=>?_,λ_ h=>h⟩
 ·obtain⟨E,C⟩:=qM.1 D;refine⟨?_,E⟩;cases I:gP k ns with
  |false=>exact .inr rfl
  | true=>
   rw[I,dn,Bool.not_eq_false']at C;exact .inl (c8 C)
 ·obtain⟨E,C⟩:=qM.1 D;exact⟨C,E⟩
def RV.xd(C:w8 w w' af dQ ρ fZ ns cn){q:aa Nat}{x:V}{v:Value}(h:RV w B af q x v)(D:gP q ns=false\/x.aI=true):RV w' B dQ q x v:=h.tr C.tr D.symm
def RA.xd(C:w8 w w' af dQ ρ fZ ns cn){x:A}{u:Value}(h:RA w B af ρ x u):RA w' B dQ fZ (x.dD ns cn) u:=h.tr C.tr T6
def eE.xd(C:w8 w w' af dQ ρ fZ ns cn){x:Lf}{u:Value}(h:eE w B af ρ x u):eE w' B dQ fZ (x.dD ns cn) u:=h.tr C.tr T6
def eV.xd(C:w8 w w' af dQ ρ fZ ns cn){n:Nat}{x:aU}(h:eV w B af ρ n x)(D:dm n ns=false)(E:dm n cn=false):eV w' B dQ fZ n (x.dD ns cn):=h.tr C.tr T6 D E
def Rl.xd(h:Rl w0 N af ρ σ a w)(D:w8 w w' af dQ ρ fZ ns cn)(hb:kH w0 w w')(hl:∀ b k,dQ b=some k -> (w0.heap.size <= b \/ w0.L b≠none)/\b<w'.heap.size/\k≠[])(T:∀ r,dm r cn=true -> w0.F r=none){nr:aa (Nat×aU)}
  (U:∀r x,nr.lookup r=some x -> eV w' w0.heap.size dQ fZ r x):Rl w0 N dQ fZ (σ.dD ns cn nr) a w':=by
 refine⟨h.below.trans hb,hl,λr x C=>?_,λk=>(h.tmp k).xd D,h.size,h.defers,λr l I=>?_,h.cT⟩
 ·simp only[S.dD]at C;split at C
  ·simp_all
  ·cases hm:(dm r ns || dm r cn)with
   |true=>simp_all
   | false=>
    rw[hm]at C;rw[qM]at hm;cases E:σ.m r with
    |none=>simp_all
    | some y=>
     rw[E]at C;injection C with C;subst C;exact(h.root r y E).xd D hm.1 hm.2
 ·have O:dm r cn=false:=by
   grind
  exact(D.fY r O).trans (h.fix r l I)
end
inductive Mu where
 |aD (r:Nat) (cs:List Lf) (vs:List (V×Option Nat))
 |sl (q:Nat) (y:V)
def Mu.root:Mu->Nat
 |.aD r _ _=>r
 |.sl q _=>q
def yL(m:Nat->ah aU):Lf->ah (V×ah Nat)
 |.v x=>some (x.ir,none)
 | .own [q]=>match m q with
  |some (.sl y)=>bif y.aI then some (y.ir,none)else some (y,some q)
  |_=>none
 |_=>none
def uk(m:Nat->ah aU):aa Lf->ah (aa (V×ah Nat))
 |[]=>some []
 | l :: C=>match yL m l,uk m C with
  |some v,some D=>some (v::D)
  |_,_=>none
def yM(σ:S):PK->A->ah (ah Mu)
 |.v _ _,_=>some none
 | .p _ _ off,.aL r j=>(match (bif Nat.beq j off then σ.m r else none)with
  | some (.aD cs)=>(match uk σ.m cs with
   |some C=>bif Nat.blt cs.length 999 then some (some (.aD r cs C))else none
   |none=>none)
  |_=>none)
 | .s _ _,.lf (.own [q])=>(match σ.m q with
  |some (.sl y)=>bif y.aI then none else some (some (.sl q y))
  |_=>none)
 |_,_=>none
def kQ(σ:S):aa PK->aa Operand->ah (aa Mu)
 |[],[]=>some []
 | p :: ps,x :: xs=>(match yM σ p (aJ σ x),kQ σ ps xs with
  |some (some D),some C=>some (D::C)
  |some none,some C=>some C
  |_,_=>none)
 |_,_=>none
def FW(i:Nat):Nat->aa (V×ah Nat)->aa (Nat×Nat)
 |_,[]=>[]
 |j,(_,some q)::C=>(q,60000+1000*i+j)::FW i (j+1) C
 |j,(_,none)::C=>FW i (j+1) C
def nj:Nat->aa Mu->aa (Nat×Nat)
 |_,[]=>[]
 |i,.aD r _ D::C=>(r,nF i)::(FW i 0 D++nj (i+1) C)
 |i,.sl q _::C=>(q,nF i)::nj (i+1) C
def T7(ns:aa Nat):Lf->Bool
 |.own k=>!gP k ns
 |_=>true
def vo{X:Type}(σ:S)(ns:aa Nat):aa Lf->(aa V->ah X)->ah X
 |[],k=>k []
 |x::xs,k=>bif T7 ns x then rX σ x λy=>vo σ ns xs λys=>k (y.ir::ys)else none
def um{X:Type}(σ:S)(ns:aa Nat)(x:A)(k:Pt->ah X):ah X:=
 match x with
 |.lf y=>vo σ ns [y] λC=>k (false,C)
 |.agg ys=>vo σ ns ys λC=>k (true,C)
 |.qf f (c::cs)=>k (false,.bool false::.int .i64 (f:Int)::c.ir::cs.map V.ir)
 | .fn f [(r,j)]=>bif dm r ns then none else (match σ.m r with
  | some (.aD cs)=>(match uc (cs.drop j)with
   |some (c::C)=>k (false,.bool false::.int .i64 (f:Int)::c::C)
   |_=>none)
  |_=>none)
 |_=>none
def kR{X:Type}(σ:S)(ns:aa Nat):(ps:aa PK)->aa Operand->aa Mu->(ni ps->ah X)->ah X
 |[],[],[],k=>k ()
 | .v b t :: ps,x :: xs,C,k=>um σ ns (aJ σ x) λp=>bif p.1==b then (match dec t 0 p.2 with
  |some y=>kR σ ns ps xs C λys=>k (y,ys)
  |none=>none)else none
 | .p t g _ :: ps,_ :: xs,.aD _ _ D :: C,k=>(match (bif Nat.beq (g % 2) 0 then dec t g (D.map (·.1))else none)with
  |some y=>kR σ ns ps xs C λys=>k (y,ys)
  |none=>none)
 | .s t g :: ps,_ :: xs,.sl _ y :: C,k=>(match (bif Nat.beq (g % 2) 0 then y.gn t (g+2)else none)with
  |some z=>kR σ ns ps xs C λys=>k (z,ys)
  |none=>none)
 |_,_,_,_=>none
def Ao(w:World)(ρ:Nat->Loc)(rs:aa Nat):Nat->Loc:=λn=>
 if n<60000 then (if (n-20000) % 1000=0 then ρ (rs.getD ((n-20000) / 1000) 0)else (match ρ (rs.getD ((n-20000) / 1000) 0)with
  |.aD b off=>.dP ((w.cell? ⟨b,off+((n-20000) % 1000-1),none⟩).getD undef)
  |.dP v=>.dP v
  |.bJ us=>.bJ us))
 else (match ρ (rs.getD ((n-60000) / 1000) 0)with
  |.aD b off=>.dP ((w.cell? ⟨b,off+(n-60000) % 1000,none⟩).getD undef)
  |.dP v=>.dP v
  |.bJ us=>.bJ us)
def Ju{w:World}{ρ:Nat -> Loc}{rs:aa Nat}{i r:Nat}(h:rs[i]?=some r)(hi:i<40):Ao w ρ rs (nF i)=ρ r:=by
 have C:nF i<60000:=by unfold nF;omega
 have D:(nF i-20000) % 1000=0:=by unfold nF;omega
 have E:(nF i-20000) / 1000=i:=by unfold nF;omega
 have I:rs.getD i 0=r:=by rw[cQ,h];rfl
 unfold Ao;simp_all
def akX{w:World}{ρ:Nat -> Loc}{rs:aa Nat}{i j r b off:Nat}{u:Value}{x:V}(h:rs[i]?=some r)(hi:i<40)(C:j<999)(D:ρ r = .aD b off)(E:w.cell? ⟨b,off+j,none⟩=some u):Ao w ρ rs (nC i j x) = .dP u:=by
 have I:rs.getD i 0=r:=by rw[cQ,h];rfl
 unfold Ao nC;cases x.aI with
 |true =>grind
 |false =>grind
def V.Ny:V->Bool
 |.sl _ o _ _=>Nat.beq (o % 2) 0
 |_=>true
section
variable {P:Program} {w w':World} {w0:Wd} {B N:Nat} {af dQ aC:bB} {ρ fZ:Nat->Loc} {σ:S} {a:Act} {X:Type} {d:Nat} {r:X} {ns cn:aa Nat}
def RV.reB{B':Nat}{q:aa Nat}{x:V}{v:Value}(h:RV w B af q x v)(D:x.Ny=true):RV w B' af q x v:=by
 induction h with
 |int=>exact .int _ _ _
 |bool=>exact .bool _ _
 |str=>exact .str _ _
 |nil=>exact .nil _
 |fC=>exact .fC _ _ _
 |gF=>exact .gF _ _ _ _ _ (by first|assumption|omega)
 |gO=>exact .gO _ _ _ _ _ (by first|assumption|omega)
 | aI q t o T l b off cap u U hl hb h1 Y E Z I=>
  have D:=c8 D;have ho0:o=0:=by omega
  subst ho0
  refine .aI _ _ _ _ _ _ _ _ u U hl hb (by omega) Y E (λi h j x C=>I i h j x C ?_)
  have:=Bm t 0 l[i] x (iR C);cases x with
  | sl t' O q' l'=>
   have:O=0:=by simpa [V.gr]using this
   subst this;rfl
  |_=>rfl
 | own q t o T l b cap cs u hl hh hs hn hm E Z I=>
  have D:=c8 D
  refine .own _ _ _ _ _ _ _ cs u hl hh hs hn hm E (λi h j x C=>I i h j x C ?_)
  have:=Bm t o l[i] x (iR C);cases x with
  | sl t' O q' l'=>
   have:O=o:=by simpa [V.gr]using this
   show Nat.beq _ 0=true;simp_all
  |_=>rfl
def RV.out{q I:aa Nat}{x:V}{v:Value}(h:RV w B af q x v)(Y:∀ b,af b=none -> aC b=none)(Z:∀ b k,af b=some k -> k≠[]/\(gP k ns=false -> aC b=none))(hq:x.aI=true \/ gP q ns=false){B':Nat}:RV w B' aC I x.ir v:=by
 induction h generalizing I with
 |int=>exact .int _ _ _
 |bool=>exact .bool _ _
 |str=>exact .str _ _
 |nil=>exact .nil _
 |fC=>exact .fC _ _ _
 |gF=>exact .gF _ _ _ _ _ (by first|assumption|omega)
 |gO=>exact .gO _ _ _ _ _ (by first|assumption|omega)
 | aI q t o qn l b off cap u ho hl hb h1' lQ O hr E=>
  refine .aI _ _ _ _ _ _ _ _ u (by omega) (Y b hl) hb (by omega) lQ (λi h j x C=>?_) (λi h j x C=>?_)
  ·obtain⟨y,D,_⟩:=zR t o l[i] j x C;simp_all
  ·obtain⟨y,D,rfl⟩:=zR t o l[i] j x C;exact E i h j y D (.inl (sX t o l[i] ho j y D))
 | own q t o qn l b cap cs u hl T hs hn hm O hr E=>
  have U:gP q ns=false:=by
   rcases hq with hq|hq
   ·simp[V.aI]at hq;omega
   ·exact hq
  obtain⟨bQ,rY⟩:=Z b q hl
  refine .aI _ _ _ _ _ _ _ _ u (by omega) (rY U) (jH.1 T).1 (by omega) hn (λi h j x C=>?_) (λi h j x C=>?_)
  ·obtain⟨y,D,_⟩:=zR t o l[i] j x C;have:=O i h j y D;rw[gy,cell_of_row w b _ cs _ _ T];exact this
  ·obtain⟨y,D,rfl⟩:=zR t o l[i] j x C;exact E i h j y D (.inr (by rw[aaU bQ];exact U))
def akY{x:Lf}{k:V -> ah X}(h:rX σ x k=some r):∃ y,k y=some r /\ ∀ af ρ a w,Rl w0 N af ρ σ a w -> ∀ u,eE w w0.heap.size af ρ x u -> ∃ q,(x = .own q \/ y.aI=true)/\RV w w0.heap.size af q y u:=by
 cases x with
 |v y=>exact⟨y,h,λaf ρ a w hR u C=>⟨[],.inr C.1,C.2⟩⟩
 |dead=>cases h
 | own q=>
  obtain⟨y,D,E⟩:=vc q k h
  refine⟨y,E,λaf ρ a w hR u C=>⟨q,.inl rfl,?_⟩⟩
  obtain⟨v,I,O⟩:=D.ok hR.root;have:v=u:=by
   have T:=C.2;simp_all
  simp_all
structure DF (ns:List Nat) (af aC:bB):Prop where
 none:∀b,af b=none->aC b=none
 rest:∀b k,af b=some k->k≠[]/\(gP k ns=false->aC b=Option.none)
def T8:∀ (xs:aa Lf) (k:aa V -> ah X),vo σ ns xs k=some r -> ∃ C,k C=some r/\C.length=xs.length /\ ∀ af ρ a w aC,Rl w0 N af ρ σ a w -> DF ns af aC -> ∀ (j:Nat) x y u,xs[j]?=some x -> C[j]?=some y -> eE w w0.heap.size af ρ x u -> RV w w.heap.size aC [] y u
 |[],k,h=>⟨[],h,rfl,λ_ _ _ _ _ _ _ j x y u T=>by simp at T⟩
 | x :: xs,k,h=>by
  unfold vo at h;cases D:T7 ns x with
  |false=>simp_all
  | true=>
   rw[D,av]at h;obtain⟨y,U,Y⟩:=akY (w0:=w0) (N:=N) h;obtain⟨ys,Z,hl,hr⟩:=T8 xs _ U
   refine⟨y.ir::ys,Z,by simp[hl],λaf ρ a w aC hR E j x' y' u I O hu=>?_⟩
   cases j with
   | zero=>
    simp at I O;subst I O;obtain⟨q,hq,lR⟩:=Y af ρ a w hR u hu;refine lR.out E.none E.rest ?_;rcases hq with rfl|hq
    ·exact .inr (by simpa [T7]using D)
    ·simp_all
   |succ j=>grind
inductive PM (w:World) (aC:bB):Pt->Value->Prop
 |v (p:Pt) (u:Value) (h:PV w w.heap.size aC (λ_=>[]) p u):PM w aC p u
 |f (g:Nat) (c:V) (cs:List V) (u:Value) (h:RF w w.heap.size aC (c::cs) u):PM w aC (false,.bool false::.int .i64 (g:Int)::c::cs) (.func (.func g) #[] #[u])
def akZ{g:Nat}{c:V}{cs ys:aa V}(hl:(V.bool false :: .int .i64 (g:Int) :: c :: cs).length=ys.length)(h:∀ (j:Nat) x z,(V.bool false :: .int .i64 (g:Int) :: c :: cs)[j]?=some x -> ys[j]?=some z -> Wk x z):∃ C fW,ys = .bool false :: .int .i64 (g:Int) :: C :: fW/\m9 (c :: cs) (C :: fW):=by
 match ys,hl,h with
 | a :: b :: C :: fW,hl,h=>
  have D:=h 0 _ a rfl rfl;have E:=h 1 _ b rfl rfl;cases D;cases E;exact⟨C,fW,rfl,by simpa using hl,λj x z I O=>h (j+2) x z (by simpa using I) (by simpa using O)⟩
def RF.xe{cs C:aa V}{u:Value}(h:RF w B af cs u)(E:m9 cs C)(O:∀ (j:Nat) z,C[j]?=some z->z.aI=true):RF w B af C u:=by
 obtain⟨b,off,rfl,hb,hl,T⟩:=h
 refine⟨b,off,rfl,hb,hl,λj x D=>?_⟩
 have I:j<cs.length:=by rw[E.1];exact(dW.1 D).1
 obtain⟨_,v,U,Y⟩:=T j _ (bL I);exact⟨O j x D,v,U,Y.wk (E.2 j _ x (bL I) D)⟩
def RF.ir{cs:aa V}{u:Value}(h:RF w B af cs u)(D:∀ b,af b=none -> aC b=none)(I:∀ b k,af b=some k -> k≠[]/\(gP k ns=false -> aC b=none)){B':Nat}:RF w B' aC (cs.map V.ir) u:=by
 obtain⟨b,off,rfl,hb,hl,O⟩:=h
 refine⟨b,off,rfl,hb,D b hl,λj x C=>?_⟩
 rw[fz]at C;cases E:cs[j]? with
 |none=>simp_all
 | some y=>
  rw[E]at C;injection C with C;subst C;obtain⟨T,v,U,Y⟩:=O j y E;exact⟨V.aj2 y,v,U,Y.out D I (.inl T)⟩
def ak0{x:A}{k:Pt -> ah X}(h:um σ ns x k=some r):∃ p,k p=some r /\ ∀ af ρ a w aC,Rl w0 N af ρ σ a w -> DF ns af aC -> ∀ u,RA w w0.heap.size af ρ x u -> PM w aC p u:=by
 unfold um at h;split at h
 ·rename_i y;obtain⟨Y,O,hl,T⟩:=T8 (w0:=w0) (N:=N) _ _ h
  refine⟨_,O,λaf ρ a w aC hR C u D=>.v _ _ ⟨#[u],rfl,by simp[hl],λj x E=>?_⟩⟩
  have I:j=0:=by
   grind
  subst I;exact⟨u,rfl,T af ρ a w aC hR C 0 y x u rfl E D⟩
 ·rename_i ys;obtain⟨Y,O,hl,T⟩:=T8 (w0:=w0) (N:=N) _ _ h
  refine⟨_,O,λaf ρ a w aC hR C u D=>?_⟩
  obtain⟨us,rfl,U⟩:=D
  refine .v _ _ ⟨us,rfl,by rw[hl];exact U.1,λj x E=>?_⟩
  have I:j<ys.length:=by rw[<- hl];exact(dW.1 E).1
  obtain⟨v,hv,fP⟩:=U.2 j _ (bL I);exact⟨v,hv,T af ρ a w aC hR C j _ x v (bL I) E fP⟩
 ·rename_i f c cs
  refine⟨_,h,λaf ρ a w aC hR C u D=>?_⟩
  obtain⟨pv,rfl,vp⟩:=D;exact .f f _ _ _ (vp.ir C.none C.rest)
 ·rename_i f r' j;cases Z:dm r' ns with
  |true=>grind
  | false=>
   rw[Z,ax]at h;split at h
   ·rename_i cs hm;split at h
    ·rename_i c Y Bo;obtain⟨e,hp⟩:=M6 _ _ Bo
     refine⟨_,h,λaf ρ a w aC hR C u D=>?_⟩
     obtain⟨us,rfl,oK,lQ⟩:=D;obtain⟨b,off,cv,r7⟩:=lQ 0 _ rfl;have r7:us[0]?=some (.pointer (some ⟨b,off+j,none⟩)):=r7;have ayo:us.size=1:=oK;have ak1:us = #[.pointer (some ⟨b,off+j,none⟩)]:=by
      apply Array.ext';apply List.ext_getElem?;intro i;cases i with
      |zero=>grind
      |succ i=>grind
     subst ak1;refine .f f _ _ _ ?_;cases hR.root r' _ hm with
     | aD b' Dh cells e' _ Nb jY qY hh U hc=>
      rw[cv]at jY;injection jY with q1 q2;subst q1 q2
      refine⟨b,off+j,rfl,(jH.1 hh).1,(C.rest b _ qY).2 (by simpa [gP]using Z),λi x E=>?_⟩
      have hpx:=hp x (iR E);have hcd:(cs.drop j)[i]?=some (.v x):=by rw[e,fz,E];rfl
      rw[List.getElem?_drop]at hcd;obtain⟨k1,k2⟩:=hc _ _ hcd;refine⟨(by cases x<;>first|rfl|cases hpx),Nb (j+i),?_,k2.2.wK hpx⟩;rw[Nat.add_assoc,cell_of_row w b _ cells _ _ hh];exact k1
    ·cases h
   ·cases h
 ·cases h
def BS(σ:S):Mu->Prop
 |.aD r cs C=>σ.m r=some (.aD cs)/\uk σ.m cs=some C/\cs.length<999
 |.sl q y=>σ.m q=some (.sl y)/\y.aI=false
def Jv:aa Mu->aa In->Prop
 |[],[]=>True
 |.aD _ _ I::C,.aD xs::D=>(m9 (I.map (·.1)) xs/\∀x∈xs,x.lP=true/\x.Ny=true)/\Jv C D
 |.sl _ y::C,.sl E::D=>(Wk y E/\E.Ny=true)/\Jv C D
 |_,_=>False
def FX(w:World)(B:Nat)(af:bB)(ρ:Nat->Loc)(C:aa In):aa Ar->aa Value->Prop
 |[],[]=>True
 |x::xs,v::D=>RA w B af ρ (TR C x) v/\FX w B af ρ C xs D
 |_,_=>False
def FX.get{D:aa In}:∀ (xs:aa Ar) (C:aa Value),FX w B af ρ D xs C -> C.length=xs.length /\ ∀ i,RA w B af ρ ((Am D xs).t i) (C.toArray.getD i undef)
 |[],[],_=>⟨rfl,λi=>trivial⟩
 | x :: xs,v :: C,h=>by
  obtain⟨E,I⟩:=FX.get xs C h.2
  refine⟨by simp[E],λi=>?_⟩
  cases i with
  |zero=>exact h.1
  | succ i=>
   have:=I i;simp at this ⊢;exact this
def ak2{t:TC}{g:Nat}{x:T t}(D:Nat.beq (g % 2) 0=true):∀ y∈enc t g x,y.lP=true/\y.Ny=true:=by
 intro y C;refine⟨SX t g x y C,?_⟩;have:=Bm t g x y C;cases y with
 | sl I E O U=>
  have:E=g:=by simpa [V.gr]using this
  subst this;exact D
 |_=>rfl
def ak3(σ:S):PK->A->ah Mu->Prop
 |.v _ _,_,none=>True
 |.p _ _ off,x,some (.aD r cs C)=>x = .aL r off/\BS σ (.aD r cs C)
 |.s _ _,x,some (.sl q y)=>x = .lf (.own [q])/\BS σ (.sl q y)
 |_,_,_=>False
def yN{p:PK}{x:A}{z:ah Mu}(h:yM σ p x=some z):ak3 σ p x z:=by
 cases p with
 | v b t=>
  injection h with h;subst h;trivial
 | p t g off=>
  cases x with
  | aL r j=>
   have h:(match (bif Nat.beq j off then σ.m r else none)with
    | some (.aD cs)=>(match uk σ.m cs with
     |some E=>bif Nat.blt cs.length 999 then some _ else none
     |none=>none)
    |_=>none)=some z:=h
   cases C:Nat.beq j off with
   |false=>rw[C]at h;cases h
   | true=>
    obtain rfl:=c8 C;rw[C,av]at h;split at h
    ·rename_i cs I;split at h
     ·rename_i E O;cases hl:Nat.blt cs.length 999 with
      |false=>rw[hl]at h;cases h
      | true=>
       rw[hl]at h;injection h with h;subst h;exact⟨rfl,I,O,by have:=cH hl;omega⟩
     ·cases h
    ·cases h
  |_=>cases h
 | s t g=>
  have T:(∃ q,x = .lf (.own [q])):=by
   unfold yM at h;split at h
   next e=>cases e
   next e=>cases e
   ·simp[*]
   ·cases h
  obtain⟨q,rfl⟩:=T;have h:(match σ.m q with
   |some (.sl y)=>bif y.aI then none else some _
   |_=>none)=some z:=h
  split at h
  ·rename_i y U;cases D:y.aI with
   |true=>rw[D]at h;cases h
   | false=>
    rw[D]at h;injection h with h;subst h;exact⟨rfl,U,D⟩
  ·cases h
def Nz:∀ (ps:aa PK) (xs:aa Operand) (D:aa Mu),kQ σ ps xs=some D -> ∀ O∈D,BS σ O
 |[],[],D,h=>by injection h with h;subst h;simp
 | p :: ps,x :: xs,D,h=>by
  unfold kQ at h;split at h
  ·rename_i O E C I;injection h with h;subst h;have T:=Nz ps xs E I;have C:=yN C;intro z hz;rcases ig.1 hz with rfl | hz
   ·cases p with
    |v=>exact C.elim
    | p=>
     cases z with
     |aD=>exact C.2
     |sl=>exact C.elim
    | s=>
     cases z with
     |aD=>exact C.elim
     |sl=>exact C.2
   ·simp_all
  next E C I=>injection h with h;subst h;exact Nz ps xs E I
  ·cases h
 |[],_::_,D,h=>by cases h
 |_::_,[],D,h=>by cases h
def Jw:∀ {ps:aa PK} (i C:Nat) (x:ni ps),(lV ps i x).length=(lV ps C x).length
 |[],_,_,_=>rfl
 |.v _ _::ps,i,C,x=>by simp[lV,List.length_cons];rw[Jw]
 |.p _ _ _::ps,i,C,x=>by simp only[lV,List.length_cons];rw[Jw (i+1) (C+1)]
 |.s _ _::ps,i,C,x=>by simp only[lV,List.length_cons];rw[Jw (i+1) (C+1)]
def NA:∀ (ps:aa PK) (xs:aa Operand) (O:aa Mu) (k:ni ps -> ah X),kQ σ ps xs=some O -> kR σ ns ps xs O k=some r -> ∃ x,k x=some r/\Jv O (qq ps x)/\(lV ps 0 x).length=xs.length /\
  ∀af ρ a w aC ρ',Rl w0 N af ρ σ a w -> DF ns af aC -> ∀(T:aa In) (i:Nat),(∀j z,(qq ps x)[j]?=some z -> T[i+j]?=some z) -> (∀j U,O[j]?=some U -> ρ' (nF (i+j))=ρ U.root) -> FX w w.heap.size aC ρ' T (lV ps i x) (xs.map a.eval)
 | [],[],O,k,C,h=>by
  injection C with C;subst C;exact⟨(),h,trivial,rfl,λ_ _ _ _ _ _ _ _ _ _ _ _=>trivial⟩
 | .v b t :: ps,x :: xs,O,k,C,h=>by
  have s7:kQ σ ps xs=some O:=by
   unfold kQ at C;split at C
   next U Z D I=>exact(yN D).elim
   next Z D I=>rw[I];exact C
   ·cases C
  unfold kR at h;obtain⟨p,I,hp⟩:=ak0 (w0:=w0) (N:=N) h;cases hb:p.1==b with
  |false=>rw[hb]at I;cases I
  | true=>
   rw[hb,av]at I;have hb:p.1=b:=by simpa using hb
   subst hb;split at I
   ·rename_i y Y;obtain⟨ys,h3,h4,h5,h6⟩:=NA ps xs O _ s7 I
    refine⟨(y,ys),h3,h4,?_,λaf ρ a w aC ρ' hR hS T i hi cv=>⟨?_,h6 af ρ a w aC ρ' hR hS T i hi cv⟩⟩
    ·simp[lV,h5]
    ·have vp:=hp af ρ a w aC hR hS _ (hR.aJ x);have hk:=nY t 0 p.2 y Y;generalize a.eval x=ux at vp ⊢;rcases vp with ⟨_,_,us,hu,hs,hr⟩ | ⟨g,c,cs,pv,vp⟩
     case f=>
      have he:∀(j:Nat) z,(enc t 0 y)[j]?=some z -> z.aI=true:=λj z E=>sX t 0 y (by omega) j z E
      obtain⟨c',fW,e,hw⟩:=akZ hk.1 hk.2;rw[e]at he ⊢;exact⟨pv,rfl,vp.xe hw λj z E=>he (j+2) z (by simpa using E)⟩
     have qm:∀ (j:Nat) z,(enc t 0 y)[j]?=some z -> ∃ v,us[j]?=some v/\z.aI=true/\RV w w.heap.size aC [] z v:=by
      intro j z E;have hj:j<p.2.length:=by rw[hk.1];exact(dW.1 E).1
      obtain⟨v,hv,fP⟩:=hr j _ (bL hj);exact⟨v,hv,sX t 0 y (by omega) j z E,fP.wk (hk.2 j _ z (bL hj) E)⟩
     have hlen:us.size=(enc t 0 y).length:=hs.trans hk.1;obtain⟨b,vs⟩:=p;cases b with
     | true=>
      show RA _ _ _ _ (.agg ((enc t 0 y).map .v)) _
      refine⟨us,hu,by rw[fN];exact hlen,λj z E=>?_⟩
      rw[fz]at E;cases FE:(enc t 0 y)[j]? with
      |none=>rw[FE]at E;cases E
      | some z'=>
       rw[FE]at E;injection E with E;subst E;obtain⟨v,hv,g1,g2⟩:=qm j z' FE;exact⟨v,hv,g1,g2⟩
     | false=>
      have hu:us = #[ux]:=hu;subst hu;show RA _ _ _ _ (TR T (.pt (false,enc t 0 y))) _
      match he:enc t 0 y,qm,hlen with
      | [z],qm,_=>
       obtain⟨v,hv,g1,g2⟩:=qm 0 z rfl;have:ux=v:=by simpa using hv
       rw[this];exact⟨g1,g2⟩
      |[],_,_=>trivial
      |_::_::_,_,hlen=>exact absurd hlen (by simp)
   ·cases I
 | .p t g off :: ps,x :: xs,O,k,C,h=>by
  unfold kQ at C;split at C
  ·rename_i U Z D I;injection C with C;subst C;have D:=yN D;cases U with
   |sl=>exact D.elim
   | aD r cs vs=>
    have D:aJ σ x = .aL r off/\BS σ (.aD r cs vs):=D;unfold kR at h;split at h
    ·rename_i y Y;cases hg:Nat.beq (g % 2) 0 with
     |false=>rw[hg]at Y;cases Y
     | true=>
      rw[hg,av]at Y;obtain⟨ys,h3,h4,h5,h6⟩:=NA ps xs Z _ I h
      refine⟨(y,ys),h3,⟨⟨nY t g _ y Y,ak2 hg⟩,h4⟩,by simp[lV,Jw 1 0,h5],λaf ρ a w aC ρ' hR hS T i hi cv=>⟨?_,?_⟩⟩
      ·have Jx:=hi 0 _ rfl;rw[Nat.add_zero]at Jx;have hx:=hR.aJ x;rw[D.1]at hx;obtain⟨b,o,e1,e2⟩:=hx;show RA _ _ _ _ (match T[i]? with|some (.aD _)=>.aL (nF i) off|some (.sl _)=>.lf (.own [nF i])|none=>.undef) _;rw[Jx];have jw:=cv 0 _ rfl;rw[Nat.add_zero]at jw;exact⟨b,o,jw.trans e1,e2⟩
      ·refine h6 af ρ a w aC ρ' hR hS T (i+1) (λj z E=>?_) (λj U lD=>?_)
       ·rw[show i+1+j=i+(j+1) by omega];exact hi _ z E
       ·rw[show i+1+j=i+(j+1) by omega];exact cv _ U lD
    ·cases h
  next Z D I=>exact(yN D).elim
  ·cases C
 | .s t g :: ps,x :: xs,O,k,C,h=>by
  unfold kQ at C;split at C
  ·rename_i U Z D I;injection C with C;subst C;have D:=yN D;cases U with
   |aD=>exact D.elim
   | sl q y0=>
    have D:aJ σ x = .lf (.own [q])/\BS σ (.sl q y0):=D;unfold kR at h;split at h
    ·rename_i y Y;cases hg:Nat.beq (g % 2) 0 with
     |false=>rw[hg]at Y;cases Y
     | true=>
      rw[hg,av]at Y;obtain⟨ys,h3,h4,h5,h6⟩:=NA ps xs Z _ I h
      refine⟨(y,ys),h3,⟨⟨V.IE Y,?_⟩,h4⟩,by simp[lV,Jw 1 0,h5],λaf ρ a w aC ρ' hR hS T i hi cv=>⟨?_,?_⟩⟩
      ·show Nat.beq ((g+2) % 2) 0=true;simp[*]
      ·have Jx:=hi 0 _ rfl;rw[Nat.add_zero]at Jx;have hx:=hR.aJ x;rw[D.1]at hx;show RA _ _ _ _ (match T[i]? with|some (.aD _)=>.aL (nF i) 0|some (.sl _)=>.lf (.own [nF i])|none=>.undef) _;rw[Jx];have jw:=cv 0 _ rfl;rw[Nat.add_zero]at jw;refine⟨hx.1,?_⟩;have I:=hx.2;simp only[de]at I ⊢;rw[jw];exact I
      ·refine h6 af ρ a w aC ρ' hR hS T (i+1) (λj z E=>?_) (λj U lD=>?_)
       ·rw[show i+1+j=i+(j+1) by omega];exact hi _ z E
       ·rw[show i+1+j=i+(j+1) by omega];exact cv _ U lD
    ·cases h
  next Z D I=>exact(yN D).elim
  ·cases C
 |[],_::_,O,k,C,h=>by cases C
 |_::_,[],O,k,C,h=>by cases C
end
def oS(c0:Nat):Nat->aa (V×ah Nat)->aa Nat
 |_,[]=>[]
 |n,(_,some q)::C=>q::oS c0 (n+1) C
 |n,(_,none)::C=>(c0+n)::oS c0 (n+1) C
def BU(c0:Nat):Nat->aa Mu->aa Nat
 |_,[]=>[]
 |pos,.aD r _ D::C=>r::(oS c0 (pos+1) D++BU c0 (pos+1+D.length) C)
 |pos,.sl q _::C=>q::BU c0 (pos+1) C
def yO:aa Nat->aa V->aa Nat
 |n::C,x::xs=>bif x.aI then yO C xs else n::yO C xs
 |_,_=>[]
def qv(c0:Nat):Nat->aa Mu->aa In->aa Nat
 |pos,.aD _ _ D::C,.aD xs::outs=>yO (oS c0 (pos+1) D) xs++qv c0 (pos+1+D.length) C outs
 |pos,.sl _ _::C,.sl _::outs=>qv c0 (pos+1) C outs
 |_,_,_=>[]
def sg(ns cn:aa Nat):aa Nat->aa Lf->aa V->aa Lf
 |n::C,l::D,x::xs=>(bif x.plain then .v x else bif x.aI then l.dD ns cn else .own [n])::sg ns cn C D xs
 |_,_,_=>[]
def xg:aa Nat->aa V->aa (Nat×aU)
 |n::C,x::xs=>bif x.aI then xg C xs else (n,.sl x)::xg C xs
 |_,_=>[]
def nq(ns cn:aa Nat)(c0:Nat):Nat->aa Mu->aa In->aa (Nat×aU)
 |pos,.aD r cs D::C,.aD xs::outs=>(r,.aD (sg ns cn (oS c0 (pos+1) D) cs xs))::(xg (oS c0 (pos+1) D) xs++nq ns cn c0 (pos+1+D.length) C outs)
 |pos,.sl q _::C,.sl y::outs=>bif y.lP then (q,.sl y)::nq ns cn c0 (pos+1) C outs else nq ns cn c0 (pos+1) C outs
 |_,_,_=>[]
def NB:aa Nat->Bool
 |[]=>true
 |n::l=>!dm n l&&NB l
def aaV:In->Bool
 |.aD xs=>xs.all λx=>x.aI ||x.loc
 |.sl y=>y.loc
def jy:ah Tmp->Nat
 |some d=>1000000000100000+1000*d
 |none=>90000
def th{X:Type}(N:Nat)(σ:S)(C:ah Tmp)(D:gU)(k:S->ah X):ah X:=
 match C with
 |none=>k σ
 |some d=>bif Nat.blt d N then qp σ d D k else none
def FY(N:Nat)(C:aa Mu)(outs:aa In)(cn:aa Nat):Bool:=
 NB cn&&(C.all λD=>!dm D.root cn)&&(cn.all λn=>Nat.blt n N ||Nat.ble 60000 n)&&outs.all aaV
def FZ{X:Type}(N:Nat)(σ:S)(C:ah Tmp)(D:aa Mu)(ns cn:aa Nat)(E:gU)(outs:aa In)(k:S->ah X):ah X:=
 bif FY N D outs cn then th N (σ.dD ns cn (nq ns cn (jy C) E.len D outs)) C E k else none
def q9{X:Type}(N:Nat)(σ:S)(D:ah Tmp)(c:qt)(args:aa Operand)(k:S->ah X):ah X:=
 match kQ σ c.ps args with
 | some C=>bif once (nj 0 C)&&Nat.ble C.length 40 then
   kR σ ((nj 0 C).map (·.1)) c.ps args C λx=>(match c.F x with
    |some y=>FZ N σ D C ((nj 0 C).map (·.1)) (qv (jy D) (fQ c.ro y.1).len C (ke (fF c.ps) y.2)) (fQ c.ro y.1) (ke (fF c.ps) y.2) k
    |none=>none)else none
 |none=>none
section
variable {P:Program} {w w':World} {w0:Wd} {B N:Nat} {af dQ aC:bB} {ρ fZ ρ':Nat->Loc} {σ:S} {a:Act} {X:Type} {d:Nat} {r:X} {ns cn:aa Nat} {o:Oper} {rs:aa Nat} {fm:aa (Nat×Nat)}
def aaW{n:Nat}:∀ {l:aa (Nat×Nat)},dm n (l.map (·.1))=false -> l.lookup n=none
 |[],_=>rfl
 | p :: l,h=>by
  simp[List.map_cons,dm,qM]at h;rw[List.lookup_cons];have:(n==p.1)=false:=by
   cases hb:n==p.1 with
   |false=>rfl
   |true =>simp_all
  rw[this];exact aaW h.2
def ak4{b:Nat}{k:aa Nat}{n m:Nat}(h:af b=some k)(C:k.getLast?=some n)(D:fm.lookup n=some m):fD af fm id b=some (k.dropLast++[m]):=by
 simp[fD,h,C,D]
def ak5(C:∀ b k,af b=some k -> k≠[]):DF (fm.map (·.1)) af (fD af fm id):=by
 refine⟨λb h=>BO h,λb k h=>⟨C b k h,λhl=>?_⟩⟩
 simp[fD,h];cases D:k.getLast? with
 |none=>rfl
 | some n=>
  simp[gP,D]at hl;simp[aaW hl]
def T9{m:Nat -> ah aU}:∀ (cs:aa Lf) (C:aa (V×ah Nat)),uk m cs=some C -> C.length=cs.length /\ ∀ (j:Nat) l,cs[j]?=some l -> ∃ v,C[j]?=some v/\yL m l=some v
 |[],C,h=>by injection h with h;subst h;exact⟨rfl,λj l hl=>by simp at hl⟩
 | c :: cs,C,h=>by
  unfold uk at h;split at h
  ·rename_i v D I E;injection h with h;subst h;obtain⟨O,T⟩:=T9 cs D E
   grind
  ·cases h
def ak6{l:Lf}{v:V}{E:ah Nat}(h:yL σ.m l=some (v,E))(hR:Rl w0 N af ρ σ a w)(D:DF ns af aC){u:Value}(I:eE w w0.heap.size af ρ l u):
  (E=none /\ ∀B' O,RV w B' aC O v u) \/ (∃q,E=some q/\v.aI=false/\RV w w0.heap.size af [q] v u):=by
 unfold yL at h;split at h
 ·simp at h;obtain⟨rfl,rfl⟩:=h;exact .inl ⟨rfl,λB' O=>I.2.out D.none D.rest (.inl I.1)⟩
 ·rename_i q;split at h
  ·rename_i y Y;have T:=hR.root q _ Y;generalize C:aU.sl y=x at T;cases T with
   |aD=>cases C
   |mp=>cases C
   |gh=>cases C
   | sl Z y' cv hr=>
    injection C with C;subst C;have Jn:Z=u:=by
     have h2:=I.2;simp only[de,cv]at h2;simp_all
    subst Jn;cases U:y.aI with
    | true=>
     rw[U,av]at h;obtain⟨rfl,rfl⟩:=h;exact .inl ⟨rfl,λB' O=>hr.out D.none D.rest (.inl U)⟩
    |false =>grind
  ·cases h
 ·cases h
def aaX{i:Nat}{v:V}{q:Nat}:∀ (D:aa (V×ah Nat)) (C j:Nat),D[j]?=some (v,some q) -> (q,60000+1000*i+(C+j))∈FW i C D
 |[],C,j,h=>by simp at h
 | (I,E) :: D,C,j,h=>by
  cases j with
  | zero=>
   obtain⟨rfl,rfl⟩:=h;exact .head _
  | succ j=>
   have:=aaX (i:=i) D (C+1) j (by simpa using h);rw[show C+1+j=C+(j+1) by omega]at this;cases E with
   |none=>exact this
   |some O=>exact .tail _ this
def Ua{i:Nat}:∀ (cs:aa V) (C:Nat),(BQ i C cs).length=cs.length
 |[],_=>rfl
 |c::cs,C=>by simp[BQ,Ua cs]
def RV.oI{q:aa Nat}{x:V}{u:Value}(h:RV w B af q x u)(C:x.plain=false)(D:x.lP=true):oI u=true:=by
 cases h<;>first|rfl|cases C|cases D
def Wk.Ub{x y:V}(h:Wk x y)(C:x.aI=false):y.aI=false:=by
 cases h with
 |same=>exact C
 |nil=>cases C
 |q=>exact C
 |gr t o D E l I O=>simp[V.aI];omega
def Uc(hR:Rl w0 N af ρ σ a w)(hS:DF ns af (fD af fm id)):∀ (I:aa Mu) (T:aa In) (i:Nat),(∀ p∈nj i I,fm.lookup p.1=some p.2) -> (∀ j E,I[j]?=some E -> rs[i+j]?=some E.root) -> (∀ E∈I,BS σ E) -> Jv I T -> i+I.length <= 40 ->
  r9 w w.heap.size (fD af fm id) (Ao w ρ rs) i T
 |[],[],_,_,_,_,_,_=>trivial
 |[],_::_,_,_,_,_,h,_=>h.elim
 |.aD _ _ _::_,[],_,_,_,_,h,_=>h.elim
 |.sl _ _::_,[],_,_,_,_,h,_=>h.elim
 |.aD _ _ _::_,.sl _::_,_,_,_,_,h,_=>h.elim
 |.sl _ _::_,.aD _::_,_,_,_,_,h,_=>h.elim
 | .aD r cs vs :: I,.aD xs :: T,i,U,jx,lD,hrel,hi=>by
  obtain⟨hm,hg,hlen⟩:=lD _ (.head _);obtain⟨⟨hw,hx⟩,DG⟩:=hrel;obtain⟨g1,g2⟩:=T9 cs vs hg;have Y:=jx 0 _ rfl;rw[Nat.add_zero]at Y;simp only[List.length_cons]at hi;have rZ:xs.length=cs.length:=by rw[<- hw.1,fN,g1]
  have fk:=hR.root r _ hm;generalize C:aU.aD cs=z at fk;cases fk with
  |sl=>cases C
  |mp=>cases C
  |gh=>cases C
  | aD b off cells e fW us cv hl hh hs hc=>
   injection C with C;subst C;have qm:∀ (j:Nat) x,xs[j]?=some x -> cells[off+j]?=some (us j)/\RV w w.heap.size (fD af fm id) [nC i j x] x (us j)/\(x.plain=false -> Ao w ρ rs (nC i j x) = .dP (us j)):=by
    intro j x O;have wM:j<cs.length:=by rw[<- rZ];exact(dW.1 O).1
    obtain⟨v,hv,Jy⟩:=g2 j _ (bL wM);obtain⟨c1,Z⟩:=hc j _ (bL wM);obtain⟨v,qo⟩:=v;have Ud:Wk v x:=hw.2 j v x (by rw[fz,hv];rfl) O;obtain⟨Ue,M7⟩:=hx x (iR O)
    refine⟨c1,?_,λD=>?_⟩
    ·rcases ak6 Jy hR hS Z with ⟨rfl,h1⟩ | ⟨q,rfl,hf,h1⟩
     ·exact(h1 _ _).wk Ud
     ·have T1:=Ud.Ub hf;have hq:=U _ (.tail _ (List.mem_append_left _ (aaX vs 0 j hv)));rw[gy]at hq;have h2:=(RV.fD (nm:=id) (p:=[]) h1 hq).wk Ud;have e1:nC i j x=60000+1000*i+j:=by simp[nC,T1]
      rw[e1];exact h2.reB M7
    ·exact akX Y (by omega) (by omega) cv (by rw[cell_of_row w b _ cells _ _ hh];exact c1)
   refine⟨.aD b off cells e _ us ((Ju Y (by omega)).trans cv) ?_ hh (by rw[Ua,rZ];exact hs) (λj z C=>?_),λj x O D=>?_,Uc hR hS I T (i+1) (λp D=>U p (.tail _ (List.mem_append_right _ D))) (λj E DH=>?_) (λE h=>lD E (.tail _ h)) DG (by omega)⟩
   ·exact ak4 hl rfl (U _ (.head _))
   ·have O:j<xs.length:=by rw[<- Ua (i:=i) xs 0];exact(dW.1 C).1
    have vr:=T4 (i:=i) xs 0 j _ (bL O);rw[C]at vr;injection vr with vr;subst vr;rw[gy];obtain⟨c1,Z,c3⟩:=qm j _ (bL O);refine⟨c1,?_⟩;cases D:(xs[j]).plain with
    | true=>
     have e1:BP i j xs[j] = .v xs[j]:=by simp[BP,D]
     rw[e1];exact⟨V.IS D,Z.wK D⟩
    | false=>
     have e1:BP i j xs[j] = .own [nC i j xs[j]]:=by simp[BP,D]
     rw[e1];exact⟨Z.oI D (hx _ (cX _)).1,by simp only[de,c3 D]⟩
   ·obtain⟨c1,Z,c3⟩:=qm j x O;exact .sl _ x (c3 D) Z
   ·have:=jx (j+1) E (by simpa using DH);rw[show i+(j+1)=i+1+j by omega]at this;exact this
 | .sl q y :: I,.sl y' :: T,i,U,jx,lD,hrel,hi=>by
  obtain⟨hm,hf⟩:=lD _ (.head _);obtain⟨⟨hw,hx⟩,DG⟩:=hrel;have Y:=jx 0 _ rfl;rw[Nat.add_zero]at Y;simp only[List.length_cons]at hi;have fk:=hR.root q _ hm;generalize C:aU.sl y=z at fk;cases fk with
  |aD=>cases C
  |mp=>cases C
  |gh=>cases C
  | sl v y0 cv hr=>
   injection C with C;subst C
   refine⟨.sl v y' ((Ju Y (by omega)).trans cv) ?_,Uc hR hS I T (i+1) (λp D=>U p (.tail _ D)) (λj E DH=>?_) (λE h=>lD E (.tail _ h)) DG (by omega)⟩
   ·exact((RV.fD (p:=[]) hr (U _ (.head _))).wk hw).reB hx
   ·have:=jx (j+1) E (by simpa using DH);rw[show i+(j+1)=i+1+j by omega]at this;exact this
end
def Uf:Loc->Nat×Nat
 |.aD b off=>(b,off)
 |.dP _=>(0,0)
 |.bJ _=>(0,0)
def BV(w:World)(b off:Nat):Nat->aa Nat->aa V->aa (Nat×Value)
 |j,n::C,x::xs=>bif x.aI then BV w b off (j+1) C xs else (n,(w.cell? ⟨b,off+j,none⟩).getD undef)::BV w b off (j+1) C xs
 |_,_,_=>[]
def vt(w:World)(ρ:Nat->Loc)(c0:Nat):Nat->aa Mu->aa In->aa (Nat×Value)
 |pos,.aD r _ D::C,.aD xs::outs=>BV w (Uf (ρ r)).1 (Uf (ρ r)).2 0 (oS c0 (pos+1) D) xs++vt w ρ c0 (pos+1+D.length) C outs
 |pos,.sl _ _::C,.sl _::outs=>vt w ρ c0 (pos+1) C outs
 |_,_,_=>[]
def aaY(l:aa (Nat×Value))(ρ:Nat->Loc):Nat->Loc:=λn=>match l.lookup n with
 |some v=>.dP v
 |none=>ρ n
def Ug{w:World}{b off:Nat}:∀ (C:aa Nat) (xs:aa V) (j:Nat),(BV w b off j C xs).map (·.1)=yO C xs
 |[],[],_=>rfl
 |[],_::_,_=>rfl
 |_::_,[],_=>rfl
 | n :: C,x :: xs,j=>by
  simp[BV,yO];cases x.aI with
  |true=>exact Ug C xs _
  |false=>simp;rw[Ug]
def NC{w:World}{ρ:Nat -> Loc}{c0:Nat}:∀ (C:aa Mu) (outs:aa In) (D:Nat),(vt w ρ c0 D C outs).map (·.1)=qv c0 D C outs
 | .aD r _ E :: C,.aD xs :: outs,D=>by
  simp[vt,qv,mZ];rw[Ug,NC]
 | .sl _ _ :: C,.sl _ :: outs,D=>by
  simp only[vt,qv];exact NC C outs _
 |[],_,_=>by simp[vt,qv]
 |.aD _ _ _::_,[],_=>rfl
 |.sl _ _::_,[],_=>rfl
 |.aD _ _ _::_,.sl _::_,_=>rfl
 |.sl _ _::_,.aD _::_,_=>rfl
def aaZ{n:Nat}:∀ {l:aa (Nat×Value)},dm n (l.map (·.1))=false -> l.lookup n=none
 |[],_=>rfl
 | p :: l,h=>by
  simp[List.map_cons,dm,qM]at h;rw[List.lookup_cons];cases hb:n==p.1 with
  |false=>exact aaZ h.2
  |true =>simp_all
def aa0:∀ {l:aa (Nat×Value)},NB (l.map (·.1))=true -> ∀ p∈l,l.lookup p.1=some p.2
 |[],_,p,hp=>by cases hp
 | q :: l,h,p,hp=>by
  simp[List.map_cons,NB,aH,ff]at h;rw[List.lookup_cons];rcases ig.1 hp with rfl|hp
  ·simp
  ·cases hb:p.1==q.1 with
   |false=>exact aa0 h.2 p hp
   | true=>
    have e:p.1=q.1:=by simpa using hb
    exact absurd (List.mem_map_of_mem (f:=(·.1)) hp) (by rw[e];exact aaT h.1)
def Jz{c0:Nat}:∀ (C:aa (V×ah Nat)) (n:Nat),(oS c0 n C).length=C.length
 |[],_=>rfl
 |(_,some _)::C,n=>by simp[oS,Jz]
 |(_,none)::C,n=>by simp[oS,Jz C]
def aa1{ns cn:aa Nat}:∀ (D:aa Nat) (C:aa Lf) (xs:aa V),D.length=C.length -> xs.length=C.length -> (sg ns cn D C xs).length=C.length /\
  ∀(j:Nat) z,(sg ns cn D C xs)[j]?=some z -> ∃n l x,D[j]?=some n/\C[j]?=some l/\xs[j]?=some x/\z=(bif x.plain then .v x else bif x.aI then l.dD ns cn else .own [n])
 |[],[],[],_,_=>⟨rfl,λj z E=>by simp[sg]at E⟩
 | n :: D,l :: C,x :: xs,I,O=>by
  obtain⟨T,U⟩:=aa1 (ns:=ns) (cn:=cn) D C xs (by simpa using I) (by simpa using O)
  refine⟨by simp[sg,T],λj z E=>?_⟩
  cases j with
  |zero=>simp[sg,List.getElem?_cons_zero,jJ]at E;exact⟨n,l,x,rfl,rfl,rfl,E.symm⟩
  |succ j=>exact U j z (by simpa [sg]using E)
def aa2:∀ (C:aa Nat) (xs:aa V),∀ p∈xg C xs,∃ (j:Nat) (x:V),C[j]?=some p.1/\xs[j]?=some x/\x.aI=false/\p.2 = .sl x
 |[],[],p,hp=>by cases hp
 |[],_::_,p,hp=>by cases hp
 | n :: C,x :: xs,p,hp=>by
  simp[xg]at hp;have rest:p∈xg C xs -> ∃ (j:Nat) (y:V),(n :: C)[j]?=some p.1/\(x :: xs)[j]?=some y/\y.aI=false/\p.2 = .sl y:=λhp=>by
   obtain⟨j,y,E,I,O,T⟩:=aa2 C xs p hp;exact⟨j+1,y,by simpa using E,by simpa using I,O,T⟩
  cases D:x.aI with
  |true=>grind
  | false=>
   rw[D]at hp;rcases ig.1 hp with rfl|hp
   ·exact⟨0,x,rfl,rfl,D,rfl⟩
   ·grind
def aa3{w:World}{b off n:Nat}{x:V}:∀ (D:aa Nat) (xs:aa V) (C j:Nat),D[j]?=some n -> xs[j]?=some x -> x.aI=false -> (n,(w.cell? ⟨b,off+(C+j),none⟩).getD undef)∈BV w b off C D xs
 |[],_,_,j,h,_,_=>by simp at h
 | m :: D,y :: xs,C,j,E,I,O=>by
  cases j with
  | zero=>
   simp at E I;subst E I;simp only[BV,O];simp_all
  | succ j=>
   have:=aa3 (w:=w) (b:=b) (off:=off) D xs (C+1) j (by simpa using E) (by simpa using I) O;rw[show C+1+j=C+(j+1) by omega]at this;simp[BV]
   grind
section
variable {P:Program} {w w':World} {w0:Wd} {B N:Nat} {af dQ aC:bB} {ρ fZ ρ':Nat->Loc} {σ:S} {a:Act} {X:Type} {d:Nat} {r:X} {ns cn:aa Nat} {o:Oper} {rs:aa Nat} {fm:aa (Nat×Nat)} {nm ND:Nat->Nat} {c0:Nat}
def lA.BN{nm:Nat -> Nat}:∀ (ps:aa Pt) (off:Nat) (C:aa Value) {B':Nat},lA w B af nm off ps C -> B' <= B -> (∀ b,B <= b -> aC b=af b) -> (∀ b k,af b=some k -> aC b=some k) -> (∀ n,off <= n -> n<off+(ps.map λp=>p.2.length).sum -> nm n=ND n) -> lA w B' aC ND off ps C
 |[],_,[],_,h,_,_,_,_=>h
 | p :: ps,off,v :: C,B',h,hB,hl,I,D=>by
  obtain⟨⟨O,us,U,Y,Z⟩,yE⟩:=h;simp only[List.map_cons,List.sum_cons]at D
  refine⟨⟨O,us,U,Y,λj x E=>?_⟩,lA.BN ps _ C yE hB hl I (λn h1 h2=>D n (by omega) (by omega))⟩
  obtain⟨T,wJ,fP⟩:=Z j x E;have hj:j<p.2.length:=(dW.1 E).1;refine⟨T,wJ,?_⟩;show RV w B' aC [ND (off+j)] x T;rw[<- D (off+j) (by omega) (by omega)];exact fP.BN hB hl I (cm.1 O x (iR E))
def Uh(hR:Rl w0 N af ρ σ a w)(hv:w8 w w' af dQ ρ fZ ns cn)(qY:∀ b k,aC b=some k -> dQ b=some k)(rV:∀ b,w.heap.size <= b -> dQ b=aC b)(hB:w0.heap.size <= w.heap.size):
  ∀(E:aa Mu) (ins outs:aa In) (i C:Nat),(∀j D,E[j]?=some D -> rs[i+j]?=some D.root) -> (∀D∈E,BS σ D) -> Jv E ins -> i+E.length <= 40 -> Jp w w' aC (Ao w ρ rs) nm i C ins outs ->
  (∀k n,(BU c0 C E)[k]?=some n -> nm (C+k)=n) -> (∀p∈vt w' ρ c0 C E outs,fZ p.1 = .dP p.2) -> (∀D∈E,dm D.root cn=false) -> outs.all aaV=true -> ∀p∈nq ns cn c0 C E outs,eV w' w0.heap.size dQ fZ p.1 p.2
 |[],[],[],_,_,_,_,_,_,_,_,_,_,_,p,hp=>by simp[nq]at hp
 |[],[],_::_,_,_,_,_,_,_,h,_,_,_,_,_,_=>h.elim
 |[],_::_,_,_,_,_,_,h,_,_,_,_,_,_,_,_=>h.elim
 |.aD _ _ _::_,[],_,_,_,_,_,h,_,_,_,_,_,_,_,_=>h.elim
 |.sl _ _::_,[],_,_,_,_,_,h,_,_,_,_,_,_,_,_=>h.elim
 |.aD _ _ _::_,.sl _::_,_,_,_,_,_,h,_,_,_,_,_,_,_,_=>h.elim
 |.sl _ _::_,.aD _::_,_,_,_,_,_,h,_,_,_,_,_,_,_,_=>h.elim
 |.aD _ _ _::_,.aD _::_,[],_,_,_,_,_,_,h,_,_,_,_,_,_=>h.elim
 |.sl _ _::_,.sl _::_,[],_,_,_,_,_,_,h,_,_,_,_,_,_=>h.elim
 |.aD _ _ _::_,.aD _::_,.sl _::_,_,_,_,_,_,_,h,_,_,_,_,_,_=>h.elim
 |.sl _ _::_,.sl _::_,.aD _::_,_,_,_,_,_,_,h,_,_,_,_,_,_=>h.elim
 | .aD r cs I :: E,.aD xs0 :: ins,.aD xs :: outs,i,C,jx,lD,hrel,hi,hO,oa,DI,qU,T,p,hp=>by
  obtain⟨hm,hg,hlen⟩:=lD _ (.head _);obtain⟨⟨hw,hx⟩,DG⟩:=hrel;obtain⟨g1,g2⟩:=T9 cs I hg;have qS:=jx 0 _ rfl;rw[Nat.add_zero]at qS;simp only[List.length_cons]at hi;have Ui:xs0.length=cs.length:=by rw[<- hw.1,fN,g1]
  obtain⟨⟨b,off,cells,An,e,e',U,h2,h3,h4,h5,h6,h7⟩,Uj⟩:=hO;have fk:=hR.root r _ hm;generalize Y:aU.aD cs=z at fk;cases fk with
  |sl=>cases Y
  |mp=>cases Y
  |gh=>cases Y
  | aD b0 O aa4 e0 fW us cv hl hh hs hc=>
   injection Y with Y;subst Y;rw[Ju qS (by omega)]at U;have U:ρ r = .aD b off:=U;rw[cv]at U;injection U with e1 e2;subst e1 e2;have ak7:aa4=cells:=by
    rw[hh]at h2;injection h2 with h2;injection h2
   subst ak7;have jw:=qU _ (.head _);have F0:fZ r = .aD b0 O:=(hv.fY r jw).trans cv;have r6:nm C=r:=by have:=oa 0 r rfl;rwa [Nat.add_zero]at this
   have ak8:∀ (j:Nat) n,(oS c0 (C+1) I)[j]?=some n -> nm (C+1+j)=n:=by
    intro j n Z;have hj:j<(oS c0 (C+1) I).length:=(dW.1 Z).1;have:=oa (j+1) n (by simp only[BU,List.getElem?_cons_succ];rw[List.getElem?_append_left hj];exact Z);rw[show C+1+j=C+(j+1) by omega];exact this
   have qm:∀ (j:Nat) x,xs[j]?=some x -> ∃ u,An[O+j]?=some u/\w'.cell? ⟨b0,O+j,none⟩=some u/\((x.plain=true /\ ∀ (w:World) (B:Nat) (af:bB) (q:aa Nat),RV w B af q x u) \/ (x.plain=false/\x.aI=true/\aa4[O+j]?=some u) \/ (x.aI=false/\RV w' w.heap.size aC [nm (C+1+j)] x u)):=by
    intro j x hj;obtain⟨u,hu,hd⟩:=h7 j x hj;exact⟨u,hu,by rw[cell_of_row w' b0 _ An _ _ h3];exact hu,hd⟩
   have Bz:∀ (j:Nat) n x u,(oS c0 (C+1) I)[j]?=some n -> xs[j]?=some x -> x.aI=false -> w'.cell? ⟨b0,O+j,none⟩=some u -> fZ n = .dP u:=by
    intro j n x u Z hxj hf hu;have kJ:=aa3 (w:=w') (b:=b0) (off:=O) _ xs 0 j Z hxj hf;rw[gy,hu]at kJ;exact DI (n,u) (by simp only[vt,cv,Uf];exact List.mem_append_left _ kJ)
   simp only[nq]at hp;rcases ig.1 hp with rfl|hp
   ·obtain⟨k1,k2⟩:=aa1 (ns:=ns) (cn:=cn) (oS c0 (C+1) I) cs xs (by rw[Jz,g1]) (by rw[h6,Ui])
    refine .aD b0 O An e' _ (λj=>An.getD (O+j) undef) F0 (qY _ _ (by rw[h4,r6])) h3 (by show O+(sg _ _ _ _ _).length <= _;rw[k1,<- Ui,<- h6];exact h5) (λj z Y=>?_)
    obtain⟨n,l,x,n1,n2,n3,rfl⟩:=k2 j z Y;obtain⟨u,hu,JA,hd⟩:=qm j x n3;have eu:An.getD (O+j) undef=u:=by rw[jt,hu];rfl
    rw[eu];refine⟨hu,?_⟩;rcases hd with ⟨d1,d2⟩|⟨d1,d2,d3⟩|⟨d1,d2⟩
    ·rw[d1,av];exact⟨V.IS d1,d2 _ _ _ _⟩
    ·rw[d1,d2,ax,av];obtain⟨c1,c2⟩:=hc j l n2;rw[c1]at d3;injection d3 with d3;rw[<- d3];exact c2.xd hv
    ·have wX:x.plain=false:=by
      cases wX:x.plain with
      |false=>rfl
      |true=>rw[V.IS wX]at d1;cases d1
     rw[wX,d1,ax,ax];exact⟨d2.SY d1,by simp only[de,Bz j n x u n1 n3 d1 JA]⟩
   ·rcases gE.1 hp with hp | hp
    ·obtain⟨j,x,n1,n2,n3,n4⟩:=aa2 _ _ p hp;obtain⟨u,hu,JA,hd⟩:=qm j x n2;rw[n4];refine .sl u x (Bz j p.1 x u n1 n2 n3 JA) ?_;rcases hd with ⟨d1,d2⟩ | ⟨d1,d2,d3⟩ | ⟨d1,d2⟩
     ·simp[*]
     ·rw[n3]at d2;cases d2
     ·rw[ak8 j _ n1]at d2;refine d2.BN hB rV qY ?_;rw[List.all_cons,aH]at T;have:=cm.1 T.1 x (iR n2)
      rwa [n3,lK]at this
    ·rw[List.all_cons,aH]at T
     refine Uh hR hv qY rV hB E ins outs (i+1) (C+1+I.length) (λj D DH=>?_) (λD h=>lD D (.tail _ h)) DG (by omega) ?_ (λk n Z=>?_) (λp hp=>DI p ?_) (λD h=>qU D (.tail _ h)) T.2 p hp
     ·have:=jx (j+1) D (by simpa using DH);rw[show i+(j+1)=i+1+j by omega]at this;exact this
     ·rw[g1,<- Ui];exact Uj
     ·have:=oa (1+I.length+k) n (by
       rw[show 1+I.length+k=(I.length+k)+1 by omega];simp only[BU,List.getElem?_cons_succ];rw[List.getElem?_append_right (by rw[Jz];omega),Jz];rw[show I.length+k-I.length=k by omega];exact Z)
      rw[show C+1+I.length+k=C+(1+I.length+k) by omega];exact this
     ·simp only[vt];exact List.mem_append_right _ hp
 | .sl q y0 :: E,.sl y1 :: ins,.sl y :: outs,i,C,jx,lD,hrel,hi,hO,oa,DI,qU,T,p,hp=>by
  obtain⟨hm,hf⟩:=lD _ (.head _);obtain⟨_,DG⟩:=hrel;have qS:=jx 0 _ rfl;rw[Nat.add_zero]at qS;simp only[List.length_cons]at hi;obtain⟨hO1,Uj⟩:=hO;rw[List.all_cons,aH]at T;have r6:nm C=q:=by have:=oa 0 q rfl;rwa [Nat.add_zero]at this
  have hp:(p=(q,.sl y)/\y.lP=true) \/ p∈nq ns cn c0 (C+1) E outs:=by
   simp only[nq]at hp;cases hy:y.lP with
   |false=>rw[hy]at hp;exact .inr hp
   | true=>
    rw[hy]at hp;rcases ig.1 hp with h|h
    ·grind
    ·simp[*]
  rcases hp with ⟨rfl,hy⟩|hp
  ·obtain⟨v,U,h2⟩:=hO1.resolve_left (by rintro rfl;cases hy);rw[Ju qS (by omega)]at U;rw[r6]at h2;exact .sl v y ((hv.fY q (qU _ (.head _))).trans U) (h2.BN hB rV qY T.1)
  ·refine Uh hR hv qY rV hB E ins outs (i+1) (C+1) (λj D DH=>?_) (λD h=>lD D (.tail _ h)) DG (by omega) Uj (λk n Z=>?_) (λp hp=>DI p hp) (λD h=>qU D (.tail _ h)) T.2 p hp
   ·have:=jx (j+1) D (by simpa using DH);rw[show i+(j+1)=i+1+j by omega]at this;exact this
   ·have:=oa (k+1) n (by simpa [BU]using Z);rw[show C+1+k=C+(k+1) by omega];exact this
end
section
variable {P:Program} {w w':World} {w0:Wd} {B N:Nat} {af dQ aC:bB} {ρ fZ ρ':Nat->Loc} {σ:S} {a:Act} {X:Type} {d:Nat} {r:X} {ns cn:aa Nat} {o:Oper} {rs:aa Nat} {fm:aa (Nat×Nat)} {nm ND:Nat->Nat} {c0:Nat}
def ak9{C:ah Tmp}{D:gU}{k:S -> ah X}(h:th N σ C D k=some r):∃ Z,k Z=some r /\ ∀ af ρ a w v,Rl w0 N af ρ σ a w -> s9 w w0.heap.size af (λn=>jy C+n) D v -> ∃ ρ',Rl w0 N af ρ' Z (a.put C v) w /\ ∀ r,r<jy C -> ρ' r=ρ r:=by
 unfold th at h;cases C with
 |none=>exact⟨σ,h,λaf ρ a w v hR _=>⟨ρ,hR,λ_ _=>rfl⟩⟩
 | some d=>
  have h:(bif Nat.blt d N then (match D with
   | .one p=>(match Bu (p.1,qW (1000000000100000+1000*d) p.2)with
    |some y=>k ((oQ _ σ p.2).set d y)
    |none=>none)
   |.fX ps=>k ((qX _ σ ps).set d _))else none)=some r:=h
  cases I:Nat.blt d N with
  |false=>rw[I]at h;cases h
  | true=>
   rw[I,av]at h;have Aj:d<N:=cH I;cases D with
   | one p=>
    simp only at h;split at h
    ·rename_i y hy
     refine⟨_,h,λaf ρ a w v hR O=>?_⟩
     obtain⟨ρ',T,U,_,Y⟩:=Jl [p] (1000000000100000+1000*d) 0 σ ρ [v] (by omega) hR O;have TL:=Y 0 _ v rfl rfl;exact⟨ρ',T.set (Td hy TL) Aj,U⟩
    ·cases h
   | fX Al=>
    refine⟨_,h,λaf ρ a w v hR O=>?_⟩
    obtain⟨E,rfl,hv⟩:=O;obtain⟨ρ',T,U,hlen,Y⟩:=Jl Al (1000000000100000+1000*d) 0 σ ρ E.toList (by omega) hR hv
    refine⟨ρ',T.set ⟨E,rfl,by simpa using hlen,λj p hp=>?_⟩ Aj,U⟩
    have hj:j<E.size:=by
     have:=(dW.1 hp).1
     grind
    exact⟨E[j],Array.getElem?_eq_getElem hj,Y j p _ hp (by rw[Array.getElem?_toList,Array.getElem?_eq_getElem hj])⟩
def Uk{f:Nat}{args:Array Operand}{lC:Array TypeId}{c:qt}{k:S -> ah X}(ho:o.op = .call { callee:=.value (.func f),args,argTypes:=lC })(he:enters P f)(hc:yJ P f c)(h:q9 N σ o.dst c args.toList k=some r):∃ di C cn,k di=some r/\kQ σ c.ps args.toList=some C/\(∀ n,dm n cn=true -> n<N \/ 60000 <= n)/\(∀ I∈C,dm I.root cn=false) /\
  ∀a w K Q af ρ,Rl w0 N af ρ σ a w -> (∀v w' dQ fZ yP,Rl w0 N dQ yP di (a.put o.dst v) w' -> w8 w w' af dQ ρ fZ ((nj 0 C).map (·.1)) cn -> kH w0 w w' -> (∀r,r<jy o.dst -> yP r=fZ r) -> K (a.put o.dst v) w') -> o.wp P a w K Q:=by
 unfold q9 at h;split at h
 ·rename_i C xj;generalize aa5:nj 0 C=fm at h;cases kK:(once fm&&Nat.ble C.length 40)with
  |false=>rw[kK]at h;cases h
  | true=>
   rw[kK,av]at h;rw[aH]at kK;have ayp:=cH kK.2;have wY:∀ p∈nj 0 C,fm.lookup p.1=some p.2:=by
    intro p hp;rw[aa5]at hp;have:=cm.1 kK.1 p hp;obtain⟨n,O,he⟩:=(Option.any_eq_true _ _).1 this;simp_all
   obtain⟨x,U,hrel,ayq,n8⟩:=NA (w0:=w0) (N:=N) _ _ C _ xj h;clear h;split at U
   ·rename_i y hy;unfold FZ at U;generalize qU:qv (jy o.dst) (fQ c.ro y.1).len C (ke (fF c.ps) y.2)=cn at U;generalize Dg:fm.map (·.1)=ns at U n8;cases kS:FY N C (ke (fF c.ps) y.2) cn with
    |false=>rw[kS]at U;cases U
    | true=>
     rw[kS,av]at U;simp only[FY,aH]at kS;obtain⟨⟨⟨NF,ok2⟩,ok3⟩,ok4⟩:=kS;obtain⟨di,h3,xk⟩:=ak9 (w0:=w0) U
     refine⟨di,C,cn,h3,xj,λn O=>?_,λI lD=>by simpa using cm.1 ok2 I lD,λa w K Q af ρ hR hK=>?_⟩
     ·have:=cm.1 ok3 n (w7.1 O);rw[eZ]at this;rcases this with h | h
      ·exact .inl (by have:=cH h;omega)
      ·exact .inr (cH h)
     have Z:DF ns af (fD af fm id):=by rw[<- Dg];exact ak5 (λb k hb=>(hR.dj b k hb).2.2)
     have aa6:=Nz _ _ _ xj;let rs:=C.map Mu.root
     have jx:∀ j I,C[j]?=some I -> rs[0+j]?=some I.root:=by
      intro j I hj;rw[gy,fz,hj];rfl
     have hE:=Uc (rs:=rs) hR Z C (qq c.ps x) 0 wY jx aa6 hrel (by omega);have hA:=n8 af ρ a w (fD af fm id) (Ao w ρ rs) hR Z (qq c.ps x) 0 (λj z T=>by rw[gy];exact T) (λj I hj=>by
      have h1:=jx j I hj;rw[gy]at h1 ⊢;exact Ju h1 (by have:=(dW.1 hj).1;omega))
     obtain⟨hA1,Tu⟩:=FX.get _ _ hA;let nm:Nat -> Nat:=λn=>if n<(fQ c.ro y.1).len then jy o.dst+n else (BU (jy o.dst) (fQ c.ro y.1).len C).getD (n-(fQ c.ro y.1).len) 0
     have qZ:∀ (ps:aa PK) (i:Nat) (x:ni ps),(lV ps i x).length=ps.length:=by
      intro ps
      induction ps with
      |nil=>intro i x;rfl
      | cons p ps ih=>
       intro i x;cases p with
       |v=>exact bE (· + 1) (ih _ _)
       |p=>exact bE (· + 1) (ih _ _)
       |s=>exact bE (· + 1) (ih _ _)
     unfold Oper.wp;rw[Nu w o a f args lC ho he,Oper.upon_enter];have Ak:(args.map a.eval)=(args.toList.map a.eval).toArray:=by apply Array.ext';rw[Array.toList_map]
     rw[Ak];have NG:∀ b k,fD af fm id b=some k -> (∃ E,af b=some E/\gP E ns=true)/\k≠[]:=by
      intro b k hb;cases hl:af b with
      |none=>rw[Z.none b hl]at hb;cases hb
      | some E=>
       refine⟨⟨E,rfl,?_⟩,?_⟩
       ·cases hq:gP E ns with
        |true=>rfl
        |false=>rw[(Z.rest b E hl).2 hq]at hb;cases hb
       ·simp only[fD,hl]at hb;split at hb
        ·cases hb
        ·cases aa7:fm.lookup _ with
         |none=>rw[aa7]at hb;cases hb
         |some n=>rw[aa7]at hb;injection hb with hb;subst hb;simp
     have hQ:Hd w (fD af fm id):=w0.on hR.below (λb k hb=>by obtain⟨⟨E,hl,_⟩,_⟩:=NG b k hb;exact(hR.dj b E hl).1)
     refine(hc x y hy nm w (fD af fm id) (Ao w ρ rs) _ hE (λb k hb=>⟨?_,(NG b k hb).2⟩) ?_ Tu hQ).mono λe w' uf=>?_
     ·obtain⟨⟨E,hl,_⟩,_⟩:=NG b k hb;exact(hR.dj b E hl).2.1
     ·rw[List.size_toArray,hA1,qZ]
     ·obtain⟨v,D,rfl,Y,F1,lU,Ul⟩:=uf;have hB:=hR.below.size;let dQ:bB:=λb=>match fD af fm id b with
       |none=>if b<w.heap.size then af b else D b
       |some _=>D b
      have e1:∀ b k,D b=some k -> dQ b=some k:=by
       intro b k hb;show (match fD af fm id b with|none=>if b<w.heap.size then af b else D b|some _=>D b)=some k;split
       next jw=>have:=(F1 b k hb).1;have rV:=this.resolve_right (λh=>h jw);rw[aX];exact hb
       ·exact hb
      have e2:∀ b,w.heap.size <= b -> dQ b=D b:=by
       intro b hb;show (match fD af fm id b with|none=>if b<w.heap.size then af b else D b|some _=>D b)=D b;split
       ·rw[aX]
       ·rfl
      have aa8:∀ p∈vt w' ρ (jy o.dst) (fQ c.ro y.1).len C (ke (fF c.ps) y.2),(vt w' ρ (jy o.dst) (fQ c.ro y.1).len C (ke (fF c.ps) y.2)).lookup p.1=some p.2:=
       aa0 (by rw[NC,qU];exact NF)
      generalize DI:vt w' ρ (jy o.dst) (fQ c.ro y.1).len C (ke (fF c.ps) y.2)=hd at aa8;have ala:hd.map (·.1)=cn:=by rw[<- DI,NC,qU]
      have hv:w8 w w' af dQ ρ (aaY hd ρ) ns cn:=by
       refine⟨Y.size,λb hb hk=>?_,λn O=>?_,λb k hb=>(hR.dj b k hb).2⟩
       ·have jw:fD af fm id b=none:=by
         cases hl:af b with
         |none=>exact Z.none b hl
         |some k=>exact(Z.rest b k hl).2 (hk k hl)
        refine⟨Y.block b hb jw,?_⟩;show (match fD af fm id b with|none=>if b<w.heap.size then af b else D b|some _=>D b)=af b;rw[jw];exact aV hb
       ·show (match hd.lookup n with|some v=>Loc.dP v|none=>ρ n)=ρ n;rw[aaZ (by rw[ala];exact O)]
      have BW:∀I∈C,dm I.root cn=false:=λI lD=>by simpa using cm.1 ok2 I lD
      have gG:=Uh (c0:=jy o.dst) (nm:=nm) hR hv e1 e2 hB C (qq c.ps x) (ke (fF c.ps) y.2) 0 (fQ c.ro y.1).len jx aa6 hrel (by omega) Ul (λk n O=>?_) (λp hp=>?_) BW ok4
      ·have aa9:kH w0 w w':=by
        refine⟨Y.os,Y.tape,Y.output,Y.size,λk hk hL=>Y.block k (Nat.lt_of_lt_of_le hk hB) ?_⟩
        cases hl:af k with
        |none=>exact Z.none k hl
        |some E=>exact absurd hL ((hR.dj k E hl).1.resolve_left (by omega))
       have mB:Rl w0 N dQ (aaY hd ρ) (σ.dD ns cn (nq ns cn (jy o.dst) (fQ c.ro y.1).len C (ke (fF c.ps) y.2))) a w':=by
        refine hR.xd hv aa9 (λb k hb=>?_) (λn O=>?_) (λn z T=>?_)
        ·have hb:(match fD af fm id b with | none=>if b<w.heap.size then af b else D b | some _=>D b)=some k:=hb;have aba:D b=some k -> (w0.heap.size <= b \/ w0.L b≠none)/\b<w'.heap.size/\k≠[]:=by
          intro h1;obtain⟨g1,g2,g3⟩:=F1 b k h1;refine⟨?_,g2,g3⟩;rcases g1 with g1|g1
          ·exact .inl (Nat.le_trans hB g1)
          ·cases jw:fD af fm id b with
           |none=>exact absurd jw g1
           | some k2=>
            obtain⟨⟨E,hl,_⟩,_⟩:=NG b k2 jw;exact(hR.dj b E hl).1
         split at hb
         ·split at hb
          ·have:=hR.dj b k hb;exact⟨this.1,Nat.lt_of_lt_of_le this.2.1 Y.size,this.2.2⟩
          ·exact aba hb
         ·exact aba hb
        ·have:=cm.1 ok3 n (w7.1 O);rw[eZ]at this;refine hR.cT n ?_;rcases this with h | h
         ·exact .inl (by have:=cH h;omega)
         ·exact .inr (cH h)
        ·have kJ:(n,z)∈nq ns cn (jy o.dst) (fQ c.ro y.1).len C (ke (fF c.ps) y.2):=by
          clear gG;generalize nq ns cn (jy o.dst) (fQ c.ro y.1).len C (ke (fF c.ps) y.2)=l at T
          induction l with
          |nil=>cases T
          | cons p l ih=>
           rw[List.lookup_cons]at T;cases hb:n==p.1 with
           | true=>
            rw[hb]at T;have e:n=p.1:=by simpa using hb
            injection T with T;rw[e,<- T]
            grind
           | false=>
            rw[hb]at T;exact .tail _ (ih T)
         exact gG (n,z) kJ
       have alb:s9 w' w0.heap.size dQ (λn=>jy o.dst+n) (fQ c.ro y.1) v:=?_
       ·obtain⟨yP,JB,Ap⟩:=xk dQ _ a w' v mB alb;exact hK v w' dQ _ yP JB (by rw[aa5,Dg];exact hv) aa9 Ap
       have Um:∀(L:Nat),L=(fQ c.ro y.1).len -> ∀n,n<L -> nm n=jy o.dst+n:=λL hL n O=>aV
       generalize ayr:fQ c.ro y.1=res at lU Um;cases res with
       | one p=>
        have lU:lA w' w.heap.size D nm 0 [p] [v]:=lU;exact lA.BN [p] 0 [v] lU hB e2 e1 (λn _ O=>Um _ rfl n (by simpa [gU.len]using O))
       | fX Al=>
        obtain⟨vs,e,lS⟩:=lU;exact⟨vs,e,lA.BN Al 0 vs.toList lS hB e2 e1 (λn _ O=>Um _ rfl n (by simpa [gU.len]using O))⟩
      ·show (if (fQ c.ro y.1).len+k<(fQ c.ro y.1).len then jy o.dst+((fQ c.ro y.1).len+k)else (BU _ (fQ c.ro y.1).len C).getD ((fQ c.ro y.1).len+k-(fQ c.ro y.1).len) 0)=n;rw[aX,show (fQ c.ro y.1).len+k-(fQ c.ro y.1).len=k by omega,cQ,O];rfl
      ·rw[DI]at hp;show (match hd.lookup p.1 with|some v=>Loc.dP v|none=>ρ p.1) = .dP p.2;rw[aa8 p hp]
   ·cases U
 ·cases h
def alc{f:Nat}{args:Array Operand}{D:Array TypeId}{c:qt}{k:S -> ah X}(E:o.op = .call { callee:=.value (.func f),args,argTypes:=D })(I:enters P f)(O:yJ P f c)(h:q9 N σ o.dst c args.toList k=some r):∃ C,k C=some r/\nc P w0 N o σ C:=by
 obtain⟨C,Un,cn,T,_,_,_,U⟩:=Uk E I O h
 refine⟨C,T,λa w K Q hR Y=>?_⟩
 obtain⟨af,ρ,hR⟩:=hR;exact U a w K Q af ρ hR λv w' dQ fZ Z dK _ _ _=>Y _ _ ⟨dQ,Z,dK⟩
end
end Go.Proofs.YthmgjjfedieljaaGreat
