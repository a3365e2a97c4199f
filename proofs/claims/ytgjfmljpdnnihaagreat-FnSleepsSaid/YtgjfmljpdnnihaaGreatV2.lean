/-
  Running the program over pure contents, and that it follows (part 2). Nothing here is a claim.
-/
import Derived.Laws.StructEq
import Derived.Test.YtgjfmljpdnnihaaGreatV1
set_option linter.unusedSimpArgs false
namespace Go.Proofs.YtgjfmljpdnnihaaGreat
set_option linter.defProp false
open Go.RowKit
set_option linter.unusedVariables false
def aur{X:Type}(N:Nat)(σ:S)(C:ah Tmp)(c x y:A)(k:S->ah X):ah X:=
 match c with
 |.lf (.v (.bool b))=>bif b then gM N σ C x k else gM N σ C y k
 |_=>none
def F1{X:Type}(P:Program)(s:TypeId)(x:A)(f:Nat)(k:A->ah X):ah X:=
 match FH P s f,x with
 | some C,.agg cs=>(match je P C.type,Dk P C.type with
  |some n,some true=>if C.offset+n<=cs.length then k (.agg ((cs.drop C.offset).take n))else none
  | some _,some false=>(match cs[C.offset]? with
   |some y=>k (.lf y)
   |none=>none)
  |_,_=>none)
 |_,_=>none
def Dy{X:Type}(C:Bool)(x y:A)(k:A->ah X):ah X:=
 match x,y with
 |.lf (.v (.int D a)),.lf (.v (.int _ b))=>k (.lf (.v (.int D (bif C then (if b > a then b else a)else (if b<a then b else a)))))
 |_,_=>none
def F2{X:Type}(P:Program)(t:TypeId)(x i:A)(k:A->ah X):ah X:=
 match x,i with
 | .lf (.v (.str s)),.lf (.v (.int _ iv))=>(match P.underlying t with
  |some .string=>if h:0<=iv/\iv.toNat<s.size then k (.lf (.v (.int .u8 ((s[iv.toNat]'h.2).toNat:Int))))else none
  |_=>none)
 |_,_=>none
def ua{X:Type}(x:ah A)(d:Int)(k:Int->ah X):ah X:=
 match x with
 |none=>k d
 |some (.lf (.v (.int _ n)))=>k n
 |_=>none
def xo{X:Type}(P:Program)(t:TypeId)(x:A)(lo hi:ah A)(k:A->ah X):ah X:=
 match x with
 | .lf (.v (.str s))=>(match P.underlying t with
  |some .string=>ua lo 0 λl=>ua hi (s.size:Int) λh=>if 0<=l/\l<=h/\h<=(s.size:Int)then k (.lf (.v (.str (s.extract l.toNat h.toNat))))else none
  |_=>none)
 | .lf (.v (.sl C g D l))=>(match pq P t with
  | some e=>(match je P e with
   |some n=>if n=aC C then (bif Nat.blt g 2 then ua lo 0 λa=>ua hi (l.length:Int) λb=>if 0<=a/\a<=b/\b<=(l.length:Int)then k (.lf (.v (.sl C g false ((l.take b.toNat).drop a.toNat))))else none else none)else none
   |none=>none)
  |none=>none)
 |_=>none
def Dz(P:Program)(C D:TypeId):Bool:=
 match P.underlying C,P.underlying D with
 | some (.slice e),some .string=>(match P.underlying e with
  |some (.int .u8)=>true
  |_=>false)
 |_,_=>false
def Kk{X:Type}(P:Program)(C D:TypeId)(z:V)(k:A->ah X):ah X:=
 match z with
 |.sl .u8 _ _ l=>bif Dz P C D then k (.lf (.v (.str (strOfNums l))))else none
 |.nil=>bif Dz P C D then k (.lf (.v (.str (strOfNums []))))else none
 |_=>none
def zh{X:Type}(P:Program)(σ:S)(C D:TypeId)(x:A)(k:A->ah X):ah X:=
 match x with
 | .lf (.v (.int _ n))=>(match P.underlying C,P.underlying D with
  |some _,some (.int E)=>k (.lf (.v (.int E (E.wrap n))))
  |_,_=>none)
 |.lf y=>oA σ y λz=>Kk P C D z k
 |_=>none
section
variable {P:Program} {w w':World} {w0:Wd} {B N:Nat} {af az:bh} {ρ ρ':Nat->Loc} {σ:S} {a:Act} {X:Type} {d:Nat} {r:X} {o:Oper}
def aus{α:Type}(f:α -> aa Value)(s:Nat)(C:∀ x,(f x).length=s)(l:aa α):(l.flatMap f).length=l.length*s:=by
 induction l with
 |nil=>simp
 |cons a l D=>grind
def ag3{α:Type}(f:α -> aa Value)(s:Nat)(D:∀ x,(f x).length=s):∀ (l:aa α) (k:Nat) (C:k<l.length) (j:Nat),j<s -> (l.flatMap f)[k*s+j]?=(f l[k])[j]?:=by
 intro l
 induction l with
 |nil=>simp_all
 | cons a l E=>
  intro k C j I;rw[List.flatMap_cons];cases k with
  |zero=>grind
  |succ k =>grind
def W5(z:Array Value)(s n:Nat)(C:z.size=s)(E:0<s):(madeCells z (n*s)).toList=(List.replicate n z.toList).flatten:=by
 have e:(List.replicate n z.toList).flatten=(List.replicate n ()).flatMap (λ_=>z.toList):=by
  rw[List.flatMap_def,List.map_replicate]
 rw[e];have I:((List.replicate n ()).flatMap (λ_=>z.toList)).length=n*s:=by
  simp_all
 apply List.ext_getElem?;intro i;rcases Nat.lt_or_ge i _ with hi|hi
 ·have O:i / s<n:=Nat.div_lt_of_lt_mul (by rw[Nat.mul_comm];exact hi);have T:i % s<s:=Nat.mod_lt _ E;have U:i=i / s*s+i % s:=by rw[Nat.mul_comm];exact(Nat.div_add_mod i s).symm
  have D:=ag3 (λ_=>z.toList) s (λ_=>by simpa using C) (List.replicate n ()) (i / s) (by simpa using O) (i % s) T;rw[<- U]at D;rw[D];have Y:i % s<z.size:=by omega
  simp only[madeCells,Array.toList_map,Array.toList_range,ef,List.getElem?_range hi,Option.map_some,C];simp[Y]
 ·rw[o9 (by rw[lu,size_madeCells];exact hi),o9 (by rw[I];exact hi)]
def ag4{t:TypeId}{len:Nat}{parts:Array (Nat×Operand)}{k:S -> ah X}(h:zg P N σ d t len parts.toList k=some r):∃ cB,k cB=some r /\ ∀ af ρ a w,Rl w0 N af ρ σ a w ->
  ∃w' az ρ' v,(Instr.buildSlice t len (parts.map λ(i,x)=>(i,a.eval x))).run P w = .ok v w'/\Rl w0 N az ρ' cB (a.put (some d) v) w':=by
 unfold zg at h;split at h
 ·rename_i e tc oD;obtain⟨fW,ht,i,hi,Y,jE⟩:=zc oD;split at h
  ·rename_i z hz;cases T:(Nat.beq (full tc) 0&&Nat.beq z.cells.size (aC tc)&&Nat.blt (len*aC tc) 16777217)with
   |false=>rw[T]at h;cases h
   | true=>
    rw[T,aq]at h;simp only[aK]at T;have hf:=cH T.1.1;have mM:=cH T.1.2;have hsm:len*aC tc<16777217:=by have:=cu T.2;omega
    have oE:i.zero=some z:=by unfold zeroOf at hz;simpa [hi]using hz
    split at h
    ·rename_i cs fV;split at h
     ·rename_i vs jK;split at h
      ·rename_i l hl;obtain⟨hd,h⟩:=oC h
       refine⟨_,h,λaf ρ a w hR=>?_⟩
       obtain⟨Kl,Bh,iq⟩:=PD tc 0 len vs l hl;have PE:eC w w0.heap.size af ρ (List.replicate len (z.cells.toList.map nK)).flatten (madeCells z.cells (len*aC tc)):=by
        have e1:(List.replicate len (z.cells.toList.map nK)).flatten=((List.replicate len z.cells.toList).flatten).map nK:=by
         rw[List.map_flatten,List.map_replicate]
        rw[e1,<- W5 z.cells (aC tc) len mM (ot tc)]
        refine⟨by simp,λj x C=>?_⟩
        rw[ef]at C;cases E:(madeCells z.cells (len*aC tc)).toList[j]? with
        |none=>rw[E]at C;cases C
        | some v=>
         rw[E]at C;injection C with C;subst C;exact⟨v,by simpa using E,Ka v⟩
       obtain⟨I,xq,dm⟩:=Kh (w:=w) (B:=w0.heap.size) (af:=af) (ρ:=ρ) _ _ _ (parts.toList.map λp=>(p.1,a.eval p.2)) cs fV PE (by simp) (λj p q O Z=>by
        rw[ef]at O Z;cases C:parts.toList[j]? with
        |none=>rw[C]at O;cases O
        | some x=>
         rw[C]at O Z;injection O with O;injection Z with Z;subst O Z;exact⟨rfl,hR.aG x.2⟩)
       have W7:=Ki cs vs jK;have ag5:I.size=len*aC tc:=by rw[dm.1,W7,eT,Bh]
       have cY:(Instr.buildSlice t len (parts.map λ(i,x)=>(i,a.eval x))).run P w = .ok (.slice (some ⟨w.heap.size,0,none⟩) len len) (w.alloc (.cells I e)):=by
        have FZ:(parts.map λ(i,x)=>(i,a.eval x)).toList=parts.toList.map λp=>(p.1,a.eval p.2):=by simp
        by_cases h0:len*aC tc=0
        ·have hm:madeCells z.cells (len*aC tc) = #[]:=by rw[h0];simp[madeCells]
         rw[hm]at xq;have PF:len*i.size=0:=by rw[Y];exact h0
         rw[<- Y]at xq;have e0:∀f:Nat -> Value,Array.map f (Array.range 0) = #[]:=λf=>by simp
         simp only[Instr.buildSlice,fR,gF fW,sizeOf,typeInfo];simp[hi,PF];rw[e0,xq];simp[newRow]
        ·exact run_buildSlice (P:=P) w t e len _ I i z fW hi oE (by rw[Y];omega) (by rw[Y];exact h0) (by rw[Y,FZ];exact xq)
       refine⟨_,bD af w.heap.size (some [d]),bD ρ d (.dA (.slice (some ⟨w.heap.size,0,none⟩) len len)),_,cY,(hR.Ds (hR.cF d (.inl hd)) (λr hr=>ck _ _ _ hr) (.sl _ _ (bI _ _ _) ?_)).set ⟨rfl,by simp[cK,bI]⟩ hd⟩
       have pz:∀ D (U:D<l.length) j x,(enc tc 0 l[D])[j]?=some x -> ∃ v,I[D*aC tc+j]?=some v /\ ∀ (w':World) (B':Nat) (az:bh) (q':aa Nat),RV w' B' az q' x v:=by
        intro D U j x C;obtain⟨y,hy,hw⟩:=iq D U j x C;obtain⟨v,E,hr⟩:=dm.2 (D*aC tc+j) (.v y) (by rw[W7,ef,hy];rfl);exact⟨v,E,λw' B' az q'=>(hr.2.wk hw).tR (yQ tc 0 l[D] hf x (gy C))⟩
       have:=RV.own (w:=w.alloc (.cells I e)) (B:=w0.heap.size) (af:=bD af w.heap.size (some [d])) [d] tc 0 true l w.heap.size len I (λi j=>(I[i*aC tc+j]?).getD undef)
        (bI _ _ _) (by rw[ht];exact heap_alloc_new w _) ag5 (by omega) ⟨by have:=Nat.le_mul_of_pos_right len (ot tc);unfold maxLen;omega,λ_=>Kl.symm⟩ (λD U j x C=>?_) (λD U j x C=>?_)
       ·rw[Kl]at this;exact this
       ·obtain⟨v,E,_⟩:=pz D U j x C;rw[E];rfl
       ·obtain⟨v,E,hr⟩:=pz D U j x C;rw[E];exact hr _ _ _ _
      ·cases h
     ·cases h
    ·cases h
  ·cases h
 ·cases h
def W8{C:Bool}{x y:A}{k:A->ah X}(h:Dy C x y k=some r):∃ z,k z=some r/\∀ (w:World) (B:Nat) (af:bh) (ρ:Nat->Loc) (t ty:TypeId) (u v:Value),RA w B af ρ x u->RA w B af ρ y v->
  ∃D,((bif C then Builtin.max_ #[t,t] ty #[u,v]else Builtin.min_ #[t,t] ty #[u,v]):Sem Value).run P w = .ok D w/\RA w B af ρ z D:=by
 unfold Dy at h;split at h
 ·refine⟨_,h,λw B af ρ t ty u v E I=>?_⟩
  obtain rfl:=E.2.gC;obtain rfl:=I.2.gC;cases C with
  |true=>exact⟨_,by simp[Builtin.max_,Builtin.max2],rfl,.int _ _ _⟩
  |false=>exact⟨_,by simp[Builtin.min_,Builtin.min2],rfl,.int _ _ _⟩
 ·cases h
def ag6{t:TypeId}{x i:A}{k:A->ah X}(h:F2 P t x i k=some r):∃ z,k z=some r/\∀ (w:World) (B:Nat) (af:bh) (ρ:Nat->Loc) (u v:Value),RA w B af ρ x u->RA w B af ρ i v->
  ∃C,(Instr.index t u v).run P w = .ok C w/\RA w B af ρ z C:=by
 unfold F2 at h;split at h
 ·rename_i s T iv;split at h
  ·rename_i E;split at h
   ·rename_i D
    refine⟨_,h,λw B af ρ u v I O=>?_⟩
    obtain rfl:=I.2.wY;obtain rfl:=O.2.gC;exact⟨_,by simp[Instr.index,asIntOf,gF E,D.1,D.2],rfl,.int _ _ _⟩
   ·cases h
  ·cases h
 ·cases h
def W9{C D:TypeId}(h:Dz P C D=true):∃ e,P.underlying C=some (.slice e)/\P.underlying D=some .string/\P.underlying e=some (.int .u8):=by
 unfold Dz at h
 grind
def Xa(l:aa Int)(i:Nat)(hi:i<l.length):l.getD i 0=l[i]:=by rw[cL,bK hi];rfl
def RV.toStr{I O e:TypeId}(Y:P.underlying I=some (.slice e))(Z:P.underlying O=some .string)(he:P.underlying e=some (.int .u8)){o:Nat}{qn:Bool}{l:aa (T .u8)}{q:aa Nat}{B:Nat}{u:Value}(h:RV w B af q (.sl .u8 o qn l) u):
  (convert I O u).run P w = .ok (.string (strOfNums l)) w:=by
 generalize C:V.sl .u8 o qn l=y at h;cases h with
 |int=>cases C
 |bool=>cases C
 |str=>cases C
 |nil=>cases C
 | eo q t o'=>
  injection C with D e2 e3 E;subst D;obtain rfl:=eq_of_heq E;rw[run_convert_bytes_nil w I e Y he 0 0 O Z];rfl
 | fy q t o' A c ho=>
  injection C with D e2 e3 E;subst D;obtain rfl:=eq_of_heq E;have hl:=run_loadCells_list (P:=P) w A [] (λj v hj=>by simp at hj);rw[run_convert_bytes_string w I O e _ 0 c Y he Z];rfl
 | fH q t o' A c ho=>
  injection C with D e2 e3 E;subst D;obtain rfl:=eq_of_heq E;have hl:(loadCells A 0).run P w = .ok (([]:aa Int).map (Value.int .u8)).toArray w:=run_loadCells_list (P:=P) w A [] (λj v hj=>by simp at hj);rw[run_convert_bytes_string w I O e _ 0 c Y he Z,run_bytesToString w A 0 c [] hl];rfl
 | aF q t o' PG l' b off cap uu ho hl hb h1 iI hc hr=>
  injection C with D e2 e3 E;subst D;obtain rfl:=eq_of_heq E
  refine run_convert_bytes_arg w I e Y he b off _ cap l rfl (λi hi=>?_) O Z
  have U:=hc i hi 0 (.int .u8 l[i]) rfl;have h3:=(hr i hi 0 (.int .u8 l[i]) rfl).gC;simp only[aC,Nat.mul_one,Nat.add_zero]at U;have hg:=Xa (show aa Int from l) i hi;rw[U,h3];exact bz (λz=>some (Value.int .u8 z)) hg.symm
 | own q t o' PG l' b cap cs uu hl hh oy hn hm hc hr=>
  injection C with D e2 e3 E;subst D;obtain rfl:=eq_of_heq E
  refine run_convert_bytes_arg w I e Y he b 0 _ cap l rfl (λi hi=>?_) O Z
  have U:=hc i hi 0 (.int .u8 l[i]) rfl;have h3:=(hr i hi 0 (.int .u8 l[i]) rfl).gC;simp only[aC,Nat.mul_one,Nat.add_zero]at U;have hg:=Xa (show aa Int from l) i hi;rw[h3]at U;have h4:w.cell? ⟨b,0+i,none⟩=some (.int .u8 l[i]):=by simp[World.cell?,hh,U]
  rw[h4];exact bz (λz=>some (Value.int .u8 z)) hg.symm
def ag7{E I:TypeId}{x:A}{k:A -> ah X}(h:zh P σ E I x k=some r):∃ z,k z=some r /\ ∀ af ρ a w,Rl w0 N af ρ σ a w -> ∀ u,RA w w0.heap.size af ρ x u ->
  ∃t',(convert E I u).run P w = .ok t' w/\RA w w0.heap.size af ρ z t':=by
 unfold zh at h;split at h
 ·rename_i kk n;split at h
  ·rename_i d1 kd hs hd
   refine⟨_,h,λaf ρ a w _ u C=>?_⟩
   obtain rfl:=C.2.gC;exact⟨_,by simp[convert,gF hs,gF hd,Conv.intToInt],rfl,.int _ _ _⟩
  ·cases h
 ·rename_i y _;have key:∃ z,(∀ af ρ a w,Rl w0 N af ρ σ a w -> ∀ u,dK w w0.heap.size af ρ y u -> ∃ q,RV w w0.heap.size af q z u)/\Kk P E I z k=some r:=by
   cases y with
   |v z=>exact⟨z,λaf ρ a w _ u C=>⟨[],C.2⟩,h⟩
   |dead=>cases h
   | own q=>
    obtain⟨z,U,h⟩:=r8 q _ h
    refine⟨z,λaf ρ a w O u C=>?_,h⟩
    obtain⟨v,hv,Y⟩:=U.ok O.root;have h3:=C.2
    grind
  obtain⟨z,U,D⟩:=key;clear h;unfold Kk at D;split at D
  ·rename_i o qn l;cases T:Dz P E I with
   |false=>simp_all
   | true=>
    rw[T]at D;obtain⟨e,Z,e2,e3⟩:=W9 T
    refine⟨_,D,λaf ρ a w O u C=>?_⟩
    obtain⟨q,Y⟩:=U af ρ a w O u C;exact⟨_,Y.toStr Z e2 e3,rfl,.str _ _⟩
  ·cases T:Dz P E I with
   |false=>simp_all
   | true=>
    rw[T,aq]at D;obtain⟨e,Z,e2,e3⟩:=W9 T
    refine⟨_,D,λaf ρ a w O u C=>?_⟩
    obtain⟨q,Y⟩:=U af ρ a w O u C;cases Y;exact⟨_,by rw[run_convert_bytes_nil w E e Z e3 0 0 I e2];rfl,rfl,.str _ _⟩
  ·cases D
 ·cases h
def ag8{s:TypeId}{x:A}{f:Nat}{k:A -> ah X}(h:F1 P s x f k=some r):∃ z,k z=some r /\ ∀ (w:World) (B:Nat) (af:bh) (ρ:Nat -> Loc) (u:Value),RA w B af ρ x u ->
  ∃t',(Instr.field s u f).run P w = .ok t' w/\RA w B af ρ z t':=by
 unfold F1 at h;split at h
 ·rename_i E cs O;have jL:∃ T,P.underlying s=some (.struct T)/\T[f]?=some E:=by
   unfold FH at O;split at O
   ·simp_all
   ·cases O
  obtain⟨T,ki,zj⟩:=jL;split at h
  ·rename_i n U C;split at h
   ·rename_i hle
    refine⟨_,h,λw B af ρ u D=>?_⟩
    obtain⟨us,rfl,I⟩:=D;have Y:(isAgg E.type).run P w = .ok true w:=by
     unfold Dk at C;split at C
     next fs' D=>unfold isAgg;rw[fR,gF D];rfl
     next c e D=>unfold isAgg;rw[fR,gF D];rfl
     ·cases C
     ·cases C
    unfold je at U;cases hi:P.info? E.type with
    |none=>simp_all
    | some i=>
     have tT:i.size=n:=by simpa [hi]using U
     refine⟨.agg (us.extract E.offset (E.offset+n)),by simp[Instr.field,gF ki,zj,asAgg,part,fR,Y,sizeOf,typeInfo,hi,tT],_,rfl,?_,λj y Z=>?_⟩
     ·have:=I.1
      grind
     ·obtain⟨hj,F3⟩:=J2 _ _ _ _ _ Z;obtain⟨v,hv,hr⟩:=I.2 _ y F3
      grind
   ·cases h
  ·rename_i n U C;split at h
   ·rename_i y Z
    refine⟨_,h,λw B af ρ u D=>?_⟩
    obtain⟨us,rfl,I⟩:=D;obtain⟨v,hv,hr⟩:=I.2 _ y Z;have Y:(isAgg E.type).run P w = .ok false w:=by
     unfold Dk at C;split at C
     ·cases C
     ·cases C
     next d hs ha D=>unfold isAgg;rw[fR,gF D];simp_all
     ·cases C
    exact⟨v,by simp[Instr.field,gF ki,zj,asAgg,part,fR,Y,hv],hr⟩
   ·cases h
  ·cases h
 ·cases h
end
def V.val:V->Value
 |.int k n=>.int k n
 |.bool b=>.bool b
 |.str s=>.string s
 |_=>undef
def Km:TypeDesc->V->V->ah Bool
 |.int _,.int k a,.int C b=>if k=C then some (a==b)else none
 |.bool,.bool a,.bool b=>some (a==b)
 |.string,.str a,.str b=>some (a.toList==b.toList)
 |_,_,_=>none
def F4(P:Program)(g:TypeId->aa V->aa V->ah Bool)(xs ys:aa V):aa Field->ah Bool
 |[]=>some true
 | f :: C=>bif f.name == "_" then F4 P g xs ys C else (match je P f.type with
  | some n=>bif Nat.ble (f.offset+n) xs.length then (match g f.type ((xs.drop f.offset).take n) ((ys.drop f.offset).take n),F4 P g xs ys C with
   |some a,some b=>some (a&&b)
   |_,_=>none)else none
  |none=>none)
def zk(P:Program):Nat->TypeId->aa V->aa V->ah Bool
 |0,_,_,_=>none
 | n+1,t,xs,ys=>match P.underlying t with
  |some (.struct C)=>bif P.stoodInHeld t ||!Nat.beq xs.length ys.length then none else F4 P (zk P n) xs ys C.toList
  | some d=>(match xs,ys with
   |[x],[y]=>Km d x y
   |_,_=>none)
  |none=>none
def Kn:BinOp->ah Bool
 |.eql=>some false
 |.neq=>some true
 |_=>none
def ju{α:Type}:aa α->Bool
 |[]=>true
 |_=>false
def isStr(P:Program)(t:TypeId):Bool:=match P.underlying t with
 |some (.struct _)=>true
 |_=>false
def zm{X:Type}(P:Program)(σ:S)(D:BinOp)(t:TypeId)(x y:A)(k:A->ah X):ah X:=
 match Kn D,x,y with
 | some C,.agg cs,.agg E=>(match qU cs,qU E with
  | some xs,some ys=>bif P.eqGuardType P.depth t || !isStr P t then none else (match zk P 20 t xs ys with
   |some b=>k (.lf (.v (.bool (bif C then !b else b))))
   |none=>none)
  |_,_=>none)
 | some C,.lf l,.lf (.v .nil)=>(match pq P t with
  | some _=>oA σ l λz=>(match z with
   |.nil=>k (.lf (.v (.bool (bif C then false else true))))
   |.sl _ _ true _=>k (.lf (.v (.bool (bif C then true else false))))
   |.sl _ _ false l=>bif ju l then none else k (.lf (.v (.bool (bif C then true else false))))
   |_=>none)
  |none=>none)
 |_,_,_=>vK x λa=>vK y λb=>FE P t D a b λz=>k (.lf (.v z))
section
variable {P:Program} {w w':World} {w0:Wd} {B N:Nat} {af az:bh} {ρ ρ':Nat->Loc} {σ:S} {a:Act} {X:Type} {d:Nat} {r:X} {o:Oper}
def ag9{D:TypeDesc}{x y:V}{b:Bool}{t:TypeId}{n:Nat}(C:P.underlying t=some D)(h:Km D x y=some b):(Op.equalIn (n+1) t x.val y.val).run P w = .ok b w:=by
 unfold Km at h;split at h
 ·split at h
  next I _ a k O E=>subst E;injection h with h;subst h;exact run_equalIn_int w n t _ _ _ _ C
  ·cases h
 ·injection h with h;subst h;exact run_equalIn_bool' w n t _ _ C
 ·injection h with h;subst h;exact run_equalIn_string w n t _ _ C
 ·cases h
def uc(P:Program)(t:TypeId)(xs:aa V)(u:Value):Prop:=
 match P.underlying t with
 |some (.struct _)=>u = .agg (xs.map V.val).toArray
 |_=>∃x,xs=[x]/\u=x.val
def Xb{t:TypeId}{n off:Nat}{xs:aa V}(O:je P t=some n)(hle:off+n <= xs.length)(T:∃ d,P.underlying t=some d/\(∀ c e,d ≠ .array c e)/\((∀ C,d ≠ .struct C) -> n=1)):
  ∃u,(part t (xs.map V.val).toArray off).run P w = .ok u w/\uc P t ((xs.drop off).take n) u:=by
 obtain⟨d,D,U,Y⟩:=T;unfold je at O;cases hi:P.info? t with
 |none=>grind
 | some i=>
  have Z:i.size=n:=by simpa [hi]using O
  by_cases E:∃C,d = .struct C
  ·obtain⟨C,rfl⟩:=E;have I:(isAgg t).run P w = .ok true w:=by
    unfold isAgg;rw[fR,gF D];rfl
   refine⟨.agg ((xs.map V.val).toArray.extract off (off+n)),by simp[part,fR,I,sizeOf,typeInfo,hi,Z],?_⟩;unfold uc;rw[D];simp only;congr 1;apply Array.ext';simp[List.map_drop,List.map_take]
  ·have I:(isAgg t).run P w = .ok false w:=by
    unfold isAgg;rw[fR,gF D w];cases d<;>first|rfl|(exfalso;exact E ⟨_,rfl⟩)|(exfalso;exact U _ _ rfl)
   have xu:n=1:=Y λC e=>E ⟨C,e⟩
   subst xu;have de:off<xs.length:=by omega
   have pz:(xs.map V.val).toArray[off]?=some (xs[off]).val:=by simp[de]
   refine⟨(xs[off]).val,by simp[part,fR,I,pz],?_⟩;have e1:(xs.drop off).take 1=[xs[off]]:=by
    rw[List.drop_eq_getElem_cons];rfl
   unfold uc;rw[D];split
   ·grind
   ·grind
def aha{n:Nat}{t:TypeId}{xs ys:aa V}{b:Bool}(h:zk P n t xs ys=some b):∃ d,P.underlying t=some d/\(∀ c e,d ≠ .array c e)/\((∀ C,d ≠ .struct C) -> xs.length=1):=by
 cases n with
 |zero=>cases h
 | succ n=>
  unfold zk at h;split at h
  ·simp_all
  ·rename_i d I D;split at h
   next x y=>exact⟨d,D,(λc e E=>by subst E;simp[Km]at h),λ_=>rfl⟩
   ·cases h
  ·cases h
def PI{n:Nat}{xs ys:aa V}(hlen:xs.length=ys.length)(I:∀ t xs ys b,zk P n t xs ys=some b -> ∀ u v,uc P t xs u -> uc P t ys v -> ∀ k,(Op.equalIn (k+n) t u v).run P w = .ok b w)(k:Nat):∀ (C:aa Field) (b:Bool),F4 P (zk P n) xs ys C=some b ->
  (Op.eqFields (k+n) (xs.map V.val).toArray (ys.map V.val).toArray C).run P w = .ok b w
 | [],b,h=>by
  injection h with h;subst h;simp[Op.eqFields]
 | f :: C,b,h=>by
  unfold F4 at h;cases D:f.name == "_" with
  | true=>
   rw[D]at h;have:f.name = "_":=by simpa using D
   simp[Op.eqFields,this,not_true];exact PI hlen I k C b h
  | false=>
   rw[D,av]at h;have cm:f.name ≠ "_":=by simpa using D
   split at h
   ·rename_i s O;cases E:Nat.ble (f.offset+s) xs.length with
    |false=>simp_all
    | true=>
     rw[E,aq]at h;have E:=cu E;split at h
     ·rename_i c e T h2;injection h with h;subst h;obtain⟨d1,U,Y,Z⟩:=aha T;have l6:((xs.drop f.offset).take s).length=s:=by simp;omega
      obtain⟨u,PJ,oI⟩:=Xb (w:=w) O E ⟨d1,U,Y,λh=>l6.symm.trans (Z h)⟩;obtain⟨v,F5,xw⟩:=Xb (w:=w) (xs:=ys) (off:=f.offset) O (by omega) ⟨d1,U,Y,λh=>l6.symm.trans (Z h)⟩;have hr:=I _ _ _ c T u v oI xw k;have vu:=PI hlen I k C e h2;simp only[Op.eqFields,cm,ne_eq,not_false_eq_true,if_true,fR,PJ,F5,hr,lU];cases c
      ·simp
      ·simp_all
     ·cases h
   ·cases h
def Xc:∀ (n:Nat) (t:TypeId) (xs ys:aa V) (b:Bool),zk P n t xs ys=some b -> ∀ u v,uc P t xs u -> uc P t ys v -> ∀ k,(Op.equalIn (k+n) t u v).run P w = .ok b w
 |0,t,xs,ys,b,h=>by cases h
 | n+1,t,xs,ys,b,h=>by
  intro u v C D k;unfold zk at h;split at h
  ·rename_i U I;cases E:(P.stoodInHeld t || !Nat.beq xs.length ys.length)with
   |true=>simp_all
   | false=>
    rw[E,av]at h;rw[mO,Bool.not_eq_false']at E;have hlen:=cH E.2;unfold uc at C D;rw[I]at C D;simp only at C D;subst C D;have Y:P.fieldsOf t=U:=by simp[Program.fieldsOf,I]
    rw[<- Nat.add_assoc,run_equalIn_struct w (k+n) t _ _ (by rw[Y];exact I) E.1,Y];exact PI hlen (Xc n) k U.toList b h
  ·rename_i d yT Z;split at h
   ·rename_i x y;unfold uc at C D;rw[Z]at C D;split at C
    ·simp_all
    ·split at D
     ·simp_all
     ·obtain⟨x',O,rfl⟩:=C;obtain⟨y',T,rfl⟩:=D;injection O with O;injection T with T;subst O T;exact ag9 Z h
   ·cases h
  ·cases h
def Xd{cs:aa Lf}{xs:aa V}(h:qU cs=some xs){u:Value}(D:RA w B af ρ (.agg cs) u):u = .agg (xs.map V.val).toArray:=by
 obtain⟨e,E⟩:=J3 _ _ h;obtain⟨us,rfl,Y,I⟩:=D;congr 1;apply Array.ext';apply List.ext_getElem?;intro j;rw[ ef,Array.getElem?_toList];cases C:xs[j]? with
 |none =>simp_all
 | some x=>
  obtain⟨v,O,T⟩:=I j _ (by rw[e,ef,C];rfl);rw[O];have:=E x (gy C);have U:=T.2;cases U<;>first|rfl|cases this
def DA{C:BinOp}{D:Bool}(E:Kn C=some D){t e:TypeId}(I:P.underlying t=some (.slice e))(O T:Operand)(A:ah Addr)(n c:Nat):
  (do eqGuard C t O T (.slice A n c) (.slice none 0 0);binOp C t (.slice A n c) (.slice none 0 0):Sem Value).run P w = .ok (.bool (bif D then !A.isNone else A.isNone)) w:=by
 have U:(Op.equal t (.slice A n c) (.slice none 0 0)).run P w = .ok A.isNone w:=by
  have h:∀ d,(Op.equalIn (d+1) t (.slice A n c) (.slice none 0 0)).run P w = .ok A.isNone w:=by
   intro d;cases A<;>simp[Op.equalIn,gF I]
  exact h 9999
 cases C<;>simp[Kn]at E<;>subst E<;>simp[eqGuard,binOp,U]
def ahb{op:BinOp}{t:TypeId}{x y:A}{k:A -> ah X}(h:zm P σ op t x y k=some r):∃ z,k z=some r /\ ∀ af ρ a w,Rl w0 N af ρ σ a w -> ∀ C D u v,RA w w0.heap.size af ρ x u -> RA w w0.heap.size af ρ y v ->
  ∃t',(do eqGuard op t C D u v;binOp op t u v:Sem Value).run P w = .ok t' w/\RA w w0.heap.size af ρ z t':=by
 unfold zm at h;split at h
 ·rename_i T cs ds O;split at h
  ·rename_i xs ys mY F6;cases hg:(P.eqGuardType P.depth t || !isStr P t)with
   |true=>simp_all
   | false=>
    rw[hg,av]at h;rw[mO,Bool.not_eq_false']at hg;obtain⟨hg,jL⟩:=hg;split at h
    ·rename_i b hb
     refine⟨_,h,λaf ρ a w Y C D u v E I=>?_⟩
     have E:=Xd mY E;have I:=Xd F6 I;subst E I;have hs:∃ fs,P.underlying t=some (.struct fs):=by
      unfold isStr at jL;split at jL
      ·simp_all
      ·cases jL
     obtain⟨fs,zj⟩:=hs;have Z:=Xc (w:=w) 20 t xs ys b hb (.agg (xs.map V.val).toArray) (.agg (ys.map V.val).toArray) (by unfold uc;rw[zj]) (by unfold uc;rw[zj]) 9980;refine⟨.bool (bif T then !b else b),?_,rfl,.bool _ _⟩;rw[fR,run_eqGuard_agg w op t C D _ _ hg,lU];cases op<;>simp[Kn]at O<;>subst O
     ·rw[run_eql_struct,Z];rfl
     ·rw[run_neq_struct,Z];rfl
    ·cases h
  ·cases h
 ·rename_i T l O;split at h
  ·rename_i e he;have ht:P.underlying t=some (.slice e):=by
    unfold pq at he;split at he
    ·simp_all
    ·cases he
   obtain⟨z,hz,U⟩:=Pz (w0:=w0) (N:=N) h;clear h;split at U
   ·refine⟨_,U,λaf ρ a w Y C D u v E I=>?_⟩
    obtain⟨q,hq⟩:=hz af ρ a w Y u E;cases hq;cases I.2;exact⟨_,DA O ht C D none 0 0,rfl,by cases T<;>exact .bool _ _⟩
   ·refine⟨_,U,λaf ρ a w Y C D u v E I=>?_⟩
    obtain⟨q,hq⟩:=hz af ρ a w Y u E;cases I.2;cases hq with
    |aF _ _ _ _ _ b off cap us ho hl hb h1 iI hc Z=>exact⟨_,DA O ht C D _ _ _,rfl,by cases T<;>exact .bool _ _⟩
    |own=>exact⟨_,DA O ht C D _ _ _,rfl,by cases T<;>exact .bool _ _⟩
    |fH=>exact⟨_,DA O ht C D _ _ _,rfl,by cases T<;>exact .bool _ _⟩
   ·rename_i t' o' l';cases hl:ju l' with
    |true=>simp_all
    | false=>
     rw[hl,av]at U
     refine⟨_,U,λaf ρ a w Y C D u v E I=>?_⟩
     obtain⟨q,hq⟩:=hz af ρ a w Y u E;cases I.2;cases hq with
     |eo=>cases hl
     |fy=>cases hl
     |aF _ _ _ _ _ b off cap us ho F0 hb h1 iI hc Z=>exact⟨_,DA O ht C D _ _ _,rfl,by cases T<;>exact .bool _ _⟩
     |own=>exact⟨_,DA O ht C D _ _ _,rfl,by cases T<;>exact .bool _ _⟩
   ·cases U
  ·cases h
 ·obtain⟨u0,hx,h1⟩:=Pb h;obtain⟨v0,hy,U⟩:=Pb h1;obtain⟨z,h3,hp,hs⟩:=agD U;subst hx hy
  refine⟨_,h3,λaf ρ a w Y C D u v E I=>?_⟩
  obtain⟨t',cY,Z⟩:=hs w _ af C D [] [] _ _ E.2 I.2;exact⟨t',cY,V.FG hp,Z⟩
/-! Parts of slices that nobody writes. -/
def DB{x:ah A}{C:Int}{k:Int->ah X}(h:ua x C k=some r):∃ n,k n=some r/\(∀ (E:Type) (D:Int->ah E),ua x C D=D n)/\((x=none/\n=C)\/∃ I,x=some (.lf (.v (.int I n)))):=by
 unfold ua at h;split at h
 ·exact⟨_,h,λ_ _=>rfl,.inl ⟨rfl,rfl⟩⟩
 ·exact⟨_,h,λ_ _=>rfl,.inr ⟨_,rfl⟩⟩
 ·cases h
def ahc{t:TypeId}{x:A}{lo hi:ah A}{k:A -> ah X}(h:xo P t x lo hi k=some r):∃ y,k y=some r/\(∀ (O:Type) (I:A -> ah O),xo P t x lo hi I=I y) /\
  ((∃ (s:ByteArray) (l h:Int),x = .lf (.v (.str s))/\P.underlying t=some .string/\((lo=none/\l=0) \/ ∃ C,lo=some (.lf (.v (.int C l))))/\((hi=none/\h=s.size) \/ ∃ C,hi=some (.lf (.v (.int C h))))/\0 <= l/\l <= h/\h <= (s.size:Int)/\y = .lf (.v (.str (s.extract l.toNat h.toNat)))) \/
   ∃(tc:TC) (g:Nat) (U:Bool) (xs:aa (T tc)) (e:TypeId) (l h:Int),x = .lf (.v (.sl tc g U xs))/\pq P t=some e/\je P e=some (aC tc)/\g<2/\((lo=none/\l=0) \/ ∃C,lo=some (.lf (.v (.int C l))))/\((hi=none/\h=xs.length) \/ ∃C,hi=some (.lf (.v (.int C h))))/\0 <= l/\l <= h/\h <= (xs.length:Int)/\y = .lf (.v (.sl tc g false ((xs.take h.toNat).drop l.toNat)))):=by
 unfold xo at h;split at h
 ·rename_i s;split at h
  ·rename_i hu;obtain⟨l,Y,d1,Z⟩:=DB h;obtain⟨m,D,d2,e2⟩:=DB Y;split at D
   ·rename_i E
    refine⟨_,D,λO I=>?_,.inl ⟨s,l,m,rfl,hu,Z,e2,E.1,E.2.1,E.2.2,rfl⟩⟩
    simp[xo,hu];simp_all
   ·cases D
  ·cases h
 ·rename_i tc g U xs;split at h
  ·rename_i e he;split at h
   ·rename_i n hn;split at h
    ·rename_i Bk;subst Bk;cases hg:Nat.blt g 2 with
     |false=>simp_all
     | true=>
      rw[hg,aq]at h;obtain⟨l,Y,d1,Z⟩:=DB h;obtain⟨m,D,d2,e2⟩:=DB Y;split at D
      ·rename_i E
       refine⟨_,D,λO I=>?_,.inr ⟨tc,g,U,xs,e,l,m,rfl,he,hn,cu hg,Z,e2,E.1,E.2.1,E.2.2,rfl⟩⟩
       simp[xo,he,hn,if_true,hg,aq];simp_all
      ·cases D
    ·cases h
   ·cases h
  ·cases h
 ·cases h
def ahd{t:TypeId}{x:A}{lo hi:ah A}{k:A->ah X}(h:xo P t x lo hi k=some r):∃ y,k y=some r/\(∀ (X':Type) (k':A->ah X'),xo P t x lo hi k'=k' y)/\
  ∀ (w:World) (B:Nat) (af:bh) (ρ:Nat->Loc) (u:Value) (U C:ah Value),RA w B af ρ x u->(∀ a,lo=some a->∃ v,U=some v/\RA w B af ρ a v)->(lo=none->U=none)->(∀ a,hi=some a->∃ v,C=some v/\RA w B af ρ a v)->(hi=none->C=none)->
   ∃t',(Instr.sliceAt t u U C none).run P w = .ok t' w/\RA w B af ρ y t':=by
 obtain⟨y,h1,hd,hc⟩:=ahc h
 refine⟨y,h1,hd,λw B af ρ u U C Z l6 ko Ko vw=>?_⟩
 have bl:∀ {o:ah A} {E:ah Value} {n Bp:Int},(∀ a,o=some a->∃ v,E=some v/\RA w B af ρ a v)->(o=none->E=none)->((o=none/\n=Bp)\/∃ I,o=some (.lf (.v (.int I n))))->(E=none/\n=Bp)\/∃ I,E=some (.int I n):=by
  intro o E n Bp g1 g2 g3;rcases g3 with ⟨e,e'⟩|⟨I,e⟩
  ·exact .inl ⟨g2 e,e'⟩
  ·obtain⟨v,C,hr⟩:=g1 _ e;exact .inr ⟨I,by rw[C,hr.2.gC]⟩
 rcases hc with ⟨s,l,m,rfl,O,e1,e2,b1,b2,b3,rfl⟩|⟨tc,g,qn,xs,e,l,m,rfl,D,hn,hg,e1,e2,b1,b2,b3,rfl⟩
 ·have h5:=bl l6 ko e1;have h6:=bl Ko vw e2;obtain rfl:=Z.2.wY;have em:(m.toNat:Int)=m:=Int.toNat_of_nonneg (by omega);refine⟨.string (s.extract l.toNat m.toNat),?_,rfl,.str _ _⟩;rw[run_sliceAt_string w t _ _ _ _ O];have Kp:0<=m:=by omega
  rcases h5 with ⟨rfl,h7⟩|⟨kl,rfl⟩<;>rcases h6 with ⟨rfl,h8⟩|⟨kh,rfl⟩
  all_goals simp_all [Instr.slice,gF O,Instr.sliceBounds,run_sliceBound]
 ·have h5:=bl l6 ko e1;have h6:=bl Ko vw e2;have O:P.underlying t=some (.slice e):=by
   unfold pq at D;split at D
   next e' vp=>injection D with D;rw[<-D];exact vp
   ·cases D
  have iq:P.elem t=e:=by simp[Program.elem,O]
  have T:P.underlying t=some (.slice (P.elem t)):=by rw[iq];exact O
  have Y:(sizeOf (P.elem t)).run P w = .ok (aC tc) w:=by
   unfold je at hn;cases hi:P.info? e with
   |none=>simp[hi]at hn
   | some i=>
    have:i.size=aC tc:=by simpa [hi]using hn
    simp[sizeOf,typeInfo,iq,hi,this]
  have ki:∃ A n c,u = .slice A n c:=by
   cases Z.2 with
   |eo=>exact⟨_,_,_,rfl⟩
   |fy=>exact⟨_,_,_,rfl⟩
   |fH=>exact⟨_,_,_,rfl⟩
   |aF=>exact⟨_,_,_,rfl⟩
   |own=>exact⟨_,_,_,rfl⟩
  obtain⟨A,n,c,rfl⟩:=ki;obtain⟨hp,xu,PL⟩:=Z.2.part (a:=l.toNat) (h:=m.toNat) hg (by omega) (by omega);refine⟨_,?_,by simp[V.aF,hg],hp⟩;rw[run_sliceAt_slice w t _ _ _ _ T];rcases h5 with ⟨rfl,rfl⟩|⟨kl,rfl⟩<;>rcases h6 with ⟨rfl,rfl⟩|⟨kh,rfl⟩
  ·rw[run_slice_all w t A n c T,Y,xu];simp
  ·rw[run_slice_h w t A n c T kh m (by omega) (by omega),Y];simp
  ·rw[run_slice_l w t A n c T kl l (by omega) (by omega),Y,xu];simp
  ·rw[run_slice_lh w t A n c T kl kh l m (by omega) (by omega) (by omega),Y];simp
/-! Parts of slices that are owned. -/
def DC{X:Type}(n:Nat)(q:aa Nat)(C:ah Nat)(lo hi:ah A)(y:V)(k:A->ah X):ah X:=
 match y with
 |.sl D _ _ l=>if n=aC D then ua lo 0 λa=>ua hi ((C.getD l.length:Nat):Int) λb=>if 0<=a/\a<=b/\b<=(l.length:Int)then k (.view q n a.toNat b.toNat)else none else none
 |_=>none
def Bq{X:Type}(P:Program)(σ:S)(t:TypeId)(q:aa Nat)(C:ah Nat)(lo hi:ah A)(k:A->ah X):ah X:=
 match pq P t with
 | some e=>(match je P e with
  |some n=>iU σ.m q λy=>DC n q C lo hi y k
  |none=>none)
 |none=>none
def zn{X:Type}(P:Program)(σ:S)(t:TypeId)(x:A)(lo hi:ah A)(k:A->ah X):ah X:=
 match x with
 |.lf (.own q)=>Bq P σ t q none lo hi k
 |.view q _ 0 j=>Bq P σ t q (some j) lo hi k
 |x=>xo P t x lo hi k
def ahe{n:Nat}{q:aa Nat}{C:ah Nat}{lo hi:ah A}{y:V}{k:A -> ah X}(h:DC n q C lo hi y k=some r):∃ (tc:TC) (g:Nat) (D:Bool) (xs:aa (T tc)) (l h:Int),y = .sl tc g D xs/\n=aC tc /\
  ((lo=none/\l=0) \/ ∃E,lo=some (.lf (.v (.int E l))))/\((hi=none/\h=((C.getD xs.length:Nat):Int)) \/ ∃E,hi=some (.lf (.v (.int E h))))/\0 <= l/\l <= h/\h <= (xs.length:Int)/\k (.view q n l.toNat h.toNat)=some r /\
  ∀(Y:Type) (I:A -> ah Y),DC n q C lo hi y I=I (.view q n l.toNat h.toNat):=by
 unfold DC at h;split at h
 ·rename_i tc g D xs;split at h
  ·rename_i Z;obtain⟨l,h1,d1,e1⟩:=DB h;obtain⟨m,O,d2,e2⟩:=DB h1;split at O
   ·rename_i U
    refine⟨tc,g,D,xs,l,m,rfl,Z,e1,e2,U.1,U.2.1,U.2.2,O,λY I=>?_⟩
    simp[DC,aW Z];simp_all
   ·cases O
  ·cases h
 ·cases h
def Xe{t:TypeId}{q:aa Nat}{dh:ah Nat}{lo hi:ah A}{k:A -> ah X}(h:Bq P σ t q dh lo hi k=some r):∃ y,k y=some r /\
  ∀ af ρ a w,Rl w0 N af ρ σ a w -> ∀ (D:ah Addr) (n c C:Nat) (U E:ah Value),cK w af ρ q=some (.slice D n c) -> C=dh.getD n -> C <= n -> (∀ a,lo=some a -> ∃ v,U=some v/\RA w w0.heap.size af ρ a v) -> (lo=none -> U=none) -> (∀ a,hi=some a -> ∃ v,E=some v/\RA w w0.heap.size af ρ a v) -> (hi=none -> E=none) ->
   ∃t',(Instr.sliceAt t (.slice D C c) U E none).run P w = .ok t' w/\RA w w0.heap.size af ρ y t':=by
 unfold Bq at h;split at h
 ·rename_i e he;split at h
  ·rename_i n hn;obtain⟨y0,PN,h2⟩:=r8 q _ h;obtain⟨tc,g,qn,xs,l,m,rfl,Bk,e1,e2,b1,b2,b3,h3,_⟩:=ahe h2
   refine⟨_,h3,λaf ρ a w hR D n' c C U E jt PO hle l6 ko Ko vw=>?_⟩
   have bl:∀ {o:ah A} {I:ah Value} {n Bp:Int},(∀ a,o=some a -> ∃ v,I=some v/\RA w w0.heap.size af ρ a v) -> (o=none -> I=none) -> ((o=none/\n=Bp) \/ ∃ O,o=some (.lf (.v (.int O n)))) -> (I=none/\n=Bp) \/ ∃ O,I=some (.int O n):=by
    intro o I n Bp g1 g2 g3;rcases g3 with ⟨e,e'⟩|⟨O,e⟩
    ·grind
    ·obtain⟨v,E,hr⟩:=g1 _ e;exact .inr ⟨O,by rw[E,hr.2.gC]⟩
   have h5:=bl l6 ko e1;have h6:=bl Ko vw e2;have fW:P.underlying t=some (.slice e):=by
    unfold pq at he;split at he
    ·grind
    ·cases he
   have iq:P.elem t=e:=by simp[Program.elem,fW]
   have T:P.underlying t=some (.slice (P.elem t)):=by rw[iq];exact fW
   have Y:(sizeOf (P.elem t)).run P w = .ok n w:=by
    unfold je at hn;cases hi:P.info? e with
    |none=>grind
    | some i=>
     have:i.size=n:=by simpa [hi]using hn
     simp[sizeOf,typeInfo,iq,hi,this]
   obtain⟨v0,Z,iu⟩:=PN.ok hR.root;rw[jt]at Z;injection Z with Z;subst Z;have hf:RV w 0 (λ_=>none) [] (.sl tc 0 qn xs) (.slice D n' c):=iu.fZ;obtain⟨hp,xu,PL⟩:=hf.part (a:=l.toNat) (h:=m.toNat) (by omega) (by omega) (by omega);have ahf:((dh.getD xs.length:Nat):Int)=(C:Int):=by rw[PO,xu]
   rw[ahf]at h6;refine⟨sliced D l.toNat m.toNat c n,?_,D,n',c,jt,by omega,by omega,rfl⟩;rw[run_sliceAt_slice w t _ _ _ _ T];rcases h5 with ⟨rfl,rfl⟩|⟨kl,rfl⟩<;>rcases h6 with ⟨rfl,rfl⟩|⟨kh,rfl⟩
   ·rw[run_slice_all w t D C c T,Y];simp
   ·rw[run_slice_h w t D C c T kh m (by omega) (by omega),Y];simp
   ·rw[run_slice_l w t D C c T kl l (by omega) (by omega),Y];simp
   ·rw[run_slice_lh w t D C c T kl kh l m (by omega) (by omega) (by omega),Y];simp
  ·cases h
 ·cases h
def ahg{t:TypeId}{x:A}{lo hi:ah A}{k:A -> ah X}(h:zn P σ t x lo hi k=some r):∃ y,k y=some r /\
  ∀ af ρ a w,Rl w0 N af ρ σ a w -> ∀ (u:Value) (C D:ah Value),RA w w0.heap.size af ρ x u -> (∀ a,lo=some a -> ∃ v,C=some v/\RA w w0.heap.size af ρ a v) -> (lo=none -> C=none) -> (∀ a,hi=some a -> ∃ v,D=some v/\RA w w0.heap.size af ρ a v) -> (hi=none -> D=none) ->
   ∃t',(Instr.sliceAt t u C D none).run P w = .ok t' w/\RA w w0.heap.size af ρ y t':=by
 unfold zn at h;split at h
 ·rename_i q;obtain⟨y,E,I⟩:=Xe h
  refine⟨y,E,λaf ρ a w T u C D O U Y Z vw=>?_⟩
  have fU:∃ A n c,u = .slice A n c:=by
   have:=O.1;cases u<;>first|cases this;done|exact⟨_,_,_,rfl⟩
  obtain⟨A,n,c,rfl⟩:=fU;exact I af ρ a w T A n c n C D O.2 rfl (dH _) U Y Z vw
 ·rename_i q s j;obtain⟨y,E,I⟩:=Xe h
  refine⟨y,E,λaf ρ a w T u C D O U Y Z vw=>?_⟩
  obtain⟨A,n,c,jt,_,a2,rfl⟩:=O;have e:sliced A 0 j c s = .slice A j c:=by cases A<;>simp[sliced,Addr.add]
  rw[e];exact I af ρ a w T A n c j C D jt rfl a2 U Y Z vw
 ·obtain⟨y,E,_,I⟩:=ahd h;exact⟨y,E,λaf ρ a w _ u C D=>I w _ af ρ u C D⟩
end
abbrev Pt:=Bool×aa V
def PV(w:World)(B:Nat)(af:bh)(key:Nat->aa Nat)(p:Pt)(u:Value):Prop:=
 ∃us:Array Value,(match p.1 with|true=>u = .agg us|false=>us = #[u])/\us.size=p.2.length/\∀(j:Nat) x,p.2[j]?=some x->∃v,us[j]?=some v/\RV w B af (key j) x v
def zo(w:World)(cs:aa V)(u:Value):Prop:=
 ∃b off,u = .pointer (some ⟨b,off,none⟩)/\b<w.heap.size/\∀(j:Nat) x,cs[j]?=some x->∃v,w.cell? ⟨b,off+j,none⟩=some v/\RV w w.heap.size (λ_=>none) [] x v
inductive PA (w:World):Pt->Value->Prop
 |v (p:Pt) (u:Value) (h:PV w w.heap.size (λ_=>none) (λ_=>[]) p u):PA w p u
 |p (c:V) (cs:List V) (u:Value) (h:zo w (c::cs) u):PA w (false,.bool true::c::cs) u
 |f (g:Nat) (c:V) (cs:List V) (u:Value) (h:zo w (c::cs) u):PA w (false,.bool false::.int .i64 (g:Int)::c::cs) (.func (.func g) #[] #[u])
def oJ(w:World)(args:aa Pt)(bA:Array Value):Prop:=
 bA.size=args.length/\∀(i:Nat) p,args[i]?=some p->∃u,bA[i]?=some u/\PA w p u
def PA.pv{w:World}{x:V}{u:Value}(h:PA w (false,[x]) u):PV w w.heap.size (λ_=>none) (λ_=>[]) (false,[x]) u:=by
 cases h with
 |v _ _ h=>exact h
def PA.Xf{w:World}{xs:aa V}{u:Value}(h:PA w (true,xs) u):PV w w.heap.size (λ_=>none) (λ_=>[]) (true,xs) u:=by
 cases h with
 |v _ _ h=>exact h
inductive fL where
 |one (p:Pt)
 |eU (ps:List Pt)
def zp(t:TC):Nat->Bool
 |0=>false
 |1=>true
 |o+2=>Nat.ble (full t) o ||Nat.beq (o % 2) 1
def V.loc:V->Bool
 |.sl t o _ _=>zp t o
 |_=>true
def jv(w:World)(B:Nat)(af:bh)(nm:Nat->Nat):Nat->aa Pt->aa Value->Prop
 |_,[],[]=>True
 |off,p::ps,v::C=>(p.2.all V.loc=true/\PV w B af (λj=>[nm (off+j)]) p v)/\jv w B af nm (off+p.2.length) ps C
 |_,_,_=>False
def pO(w:World)(B:Nat)(af:bh)(nm:Nat->Nat):fL->Value->Prop
 |.one p,v=>jv w B af nm 0 [p] [v]
 |.eU ps,v=>∃C:Array Value,v = .tuple C/\jv w B af nm 0 ps C.toList
structure jf where
 run:(X:Type)->List Pt->(fL->Option X)->Option X
def iL(P:Program)(f:Nat)(c:jf):Prop:=
 (∀ args,cq λX k=>c.run X args k)/\∀ args C,c.run fL args some=some C->∀ (nm:Nat->Nat) (w:World) (bA:Array Value),oJ w args bA->Hd w (λ_=>none)->
  Calls P f bA w λe w'=>∃v az,e = .returned v/\Below w.heap.size w w'/\(∀b k,az b=some k->w.heap.size<=b/\b<w'.heap.size/\k≠[])/\pO w' w.heap.size az nm C v
def qW{X:Type}(σ:S):aa Lf->(aa V->ah X)->ah X
 |[],k=>k []
 |x::xs,k=>oA σ x λy=>qW σ xs λys=>k (y.fZ::ys)
def nL{X:Type}(σ:S)(x:A)(k:Pt->ah X):ah X:=
 match x with
 |.lf y=>qW σ [y] λC=>k (false,C)
 |.agg ys=>qW σ ys λC=>k (true,C)
 |.view q s i j=>vo σ q s i j λy=>k (false,[y])
 |.iR (c::cs)=>k (false,.bool true::c.fZ::cs.map V.fZ)
 |_=>none
def vz{X:Type}(σ:S)(x:A)(k:Pt->ah X):ah X:=
 match x with
 |.iR (c::cs)=>k (false,.bool true::c.fZ::cs.map V.fZ)
 |.mW f (c::cs)=>k (false,.bool false::.int .i64 (f:Int)::c.fZ::cs.map V.fZ)
 | .aJ r j=>(match σ.m r with
  | some (.aA cs)=>qW σ (cs.drop j) λC=>(match C with
   |c::cs=>k (false,.bool true::c::cs)
   |[]=>none)
  |_=>none)
 | .fn f [(r,j)]=>(match σ.m r with
  | some (.aA cs)=>qW σ (cs.drop j) λC=>(match C with
   |c::cs=>k (false,.bool false::.int .i64 (f:Int)::c::cs)
   |[]=>none)
  |_=>none)
 |x=>nL σ x k
def vA{X:Type}(f:A->(Pt->ah X)->ah X)(σ:S):aa Operand->(aa Pt->ah X)->ah X
 |[],k=>k []
 |x::xs,k=>f (aG σ x) λp=>vA f σ xs λps=>k (p::ps)
def Br{X:Type}(σ:S)(xs:aa Operand)(k:aa Pt->ah X):ah X:=vA (vz σ) σ xs k
def su{X:Type}(σ:S)(xs:aa Operand)(k:aa Pt->ah X):ah X:=vA (nL σ) σ xs k
def nM(c:Nat):aa V->aa Lf
 |[]=>[]
 |x::xs=>(bif x.aF then .v x else .own [c])::nM (c+1) xs
def l8(c:Nat)(σ:S):aa V->S
 |[]=>σ
 |x::xs=>l8 (c+1) (bif x.aF then σ else (σ.drop c).root c (.sl x)) xs
def sv(c:Nat):aa Pt->aa (Bool×aa Lf)
 |[]=>[]
 |p::ps=>(p.1,nM c p.2)::sv (c+p.2.length) ps
def nN(c:Nat)(σ:S):aa Pt->S
 |[]=>σ
 |p::ps=>nN (c+p.2.length) (l8 c σ p.2) ps
def m6{X:Type}(σ:S)(d:Nat)(C:fL)(k:S->ah X):ah X:=match C with
 | .one p=>(match yY (p.1,nM (1000000000100000+1000*d) p.2)with
  |some y=>k ((l8 (1000000000100000+1000*d) σ p.2).set d y)
  |none=>none)
 |.eU ps=>k ((nN (1000000000100000+1000*d) σ ps).set d (.eU (sv (1000000000100000+1000*d) ps)))
def sx{X:Type}(N:Nat)(σ:S)(d:Nat)(c:jf)(ev:(aa Pt->ah X)->ah X)(k:S->ah X):ah X:=
 bif Nat.blt d N then ev λps=>c.run X ps λC=>m6 σ d C k else none
def ahh{X:Type}(N:Nat)(σ:S)(d:Nat)(c:jf)(args:aa Operand)(k:S->ah X):ah X:=sx N σ d c (Br σ args) k
def ahi{X:Type}(N:Nat)(σ:S)(d:Nat)(c:jf)(args:aa Operand)(k:S->ah X):ah X:=sx N σ d c (su σ args) k
section
variable {P:Program} {w w':World} {w0:Wd} {B N:Nat} {af az:bh} {ρ ρ':Nat->Loc} {σ:S} {a:Act} {X:Type} {d:Nat} {r:X} {o:Oper}
def F7:∀ (xs:aa Lf) (k:aa V -> ah X),qW σ xs k=some r -> ∃ C,k C=some r/\C.length=xs.length /\ ∀ af ρ a w,Rl w0 N af ρ σ a w -> ∀ (j:Nat) x y u,xs[j]?=some x -> C[j]?=some y -> dK w w0.heap.size af ρ x u -> RV w w.heap.size (λ_=>none) [] y u
 |[],k,h=>⟨[],h,rfl,λ_ _ _ _ _ j x y u I=>by simp at I⟩
 | x :: xs,k,h=>by
  obtain⟨y,O,T⟩:=Pz h;obtain⟨ys,U,Y,hr⟩:=F7 xs _ T
  refine⟨y.fZ::ys,U,by simp[Y],λaf ρ a w Z j x' y' u D E hu=>?_⟩
  cases j with
  | zero=>
   simp at D E;subst D E;obtain⟨q,hq⟩:=O af ρ a w Z u hu;exact hq.fZ
  |succ j=>grind
def Xg{D C:Nat}{cs:aa Lf}{E:aa V}(Z:σ.m D=some (.aA cs))(hl:E.length=(cs.drop C).length)
  (hr:∀af ρ a w,Rl w0 N af ρ σ a w->∀(j:Nat) x y u,(cs.drop C)[j]?=some x->E[j]?=some y->dK w w0.heap.size af ρ x u->RV w w.heap.size (λ_=>none) [] y u)
  {af:bh} {ρ:Nat->Loc} {a:Act} {w:World} {u:Value} (I:Rl w0 N af ρ σ a w) (hu:RA w w0.heap.size af ρ (.aJ D C) u):zo w E u:=by
 obtain⟨b,off,e1,rfl⟩:=hu;cases I.root D _ Z with
 | aA b' Bg cells e _ us O kQ T hs hc=>
  rw[e1]at O;injection O with q1 q2;subst q1 q2
  refine⟨b,off+C,rfl,(ic.1 T).1,λj x U=>?_⟩
  have hj:j<(cs.drop C).length:=by rw[<-hl];exact(dI.1 U).1
  have Y:=bK hj;have ahj:cs[C+j]?=some (cs.drop C)[j]:=by rw[<-List.getElem?_drop];exact Y
  obtain⟨k1,k2⟩:=hc _ _ ahj;refine⟨us (C+j),?_,hr af ρ a w I j _ x _ Y U k2⟩;rw[Nat.add_assoc,cell_of_row w b _ cells _ _ T];exact k1
def PR{cs:aa V}{u:Value}(E:RF w B af cs u):zo w (cs.map V.fZ) u:=by
 obtain⟨b,off,rfl,I,Y,O⟩:=E
 refine⟨b,off,rfl,I,λj x C=>?_⟩
 rw[ef]at C;cases D:cs[j]? with
 |none=>simp_all
 | some y=>
  rw[D]at C;injection C with C;subst C;obtain⟨_,v,T,U⟩:=O j y D;exact⟨v,T,U.fZ⟩
def Xh{x:A}{k:Pt -> ah X}(h:nL σ x k=some r):∃ p,k p=some r /\ ∀ af ρ a w,Rl w0 N af ρ σ a w -> ∀ u,RA w w0.heap.size af ρ x u -> PA w p u:=by
 unfold nL at h;split at h
 ·rename_i y;obtain⟨Z,E,O,U⟩:=F7 (w0:=w0) (N:=N) _ _ h
  refine⟨_,E,λaf ρ a w I u C=>.v _ _ ⟨#[u],rfl,by simp[O],λj x D=>?_⟩⟩
  have T:j=0:=by
   grind
  subst T;exact⟨u,rfl,U af ρ a w I 0 y x u rfl D C⟩
 ·rename_i ys;obtain⟨Z,E,O,U⟩:=F7 (w0:=w0) (N:=N) _ _ h
  refine⟨_,E,λaf ρ a w I u C=>?_⟩
  obtain⟨us,rfl,Y⟩:=C
  refine .v _ _ ⟨us,rfl,by rw[O];exact Y.1,λj x D=>?_⟩
  have T:j<ys.length:=by rw[<- O];exact(dI.1 D).1
  obtain⟨v,hv,fo⟩:=Y.2 j _ (bK T)
  grind
 ·obtain⟨z,E,_,hz⟩:=WD h
  refine⟨_,E,λaf ρ a w I u C=>.v _ _ ⟨#[u],rfl,rfl,λj x D=>?_⟩⟩
  cases j with
  | zero=>
   simp at D;subst D;exact⟨u,rfl,hz _ _ _ _ _ _ I u C _⟩
  |succ j=>simp at D
 next c cs=>exact⟨_,h,λaf ρ a w I u C=>.p _ _ _ (PR C)⟩
 ·cases h
def ahk{x:A}{k:Pt -> ah X}(h:vz σ x k=some r):∃ p,k p=some r /\ ∀ af ρ a w,Rl w0 N af ρ σ a w -> ∀ u,RA w w0.heap.size af ρ x u -> PA w p u:=by
 unfold vz at h;split at h
 ·rename_i c cs
  refine⟨_,h,λaf ρ a w E u C=>?_⟩
  exact .p _ _ _ (PR C)
 ·rename_i f c cs
  refine⟨_,h,λaf ρ a w E u C=>?_⟩
  obtain⟨pv,rfl,I⟩:=C;exact .f _ _ _ _ (PR I)
 ·rename_i Z Y;split at h
  ·rename_i cs O;obtain⟨vs,D,T,U⟩:=F7 (w0:=w0) (N:=N) _ _ h;split at D
   ·rename_i c eS
    refine⟨_,D,λaf ρ a w E u C=>?_⟩
    exact .p _ _ _ (Xg O T U E C)
   ·cases D
  ·cases h
 ·rename_i f Z Y;split at h
  ·rename_i cs O;obtain⟨vs,D,T,U⟩:=F7 (w0:=w0) (N:=N) _ _ h;split at D
   ·rename_i c eS
    refine⟨_,D,λaf ρ a w E u C=>?_⟩
    obtain⟨ps,rfl,hs,I⟩:=C;obtain⟨b,off,e1,e2⟩:=I 0 _ rfl;have e:ps = #[.pointer (some ⟨b,off+Y,none⟩)]:=by
     grind
    subst e;exact .f _ _ _ _ (Xg O T U E ⟨b,off,e1,rfl⟩)
   ·cases D
  ·cases h
 ·exact Xh h
def PS{f:A->(Pt->ah X)->ah X}(I:∀ x k,f x k=some r->∃ p,k p=some r/\∀ af ρ a w,Rl w0 N af ρ σ a w->∀ u,RA w w0.heap.size af ρ x u->PA w p u):
  ∀(xs:aa Operand) (k:aa Pt->ah X),vA f σ xs k=some r->∃ps,k ps=some r/\∀af ρ a w,Rl w0 N af ρ σ a w->oJ w ps (xs.map a.eval).toArray
 |[],k,h=>⟨[],h,λ_ _ _ _ _=>⟨rfl,λi p D=>by simp at D⟩⟩
 | x :: xs,k,h=>by
  unfold vA at h;obtain⟨p,T,D⟩:=I _ _ h;obtain⟨ps,U,O⟩:=PS I xs _ T
  refine⟨p::ps,U,λaf ρ a w C=>⟨?_,λi q E=>?_⟩⟩
  ·have:=(O af ρ a w C).1;simp at this;simp[this]
  ·cases i with
   | zero=>
    simp at E;subst E;exact⟨_,rfl,D af ρ a w C _ (C.aG x)⟩
   | succ i=>
    obtain⟨u,Y,Z⟩:=(O af ρ a w C).2 i q (by simpa using E);exact⟨u,by simpa using Y,Z⟩
def ahl(xs:aa Operand)(k:aa Pt->ah X)(h:Br σ xs k=some r):∃ps,k ps=some r/\∀af ρ a w,Rl w0 N af ρ σ a w->oJ w ps (xs.map a.eval).toArray:=PS (λ_ _=>ahk) xs k h
def Xi(xs:aa Operand)(k:aa Pt->ah X)(h:su σ xs k=some r):∃ps,k ps=some r/\∀af ρ a w,Rl w0 N af ρ σ a w->oJ w ps (xs.map a.eval).toArray:=PS (λ_ _=>Xh) xs k h
def ahm{t:TC}{o:Nat}(h:zp t (o+2)=true)(x:T t):∀ y∈enc t o x,y.loc=true:=by
 intro y D;have I:=yR t o x y D;cases y with
 | sl E C q l=>
  have O:C=o:=by simpa [V.gr]using I
  subst O;have U:full E+2 <= full t:=cu (JT t C x _ D);show zp E C=true;simp only[zp,dZ]at h;rcases h with h|h
  ·have h:=cu h
   match C,h with
   |0,h=>omega
   |1,h=>rfl
   | n+2,h=>
    simp only[zp,dZ];left;exact jc (by omega)
  ·have h:=cH h
   match C,h with
   |0,h=>omega
   |1,h=>rfl
   | n+2,h=>
    simp only[zp,dZ];simp_all
 |_=>rfl
def RV.zq{q:aa Nat}{x:V}{v:Value}(h:RV w B af q x v){B':Nat}(hB:B' <= B)(Y:∀ b,B <= b -> az b=af b)(Z:∀ b k,af b=some k -> az b=some k)(O:x.loc=true):RV w B' az q x v:=by
 induction h with
 |int=>exact .int _ _ _
 |bool=>exact .bool _ _
 |str=>exact .str _ _
 |nil=>exact .nil _
 |eo=>exact .eo _ _ _
 |fy=>exact .fy _ _ _ _ _ (by first|assumption|omega)
 |fH=>exact .fH _ _ _ _ _ (by first|assumption|omega)
 | aF q t o qn l b off cap u T D hb h1 iI E hr I=>
  have Bt:o=1:=by
   match o,T,O with
   |1,_,_=>rfl
  subst Bt;have U:=h1 rfl
  refine .aF _ _ _ _ _ _ _ _ u T ((Y b U).trans D) hb (λ_=>Nat.le_trans hB U) iI E (λi h j x C=>I i h j x C ?_)
  have:=yR t 1 l[i] x (gy C);cases x with
  | sl t' o' q' l'=>
   have:o'=1:=by simpa [V.gr]using this
   subst this;rfl
  |_=>rfl
 | own q t o qn l b cap cs u D hh hs hn hm E hr I=>
  exact .own _ _ _ _ _ _ _ cs u (Z b q D) hh hs hn hm E (λi h j x C=>I i h j x C (ahm O l[i] x (gy C)))
def RV.home{q:aa Nat}{x:V}{v:Value}(h:RV w B af q x v){B':Nat}(hB:B'<=B)(C:∀ b,B<=b->az b=af b)(D:∀ b k,af b=some k->B<=b)(E:x.loc=true):RV w B' az q x v:=
 h.zq hB C (λb k h=>(C b (D b k h)).trans h) E
def PT:∀ (xs:aa V) (c:Nat) (σ:S) (ρ:Nat -> Loc) (us:aa Value),60000 <= c -> Rl w0 N af ρ σ a w -> us.length=xs.length -> (∀ (j:Nat) x u,xs[j]?=some x -> us[j]?=some u -> RV w w0.heap.size af [c+j] x u) ->
  ∃ρ',Rl w0 N af ρ' (l8 c σ xs) a w/\(∀r,r<c -> ρ' r=ρ r) /\ ∀(j:Nat) x u,(nM c xs)[j]?=some x -> us[j]?=some u -> dK w w0.heap.size af ρ' x u
 |[],c,σ,ρ,us,_,h,O,E=>⟨ρ,h,λ_ _=>rfl,λj x u hx=>by simp[nM]at hx⟩
 | x :: xs,c,σ,ρ,us,hc,h,O,E=>by
  cases us with
  |nil=>simp at O
  | cons u us=>
   have T:=E 0 x u rfl rfl;rw[Nat.add_zero]at T;have vu:∀ (j:Nat) U Y,xs[j]?=some U -> us[j]?=some Y -> RV w w0.heap.size af [c+1+j] U Y:=λj U Y hx hu=>by
    have:=E (j+1) U Y (by simpa using hx) (by simpa using hu)
    grind
   cases C:x.aF with
   | true=>
    obtain⟨ρ',dm,Z,xx⟩:=PT xs (c+1) σ ρ us (by omega) h (by simpa using O) vu
    refine⟨ρ',?_,λr E=>Z r (by omega),λj y v D I=>?_⟩
    ·simp[l8,C];exact dm
    ·simp only[nM,C,aq]at D;cases j with
     | zero=>
      simp at D I;subst D I;exact⟨C,T.key C⟩
     |succ j=>grind
   | false=>
    have fU:=T.O2 C;obtain⟨ρ',dm,Z,xx⟩:=PT xs (c+1) _ _ us (by omega) (h.new (d:=c) (x:=.sl x) (.dA u) (.sl u x (bI _ _ _) T) (h.cF c (.inr hc))) (by simpa using O) vu
    refine⟨ρ',?_,λr E=>?_,λj y v D I=>?_⟩
    ·simp[l8,C];exact dm
    ·rw[Z r (by omega)];exact ck _ _ _ (by omega)
    ·simp only[nM,C,av]at D;cases j with
     | zero=>
      simp at D I;subst D I;refine⟨fU,?_⟩;have:ρ' c = .dA u:=by rw[Z c (by omega)];exact bI _ _ _
      simp[cK,this]
     |succ j=>grind
def ahn(xs:aa V):∀ c,(nM c xs).length=xs.length:=by
 induction xs with
 |nil=>intro c;rfl
 |cons x xs C=>intro c;simp[nM,C]
end
def enters(P:Program)(f:Nat):Prop:=∃fn,P.funcs[f]?=some fn/\(fn.name == "runtime.NumGoroutine")=false/\fn.body.isNone=false
/-! What a function gives back. -/
def Kq:A->ah (Bool×aa Lf)
 |.lf x=>some (false,[x])
 |.agg xs=>some (true,xs)
 |_=>none
def sy{X:Type}(P:Program)(σ:S):aa ResultVar->(aa (Bool×aa Lf)->ah X)->ah X
 |[],k=>k []
 | .tmp t :: rest,k=>(match Kq (σ.t t)with
  |some p=>sy P σ rest λps=>k (p::ps)
  |none=>none)
 | .cell p ty :: rest,k=>nI P σ ty (σ.t p) λx=>(match Kq x with
  |some p=>sy P σ rest λps=>k (p::ps)
  |none=>none)
def PU(m:Nat->ah aQ):Lf->ah (V×ah Nat)
 |.v x=>bif x.loc&&x.aF then some (x,none)else none
 | .own [r]=>match m r with
  |some (.sl y)=>bif y.loc then some (y,some r)else none
  |_=>none
 |_=>none
def F8(m:Nat->ah aQ)(off:Nat):aa Lf->ah (aa V×aa (Nat×Nat))
 |[]=>some ([],[])
 | x :: xs=>match PU m x,F8 m (off+1) xs with
  |some (y,none),some (ys,rs)=>some (y::ys,rs)
  |some (y,some r),some (ys,rs)=>some (y::ys,(r,off)::rs)
  |_,_=>none
def DD(m:Nat->ah aQ)(off:Nat):aa (Bool×aa Lf)->ah (aa Pt×aa (Nat×Nat))
 |[]=>some ([],[])
 | p :: ps=>match F8 m off p.2,DD m (off+p.2.length) ps with
  |some (C,rs),some (D,E)=>some ((p.1,C)::D,rs++E)
  |_,_=>none
def once(rs:aa (Nat×Nat)):Bool:=rs.all λp=>(rs.lookup p.1).any λn=>Nat.beq n p.2
def F9{X:Type}(P:Program)(σ:S)(fn:Array ResultVar)(k:fL->ah X):ah X:=
 sy P σ fn.toList λps=>match DD σ.m 0 ps with
  | some (qs,rs)=>bif once rs then (match qs with
   |[p]=>k (.one p)
   |qs=>k (.eU qs))else none
  |none=>none
section
variable {P:Program} {w w':World} {w0:Wd} {B N:Nat} {af az:bh} {ρ ρ':Nat->Loc} {σ:S} {a:Act} {X:Type} {d:Nat} {r:X} {o:Oper}
def Xj:∀ (xs:aa V) (c:Nat) (j:Nat) x u,(nM c xs)[j]?=some x -> dK w B af ρ x u -> (∀ r,r<c+xs.length -> ρ' r=ρ r) -> dK w B af ρ' x u
 |[],c,j,x,u,D,_,_=>by simp[nM]at D
 | y :: ys,c,j,x,u,D,C,E=>by
  cases j with
  | zero=>
   simp[nM,List.getElem?_cons_zero,ig]at D;subst D;cases I:y.aF with
   |true=>rw[I]at C;simp;exact C
   | false=>
    rw[I]at C;refine⟨C.1,?_⟩;have:=C.2;simp[cK,E c (by simp)]at this ⊢;exact this
  | succ j=>
   exact Xj ys _ j x u D C (λr h=>E r (by simp;omega))
def PV.cells{key:Nat -> aa Nat}{p:Pt}{u:Value}(h:PV w B af key p u):∃ us:aa Value,us.length=p.2.length/\(∀ (j:Nat) x v,p.2[j]?=some x -> us[j]?=some v -> RV w B af (key j) x v) /\
  ∀(ρ:Nat -> Loc) (C:aa Lf),C.length=p.2.length -> (∀(j:Nat) x v,C[j]?=some x -> us[j]?=some v -> dK w B af ρ x v) -> RP w B af ρ (p.1,C) u:=by
 obtain⟨us,D,E,Z⟩:=h;obtain⟨b,xs⟩:=p
 refine⟨us.toList,by simpa using E,λj x v I hv=>?_,λρ C O Y=>?_⟩
 ·grind
 ·have T:eC w B af ρ C us:=⟨by rw[E,O],λj x I=>by
   have U:j<us.size:=by rw[E,<- O];exact(dI.1 I).1
   exact⟨us[j],Array.getElem?_eq_getElem U,Y j x _ I (by rw[Array.getElem?_toList,Array.getElem?_eq_getElem U])⟩⟩
  cases b with
  |true=>exact⟨us,D,T⟩
  |false=>have D:=D;subst D;exact T
def Ga:∀ (ps:aa Pt) (c0 off:Nat) (σ:S) (ρ:Nat -> Loc) (C:aa Value),60000 <= c0 -> Rl w0 N af ρ σ a w -> jv w w0.heap.size af (λn=>c0+n) off ps C ->
  ∃ρ',Rl w0 N af ρ' (nN (c0+off) σ ps) a w/\(∀r,r<c0+off -> ρ' r=ρ r)/\C.length=(sv (c0+off) ps).length /\ ∀(i:Nat) p v,(sv (c0+off) ps)[i]?=some p -> C[i]?=some v -> RP w w0.heap.size af ρ' p v
 | [],c0,off,σ,ρ,C,_,h,D=>by
  cases C with
  |nil=>exact⟨ρ,h,λ_ _=>rfl,rfl,λi p v T=>by simp[sv]at T⟩
  |cons v C=>exact D.elim
 | p :: ps,c0,off,σ,ρ,C,hc,h,D=>by
  cases C with
  |nil=>exact D.elim
  | cons v C=>
   obtain⟨⟨_,T⟩,D⟩:=D;obtain⟨us,hl,jJ,vB⟩:=T.cells;obtain⟨sA,h1,PW,xx⟩:=PT p.2 (c0+off) σ ρ us (by omega) h hl (λj x u I E=>by
    have:RV w _ af [c0+(off+j)] x u:=jJ j x u I E;rw[<- Nat.add_assoc]at this;exact this)
   obtain⟨eW,Y,U,hlen,Z⟩:=Ga ps c0 (off+p.2.length) (l8 (c0+off) σ p.2) sA C hc h1 D;rw[<- Nat.add_assoc]at Y U hlen Z
   refine⟨eW,Y,λr D=>(U r (by omega)).trans (PW r D),by simp[sv,hlen],λi q u O E=>?_⟩
   cases i with
   | zero=>
    simp[sv,List.getElem?_cons_zero,ig]at O E;subst O E
    refine vB eW _ (ahn _ _) (λj x u I E=>Xj p.2 _ j x u I (xx j x u I E) U)
   | succ i=>
    simp[ List.getElem?_cons_succ]at O E;exact Z i q u O E
def jv.home{nm:Nat -> Nat}:∀ (ps:aa Pt) (off:Nat) (C:aa Value) {B':Nat},jv w B af nm off ps C -> B' <= B -> (∀ b,B <= b -> az b=af b) -> (∀ b k,af b=some k -> B <= b) -> jv w B' az nm off ps C
 |[],_,[],_,h,_,_,_=>h
 | p :: ps,off,v :: C,B',h,hB,D,E=>by
  obtain⟨⟨I,us,T,U,Y⟩,Z⟩:=h
  refine⟨⟨I,us,T,U,λj x O=>?_⟩,jv.home ps _ C Z hB D E⟩
  obtain⟨v',tQ,fo⟩:=Y j x O;exact⟨v',tQ,fo.home hB D E (bS.1 I x (gy O))⟩
def Kr(w:World)(o:Oper)(a:Act)(f:Nat)(args:Array Operand)(D:Array TypeId)(E:o.op = .call { callee:=.value (.func f),args,argTypes:=D })(I:enters P f):(execOp a.eval o).run P w = .ok (.enter f (args.map a.eval)) w:=by
 obtain⟨fn,O,T,C⟩:=I;have U:¬ fn.name = "runtime.NumGoroutine":=by simpa using T
 have Y:¬ fn.body=none:=by intro e;rw[e]at C;cases C
 simp[execOp,E,resolve,Act.eval,Deferred.ofValue,invoke,callFunc,Sem.run,O,U,Y]
def aho{f:Nat}{args:Array Operand}{iM:Array TypeId}{c:jf}{k:S->ah X}(ho:o.op = .call { callee:=.value (.func f),args,argTypes:=iM })(hd:o.dst=some d)(he:enters P f)(hc:iL P f c)(xy:d<N){ps:aa Pt}(lG:∀ af ρ a w,Rl w0 N af ρ σ a w->oJ w ps (args.toList.map a.eval).toArray)
  (h2:(c.run X ps λE=>m6 σ d E k)=some r):∃cB,k cB=some r/\kP P w0 N o σ cB:=by
 obtain⟨E,I,PX⟩:=(hc.1 ps).lD h2;have Gb:=hc.2 ps E (PX _ _);unfold m6 at I;have step:∀ a w K Q af ρ,Rl w0 N af ρ σ a w->(∀ v w' az,Below w.heap.size w w'->Rl w0 N az ρ σ a w'->pO w' w0.heap.size az (λn=>1000000000100000+1000*d+n) E v->K (a.put o.dst v) w')->o.wp P a w K Q:=by
  intro a w K Q af ρ C U;unfold Oper.wp;rw[Kr w o a f args iM ho he,Oper.upon_enter];have xz:(args.map a.eval)=(args.toList.map a.eval).toArray:=by apply Array.ext';rw[Array.toList_map]
  rw[xz]
  refine(Gb (λn=>1000000000100000+1000*d+n) w _ (lG af ρ a w C) (w0.on C.below (λ_ _ h=>by cases h))).mono λe w' qX=>?_
  obtain⟨v,DE,rfl,Y,kQ,O⟩:=qX;have hB:=C.below.size;let dx:bh:=λb=>if b<w.heap.size then af b else DE b
  have e1:∀b,b<w.heap.size->dx b=af b:=λb Z=>aW Z
  have e2:∀b,w.heap.size<=b->dx b=DE b:=λb Z=>aX
  refine U v w' dx Y (C.grow Y e1 (λb k Z T=>?_)) ?_
  ·rw[e2 b Z]at T;exact(kQ b k T).2
  ·cases E with
   |one p=>exact jv.home [p] 0 [v] O hB e2 (λb k T=>(kQ b k T).1)
   | eU xB=>
    obtain⟨D,e,hv⟩:=O;exact⟨D,e,jv.home xB 0 D.toList hv hB e2 (λb k T=>(kQ b k T).1)⟩
 cases E with
 | one p=>
  simp only at I;split at I
  ·rename_i y hy
   refine⟨_,I,λa w K Q C U=>?_⟩
   obtain⟨af,ρ,C⟩:=C
   refine step a w K Q af ρ C λv w' az Y dm O=>?_
   obtain⟨ρ',m7,_,_,pU⟩:=Ga [p] (1000000000100000+1000*d) 0 σ ρ [v] (by omega) dm O;rw[hd];have PY:=pU 0 _ v rfl rfl;exact U _ _ ⟨az,ρ',m7.set (Pg hy PY) xy⟩
  ·cases I
 | eU xB=>
  refine⟨_,I,λa w K Q C U=>?_⟩
  obtain⟨af,ρ,C⟩:=C
  refine step a w K Q af ρ C λv w' az Y dm O=>?_
  obtain⟨D,rfl,hv⟩:=O;obtain⟨ρ',m7,_,hlen,pU⟩:=Ga xB (1000000000100000+1000*d) 0 σ ρ D.toList (by omega) dm hv;rw[hd]
  refine U _ _ ⟨az,ρ',m7.set ⟨D,rfl,by simpa using hlen,λj p hp=>?_⟩ xy⟩
  have hj:j<D.size:=by
   have:=(dI.1 hp).1;rw[Nat.add_zero]at hlen;rw[<-hlen]at this
   simpa using this
  exact⟨D[j],Array.getElem?_eq_getElem hj,pU j p _ hp (by rw[Array.getElem?_toList,Array.getElem?_eq_getElem hj])⟩
def Xk{f:Nat}{args:Array Operand}{E:Array TypeId}{c:jf}{k:S->ah X}{ev:(aa Pt->ah X)->ah X}(I:o.op = .call { callee:=.value (.func f),args,argTypes:=E })(O:o.dst=some d)(T:enters P f)(U:iL P f c)
  (Y:∀k,ev k=some r->∃ps,k ps=some r/\∀af ρ a w,Rl w0 N af ρ σ a w->oJ w ps (args.toList.map a.eval).toArray) (h:sx N σ d c ev k=some r):∃D,k D=some r/\kP P w0 N o σ D:=by
 unfold sx at h;cases C:Nat.blt d N with
 |false=>rw[C]at h;cases h
 | true=>
  rw[C,aq]at h;obtain⟨ps,Z,lG⟩:=Y _ h;exact aho I O T U (cu C) lG Z
end
def ey(af:bh)(rs:aa (Nat×Nat))(nm:Nat->Nat):bh:=λb=>
 match af b with
 |none=>none
 | some k=>match k.getLast? with
  |none=>none
  |some r=>(rs.lookup r).map λn=>k.dropLast++[nm n]
section
variable {P:Program} {w w':World} {w0:Wd} {B N:Nat} {af az:bh} {ρ ρ':Nat->Loc} {σ:S} {a:Act} {X:Type} {d:Nat} {r:X} {rs:aa (Nat×Nat)} {nm:Nat->Nat}
def zu{b:Nat}(h:af b=none):ey af rs nm b=none:=by simp[ey,h]
def RV.ey{p:aa Nat}{r n:Nat}{x:V}{v:Value}(h:RV w B af (p++[r]) x v)(D:rs.lookup r=some n):RV w B (ey af rs nm) (p++[nm n]) x v:=
 h.map (Q:=λq C=>∃ p,q=p++[r]/\C=p++[nm n]) (dH _) (λb _ h=>⟨rfl,zu h⟩) (λb q C _ E e=>by
  obtain⟨p,rfl,rfl⟩:=e;exact⟨rfl,by simp[Proofs.YtgjfmljpdnnihaaGreat.ey,E,D],λj i s=>⟨j::i::s::p,rfl,rfl⟩⟩) (.inr ⟨p,rfl,rfl⟩)
def PZ{m:Nat -> ah aQ}:∀ (xs:aa Lf) (off:Nat) (ys:aa V) (E:aa (Nat×Nat)),F8 m off xs=some (ys,E) -> ys.length=xs.length /\ ∀ (j:Nat) x,xs[j]?=some x -> ∃ y,ys[j]?=some y/\y.loc=true/\((x = .v y/\y.aF=true) \/ ∃ r,x = .own [r]/\m r=some (.sl y)/\(r,off+j)∈E)
 | [],off,ys,E,h=>by
  simp only[F8,ig,Prod.mk.injEq]at h;obtain⟨rfl,rfl⟩:=h;exact⟨rfl,λj x C=>by simp at C⟩
 | x :: xs,off,ys,E,h=>by
  have Z:∀ y z,PU m x=some (y,z) -> y.loc=true/\((z=none/\x = .v y/\y.aF=true) \/ ∃ r,z=some r/\x = .own [r]/\m r=some (.sl y)):=by
   intro y z D;unfold PU at D
   grind
  unfold F8 at h;split at h
  ·rename_i y I O T U;simp only[ig,Prod.mk.injEq]at h;obtain⟨rfl,rfl⟩:=h;obtain⟨Y,h2⟩:=PZ xs (off+1) I O U
   refine⟨by simp[Y],λj x' C=>?_⟩
   cases j with
   | zero=>
    simp at C;subst C;obtain⟨hl,D|⟨r,D,_⟩⟩:=Z y none T
    ·simp_all
    ·cases D
   |succ j =>grind
  ·rename_i y r I O T U;simp only[ig,Prod.mk.injEq]at h;obtain⟨rfl,rfl⟩:=h;obtain⟨Y,h2⟩:=PZ xs (off+1) I O U
   refine⟨by simp[Y],λj x' C=>?_⟩
   cases j with
   | zero=>
    simp at C;subst C;obtain⟨hl,D|⟨r',D,e1,e2⟩⟩:=Z y (some r) T
    ·cases D.1
    ·simp_all
   |succ j =>grind
  ·cases h
def P0{m:Nat -> ah aQ}(hm:∀ r x,m r=some x -> dS w B af ρ r x):∀ (ps:aa (Bool×aa Lf)) (off:Nat) (I:aa Pt) (O:aa (Nat×Nat)) (C:aa Value),DD m off ps=some (I,O) -> (∀ p∈O,rs.lookup p.1=some p.2) -> C.length=ps.length ->
  (∀(i:Nat) p v,ps[i]?=some p -> C[i]?=some v -> RP w B af ρ p v) -> jv w B (ey af rs nm) nm off I C
 | [],off,I,O,C,h,_,T,_=>by
  have:C=[]:=vg T;subst this;simp only[DD,ig,Prod.mk.injEq]at h;obtain⟨rfl,rfl⟩:=h;trivial
 | p :: ps,off,I,O,C,h,gV,T,hp=>by
  cases C with
  |nil=>simp at T
  | cons v C=>
   unfold DD at h;split at h
   ·rename_i ys rs1 qs' Bu h1 h2;simp only[ig,Prod.mk.injEq]at h;obtain⟨rfl,rfl⟩:=h;obtain⟨hlen,JP⟩:=PZ _ _ _ _ h1;have vu:=P0 hm ps _ qs' Bu C h2 (λq hq=>gV q (List.mem_append_right _ hq)) (by simpa using T) (λi q u hq hu=>hp (i+1) q u (by simpa using hq) (by simpa using hu));have zv:=hp 0 p v rfl rfl;have key:∀ us:Array Value,eC w B af ρ p.2 us -> (us.size=ys.length /\ ∀ (j:Nat) x,ys[j]?=some x -> ∃ u,us[j]?=some u/\RV w B (ey af rs nm) [nm (off+j)] x u):=by
     intro us U
     refine⟨by rw[hlen];exact U.1,λj y Y=>?_⟩
     have Z:j<p.2.length:=by rw[<- hlen];exact(dI.1 Y).1
     obtain⟨y',E,P1,hz⟩:=JP j _ (bK Z);rw[Y]at E;injection E with E;subst E;obtain⟨u,hu,hr⟩:=U.2 j _ (bK Z);refine⟨u,hu,?_⟩;rcases hz with ⟨e,hf⟩|⟨r,e,hmr,vC⟩
     ·rw[e]at hr;exact(hr.2.JU hf (λb=>zu)).key hf
     ·rw[e]at hr;have dY:=hm r _ hmr;generalize D:aQ.sl y=z at dY;cases dY with
      |aA=>cases D
      |mp=>cases D
      |gh=>cases D
      | sl v' y' bX jJ=>
       injection D with D;subst D;have Gc:v'=u:=by
        have h4:=hr.2;simp only[cK,bX]at h4;simp_all
       subst Gc;exact RV.ey (p:=[]) jJ (gV (r,off+j) (List.mem_append_left _ vC))
    refine⟨⟨?_,?_⟩,?_⟩
    ·rw[bS];intro y Y;obtain⟨j,Z⟩:=List.mem_iff_getElem?.1 Y;have wX:j<p.2.length:=by rw[<- hlen];exact(dI.1 Z).1
     obtain⟨y',E,P1,_⟩:=JP j _ (bK wX);simp_all
    ·obtain⟨b,xs⟩:=p;cases b with
     | true=>
      obtain⟨us,e,U⟩:=zv;obtain⟨k1,k2⟩:=key us U;exact⟨us,e,k1,k2⟩
     | false=>
      obtain⟨k1,k2⟩:=key #[v] zv;exact⟨#[v],rfl,k1,k2⟩
    ·grind
   ·cases h
def ahp{t:TypeId}{x:A}{k:A->ah X}(h:nI P σ t x k=some r){u:Value}(C:RA w B af ρ x u):∃ ad,u = .pointer (some ad):=by
 unfold nI at h;split at h
 ·cases h
 ·split at h
  ·obtain⟨b,off,_,rfl⟩:=C;exact⟨_,rfl⟩
  ·obtain⟨b,off,rfl,_⟩:=C;exact⟨_,rfl⟩
  ·obtain⟨ad,rfl,_⟩:=C;exact⟨_,rfl⟩
  ·cases h
def Xl{x:A}{p:Bool×aa Lf}(h:Kq x=some p){u:Value}(D:RA w B af ρ x u):RP w B af ρ p u:=by
 unfold Kq at h;split at h
 ·injection h with h;subst h
  refine⟨rfl,λj y C=>?_⟩
  cases j with
  |zero=>simp at C;subst C;exact⟨u,rfl,D⟩
  |succ j=>simp at C
 ·injection h with h;subst h;exact D
 ·cases h
def qY(tmps:Array Value):ResultVar->Sem Value
 |.tmp t=>pure (tmps.getD t undef)
 |.cell a t=>do loadVar t (<-asAddr (tmps.getD a undef))
def Gd:∀ (l:aa ResultVar) (k:aa (Bool×aa Lf) -> ah X),sy P σ l k=some r -> ∃ ps,k ps=some r /\ ∀ af ρ a w,Rl w0 N af ρ σ a w -> ∃ C,(l.mapM (qY a.tmps)).run P w = .ok C w/\C.length=ps.length /\ ∀ (i:Nat) p v,ps[i]?=some p -> C[i]?=some v -> RP w w0.heap.size af ρ p v
 |[],k,h=>⟨[],h,λ_ _ _ _ _=>⟨[],rfl,rfl,λi p v E=>by simp at E⟩⟩
 | .tmp t :: rest,k,h=>by
  simp only[sy]at h;split at h
  ·rename_i p E;obtain⟨ps,U,Y⟩:=Gd rest _ h
   refine⟨p::ps,U,λaf ρ a w D=>?_⟩
   obtain⟨C,Z,hl,hv⟩:=Y af ρ a w D
   refine⟨a.tmps.getD t undef::C,?_,by simp[hl],λi q u I O=>?_⟩
   ·rw[List.mapM_cons];simp[qY,Sem.run_pure,lU,fR,Z]
   ·cases i with
    |zero=>simp only[List.getElem?_cons_zero,ig]at I O;subst I O;exact Xl E (D.tmp t)
    |succ i=>grind
  ·cases h
 | .cell c ty :: rest,k,h=>by
  simp only[sy]at h;obtain⟨y,hy,hld⟩:=WG (w0:=w0) (N:=N) h;split at hy
  ·rename_i p E;obtain⟨ps,U,Y⟩:=Gd rest _ hy
   refine⟨p::ps,U,λaf ρ a w D=>?_⟩
   obtain⟨C,Z,hl,hv⟩:=Y af ρ a w D;obtain⟨v,T,xw⟩:=hld af ρ a w D _ (D.tmp c);obtain⟨ad,oz⟩:=ahp h (D.tmp c);rw[oz]at T;have T:(loadVar ty ad).run P w = .ok v w:=by
    simpa [Instr.loadAt,Instr.sureAddr]using T
   refine⟨v::C,?_,by simp[hl],λi q u I O=>?_⟩
   ·rw[List.mapM_cons];simp[qY,oz,asAddr,Sem.run_pure,lU,fR,Z,T]
   ·cases i with
    |zero=>simp at I O;subst I O;exact Xl E xw
    |succ i=>grind
  ·cases hy
def ahq{fn:Func}{k:fL -> ah X}(h:F9 P σ fn.results k=some r):∃ res,k res=some r /\ ∀ af ρ a w,Rl w0 N af ρ σ a w -> ∀ nm,∃ v az,(results fn a.tmps).run P w = .ok v w/\(∀ b k,az b=some k -> (w0.heap.size <= b \/ w0.L b≠none)/\b<w.heap.size/\k≠[])/\pO w w0.heap.size az nm res v:=by
 unfold F9 at h;obtain⟨ps,O,pU⟩:=Gd (w0:=w0) (N:=N) _ _ h;clear h;split at O
 ·rename_i U rs P2;cases ho:once rs with
  |false=>grind
  | true=>
   rw[ho,aq]at O;have gV:∀ p∈rs,rs.lookup p.1=some p.2:=by
    intro p hp;have:=bS.1 ho p hp;obtain⟨n,hn,he⟩:=(Option.any_eq_true _ _).1 this;simp_all
   have core:∀ af ρ a w,Rl w0 N af ρ σ a w -> ∀ nm:Nat -> Nat,∃ C:aa Value,(fn.results.mapM (qY a.tmps)).run P w = .ok C.toArray w/\(∀ b k,ey af rs nm b=some k -> (w0.heap.size <= b \/ w0.L b≠none)/\b<w.heap.size/\k≠[])/\jv w w0.heap.size (ey af rs nm) nm 0 U C:=by
    intro af ρ a w I nm;obtain⟨C,T,hl,hv⟩:=pU af ρ a w I
    refine⟨C,?_,λb k E=>?_,P0 I.root ps 0 U rs C P2 gV hl hv⟩
    ·rw[Array.mapM_eq_mapM_toList];simp[T]
    ·unfold ey at E;split at E
     ·cases E
     ·rename_i k' oG;have:=I.cN b k' oG;split at E
      ·cases E
      ·cases ud:rs.lookup _ with
       |none=>rw[ud]at E;cases E
       | some n=>
        rw[ud]at E;injection E with E;subst E;simp_all
   have jM:∀ (tmps:Array Value),results fn tmps=(do let C <- fn.results.mapM (qY tmps);pure (if h:C.size=1 then C[0]else .tuple C)):=λtmps=>by
    unfold results;congr 1
   split at O
   ·rename_i p
    refine⟨_,O,λaf ρ a w I nm=>?_⟩
    obtain⟨C,T,Y,D⟩:=core af ρ a w I nm
    match C,D with
    |[v],D=>exact⟨v,_,by rw[jM,fR,T];rfl,Y,D⟩
    |[],D=>exact D.elim
    |_::_::_,D=>exact D.2.elim
   ·rename_i Z
    refine⟨_,O,λaf ρ a w I nm=>?_⟩
    obtain⟨C,T,Y,D⟩:=core af ρ a w I nm;have ia:C.toArray.size≠1:=by
     intro e
     match U,C,D,Z with
     |[q],[v],_,Z=>exact Z q rfl
     |[],[v],D,_=>exact D.elim
     |_::_::_,[v],D,_=>exact D.2.elim
    refine⟨.tuple C.toArray,_,?_,Y,C.toArray,rfl,D⟩;rw[jM,fR,T,lU];simp only[ia,dif_neg,not_false_eq_true,Sem.run_pure]
 ·cases O
end
inductive In where
 |aA (cs:List V)
 |sl (y:V)
def nF(i:Nat):Nat:=20000+1000*i
def nC(i j:Nat)(x:V):Nat:=bif x.aF then 20001+1000*i+j else 60000+1000*i+j
def zy(i j:Nat)(x:V):Lf:=bif x.plain then .v x else .own [nC i j x]
def zz(i:Nat):Nat->aa V->aa Lf
 |_,[]=>[]
 |j,x::xs=>zy i j x::zz i (j+1) xs
def P3(i:Nat):Nat->aa V->(Nat->ah aQ)->(Nat->ah aQ)
 |_,[],m=>m
 |j,x::xs,m=>P3 i (j+1) xs (bif x.plain then m else bD m (nC i j x) (some (.sl x)))
def Ks:Nat->aa In->(Nat->ah aQ)->(Nat->ah aQ)
 |_,[],m=>m
 |i,.aA cs::r,m=>Ks (i+1) r (P3 i 0 cs (bD m (nF i) (some (.aA (zz i 0 cs)))))
 |i,.sl y::r,m=>Ks (i+1) r (bD m (nF i) (some (.sl y)))
inductive Ar where
 |pt (p:Pt)
 |mut (i off:Nat)
def P4(C:aa In):Ar->A
 |.pt (false,[x])=>.lf (.v x)
 |.pt (true,xs)=>.agg (xs.map .v)
 |.pt (false,.bool false::.int .i64 g::c::cs)=>.mW g.toNat (c::cs)
 |.pt _=>.undef
 | .mut i off=>match C[i]? with
  |some (.aA _)=>.aJ (nF i) off
  |some (.sl _)=>.lf (.own [nF i])
  |none=>.undef
def xD(C:aa In)(args:aa Ar):S:=⟨λk=>match args[k]? with
 |some x=>P4 C x
 |none=>.undef,Ks 0 C (λ_=>none)⟩
def qZ(w w':World)(az:bh)(ρ:Nat->Loc)(nm:Nat->Nat):Nat->Nat->aa In->aa In->Prop
 |_,_,[],[]=>True
 | i,D,.aA cs :: r,.aA eS :: I=>(∃ b off cells O e U,ρ (nF i) = .aA b off/\w.heap[b]?=some (.cells cells e (0,0))/\w'.heap[b]?=some (.cells O U (0,0))/\az b=some [nm D]/\off+eS.length<=O.size/\eS.length=cs.length/\
   ∀(j:Nat) C,eS[j]?=some C->∃u,O[off+j]?=some u/\((C.plain=true/\∀(w:World) (B:Nat) (af:bh) (q:aa Nat),RV w B af q C u)\/(C = .nil/\u = .slice none 0 0/\∃E,cs[j]?=some E/\E.aF=false)\/(C.plain=false/\C.aF=true/\C.jI=true/\(∃E,cs[j]?=some E/\Wk E C)/\cells[off+j]?=some u)\/(C.aF=false/\RV w' w.heap.size az [nm (D+1+j)] C u)))/\
   qZ w w' az ρ nm (i+1) (D+1+cs.length) r I
 |i,D,.sl y::r,.sl T::I=>(T = .nil\/∃v,ρ (nF i) = .dA v/\RV w' w.heap.size az [nm D] T v)/\qZ w w' az ρ nm (i+1) (D+1) r I
 |_,_,_,_=>False
def Ge(w w':World)(az:bh)(ρ:Nat->Loc)(nm:Nat->Nat):Nat->Nat->aa In->aa In->Prop
 |_,_,[],[]=>True
 | i,D,.aA cs :: r,.aA eS :: E=>(∃ b off cells I e T,ρ (nF i) = .aA b off/\w.heap[b]?=some (.cells cells e (0,0))/\w'.heap[b]?=some (.cells I T (0,0))/\az b=some [nm D]/\off+eS.length<=I.size/\eS.length=cs.length/\
   ∀(j:Nat) C,eS[j]?=some C->∃u,I[off+j]?=some u/\((C.plain=true/\∀(w:World) (B:Nat) (af:bh) (q:aa Nat),RV w B af q C u)\/(C.plain=false/\C.aF=true/\cells[off+j]?=some u)\/(C.aF=false/\RV w' w.heap.size az [nm (D+1+j)] C u)))/\
   Ge w w' az ρ nm (i+1) (D+1+cs.length) r E
 |i,D,.sl y::r,.sl O::E=>(O = .nil\/∃v,ρ (nF i) = .dA v/\RV w' w.heap.size az [nm D] O v)/\Ge w w' az ρ nm (i+1) (D+1) r E
 |_,_,_,_=>False
def fL.len:fL->Nat
 |.one p=>p.2.length
 |.eU ps=>(ps.map λp=>p.2.length).sum
def oK(w:World)(B:Nat)(af:bh)(ρ:Nat->Loc):Nat->aa In->Prop
 |_,[]=>True
 |i,.aA cs::r=>dS w B af ρ (nF i) (.aA (zz i 0 cs))/\(∀(j:Nat) x,cs[j]?=some x->x.plain=false->dS w B af ρ (nC i j x) (.sl x))/\oK w B af ρ (i+1) r
 |i,.sl y::r=>dS w B af ρ (nF i) (.sl y)/\oK w B af ρ (i+1) r
/-! The end: what is given back,and what the written parameters hold. -/
def P5(m:Nat->ah aQ)(i j:Nat)(C:V):Lf->ah (V×ah Nat)
 |.v x=>bif x.plain then some (x,none)else (bif !x.jI && !C.aF then some (.nil,none)else none)
 | .own [r]=>match m r with
  |some (.sl y)=>bif y.aF then (bif !C.plain&&(C.aF&&C.jI)&&Nat.beq r (20001+1000*i+j)&&Nat.blt r 60000 then some (C,none)else none)else (bif y.loc then some (y,some r)else none)
  |_=>none
 |_=>none
def Bv(m:Nat->ah aQ)(i C:Nat):Nat->aa V->aa Lf->ah (aa V×aa (Nat×Nat))
 |_,[],[]=>some ([],[])
 | j,D :: xs,l :: E=>match P5 m i j D l,Bv m i C (j+1) xs E with
  |some (y,none),some (ys,rs)=>some (y::ys,rs)
  |some (y,some r),some (ys,rs)=>some (y::ys,(r,C+1+j)::rs)
  |_,_=>none
 |_,_,_=>none
def V.gone:V->Bool
 |.sl _ o _ _=>Nat.ble 1000000 o
 |_=>false
def zB(m:Nat->ah aQ):Nat->Nat->aa In->ah (aa In×aa (Nat×Nat))
 |_,_,[]=>some ([],[])
 | i,C,.aA cs :: r=>match bif Nat.blt (nF i) 60000 then m (nF i)else none with
  | some (.aA I)=>match Bv m i C 0 cs I,zB m (i+1) (C+1+cs.length) r with
   |some (eS,rs),some (os,D)=>some (.aA eS::os,(nF i,C)::(rs++D))
   |_,_=>none
  |_=>none
 | i,C,.sl O :: r=>bif O.gone then (match zB m (i+1) (C+1) r with
   |some (os,D)=>some (.sl .nil::os,D)
   |none=>none)else match bif Nat.blt (nF i) 60000 then m (nF i)else none with
  | some (.sl E)=>bif E.loc && !E.aF then (match zB m (i+1) (C+1) r with
   |some (os,D)=>some (.sl E::os,(nF i,C)::D)
   |none=>none)else none
  |_=>none
def Gf{X:Type}(P:Program)(σ:S)(fn:Array ResultVar)(C:aa In)(k:aa In->fL->ah X):ah X:=
 sy P σ fn.toList λps=>match DD σ.m 0 ps with
  | some (qs,rs)=>match zB σ.m 0 (qs.map λp=>p.2.length).sum C with
   | some (os,D)=>bif once (rs++D)then (match qs with
    |[p]=>k os (.one p)
    |qs=>k os (.eU qs))else none
   |none=>none
  |none=>none
/-! Types of parameters and results. -/
def iw:aa (Bool×TC×Nat)->Type
 |[]=>aj
 |[(_,t,_)]=>T t
 |(_,t,_)::r=>T t×iw r
def ue:(l:aa (Bool×TC×Nat))->iw l->aa Pt
 |[],_=>[]
 |[(b,t,g)],x=>[(b,enc t g x)]
 |(b,t,g)::q::r,x=>(b,enc t g x.1)::ue (q::r) x.2
def pW:(l:aa (Bool×TC×Nat))->aa Pt->ah (iw l)
 |[],[]=>some ()
 |[(b,t,g)],[(C,D)]=>bif b==C then dec t g D else none
 | (b,t,g) :: q :: r,(C,D) :: ps=>bif b==C then (match dec t g D,pW (q :: r) ps with
  |some x,some xs=>some (x,xs)
  |_,_=>none)else none
 |_,_=>none
def lH(l:aa (Bool×TC×Nat)):fL->ah (iw l)
 |.one p=>pW l [p]
 |.eU ps=>bif Nat.beq ps.length 1 then none else pW l ps
def eP(l:aa (Bool×TC×Nat))(x:iw l):fL:=
 match ue l x with
 |[p]=>.one p
 |ps=>.eU ps
inductive PK where
 |v (b:Bool) (t:TC)
 |p (t:TC) (g off:Nat)
 |s (t:TC) (g:Nat)
def kR:aa PK->Type
 |[]=>aj
 |.v _ t::r=>T t×kR r
 |.p t _ _::r=>T t×kR r
 |.s t _::r=>aa (T t)×kR r
def q5:aa (Bool×TC×Nat)->Type
 |[]=>aj
 |(true,t,_)::r=>T t×q5 r
 |(false,t,_)::r=>aa (T t)×q5 r
def iN:(l:aa (Bool×TC×Nat))->q5 l->aa In
 |[],_=>[]
 |(true,t,g)::r,x=>.aA (enc t g x.1)::iN r x.2
 |(false,t,g)::r,x=>.sl (bif Nat.ble 1000000 g then .nil else .sl t (g+2) false x.1)::iN r x.2
def ez:aa PK->aa (Bool×TC×Nat)
 |[]=>[]
 |.v _ _::r=>ez r
 |.p t g _::r=>(true,t,g)::ez r
 |.s t g::r=>(false,t,g)::ez r
def m8:(l:aa PK)->kR l->aa In
 |[],_=>[]
 |.v _ _::r,x=>m8 r x.2
 |.p t g _::r,x=>.aA (enc t g x.1)::m8 r x.2
 |.s t g::r,x=>.sl (.sl t (g+2) false x.1)::m8 r x.2
def jN:(l:aa PK)->Nat->kR l->aa Ar
 |[],_,_=>[]
 |.v b t::r,i,x=>.pt (b,enc t 0 x.1)::jN r i x.2
 |.p _ _ off::r,i,x=>.mut i off::jN r (i+1) x.2
 |.s _ _::r,i,x=>.mut i 0::jN r (i+1) x.2
structure m9 where
 ps:List PK
 ro:List (Bool×TC×Nat)
 F:kR ps->Option (iw ro×q5 (ez ps))
def vD(P:Program)(f:Nat)(c:m9):Prop:=
 ∀ x y,c.F x=some y->∀ (nm:Nat->Nat) (w:World) (af:bh) (ρ:Nat->Loc) (bA:Array Value),oK w w.heap.size af ρ 0 (m8 c.ps x)->(∀ b k,af b=some k->b<w.heap.size/\k≠[])->
     bA.size=c.ps.length->(∀i,RA w w.heap.size af ρ ((xD (m8 c.ps x) (jN c.ps 0 x)).t i) (bA.getD i undef))->∀C:Hd w af,
     Calls P f bA w λe w'=>∃v az,e = .returned v/\iS ⟨w,af,λ_=>none,C,λ_ _=>rfl⟩ w w'/\(∀b k,az b=some k->(w.heap.size<=b\/af b≠none)/\b<w'.heap.size/\k≠[])/\pO w' w.heap.size az nm (eP c.ro y.1) v/\Ge w w' az ρ nm 0 (eP c.ro y.1).len (m8 c.ps x) (iN (ez c.ps) y.2)
def Gg(w:World)(ρ:Nat->Loc):Nat->aa In->Prop
 |_,[]=>True
 |i,.aA cs::r=>(∃b off cells e,ρ (nF i) = .aA b off/\w.heap[b]?=some (.cells cells e (0,0))/\∀(j:Nat) x,cs[j]?=some x->x.plain=false->x.aF=true->∃u,cells[off+j]?=some u/\ρ (20001+1000*i+j) = .dA u)/\Gg w ρ (i+1) r
 |i,.sl y::r=>(∃v,ρ (nF i) = .dA v)/\Gg w ρ (i+1) r
section
variable {P:Program} {w w':World} {w0:Wd} {B N:Nat} {af az:bh} {ρ ρ':Nat->Loc} {σ:S} {a:Act} {X:Type} {d:Nat} {r:X} {rs:aa (Nat×Nat)} {nm:Nat->Nat}
def P6{m:Nat -> ah aQ}{i pos:Nat}:∀ (xs:aa V) (U:aa Lf) (D:Nat) (ys:aa V) (Y:aa (Nat×Nat)),Bv m i pos D xs U=some (ys,Y) -> ys.length=xs.length/\U.length=xs.length /\
  ∀(j:Nat) y,ys[j]?=some y -> ∃l x0,U[j]?=some l/\xs[j]?=some x0/\((l = .v y/\y.plain=true) \/ (l = .v .nil/\y = .nil/\x0.aF=false) \/ (l = .own [20001+1000*i+(D+j)]/\y=x0/\y.plain=false/\(y.aF&&y.jI)=true/\20001+1000*i+(D+j)<60000) \/ (∃q,l = .own [q]/\m q=some (.sl y)/\y.aF=false/\(q,pos+1+(D+j))∈Y))
 | [],[],D,ys,Y,h=>by
  simp only[Bv,ig,Prod.mk.injEq]at h;obtain⟨rfl,rfl⟩:=h;exact⟨rfl,rfl,λj y hy=>by simp at hy⟩
 |[],_::_,D,ys,Y,h=>by simp[Bv]at h
 |_::_,[],D,ys,Y,h=>by simp[Bv]at h
 | x0 :: xs,l :: U,D,ys,Y,h=>by
  have hc:∀ y z,P5 m i D x0 l=some (y,z) -> (z=none/\l = .v y/\y.plain=true) \/ (z=none/\l = .v .nil/\y = .nil/\x0.aF=false) \/ (z=none/\l = .own [20001+1000*i+D]/\y=x0/\y.plain=false/\(y.aF&&y.jI)=true/\20001+1000*i+D<60000) \/ (∃ q,z=some q/\l = .own [q]/\m q=some (.sl y)/\y.aF=false):=by
   intro y z C;unfold P5 at C;split at C
   ·rename_i x;cases hp:x.plain with
    | false=>
     rw[hp,av]at C;cases E:(!x.jI && !x0.aF)with
     |false=>rw[E]at C;cases C
     | true=>
      rw[E,aq]at C;simp only[ig,Prod.mk.injEq]at C;obtain⟨rfl,rfl⟩:=C;rw[aK,gk,gk]at E;have hx:x = .nil:=by
       cases x<;>first|rfl|(exact absurd E.1 (by simp[V.jI]))
      subst hx;exact .inr (.inl ⟨rfl,rfl,rfl,E.2⟩)
    |true =>grind
   ·rename_i q;split at C
    ·rename_i y1 hy1;cases hf:y1.aF with
     | true=>
      rw[hf,aq]at C;cases E:(!x0.plain&&(x0.aF&&x0.jI)&&Nat.beq q (20001+1000*i+D)&&Nat.blt q 60000)with
      |false=>rw[E]at C;cases C
      | true=>
       rw[E,aq]at C;simp only[ig,Prod.mk.injEq]at C;obtain⟨rfl,rfl⟩:=C;rw[aK,aK,aK,gk]at E;obtain⟨⟨⟨b1,b2⟩,b3⟩,b4⟩:=E;obtain rfl:=cH b3;exact .inr (.inr (.inl ⟨rfl,rfl,rfl,b1,b2,by have:=cu b4;omega⟩))
     | false=>
      rw[hf,av]at C;cases hl:y1.loc with
      |false=>rw[hl]at C;cases C
      |true =>grind
    ·cases C
   ·cases C
  unfold Bv at h;split at h
  ·rename_i y P7 P8 hy F6;simp only[ig,Prod.mk.injEq]at h;obtain⟨rfl,rfl⟩:=h;obtain⟨h1,h2,h3⟩:=P6 xs U (D+1) P7 P8 F6
   refine⟨by simp[h1],by simp[h2],λj y' I=>?_⟩
   cases j with
   | zero=>
    simp at I;subst I;refine⟨l,x0,rfl,rfl,?_⟩;rcases hc y none hy with ⟨_,O,T⟩|⟨_,O,T,Z⟩|⟨_,O,T,Z,e4,e5⟩|⟨q,hq,_⟩
    ·simp[*]
    ·simp[*]
    ·exact .inr (.inr (.inl ⟨O,T,Z,e4,e5⟩))
    ·cases hq
   | succ j=>
    obtain⟨l',x',g1,g2,g3⟩:=h3 j y' (by simpa using I);rw[show D+1+j=D+(j+1) by omega]at g3;exact⟨l',x',by simpa using g1,by simpa using g2,g3⟩
  ·rename_i y q P7 P8 hy F6;simp only[ig,Prod.mk.injEq]at h;obtain⟨rfl,rfl⟩:=h;obtain⟨h1,h2,h3⟩:=P6 xs U (D+1) P7 P8 F6
   refine⟨by simp[h1],by simp[h2],λj y' I=>?_⟩
   cases j with
   | zero=>
    simp at I;subst I;refine⟨l,x0,rfl,rfl,?_⟩;rcases hc y (some q) hy with ⟨e0,_⟩|⟨e0,_⟩|⟨e0,_⟩|⟨q',hq,O,T,Z⟩
    ·cases e0
    ·cases e0
    ·cases e0
    ·injection hq with hq;subst hq;exact .inr (.inr (.inr ⟨q,O,T,Z,.head _⟩))
   | succ j=>
    obtain⟨l',x',g1,g2,g3⟩:=h3 j y' (by simpa using I);rw[show D+1+j=D+(j+1) by omega]at g3;exact⟨l',x',by simpa using g1,by simpa using g2,g3.imp id (λg=>g.imp id (λg=>g.imp id λ⟨q',O,T,Z,e4⟩=>⟨q',O,T,Z,.tail _ e4⟩))⟩
  ·cases h
def Kt{w1:World}{P9:Nat -> Loc}{m:Nat -> ah aQ}(T:∀ r,20000 <= r -> r<60000 -> ρ r=P9 r)(U:∀ r x,m r=some x -> dS w w1.heap.size af ρ r x):
  ∀(ins:aa In) (i Z:Nat) (outs:aa In) (Gh:aa (Nat×Nat)),zB m i Z ins=some (outs,Gh) -> (∀p∈Gh,rs.lookup p.1=some p.2) -> Gg w1 P9 i ins -> qZ w1 w (ey af rs nm) P9 nm i Z ins outs
 | [],i,Z,outs,Gh,h,I,he=>by
  simp only[zB,ig,Prod.mk.injEq]at h;obtain⟨rfl,rfl⟩:=h;trivial
 | .aA cs :: r,i,Z,outs,Gh,h,I,he=>by
  unfold zB at h;cases hi:Nat.blt (nF i) 60000 with
  |false=>grind
  | true=>
   rw[hi,aq]at h;have hi:=cu hi;split at h
   ·rename_i ls Qa;split at h
    ·rename_i eS rs1 os Bu h1 h2;simp only[ig,Prod.mk.injEq]at h;obtain⟨rfl,rfl⟩:=h;obtain⟨⟨b,off,cells,e,Xm,PO,q6⟩,Gi⟩:=he;obtain⟨k1,k2,k3⟩:=P6 _ _ _ _ _ h1
     refine⟨?_,Kt T U r (i+1) _ os Bu h2 (λp D=>I p (.tail _ (List.mem_append_right _ D))) Gi⟩
     have O:=U _ _ Qa;have Qb:=T (nF i) (by unfold nF;omega) (by omega);generalize C:aQ.aA ls=x at O;cases O with
     |sl=>cases C
     |mp=>cases C
     |gh=>cases C
     | aA b' Bg xE e' ls' us E hl hh hs hc=>
      injection C with C;subst C;rw[Qb,Xm]at E;injection E with e1 e2;subst e1 e2
      refine⟨b,off,cells,xE,e,e',Xm,PO,hh,?_,by rw[k1,<- k2];exact hs,k1,λj y hy=>?_⟩
      ·have:=I _ (List.Mem.head _);simp[ey,hl,this]
      ·obtain⟨l,x0,g1,g2,g3⟩:=k3 j y hy;obtain⟨c1,c2⟩:=hc j l g1;refine⟨_,c1,?_⟩;rw[fe]at g3;rcases g3 with ⟨rfl,D⟩ | ⟨rfl,rfl,Kg⟩ | ⟨rfl,rfl,D,zj,de⟩ | ⟨q,rfl,hq,hf,vC⟩
       ·exact .inl ⟨D,λ_ _ _ _=>c2.2.tR D⟩
       ·exact .inr (.inl ⟨rfl,by have h9:=c2.2;generalize us j=u9 at h9 ⊢;cases h9;rfl,x0,g2,Kg⟩)
       ·rw[aK]at zj;obtain⟨hf,hs0⟩:=zj;obtain⟨u,hu,ahr⟩:=q6 j y g2 D hf;refine .inr (.inr (.inl ⟨D,hf,hs0,⟨y,g2,.same _⟩,?_⟩));have Y:=c2.2;have Qc:=T (20001+1000*i+j) (by omega) de;simp only[cK,Qc,ahr]at Y;simp_all
       ·refine .inr (.inr (.inr ⟨hf,?_⟩));have O:=U _ _ hq;generalize C:aQ.sl y=x at O;cases O with
        |aA=>cases C
        |mp=>cases C
        |gh=>cases C
        | sl v y' E hr=>
         injection C with C;subst C;have Y:=c2.2;simp only[cK,E]at Y;injection Y with Y;rw[<- Y];exact RV.ey (p:=[]) hr (I _ (.tail _ (List.mem_append_left _ vC)))
    ·cases h
   ·cases h
 | .sl y :: r,i,Z,outs,Gh,h,I,he=>by
  unfold zB at h;cases hg:y.gone with
  | true=>
   rw[hg,aq]at h;split at h
   next os Bu h2=>simp at h;obtain⟨rfl,rfl⟩:=h;exact⟨.inl rfl,Kt T U r _ _ os Bu h2 I he.2⟩
   ·cases h
  |false=>
  rw[hg,av]at h;cases hi:Nat.blt (nF i) 60000 with
  |false=>grind
  | true=>
   rw[hi,aq]at h;have hi:=cu hi;split at h
   ·rename_i y' F3;cases hl:(y'.loc && !y'.aF)with
    |false=>grind
    | true=>
     rw[hl,aq]at h;split at h
     ·rename_i os Bu h2;simp only[ig,Prod.mk.injEq]at h;obtain⟨rfl,rfl⟩:=h;obtain⟨⟨v,hv⟩,Gi⟩:=he
      refine⟨.inr ⟨v,hv,?_⟩,Kt T U r (i+1) _ os Bu h2 (λp D=>I p (.tail _ D)) Gi⟩
      have Qb:=T (nF i) (by unfold nF;omega) (by omega);have O:=U _ _ F3;generalize C:aQ.sl y'=x at O;cases O with
      |aA=>cases C
      |mp=>cases C
      |gh=>cases C
      | sl v' y'' E hr=>
       injection C with C;subst C;rw[Qb,hv]at E;injection E with E;subst E;exact RV.ey (p:=[]) hr (I _ (.head _))
     ·cases h
   ·cases h
def ahs{w1:World}{Y:Nat -> Loc}{fn:Func}{T:aa In}{k:aa In -> fL -> ah X}(hw:w0.w=w1)(hF:∀ r,20000 <= r -> r<60000 -> w0.F r=some (Y r))(he:Gg w1 Y 0 T)(h:Gf P σ fn.results T k=some r):
  ∃outs res,k outs res=some r /\ ∀af ρ a w,Rl w0 N af ρ σ a w -> ∀nm,∃v az,(results fn a.tmps).run P w = .ok v w/\(∀b k,az b=some k -> (w0.heap.size <= b \/ w0.L b≠none)/\b<w.heap.size/\k≠[])/\pO w w0.heap.size az nm res v/\qZ w1 w az Y nm 0 res.len T outs:=by
 unfold Gf at h;obtain⟨ps,E,pU⟩:=Gd (w0:=w0) (N:=N) _ _ h;clear h;split at E
 ·rename_i qs Qd P2;split at E
  ·rename_i os Qe hos;cases ho:once (Qd++Qe)with
   |false=>rw[ho]at E;cases E
   | true=>
    rw[ho,aq]at E;generalize Xn:Qd++Qe=rs at ho;have gV:∀ p∈rs,rs.lookup p.1=some p.2:=by
     intro p Z;have:=bS.1 ho p Z;obtain⟨n,hn,he⟩:=(Option.any_eq_true _ _).1 this;simp_all
    have core:∀ af ρ a w,Rl w0 N af ρ σ a w -> ∀ nm:Nat -> Nat,∃ C:aa Value,(fn.results.mapM (qY a.tmps)).run P w = .ok C.toArray w/\(∀ b k,ey af rs nm b=some k -> (w0.heap.size <= b \/ w0.L b≠none)/\b<w.heap.size/\k≠[])/\jv w w0.heap.size (ey af rs nm) nm 0 qs C /\
      qZ w1 w (ey af rs nm) Y nm 0 (qs.map λp=>p.2.length).sum T os:=by
     intro af ρ a w O nm;obtain⟨C,cY,hl,hv⟩:=pU af ρ a w O
     refine⟨C,?_,λb k I=>?_,P0 O.root ps 0 qs Qd C P2 (λp Z=>gV p (by rw[<- Xn];exact List.mem_append_left _ Z)) hl hv,
      Kt (λr h1 E=>O.fix r _ (hF r h1 E)) (by rw[<- hw];exact O.root) T 0 _ os Qe hos (λp Z=>gV p (by rw[<- Xn];exact List.mem_append_right _ Z)) he⟩
     ·rw[Array.mapM_eq_mapM_toList];simp[cY]
     ·unfold ey at I;split at I
      ·cases I
      ·rename_i k' oG;have:=O.cN b k' oG;split at I
       ·cases I
       ·cases ud:rs.lookup _ with
        |none=>rw[ud]at I;cases I
        | some n=>
         rw[ud]at I;injection I with I;subst I;simp_all
    have jM:∀ (tmps:Array Value),results fn tmps=(do let C <- fn.results.mapM (qY tmps);pure (if h:C.size=1 then C[0]else .tuple C)):=λtmps=>by
     unfold results;congr 1
    split at E
    ·rename_i p
     refine⟨_,_,E,λaf ρ a w O nm=>?_⟩
     obtain⟨C,cY,kQ,D,U⟩:=core af ρ a w O nm;have U:qZ w1 w (ey af rs nm) Y nm 0 (fL.one p).len T os:=by simpa [fL.len]using U
     match C,D with
     |[v],D=>exact⟨v,_,by rw[jM,fR,cY];rfl,kQ,D,U⟩
     |[],D=>exact D.elim
     |_::_::_,D=>exact D.2.elim
    ·rename_i cm
     refine⟨_,_,E,λaf ρ a w O nm=>?_⟩
     obtain⟨C,cY,kQ,D,U⟩:=core af ρ a w O nm;have ia:C.toArray.size≠1:=by
      intro e;clear U;have e:C.length=1:=by simpa using e
      match qs,C,D,cm,e with
      |[q],[v],_,cm,_=>exact cm q rfl
      |[],[v],D,_,_=>exact D.elim
      |_::_::_,[v],D,_,_=>exact D.2.elim
     refine⟨.tuple C.toArray,_,?_,kQ,⟨C.toArray,rfl,D⟩,U⟩;rw[jM,fR,cY,lU];simp only[ia,dif_neg,not_false_eq_true,Sem.run_pure]
  ·cases E
 ·cases E
def Xo{i:Nat}:∀ (cs:aa V) (D:Nat) (m:Nat -> ah aQ) (r:Nat) (x:aQ),P3 i D cs m r=some x -> m r=some x \/ ∃ j y,cs[j]?=some y/\y.plain=false/\r=nC i (D+j) y/\x = .sl y
 |[],D,m,r,x,h=>.inl h
 | c :: cs,D,m,r,x,h=>by
  rcases Xo cs _ _ r x h with C|⟨j,y,C,O,T,U⟩
  ·cases E:c.plain with
   |true=>simp_all
   | false=>
    rw[E,av]at C;by_cases I:r=nC i D c
    ·subst I;rw[bI]at C;injection C with C;exact .inr ⟨0,c,rfl,E,rfl,C.symm⟩
    ·rw[ck _ _ _ I]at C;simp_all
  ·exact .inr ⟨j+1,y,by simpa using C,O,by rw[T];congr 1;omega,U⟩
def oK.roots:∀ (C:aa In) (i:Nat) (m:Nat -> ah aQ),oK w B af ρ i C -> (∀ r x,m r=some x -> dS w B af ρ r x) -> ∀ r x,Ks i C m r=some x -> dS w B af ρ r x
 |[],i,m,_,I,r,x,h=>I r x h
 | .aA cs :: C,i,m,O,I,r,x,h=>by
  obtain⟨Y,Z,T⟩:=O
  refine oK.roots C _ _ T (λr x E=>?_) r x h
  rcases Xo cs 0 _ r x E with U|⟨j,y,g1,g2,g3,g4⟩
  ·by_cases D:r=nF i
   ·subst D;rw[bI]at U;simp_all
   ·rw[ck _ _ _ D]at U;simp_all
  ·simp_all
 | .sl y :: C,i,m,O,I,r,x,h=>by
  obtain⟨Y,T⟩:=O
  refine oK.roots C _ _ T (λr x E=>?_) r x h
  by_cases D:r=nF i
  ·subst D;rw[bI]at E;simp_all
  ·rw[ck _ _ _ D]at E;simp_all
def Qf{i:Nat}:∀ (cs:aa V) (C j:Nat) x,cs[j]?=some x->(zz i C cs)[j]?=some (zy i (C+j) x)
 |[],C,j,x,h=>by simp at h
 |c::cs,C,0,x,h=>by simp at h;subst h;rfl
 | c :: cs,C,j+1,x,h=>by
  simp only[zz,List.getElem?_cons_succ];rw[Qf cs (C+1) j x (by simpa using h)];congr 2;omega
def oK.Qg:∀ (C:aa In) (i:Nat),oK w B af ρ i C -> Gg w ρ i C
 |[],_,_=>trivial
 | .aA cs :: C,i,I=>by
  obtain⟨E,_,O⟩:=I;refine⟨?_,oK.Qg C (i+1) O⟩;generalize D:aQ.aA (zz i 0 cs)=x at E;cases E with
  |sl=>cases D
  |mp=>cases D
  |gh=>cases D
  | aA b off cells e ls us Y hl Z hs hc=>
   injection D with D;subst D
   refine⟨b,off,cells,e,Y,Z,λj x hj hp hf=>?_⟩
   obtain⟨c1,T⟩:=hc j _ (Qf cs 0 j x hj);rw[fe]at T;refine⟨_,c1,?_⟩;have e1:zy i j x = .own [20001+1000*i+j]:=by simp[zy,hp,nC,hf]
   rw[e1]at T;have U:=T.2;simp only[cK]at U;split at U
   ·simp_all
   ·cases U
 | .sl y :: C,i,I=>by
  obtain⟨E,O⟩:=I;refine⟨?_,oK.Qg C (i+1) O⟩;cases E with
  |sl v y' Y hr=>simp_all
end
def cP(n:Nat):aa Nat->Bool
 |[]=>false
 |m::l=>Nat.beq n m ||cP n l
def uf{n:Nat}:∀ {l:aa Nat},cP n l=true ↔ n∈l
 |[]=>by simp[cP]
 | m :: l=>by
  simp only[cP,dZ,gp,uf];simp_all
def Xp{n:Nat}{l:aa Nat}(h:cP n l=false):n ∉ l:=λk=>by rw[uf.2 k]at h;cases h
def fI(k l:aa Nat):Bool:=match k.getLast? with
 |some r=>cP r l
 |none=>false
def vE(ns cn:aa Nat):mX:=⟨λk=>fI k cn ||(fI k ns && !(Nat.beq k.length 1)),λk=>fI k cn ||fI k ns,λr=>cP r cn⟩
def Lf.c8(ns cn:aa Nat):Lf->Lf:=Lf.cg (vE ns cn).l
def A.c8(ns cn:aa Nat):A->A:=A.cg (vE ns cn)
def aQ.c8(ns cn:aa Nat):aQ->aQ:=aQ.cg (vE ns cn)
def S.c8(σ:S)(ns cn:aa Nat)(nr:aa (Nat×aQ)):S:=⟨λk=>(σ.t k).c8 ns cn,λr=>match nr.lookup r with
 |some x=>some x
 |none=>bif cP r ns ||cP r cn then none else (σ.m r).map (aQ.c8 ns cn)⟩
structure ug (w w':World) (af dx:bh) (ρ eW:Nat->Loc) (ns cn:List Nat):Prop where
 size:w.heap.size<=w'.heap.size
 same:∀b,b<w.heap.size->(∀k,af b=some k->fI k ns=false)->w'.heap[b]?=w.heap[b]?/\dx b=af b
 eV:∀r,cP r cn=false->eW r=ρ r
 af:∀b k,af b=some k->b<w.heap.size/\k≠[]
section
variable {P:Program} {w w':World} {w0:Wd} {B N:Nat} {af dx az:bh} {ρ eW:Nat->Loc} {σ:S} {a:Act} {X:Type} {d:Nat} {r:X} {ns cn:aa Nat}
def Xq{j i s:Nat}{q l:aa Nat}(h:q≠[]):fI (j :: i :: s :: q) l=fI q l:=by
 cases q with
 |nil=>simp_all
 |cons x q=>simp[fI]
def ug.tr(C:ug w w' af dx ρ eW ns cn):Tr w w' af dx ρ eW (λk=>fI k ns) (λr=>cP r cn):=
 ⟨C.size,λb O D=>let e:=C.same b O (λk E=>by rw[D]at E;cases E);⟨e.1,e.2.trans D⟩,λb k D E=>let e:=C.same b (C.af b k D).1 (λT I=>by rw[D]at I;injection I with I;subst I;exact E);⟨e.1,e.2.trans D⟩,C.eV,λj i s x q=>Xq (by simp),λb O=>absurd rfl (C.af b [] O).2⟩
def Qh:(vE ns cn).OK (λk=>fI k ns) (λr=>cP r cn):=by
 refine⟨λk D=>?_,λk D=>?_,λ_ h=>h⟩
 ·obtain⟨E,C⟩:=mO.1 D;refine⟨?_,E⟩;cases I:fI k ns with
  |false=>exact .inr rfl
  | true=>
   rw[I,cM,Bool.not_eq_false']at C;exact .inl (cH C)
 ·obtain⟨E,C⟩:=mO.1 D;exact⟨C,E⟩
def RV.uh(C:ug w w' af dx ρ eW ns cn){q:aa Nat}{x:V}{v:Value}(h:RV w B af q x v)(D:fI q ns=false\/x.aF=true):RV w' B dx q x v:=h.tr C.tr D.symm
def RA.uh(C:ug w w' af dx ρ eW ns cn){x:A}{u:Value}(h:RA w B af ρ x u):RA w' B dx eW (x.c8 ns cn) u:=h.tr C.tr Qh
def dK.uh(C:ug w w' af dx ρ eW ns cn){x:Lf}{u:Value}(h:dK w B af ρ x u):dK w' B dx eW (x.c8 ns cn) u:=h.tr C.tr Qh
def dS.uh(C:ug w w' af dx ρ eW ns cn){n:Nat}{x:aQ}(h:dS w B af ρ n x)(D:cP n ns=false)(E:cP n cn=false):dS w' B dx eW n (x.c8 ns cn):=h.tr C.tr Qh D E
def Rl.uh(h:Rl w0 N af ρ σ a w)(D:ug w w' af dx ρ eW ns cn)(I:iS w0 w w')(O:∀ b k,dx b=some k -> (w0.heap.size <= b \/ w0.L b≠none)/\b<w'.heap.size/\k≠[])(Y:∀ r,cP r cn=true -> w0.F r=none){nr:aa (Nat×aQ)}
  (Z:∀r x,nr.lookup r=some x -> dS w' w0.heap.size dx eW r x):Rl w0 N dx eW (σ.c8 ns cn nr) a w':=by
 refine⟨h.below.trans I,O,λr x C=>?_,λk=>(h.tmp k).uh D,h.size,h.defers,λr l T=>?_,h.cF⟩
 ·simp only[S.c8]at C;split at C
  ·simp_all
  ·cases hm:(cP r ns || cP r cn)with
   |true=>simp_all
   | false=>
    rw[hm]at C;rw[mO]at hm;cases E:σ.m r with
    |none=>simp_all
    | some y=>
     rw[E]at C;injection C with C;subst C;exact(h.root r y E).uh D hm.1 hm.2
 ·have U:cP r cn=false:=by
   grind
  exact(D.eV r U).trans (h.fix r l T)
end
inductive Mu where
 |aA (r:Nat) (cs:List Lf) (vs:List (V×Option Nat))
 |sl (q:Nat) (y:V)
def Mu.root:Mu->Nat
 |.aA r _ _=>r
 |.sl q _=>q
def vF(m:Nat->ah aQ):Lf->ah (V×ah Nat)
 |.v x=>some (x.fZ,none)
 | .own [q]=>match m q with
  |some (.sl y)=>bif y.aF then some (y.fZ,none)else some (y,some q)
  |_=>none
 |_=>none
def q7(m:Nat->ah aQ):aa Lf->ah (aa (V×ah Nat))
 |[]=>some []
 | l :: C=>match vF m l,q7 m C with
  |some v,some D=>some (v::D)
  |_,_=>none
def vG(σ:S):PK->A->ah (ah Mu)
 |.v _ _,_=>some none
 | .p _ _ off,.aJ r j=>(match (bif Nat.beq j off then σ.m r else none)with
  | some (.aA cs)=>(match q7 σ.m cs with
   |some C=>bif Nat.blt cs.length 999 then some (some (.aA r cs C))else none
   |none=>none)
  |_=>none)
 | .s _ _,.lf (.own [q])=>(match σ.m q with
  |some (.sl y)=>bif y.aF then none else some (some (.sl q y))
  |_=>none)
 |_,_=>none
def jg(σ:S):aa PK->aa Operand->ah (aa Mu)
 |[],[]=>some []
 | p :: ps,x :: xs=>(match vG σ p (aG σ x),jg σ ps xs with
  |some (some D),some C=>some (D::C)
  |some none,some C=>some C
  |_,_=>none)
 |_,_=>none
def DF(i:Nat):Nat->aa (V×ah Nat)->aa (Nat×Nat)
 |_,[]=>[]
 |j,(_,some q)::C=>(q,60000+1000*i+j)::DF i (j+1) C
 |j,(_,none)::C=>DF i (j+1) C
def kS:Nat->aa Mu->aa (Nat×Nat)
 |_,[]=>[]
 |i,.aA r _ D::C=>(r,nF i)::(DF i 0 D++kS (i+1) C)
 |i,.sl q _::C=>(q,nF i)::kS (i+1) C
def Qi(ns:aa Nat):Lf->Bool
 |.own k=>!fI k ns
 |_=>true
def sB{X:Type}(σ:S)(ns:aa Nat):aa Lf->(aa V->ah X)->ah X
 |[],k=>k []
 |x::xs,k=>bif Qi ns x then oA σ x λy=>sB σ ns xs λys=>k (y.fZ::ys)else none
def q8{X:Type}(σ:S)(ns:aa Nat)(x:A)(k:Pt->ah X):ah X:=
 match x with
 |.lf y=>sB σ ns [y] λC=>k (false,C)
 |.agg ys=>sB σ ns ys λC=>k (true,C)
 |.mW f (c::cs)=>k (false,.bool false::.int .i64 (f:Int)::c.fZ::cs.map V.fZ)
 | .fn f [(r,j)]=>bif cP r ns then none else (match σ.m r with
  | some (.aA cs)=>(match qU (cs.drop j)with
   |some (c::C)=>k (false,.bool false::.int .i64 (f:Int)::c::C)
   |_=>none)
  |_=>none)
 |_=>none
def jh{X:Type}(σ:S)(ns:aa Nat):(ps:aa PK)->aa Operand->aa Mu->(kR ps->ah X)->ah X
 |[],[],[],k=>k ()
 | .v b t :: ps,x :: xs,C,k=>q8 σ ns (aG σ x) λp=>bif p.1==b then (match dec t 0 p.2 with
  |some y=>jh σ ns ps xs C λys=>k (y,ys)
  |none=>none)else none
 | .p t g _ :: ps,_ :: xs,.aA _ _ D :: C,k=>(match (bif Nat.beq (g % 2) 0 then dec t g (D.map (·.1))else none)with
  |some y=>jh σ ns ps xs C λys=>k (y,ys)
  |none=>none)
 | .s t g :: ps,_ :: xs,.sl _ y :: C,k=>(match (bif Nat.beq (g % 2) 0 then y.fj t (g+2)else none)with
  |some z=>jh σ ns ps xs C λys=>k (z,ys)
  |none=>none)
 |_,_,_,_=>none
def xF(w:World)(ρ:Nat->Loc)(rs:aa Nat):Nat->Loc:=λn=>
 if n<60000 then (if (n-20000) % 1000=0 then ρ (rs.getD ((n-20000) / 1000) 0)else (match ρ (rs.getD ((n-20000) / 1000) 0)with
  |.aA b off=>.dA ((w.cell? ⟨b,off+((n-20000) % 1000-1),none⟩).getD undef)
  |.dA v=>.dA v
  |.bA us=>.bA us))
 else (match ρ (rs.getD ((n-60000) / 1000) 0)with
  |.aA b off=>.dA ((w.cell? ⟨b,off+(n-60000) % 1000,none⟩).getD undef)
  |.dA v=>.dA v
  |.bA us=>.bA us)
def Gj{w:World}{ρ:Nat -> Loc}{rs:aa Nat}{i r:Nat}(h:rs[i]?=some r)(hi:i<40):xF w ρ rs (nF i)=ρ r:=by
 have C:nF i<60000:=by unfold nF;omega
 have D:(nF i-20000) % 1000=0:=by unfold nF;omega
 have E:(nF i-20000) / 1000=i:=by unfold nF;omega
 have I:rs.getD i 0=r:=by rw[cL,h];rfl
 unfold xF;simp_all
def aht{w:World}{ρ:Nat -> Loc}{rs:aa Nat}{i j r b off:Nat}{u:Value}{x:V}(h:rs[i]?=some r)(hi:i<40)(C:j<999)(D:ρ r = .aA b off)(E:w.cell? ⟨b,off+j,none⟩=some u):xF w ρ rs (nC i j x) = .dA u:=by
 have I:rs.getD i 0=r:=by rw[cL,h];rfl
 unfold xF nC;cases x.aF with
 |true =>grind
 |false =>grind
def V.Ku:V->Bool
 |.sl _ o _ _=>Nat.beq (o % 2) 0
 |_=>true
section
variable {P:Program} {w w':World} {w0:Wd} {B N:Nat} {af dx az:bh} {ρ eW:Nat->Loc} {σ:S} {a:Act} {X:Type} {d:Nat} {r:X} {ns cn:aa Nat}
def RV.Xr{B':Nat}{q:aa Nat}{x:V}{v:Value}(h:RV w B af q x v)(D:x.Ku=true):RV w B' af q x v:=by
 induction h with
 |int=>exact .int _ _ _
 |bool=>exact .bool _ _
 |str=>exact .str _ _
 |nil=>exact .nil _
 |eo=>exact .eo _ _ _
 |fy=>exact .fy _ _ _ _ _ (by first|assumption|omega)
 |fH=>exact .fH _ _ _ _ _ (by first|assumption|omega)
 | aF q t o U l b off cap u Y E Z h1 iI I hr O=>
  have D:=cH D;have ho0:o=0:=by omega
  subst ho0
  refine .aF _ _ _ _ _ _ _ _ u Y E Z (by omega) iI I (λi h j x C=>O i h j x C ?_)
  have:=yR t 0 l[i] x (gy C);cases x with
  | sl t' T q' l'=>
   have:T=0:=by simpa [V.gr]using this
   subst this;rfl
  |_=>rfl
 | own q t o U l b cap cs u E hh hs hn hm I hr O=>
  have D:=cH D
  refine .own _ _ _ _ _ _ _ cs u E hh hs hn hm I (λi h j x C=>O i h j x C ?_)
  have:=yR t o l[i] x (gy C);cases x with
  | sl t' T q' l'=>
   have:T=o:=by simpa [V.gr]using this
   show Nat.beq _ 0=true;simp_all
  |_=>rfl
def RV.out{q O:aa Nat}{x:V}{v:Value}(h:RV w B af q x v)(Z:∀ b,af b=none -> az b=none)(h2:∀ b k,af b=some k -> k≠[]/\(fI k ns=false -> az b=none))(hq:x.aF=true \/ fI q ns=false){B':Nat}:RV w B' az O x.fZ v:=by
 induction h generalizing O with
 |int=>exact .int _ _ _
 |bool=>exact .bool _ _
 |str=>exact .str _ _
 |nil=>exact .nil _
 |eo=>exact .eo _ _ _
 |fy=>exact .fy _ _ _ _ _ (by first|assumption|omega)
 |fH=>exact .fH _ _ _ _ _ (by first|assumption|omega)
 | aF q t o qn l b off cap u ho E hb Wv iI T hr I=>
  refine .aF _ _ _ _ _ _ _ _ u (by omega) (Z b E) hb (by omega) iI (λi h j x C=>?_) (λi h j x C=>?_)
  ·obtain⟨y,D,_⟩:=wR t o l[i] j x C;simp_all
  ·obtain⟨y,D,rfl⟩:=wR t o l[i] j x C;exact I i h j y D (.inl (pn t o l[i] ho j y D))
 | own q t o qn l b cap cs u E U hs hn hm T hr I=>
  have Y:fI q ns=false:=by
   rcases hq with hq|hq
   ·simp[V.aF]at hq;omega
   ·exact hq
  obtain⟨cm,pJ⟩:=h2 b q E
  refine .aF _ _ _ _ _ _ _ _ u (by omega) (pJ Y) (ic.1 U).1 (by omega) hn (λi h j x C=>?_) (λi h j x C=>?_)
  ·obtain⟨y,D,_⟩:=wR t o l[i] j x C;have:=T i h j y D;rw[fe,cell_of_row w b _ cs _ _ U];exact this
  ·obtain⟨y,D,rfl⟩:=wR t o l[i] j x C;exact I i h j y D (.inr (by rw[Xq cm];exact Y))
def ahu{x:Lf}{k:V -> ah X}(h:oA σ x k=some r):∃ y,k y=some r /\ ∀ af ρ a w,Rl w0 N af ρ σ a w -> ∀ u,dK w w0.heap.size af ρ x u -> ∃ q,(x = .own q \/ y.aF=true)/\RV w w0.heap.size af q y u:=by
 cases x with
 |v y=>exact⟨y,h,λaf ρ a w D u C=>⟨[],.inr C.1,C.2⟩⟩
 |dead=>cases h
 | own q=>
  obtain⟨y,E,I⟩:=r8 q k h
  refine⟨y,I,λaf ρ a w D u C=>⟨q,.inl rfl,?_⟩⟩
  obtain⟨v,O,T⟩:=E.ok D.root;have:v=u:=by
   have U:=C.2;simp_all
  simp_all
structure By (ns:List Nat) (af az:bh):Prop where
 none:∀b,af b=none->az b=none
 rest:∀b k,af b=some k->k≠[]/\(fI k ns=false->az b=Option.none)
def Qj:∀ (xs:aa Lf) (k:aa V -> ah X),sB σ ns xs k=some r -> ∃ C,k C=some r/\C.length=xs.length /\ ∀ af ρ a w az,Rl w0 N af ρ σ a w -> By ns af az -> ∀ (j:Nat) x y u,xs[j]?=some x -> C[j]?=some y -> dK w w0.heap.size af ρ x u -> RV w w.heap.size az [] y u
 |[],k,h=>⟨[],h,rfl,λ_ _ _ _ _ _ _ j x y u T=>by simp at T⟩
 | x :: xs,k,h=>by
  unfold sB at h;cases D:Qi ns x with
  |false=>simp_all
  | true=>
   rw[D,aq]at h;obtain⟨y,U,Y⟩:=ahu (w0:=w0) (N:=N) h;obtain⟨ys,Z,hl,hr⟩:=Qj xs _ U
   refine⟨y.fZ::ys,Z,by simp[hl],λaf ρ a w az hR E j x' y' u I O hu=>?_⟩
   cases j with
   | zero=>
    simp at I O;subst I O;obtain⟨q,hq,jJ⟩:=Y af ρ a w hR u hu;refine jJ.out E.none E.rest ?_;rcases hq with rfl|hq
    ·exact .inr (by simpa [Qi]using D)
    ·simp_all
   |succ j=>grind
inductive PM (w:World) (az:bh):Pt->Value->Prop
 |v (p:Pt) (u:Value) (h:PV w w.heap.size az (λ_=>[]) p u):PM w az p u
 |f (g:Nat) (c:V) (cs:List V) (u:Value) (h:RF w w.heap.size az (c::cs) u):PM w az (false,.bool false::.int .i64 (g:Int)::c::cs) (.func (.func g) #[] #[u])
def ahv{g:Nat}{c:V}{cs ys:aa V}(D:(V.bool false :: .int .i64 (g:Int) :: c :: cs).length=ys.length)(h:∀ (j:Nat) x z,(V.bool false :: .int .i64 (g:Int) :: c :: cs)[j]?=some x -> ys[j]?=some z -> Wk x z):∃ C eS,ys = .bool false :: .int .i64 (g:Int) :: C :: eS/\kO (c :: cs) (C :: eS):=by
 match ys,D,h with
 | a :: b :: C :: eS,D,h=>
  have E:=h 0 _ a rfl rfl;have I:=h 1 _ b rfl rfl;cases E;cases I;exact⟨C,eS,rfl,by simpa using D,λj x z O T=>h (j+2) x z (by simpa using O) (by simpa using T)⟩
def RF.uj{cs C:aa V}{u:Value}(h:RF w B af cs u)(E:kO cs C)(O:∀ (j:Nat) z,C[j]?=some z->z.aF=true):RF w B af C u:=by
 obtain⟨b,off,rfl,T,U,Y⟩:=h
 refine⟨b,off,rfl,T,U,λj x D=>?_⟩
 have I:j<cs.length:=by rw[E.1];exact(dI.1 D).1
 obtain⟨_,v,Z,h5⟩:=Y j _ (bK I);exact⟨O j x D,v,Z,h5.wk (E.2 j _ x (bK I) D)⟩
def RF.fZ{cs:aa V}{u:Value}(h:RF w B af cs u)(D:∀ b,af b=none -> az b=none)(I:∀ b k,af b=some k -> k≠[]/\(fI k ns=false -> az b=none)){B':Nat}:RF w B' az (cs.map V.fZ) u:=by
 obtain⟨b,off,rfl,O,T,U⟩:=h
 refine⟨b,off,rfl,O,D b T,λj x C=>?_⟩
 rw[ef]at C;cases E:cs[j]? with
 |none=>simp_all
 | some y=>
  rw[E]at C;injection C with C;subst C;obtain⟨Y,v,Z,h5⟩:=U j y E;exact⟨V.agw y,v,Z,h5.out D I (.inl Y)⟩
def ahw{x:A}{k:Pt -> ah X}(h:q8 σ ns x k=some r):∃ p,k p=some r /\ ∀ af ρ a w az,Rl w0 N af ρ σ a w -> By ns af az -> ∀ u,RA w w0.heap.size af ρ x u -> PM w az p u:=by
 unfold q8 at h;split at h
 ·rename_i y;obtain⟨vs,U,O,Y⟩:=Qj (w0:=w0) (N:=N) _ _ h
  refine⟨_,U,λaf ρ a w az I C u D=>.v _ _ ⟨#[u],rfl,by simp[O],λj x E=>?_⟩⟩
  have T:j=0:=by
   grind
  subst T;exact⟨u,rfl,Y af ρ a w az I C 0 y x u rfl E D⟩
 ·rename_i ys;obtain⟨vs,U,O,Y⟩:=Qj (w0:=w0) (N:=N) _ _ h
  refine⟨_,U,λaf ρ a w az I C u D=>?_⟩
  obtain⟨us,rfl,Z⟩:=D
  refine .v _ _ ⟨us,rfl,by rw[O];exact Z.1,λj x E=>?_⟩
  have T:j<ys.length:=by rw[<- O];exact(dI.1 E).1
  obtain⟨v,hv,fo⟩:=Z.2 j _ (bK T);exact⟨v,hv,Y af ρ a w az I C j _ x v (bK T) E fo⟩
 ·rename_i f c cs
  refine⟨_,h,λaf ρ a w az I C u D=>?_⟩
  obtain⟨pv,rfl,sC⟩:=D;exact .f f _ _ _ (sC.fZ C.none C.rest)
 ·rename_i f r' j;cases xH:cP r' ns with
  |true=>grind
  | false=>
   rw[xH,av]at h;split at h
   ·rename_i cs hm;split at h
    ·rename_i c vs vn;obtain⟨e,hp⟩:=J3 _ _ vn
     refine⟨_,h,λaf ρ a w az I C u D=>?_⟩
     obtain⟨us,rfl,ki,iI⟩:=D;obtain⟨b,off,bX,kj⟩:=iI 0 _ rfl;have kj:us[0]?=some (.pointer (some ⟨b,off+j,none⟩)):=kj;have aut:us.size=1:=ki;have ahx:us = #[.pointer (some ⟨b,off+j,none⟩)]:=by
      apply Array.ext';apply List.ext_getElem?;intro i;cases i with
      |zero=>grind
      |succ i=>grind
     subst ahx;refine .f f _ _ _ ?_;cases I.root r' _ hm with
     | aA b' Bg cells e' _ J7 iK kQ hh Z hc=>
      rw[bX]at iK;injection iK with q1 q2;subst q1 q2
      refine⟨b,off+j,rfl,(ic.1 hh).1,(C.rest b _ kQ).2 (by simpa [fI]using xH),λi x E=>?_⟩
      have Xs:=hp x (gy E);have Xt:(cs.drop j)[i]?=some (.v x):=by rw[e,ef,E];rfl
      rw[List.getElem?_drop]at Xt;obtain⟨k1,k2⟩:=hc _ _ Xt;refine⟨(by cases x<;>first|rfl|cases Xs),J7 (j+i),?_,k2.2.tR Xs⟩;rw[Nat.add_assoc,cell_of_row w b _ cells _ _ hh];exact k1
    ·cases h
   ·cases h
 ·cases h
def zC(σ:S):Mu->Prop
 |.aA r cs C=>σ.m r=some (.aA cs)/\q7 σ.m cs=some C/\cs.length<999
 |.sl q y=>σ.m q=some (.sl y)/\y.aF=false
def Gk:aa Mu->aa In->Prop
 |[],[]=>True
 |.aA _ _ I::C,.aA xs::D=>(kO (I.map (·.1)) xs/\∀x∈xs,x.jI=true/\x.Ku=true)/\Gk C D
 |.sl _ y::C,.sl E::D=>(Wk y E/\E.Ku=true)/\Gk C D
 |_,_=>False
def DG(w:World)(B:Nat)(af:bh)(ρ:Nat->Loc)(C:aa In):aa Ar->aa Value->Prop
 |[],[]=>True
 |x::xs,v::D=>RA w B af ρ (P4 C x) v/\DG w B af ρ C xs D
 |_,_=>False
def DG.get{D:aa In}:∀ (xs:aa Ar) (C:aa Value),DG w B af ρ D xs C -> C.length=xs.length /\ ∀ i,RA w B af ρ ((xD D xs).t i) (C.toArray.getD i undef)
 |[],[],_=>⟨rfl,λi=>trivial⟩
 | x :: xs,v :: C,h=>by
  obtain⟨E,I⟩:=DG.get xs C h.2
  refine⟨by simp[E],λi=>?_⟩
  cases i with
  |zero=>exact h.1
  | succ i=>
   have:=I i;simp at this ⊢;exact this
def ahy{t:TC}{g:Nat}{x:T t}(D:Nat.beq (g % 2) 0=true):∀ y∈enc t g x,y.jI=true/\y.Ku=true:=by
 intro y C;refine⟨O1 t g x y C,?_⟩;have:=yR t g x y C;cases y with
 | sl I E O U=>
  have:E=g:=by simpa [V.gr]using this
  subst this;exact D
 |_=>rfl
def ahz(σ:S):PK->A->ah Mu->Prop
 |.v _ _,_,none=>True
 |.p _ _ off,x,some (.aA r cs C)=>x = .aJ r off/\zC σ (.aA r cs C)
 |.s _ _,x,some (.sl q y)=>x = .lf (.own [q])/\zC σ (.sl q y)
 |_,_,_=>False
def vH{p:PK}{x:A}{z:ah Mu}(h:vG σ p x=some z):ahz σ p x z:=by
 cases p with
 | v b t=>
  injection h with h;subst h;trivial
 | p t g off=>
  cases x with
  | aJ r j=>
   have h:(match (bif Nat.beq j off then σ.m r else none)with
    | some (.aA cs)=>(match q7 σ.m cs with
     |some I=>bif Nat.blt cs.length 999 then some _ else none
     |none=>none)
    |_=>none)=some z:=h
   cases C:Nat.beq j off with
   |false=>rw[C]at h;cases h
   | true=>
    obtain rfl:=cH C;rw[C,aq]at h;split at h
    ·rename_i cs O;split at h
     ·rename_i I T;cases D:Nat.blt cs.length 999 with
      |false=>rw[D]at h;cases h
      | true=>
       rw[D]at h;injection h with h;subst h;exact⟨rfl,O,T,by have:=cu D;omega⟩
     ·cases h
    ·cases h
  |_=>cases h
 | s t g=>
  have U:(∃ q,x = .lf (.own [q])):=by
   unfold vG at h;split at h
   next e=>cases e
   next e=>cases e
   ·simp[*]
   ·cases h
  obtain⟨q,rfl⟩:=U;have h:(match σ.m q with
   |some (.sl y)=>bif y.aF then none else some _
   |_=>none)=some z:=h
  split at h
  ·rename_i y Y;cases E:y.aF with
   |true=>rw[E]at h;cases h
   | false=>
    rw[E]at h;injection h with h;subst h;exact⟨rfl,Y,E⟩
  ·cases h
def Kv:∀ (ps:aa PK) (xs:aa Operand) (D:aa Mu),jg σ ps xs=some D -> ∀ O∈D,zC σ O
 |[],[],D,h=>by injection h with h;subst h;simp
 | p :: ps,x :: xs,D,h=>by
  unfold jg at h;split at h
  ·rename_i O E C I;injection h with h;subst h;have T:=Kv ps xs E I;have C:=vH C;intro z hz;rcases gp.1 hz with rfl | hz
   ·cases p with
    |v=>exact C.elim
    | p=>
     cases z with
     |aA=>exact C.2
     |sl=>exact C.elim
    | s=>
     cases z with
     |aA=>exact C.elim
     |sl=>exact C.2
   ·simp_all
  next E C I=>injection h with h;subst h;exact Kv ps xs E I
  ·cases h
 |[],_::_,D,h=>by cases h
 |_::_,[],D,h=>by cases h
def Gl:∀ {ps:aa PK} (i C:Nat) (x:kR ps),(jN ps i x).length=(jN ps C x).length
 |[],_,_,_=>rfl
 |.v _ _::ps,i,C,x=>by simp[jN,mN];rw[Gl]
 |.p _ _ _::ps,i,C,x=>by simp only[jN,mN];rw[Gl (i+1) (C+1)]
 |.s _ _::ps,i,C,x=>by simp only[jN,mN];rw[Gl (i+1) (C+1)]
def Kw:∀ (ps:aa PK) (xs:aa Operand) (O:aa Mu) (k:kR ps -> ah X),jg σ ps xs=some O -> jh σ ns ps xs O k=some r -> ∃ x,k x=some r/\Gk O (m8 ps x)/\(jN ps 0 x).length=xs.length /\
  ∀af ρ a w az ρ',Rl w0 N af ρ σ a w -> By ns af az -> ∀(T:aa In) (i:Nat),(∀j z,(m8 ps x)[j]?=some z -> T[i+j]?=some z) -> (∀j U,O[j]?=some U -> ρ' (nF (i+j))=ρ U.root) -> DG w w.heap.size az ρ' T (jN ps i x) (xs.map a.eval)
 | [],[],O,k,C,h=>by
  injection C with C;subst C;exact⟨(),h,trivial,rfl,λ_ _ _ _ _ _ _ _ _ _ _ _=>trivial⟩
 | .v b t :: ps,x :: xs,O,k,C,h=>by
  have sj:jg σ ps xs=some O:=by
   unfold jg at C;split at C
   next U sD D I=>exact(vH D).elim
   next sD D I=>rw[I];exact C
   ·cases C
  unfold jh at h;obtain⟨p,I,hp⟩:=ahw (w0:=w0) (N:=N) h;cases hb:p.1==b with
  |false=>rw[hb]at I;cases I
  | true=>
   rw[hb,aq]at I;have hb:p.1=b:=by simpa using hb
   subst hb;split at I
   ·rename_i y Y;obtain⟨ys,h3,h4,h5,h6⟩:=Kw ps xs O _ sj I
    refine⟨(y,ys),h3,h4,?_,λaf ρ a w az ρ' Z hS T i hi bX=>⟨?_,h6 af ρ a w az ρ' Z hS T i hi bX⟩⟩
    ·simp[jN,h5]
    ·have sC:=hp af ρ a w az Z hS _ (Z.aG x);have hk:=lC t 0 p.2 y Y;generalize a.eval x=ux at sC ⊢;rcases sC with ⟨_,_,us,hu,hs,hr⟩ | ⟨g,c,cs,pv,sC⟩
     case f=>
      have he:∀(j:Nat) z,(enc t 0 y)[j]?=some z -> z.aF=true:=λj z E=>pn t 0 y (by omega) j z E
      obtain⟨c',eS,e,hw⟩:=ahv hk.1 hk.2;rw[e]at he ⊢;exact⟨pv,rfl,sC.uj hw λj z E=>he (j+2) z (by simpa using E)⟩
     have m0:∀ (j:Nat) z,(enc t 0 y)[j]?=some z -> ∃ v,us[j]?=some v/\z.aF=true/\RV w w.heap.size az [] z v:=by
      intro j z E;have hj:j<p.2.length:=by rw[hk.1];exact(dI.1 E).1
      obtain⟨v,hv,fo⟩:=hr j _ (bK hj);exact⟨v,hv,pn t 0 y (by omega) j z E,fo.wk (hk.2 j _ z (bK hj) E)⟩
     have hlen:us.size=(enc t 0 y).length:=hs.trans hk.1;obtain⟨b,vs⟩:=p;cases b with
     | true=>
      show RA _ _ _ _ (.agg ((enc t 0 y).map .v)) _
      refine⟨us,hu,by rw[eT];exact hlen,λj z E=>?_⟩
      rw[ef]at E;cases Dl:(enc t 0 y)[j]? with
      |none=>rw[Dl]at E;cases E
      | some z'=>
       rw[Dl]at E;injection E with E;subst E;obtain⟨v,hv,g1,g2⟩:=m0 j z' Dl;exact⟨v,hv,g1,g2⟩
     | false=>
      have hu:us = #[ux]:=hu;subst hu;show RA _ _ _ _ (P4 T (.pt (false,enc t 0 y))) _
      match he:enc t 0 y,m0,hlen with
      | [z],m0,_=>
       obtain⟨v,hv,g1,g2⟩:=m0 0 z rfl;have:ux=v:=by simpa using hv
       rw[this];exact⟨g1,g2⟩
      |[],_,_=>trivial
      |_::_::_,_,hlen=>exact absurd hlen (by simp)
   ·cases I
 | .p t g off :: ps,x :: xs,O,k,C,h=>by
  unfold jg at C;split at C
  ·rename_i U sD D I;injection C with C;subst C;have D:=vH D;cases U with
   |sl=>exact D.elim
   | aA r cs vs=>
    have D:aG σ x = .aJ r off/\zC σ (.aA r cs vs):=D;unfold jh at h;split at h
    ·rename_i y Y;cases hg:Nat.beq (g % 2) 0 with
     |false=>rw[hg]at Y;cases Y
     | true=>
      rw[hg,aq]at Y;obtain⟨ys,h3,h4,h5,h6⟩:=Kw ps xs sD _ I h
      refine⟨(y,ys),h3,⟨⟨lC t g _ y Y,ahy hg⟩,h4⟩,by simp[jN,Gl 1 0,h5],λaf ρ a w az ρ' Z hS T i hi bX=>⟨?_,?_⟩⟩
      ·have Gm:=hi 0 _ rfl;rw[Nat.add_zero]at Gm;have hx:=Z.aG x;rw[D.1]at hx;obtain⟨b,o,e1,e2⟩:=hx;show RA _ _ _ _ (match T[i]? with|some (.aA _)=>.aJ (nF i) off|some (.sl _)=>.lf (.own [nF i])|none=>.undef) _;rw[Gm];have iu:=bX 0 _ rfl;rw[Nat.add_zero]at iu;exact⟨b,o,iu.trans e1,e2⟩
      ·refine h6 af ρ a w az ρ' Z hS T (i+1) (λj z E=>?_) (λj U jx=>?_)
       ·rw[show i+1+j=i+(j+1) by omega];exact hi _ z E
       ·rw[show i+1+j=i+(j+1) by omega];exact bX _ U jx
    ·cases h
  next sD D I=>exact(vH D).elim
  ·cases C
 | .s t g :: ps,x :: xs,O,k,C,h=>by
  unfold jg at C;split at C
  ·rename_i U sD D I;injection C with C;subst C;have D:=vH D;cases U with
   |aA=>exact D.elim
   | sl q y0=>
    have D:aG σ x = .lf (.own [q])/\zC σ (.sl q y0):=D;unfold jh at h;split at h
    ·rename_i y Y;cases hg:Nat.beq (g % 2) 0 with
     |false=>rw[hg]at Y;cases Y
     | true=>
      rw[hg,aq]at Y;obtain⟨ys,h3,h4,h5,h6⟩:=Kw ps xs sD _ I h
      refine⟨(y,ys),h3,⟨⟨V.Fv Y,?_⟩,h4⟩,by simp[jN,Gl 1 0,h5],λaf ρ a w az ρ' Z hS T i hi bX=>⟨?_,?_⟩⟩
      ·show Nat.beq ((g+2) % 2) 0=true;simp[*]
      ·have Gm:=hi 0 _ rfl;rw[Nat.add_zero]at Gm;have hx:=Z.aG x;rw[D.1]at hx;show RA _ _ _ _ (match T[i]? with|some (.aA _)=>.aJ (nF i) 0|some (.sl _)=>.lf (.own [nF i])|none=>.undef) _;rw[Gm];have iu:=bX 0 _ rfl;rw[Nat.add_zero]at iu;refine⟨hx.1,?_⟩;have I:=hx.2;simp only[cK]at I ⊢;rw[iu];exact I
      ·refine h6 af ρ a w az ρ' Z hS T (i+1) (λj z E=>?_) (λj U jx=>?_)
       ·rw[show i+1+j=i+(j+1) by omega];exact hi _ z E
       ·rw[show i+1+j=i+(j+1) by omega];exact bX _ U jx
    ·cases h
  next sD D I=>exact(vH D).elim
  ·cases C
 |[],_::_,O,k,C,h=>by cases C
 |_::_,[],O,k,C,h=>by cases C
end
def mb(c0:Nat):Nat->aa (V×ah Nat)->aa Nat
 |_,[]=>[]
 |n,(_,some q)::C=>q::mb c0 (n+1) C
 |n,(_,none)::C=>(c0+n)::mb c0 (n+1) C
def zD(c0:Nat):Nat->aa Mu->aa Nat
 |_,[]=>[]
 |pos,.aA r _ D::C=>r::(mb c0 (pos+1) D++zD c0 (pos+1+D.length) C)
 |pos,.sl q _::C=>q::zD c0 (pos+1) C
def vI:aa Nat->aa V->aa Nat
 |n::C,x::xs=>bif x.aF then vI C xs else n::vI C xs
 |_,_=>[]
def nc(c0:Nat):Nat->aa Mu->aa In->aa Nat
 |pos,.aA _ _ D::C,.aA xs::outs=>vI (mb c0 (pos+1) D) xs++nc c0 (pos+1+D.length) C outs
 |pos,.sl _ _::C,.sl _::outs=>nc c0 (pos+1) C outs
 |_,_,_=>[]
def oL(ns cn:aa Nat):aa Nat->aa Lf->aa V->aa Lf
 |n::C,l::D,x::xs=>(bif x.plain then .v x else bif x.aF then l.c8 ns cn else .own [n])::oL ns cn C D xs
 |_,_,_=>[]
def uk:aa Nat->aa V->aa (Nat×aQ)
 |n::C,x::xs=>bif x.aF then uk C xs else (n,.sl x)::uk C xs
 |_,_=>[]
def kT(ns cn:aa Nat)(c0:Nat):Nat->aa Mu->aa In->aa (Nat×aQ)
 |pos,.aA r cs D::C,.aA xs::outs=>(r,.aA (oL ns cn (mb c0 (pos+1) D) cs xs))::(uk (mb c0 (pos+1) D) xs++kT ns cn c0 (pos+1+D.length) C outs)
 |pos,.sl q _::C,.sl y::outs=>bif y.jI then (q,.sl y)::kT ns cn c0 (pos+1) C outs else kT ns cn c0 (pos+1) C outs
 |_,_,_=>[]
def Kx:aa Nat->Bool
 |[]=>true
 |n::l=>!cP n l&&Kx l
def Xu:In->Bool
 |.aA xs=>xs.all λx=>x.aF ||x.loc
 |.sl y=>y.loc
def gW:ah Tmp->Nat
 |some d=>1000000000100000+1000*d
 |none=>90000
def pX{X:Type}(N:Nat)(σ:S)(C:ah Tmp)(D:fL)(k:S->ah X):ah X:=
 match C with
 |none=>k σ
 |some d=>bif Nat.blt d N then m6 σ d D k else none
def DH(N:Nat)(C:aa Mu)(outs:aa In)(cn:aa Nat):Bool:=
 Kx cn&&(C.all λD=>!cP D.root cn)&&(cn.all λn=>Nat.blt n N ||Nat.ble 60000 n)&&outs.all Xu
def DI{X:Type}(N:Nat)(σ:S)(C:ah Tmp)(D:aa Mu)(ns cn:aa Nat)(E:fL)(outs:aa In)(k:S->ah X):ah X:=
 bif DH N D outs cn then pX N (σ.c8 ns cn (kT ns cn (gW C) E.len D outs)) C E k else none
def nO{X:Type}(N:Nat)(σ:S)(D:ah Tmp)(c:m9)(args:aa Operand)(k:S->ah X):ah X:=
 match jg σ c.ps args with
 | some C=>bif once (kS 0 C)&&Nat.ble C.length 40 then
   jh σ ((kS 0 C).map (·.1)) c.ps args C λx=>(match c.F x with
    |some y=>DI N σ D C ((kS 0 C).map (·.1)) (nc (gW D) (eP c.ro y.1).len C (iN (ez c.ps) y.2)) (eP c.ro y.1) (iN (ez c.ps) y.2) k
    |none=>none)else none
 |none=>none
section
variable {P:Program} {w w':World} {w0:Wd} {B N:Nat} {af dx az:bh} {ρ eW ρ':Nat->Loc} {σ:S} {a:Act} {X:Type} {d:Nat} {r:X} {ns cn:aa Nat} {o:Oper} {rs:aa Nat} {dW:aa (Nat×Nat)}
def Xv{n:Nat}:∀ {l:aa (Nat×Nat)},cP n (l.map (·.1))=false -> l.lookup n=none
 |[],_=>rfl
 | p :: l,h=>by
  simp[List.map_cons,cP,mO]at h;rw[List.lookup_cons];have:(n==p.1)=false:=by
   cases C:n==p.1 with
   |false=>rfl
   |true =>simp_all
  rw[this];exact Xv h.2
def ahA{b:Nat}{k:aa Nat}{n m:Nat}(h:af b=some k)(C:k.getLast?=some n)(D:dW.lookup n=some m):ey af dW id b=some (k.dropLast++[m]):=by
 simp[ey,h,C,D]
def ahB(D:∀ b k,af b=some k -> k≠[]):By (dW.map (·.1)) af (ey af dW id):=by
 refine⟨λb h=>zu h,λb k h=>⟨D b k h,λC=>?_⟩⟩
 simp[ey,h];cases E:k.getLast? with
 |none=>rfl
 | some n=>
  simp[fI,E]at C;simp[Xv C]
def Ql{m:Nat -> ah aQ}:∀ (cs:aa Lf) (C:aa (V×ah Nat)),q7 m cs=some C -> C.length=cs.length /\ ∀ (j:Nat) l,cs[j]?=some l -> ∃ v,C[j]?=some v/\vF m l=some v
 |[],C,h=>by injection h with h;subst h;exact⟨rfl,λj l D=>by simp at D⟩
 | c :: cs,C,h=>by
  unfold q7 at h;split at h
  ·rename_i v E O I;injection h with h;subst h;obtain⟨T,U⟩:=Ql cs E I
   grind
  ·cases h
def ahC{l:Lf}{v:V}{E:ah Nat}(h:vF σ.m l=some (v,E))(Y:Rl w0 N af ρ σ a w)(D:By ns af az){u:Value}(I:dK w w0.heap.size af ρ l u):
  (E=none /\ ∀B' O,RV w B' az O v u) \/ (∃q,E=some q/\v.aF=false/\RV w w0.heap.size af [q] v u):=by
 unfold vF at h;split at h
 ·simp at h;obtain⟨rfl,rfl⟩:=h;exact .inl ⟨rfl,λB' O=>I.2.out D.none D.rest (.inl I.1)⟩
 ·rename_i q;split at h
  ·rename_i y Z;have T:=Y.root q _ Z;generalize C:aQ.sl y=x at T;cases T with
   |aA=>cases C
   |mp=>cases C
   |gh=>cases C
   | sl v' y' bX hr=>
    injection C with C;subst C;have Gc:v'=u:=by
     have h2:=I.2;simp only[cK,bX]at h2;simp_all
    subst Gc;cases U:y.aF with
    | true=>
     rw[U,aq]at h;obtain⟨rfl,rfl⟩:=h;exact .inl ⟨rfl,λB' O=>hr.out D.none D.rest (.inl U)⟩
    |false =>grind
  ·cases h
 ·cases h
def Xw{i:Nat}{v:V}{q:Nat}:∀ (D:aa (V×ah Nat)) (C j:Nat),D[j]?=some (v,some q) -> (q,60000+1000*i+(C+j))∈DF i C D
 |[],C,j,h=>by simp at h
 | (I,E) :: D,C,j,h=>by
  cases j with
  | zero=>
   obtain⟨rfl,rfl⟩:=h;exact .head _
  | succ j=>
   have:=Xw (i:=i) D (C+1) j (by simpa using h);rw[show C+1+j=C+(j+1) by omega]at this;cases E with
   |none=>exact this
   |some O=>exact .tail _ this
def Qm{i:Nat}:∀ (cs:aa V) (C:Nat),(zz i C cs).length=cs.length
 |[],_=>rfl
 |c::cs,C=>by simp[zz,Qm cs]
def RV.lW{q:aa Nat}{x:V}{u:Value}(h:RV w B af q x u)(C:x.plain=false)(D:x.jI=true):lW u=true:=by
 cases h<;>first|rfl|cases C|cases D
def Wk.Qn{x y:V}(h:Wk x y)(C:x.aF=false):y.aF=false:=by
 cases h with
 |same=>exact C
 |nil=>cases C
 |q=>exact C
 |gr t o D E l I O=>simp[V.aF];omega
def Qo(hR:Rl w0 N af ρ σ a w)(hS:By ns af (ey af dW id)):∀ (I:aa Mu) (T:aa In) (i:Nat),(∀ p∈kS i I,dW.lookup p.1=some p.2) -> (∀ j E,I[j]?=some E -> rs[i+j]?=some E.root) -> (∀ E∈I,zC σ E) -> Gk I T -> i+I.length <= 40 ->
  oK w w.heap.size (ey af dW id) (xF w ρ rs) i T
 |[],[],_,_,_,_,_,_=>trivial
 |[],_::_,_,_,_,_,h,_=>h.elim
 |.aA _ _ _::_,[],_,_,_,_,h,_=>h.elim
 |.sl _ _::_,[],_,_,_,_,h,_=>h.elim
 |.aA _ _ _::_,.sl _::_,_,_,_,_,h,_=>h.elim
 |.sl _ _::_,.aA _::_,_,_,_,_,h,_=>h.elim
 | .aA r cs vs :: I,.aA xs :: T,i,U,gV,jx,hrel,hi=>by
  obtain⟨hm,hg,hlen⟩:=jx _ (.head _);obtain⟨⟨hw,hx⟩,BA⟩:=hrel;obtain⟨g1,g2⟩:=Ql cs vs hg;have Y:=gV 0 _ rfl;rw[Nat.add_zero]at Y;simp only[mN]at hi;have mY:xs.length=cs.length:=by rw[<- hw.1,eT,g1]
  have dY:=hR.root r _ hm;generalize C:aQ.aA cs=z at dY;cases dY with
  |sl=>cases C
  |mp=>cases C
  |gh=>cases C
  | aA b off cells e eS us bX hl hh hs hc=>
   injection C with C;subst C;have m0:∀ (j:Nat) x,xs[j]?=some x -> cells[off+j]?=some (us j)/\RV w w.heap.size (ey af dW id) [nC i j x] x (us j)/\(x.plain=false -> xF w ρ rs (nC i j x) = .dA (us j)):=by
    intro j x O;have wX:j<cs.length:=by rw[<- mY];exact(dI.1 O).1
    obtain⟨v,hv,Gn⟩:=g2 j _ (bK wX);obtain⟨c1,Z⟩:=hc j _ (bK wX);obtain⟨v,qo⟩:=v;have Qp:Wk v x:=hw.2 j v x (by rw[ef,hv];rfl) O;obtain⟨Gq,J4⟩:=hx x (gy O)
    refine⟨c1,?_,λD=>?_⟩
    ·rcases ahC Gn hR hS Z with ⟨rfl,h1⟩ | ⟨q,rfl,hf,h1⟩
     ·exact(h1 _ _).wk Qp
     ·have Qc:=Qp.Qn hf;have hq:=U _ (.tail _ (List.mem_append_left _ (Xw vs 0 j hv)));rw[fe]at hq;have h2:=(RV.ey (nm:=id) (p:=[]) h1 hq).wk Qp;have e1:nC i j x=60000+1000*i+j:=by simp[nC,Qc]
      rw[e1];exact h2.Xr J4
    ·exact aht Y (by omega) (by omega) bX (by rw[cell_of_row w b _ cells _ _ hh];exact c1)
   refine⟨.aA b off cells e _ us ((Gj Y (by omega)).trans bX) ?_ hh (by rw[Qm,mY];exact hs) (λj z C=>?_),λj x O D=>?_,Qo hR hS I T (i+1) (λp D=>U p (.tail _ (List.mem_append_right _ D))) (λj E BB=>?_) (λE h=>jx E (.tail _ h)) BA (by omega)⟩
   ·exact ahA hl rfl (U _ (.head _))
   ·have O:j<xs.length:=by rw[<- Qm (i:=i) xs 0];exact(dI.1 C).1
    have zE:=Qf (i:=i) xs 0 j _ (bK O);rw[C]at zE;injection zE with zE;subst zE;rw[fe];obtain⟨c1,Z,c3⟩:=m0 j _ (bK O);refine⟨c1,?_⟩;cases D:(xs[j]).plain with
    | true=>
     have e1:zy i j xs[j] = .v xs[j]:=by simp[zy,D]
     rw[e1];exact⟨V.FG D,Z.tR D⟩
    | false=>
     have e1:zy i j xs[j] = .own [nC i j xs[j]]:=by simp[zy,D]
     rw[e1];exact⟨Z.lW D (hx _ (dc _)).1,by simp only[cK,c3 D]⟩
   ·obtain⟨c1,Z,c3⟩:=m0 j x O;exact .sl _ x (c3 D) Z
   ·have:=gV (j+1) E (by simpa using BB);rw[show i+(j+1)=i+1+j by omega]at this;exact this
 | .sl q y :: I,.sl y' :: T,i,U,gV,jx,hrel,hi=>by
  obtain⟨hm,hf⟩:=jx _ (.head _);obtain⟨⟨hw,hx⟩,BA⟩:=hrel;have Y:=gV 0 _ rfl;rw[Nat.add_zero]at Y;simp only[mN]at hi;have dY:=hR.root q _ hm;generalize C:aQ.sl y=z at dY;cases dY with
  |aA=>cases C
  |mp=>cases C
  |gh=>cases C
  | sl v y0 bX hr=>
   injection C with C;subst C
   refine⟨.sl v y' ((Gj Y (by omega)).trans bX) ?_,Qo hR hS I T (i+1) (λp D=>U p (.tail _ D)) (λj E BB=>?_) (λE h=>jx E (.tail _ h)) BA (by omega)⟩
   ·exact((RV.ey (p:=[]) hr (U _ (.head _))).wk hw).Xr hx
   ·have:=gV (j+1) E (by simpa using BB);rw[show i+(j+1)=i+1+j by omega]at this;exact this
end
def Qq:Loc->Nat×Nat
 |.aA b off=>(b,off)
 |.dA _=>(0,0)
 |.bA _=>(0,0)
def zF(w:World)(b off:Nat):Nat->aa Nat->aa V->aa (Nat×Value)
 |j,n::C,x::xs=>bif x.aF then zF w b off (j+1) C xs else (n,(w.cell? ⟨b,off+j,none⟩).getD undef)::zF w b off (j+1) C xs
 |_,_,_=>[]
def sE(w:World)(ρ:Nat->Loc)(c0:Nat):Nat->aa Mu->aa In->aa (Nat×Value)
 |pos,.aA r _ D::C,.aA xs::outs=>zF w (Qq (ρ r)).1 (Qq (ρ r)).2 0 (mb c0 (pos+1) D) xs++sE w ρ c0 (pos+1+D.length) C outs
 |pos,.sl _ _::C,.sl _::outs=>sE w ρ c0 (pos+1) C outs
 |_,_,_=>[]
def Xx(l:aa (Nat×Value))(ρ:Nat->Loc):Nat->Loc:=λn=>match l.lookup n with
 |some v=>.dA v
 |none=>ρ n
def Qr{w:World}{b off:Nat}:∀ (C:aa Nat) (xs:aa V) (j:Nat),(zF w b off j C xs).map (·.1)=vI C xs
 |[],[],_=>rfl
 |[],_::_,_=>rfl
 |_::_,[],_=>rfl
 | n :: C,x :: xs,j=>by
  simp[zF,vI];cases x.aF with
  |true=>exact Qr C xs _
  |false=>simp;rw[Qr]
def Ky{w:World}{ρ:Nat -> Loc}{c0:Nat}:∀ (C:aa Mu) (outs:aa In) (D:Nat),(sE w ρ c0 D C outs).map (·.1)=nc c0 D C outs
 | .aA r _ E :: C,.aA xs :: outs,D=>by
  simp[sE,nc,List.map_append];rw[Qr,Ky]
 | .sl _ _ :: C,.sl _ :: outs,D=>by
  simp only[sE,nc];exact Ky C outs _
 |[],_,_=>by simp[sE,nc]
 |.aA _ _ _::_,[],_=>rfl
 |.sl _ _::_,[],_=>rfl
 |.aA _ _ _::_,.sl _::_,_=>rfl
 |.sl _ _::_,.aA _::_,_=>rfl
def Xy{n:Nat}:∀ {l:aa (Nat×Value)},cP n (l.map (·.1))=false -> l.lookup n=none
 |[],_=>rfl
 | p :: l,h=>by
  simp[List.map_cons,cP,mO]at h;rw[List.lookup_cons];cases C:n==p.1 with
  |false=>exact Xy h.2
  |true =>simp_all
def Xz:∀ {l:aa (Nat×Value)},Kx (l.map (·.1))=true -> ∀ p∈l,l.lookup p.1=some p.2
 |[],_,p,hp=>by cases hp
 | q :: l,h,p,hp=>by
  simp[List.map_cons,Kx,aK,gk]at h;rw[List.lookup_cons];rcases gp.1 hp with rfl|hp
  ·simp
  ·cases C:p.1==q.1 with
   |false=>exact Xz h.2 p hp
   | true=>
    have e:p.1=q.1:=by simpa using C
    exact absurd (List.mem_map_of_mem (f:=(·.1)) hp) (by rw[e];exact Xp h.1)
def Gr{c0:Nat}:∀ (C:aa (V×ah Nat)) (n:Nat),(mb c0 n C).length=C.length
 |[],_=>rfl
 |(_,some _)::C,n=>by simp[mb,Gr]
 |(_,none)::C,n=>by simp[mb,Gr C]
def XA{ns cn:aa Nat}:∀ (D:aa Nat) (C:aa Lf) (xs:aa V),D.length=C.length -> xs.length=C.length -> (oL ns cn D C xs).length=C.length /\
  ∀(j:Nat) z,(oL ns cn D C xs)[j]?=some z -> ∃n l x,D[j]?=some n/\C[j]?=some l/\xs[j]?=some x/\z=(bif x.plain then .v x else bif x.aF then l.c8 ns cn else .own [n])
 |[],[],[],_,_=>⟨rfl,λj z E=>by simp[oL]at E⟩
 | n :: D,l :: C,x :: xs,I,O=>by
  obtain⟨T,U⟩:=XA (ns:=ns) (cn:=cn) D C xs (by simpa using I) (by simpa using O)
  refine⟨by simp[oL,T],λj z E=>?_⟩
  cases j with
  |zero=>simp[oL,List.getElem?_cons_zero,ig]at E;exact⟨n,l,x,rfl,rfl,rfl,E.symm⟩
  |succ j=>exact U j z (by simpa [oL]using E)
def XB:∀ (C:aa Nat) (xs:aa V),∀ p∈uk C xs,∃ (j:Nat) (x:V),C[j]?=some p.1/\xs[j]?=some x/\x.aF=false/\p.2 = .sl x
 |[],[],p,hp=>by cases hp
 |[],_::_,p,hp=>by cases hp
 | n :: C,x :: xs,p,hp=>by
  simp[uk]at hp;have rest:p∈uk C xs -> ∃ (j:Nat) (y:V),(n :: C)[j]?=some p.1/\(x :: xs)[j]?=some y/\y.aF=false/\p.2 = .sl y:=λhp=>by
   obtain⟨j,y,E,I,O,T⟩:=XB C xs p hp;exact⟨j+1,y,by simpa using E,by simpa using I,O,T⟩
  cases D:x.aF with
  |true=>grind
  | false=>
   rw[D]at hp;rcases gp.1 hp with rfl|hp
   ·exact⟨0,x,rfl,rfl,D,rfl⟩
   ·grind
def XC{w:World}{b off n:Nat}{x:V}:∀ (D:aa Nat) (xs:aa V) (C j:Nat),D[j]?=some n -> xs[j]?=some x -> x.aF=false -> (n,(w.cell? ⟨b,off+(C+j),none⟩).getD undef)∈zF w b off C D xs
 |[],_,_,j,h,_,_=>by simp at h
 | m :: D,y :: xs,C,j,E,I,O=>by
  cases j with
  | zero=>
   simp at E I;subst E I;simp only[zF,O];simp_all
  | succ j=>
   have:=XC (w:=w) (b:=b) (off:=off) D xs (C+1) j (by simpa using E) (by simpa using I) O;rw[show C+1+j=C+(j+1) by omega]at this;simp[zF]
   grind
section
variable {P:Program} {w w':World} {w0:Wd} {B N:Nat} {af dx az:bh} {ρ eW ρ':Nat->Loc} {σ:S} {a:Act} {X:Type} {d:Nat} {r:X} {ns cn:aa Nat} {o:Oper} {rs:aa Nat} {dW:aa (Nat×Nat)} {nm Kz:Nat->Nat} {c0:Nat}
def jv.zq{nm:Nat -> Nat}:∀ (ps:aa Pt) (off:Nat) (C:aa Value) {B':Nat},jv w B af nm off ps C -> B' <= B -> (∀ b,B <= b -> az b=af b) -> (∀ b k,af b=some k -> az b=some k) -> (∀ n,off <= n -> n<off+(ps.map λp=>p.2.length).sum -> nm n=Kz n) -> jv w B' az Kz off ps C
 |[],_,[],_,h,_,_,_,_=>h
 | p :: ps,off,v :: C,B',h,hB,I,O,D=>by
  obtain⟨⟨T,us,Y,Z,hr⟩,vu⟩:=h;simp only[List.map_cons,List.sum_cons]at D
  refine⟨⟨T,us,Y,Z,λj x E=>?_⟩,jv.zq ps _ C vu hB I O (λn h1 h2=>D n (by omega) (by omega))⟩
  obtain⟨U,tQ,fo⟩:=hr j x E;have hj:j<p.2.length:=(dI.1 E).1;refine⟨U,tQ,?_⟩;show RV w B' az [Kz (off+j)] x U;rw[<- D (off+j) (by omega) (by omega)];exact fo.zq hB I O (bS.1 T x (gy E))
def Qt(hR:Rl w0 N af ρ σ a w)(hv:ug w w' af dx ρ eW ns cn)(kQ:∀ b k,az b=some k -> dx b=some k)(ox:∀ b,w.heap.size <= b -> dx b=az b)(hB:w0.heap.size <= w.heap.size):
  ∀(E:aa Mu) (ins outs:aa In) (i C:Nat),(∀j D,E[j]?=some D -> rs[i+j]?=some D.root) -> (∀D∈E,zC σ D) -> Gk E ins -> i+E.length <= 40 -> Ge w w' az (xF w ρ rs) nm i C ins outs ->
  (∀k n,(zD c0 C E)[k]?=some n -> nm (C+k)=n) -> (∀p∈sE w' ρ c0 C E outs,eW p.1 = .dA p.2) -> (∀D∈E,cP D.root cn=false) -> outs.all Xu=true -> ∀p∈kT ns cn c0 C E outs,dS w' w0.heap.size dx eW p.1 p.2
 |[],[],[],_,_,_,_,_,_,_,_,_,_,_,p,hp=>by simp[kT]at hp
 |[],[],_::_,_,_,_,_,_,_,h,_,_,_,_,_,_=>h.elim
 |[],_::_,_,_,_,_,_,h,_,_,_,_,_,_,_,_=>h.elim
 |.aA _ _ _::_,[],_,_,_,_,_,h,_,_,_,_,_,_,_,_=>h.elim
 |.sl _ _::_,[],_,_,_,_,_,h,_,_,_,_,_,_,_,_=>h.elim
 |.aA _ _ _::_,.sl _::_,_,_,_,_,_,h,_,_,_,_,_,_,_,_=>h.elim
 |.sl _ _::_,.aA _::_,_,_,_,_,_,h,_,_,_,_,_,_,_,_=>h.elim
 |.aA _ _ _::_,.aA _::_,[],_,_,_,_,_,_,h,_,_,_,_,_,_=>h.elim
 |.sl _ _::_,.sl _::_,[],_,_,_,_,_,_,h,_,_,_,_,_,_=>h.elim
 |.aA _ _ _::_,.aA _::_,.sl _::_,_,_,_,_,_,_,h,_,_,_,_,_,_=>h.elim
 |.sl _ _::_,.sl _::_,.aA _::_,_,_,_,_,_,_,h,_,_,_,_,_,_=>h.elim
 | .aA r cs I :: E,.aA xs0 :: ins,.aA xs :: outs,i,C,gV,jx,hrel,hi,hO,lI,BE,oH,T,p,hp=>by
  obtain⟨hm,hg,hlen⟩:=jx _ (.head _);obtain⟨⟨hw,hx⟩,BA⟩:=hrel;obtain⟨g1,g2⟩:=Ql cs I hg;have nJ:=gV 0 _ rfl;rw[Nat.add_zero]at nJ;simp only[mN]at hi;have Qu:xs0.length=cs.length:=by rw[<- hw.1,eT,g1]
  obtain⟨⟨b,off,cells,xE,e,e',U,h2,h3,h4,h5,h6,h7⟩,Qv⟩:=hO;have dY:=hR.root r _ hm;generalize Y:aQ.aA cs=z at dY;cases dY with
  |sl=>cases Y
  |mp=>cases Y
  |gh=>cases Y
  | aA b0 O XD e0 eS us bX hl hh hs hc=>
   injection Y with Y;subst Y;rw[Gj nJ (by omega)]at U;have U:ρ r = .aA b off:=U;rw[bX]at U;injection U with e1 e2;subst e1 e2;have ahD:XD=cells:=by
    rw[hh]at h2;injection h2 with h2;injection h2
   subst ahD;have iu:=oH _ (.head _);have DJ:eW r = .aA b0 O:=(hv.eV r iu).trans bX;have tY:nm C=r:=by have:=lI 0 r rfl;rwa [Nat.add_zero]at this
   have ahE:∀ (j:Nat) n,(mb c0 (C+1) I)[j]?=some n -> nm (C+1+j)=n:=by
    intro j n Z;have hj:j<(mb c0 (C+1) I).length:=(dI.1 Z).1;have:=lI (j+1) n (by simp only[zD,List.getElem?_cons_succ];rw[List.getElem?_append_left hj];exact Z);rw[show C+1+j=C+(j+1) by omega];exact this
   have m0:∀ (j:Nat) x,xs[j]?=some x -> ∃ u,xE[O+j]?=some u/\w'.cell? ⟨b0,O+j,none⟩=some u/\((x.plain=true /\ ∀ (w:World) (B:Nat) (af:bh) (q:aa Nat),RV w B af q x u) \/ (x.plain=false/\x.aF=true/\XD[O+j]?=some u) \/ (x.aF=false/\RV w' w.heap.size az [nm (C+1+j)] x u)):=by
    intro j x hj;obtain⟨u,hu,hd⟩:=h7 j x hj;exact⟨u,hu,by rw[cell_of_row w' b0 _ xE _ _ h3];exact hu,hd⟩
   have zd:∀ (j:Nat) n x u,(mb c0 (C+1) I)[j]?=some n -> xs[j]?=some x -> x.aF=false -> w'.cell? ⟨b0,O+j,none⟩=some u -> eW n = .dA u:=by
    intro j n x u Z hxj hf hu;have vC:=XC (w:=w') (b:=b0) (off:=O) _ xs 0 j Z hxj hf;rw[fe,hu]at vC;exact BE (n,u) (by simp only[sE,bX,Qq];exact List.mem_append_left _ vC)
   simp only[kT]at hp;rcases gp.1 hp with rfl|hp
   ·obtain⟨k1,k2⟩:=XA (ns:=ns) (cn:=cn) (mb c0 (C+1) I) cs xs (by rw[Gr,g1]) (by rw[h6,Qu])
    refine .aA b0 O xE e' _ (λj=>xE.getD (O+j) undef) DJ (kQ _ _ (by rw[h4,tY])) h3 (by show O+(oL _ _ _ _ _).length <= _;rw[k1,<- Qu,<- h6];exact h5) (λj z Y=>?_)
    obtain⟨n,l,x,n1,n2,n3,rfl⟩:=k2 j z Y;obtain⟨u,hu,KA,hd⟩:=m0 j x n3;have eu:xE.getD (O+j) undef=u:=by rw[gT,hu];rfl
    rw[eu];refine⟨hu,?_⟩;rcases hd with ⟨d1,d2⟩|⟨d1,d2,d3⟩|⟨d1,d2⟩
    ·rw[d1,aq];exact⟨V.FG d1,d2 _ _ _ _⟩
    ·rw[d1,d2,av,aq];obtain⟨c1,c2⟩:=hc j l n2;rw[c1]at d3;injection d3 with d3;rw[<- d3];exact c2.uh hv
    ·have zv:x.plain=false:=by
      cases zv:x.plain with
      |false=>rfl
      |true=>rw[V.FG zv]at d1;cases d1
     rw[zv,d1,av,av];exact⟨d2.O2 d1,by simp only[cK,zd j n x u n1 n3 d1 KA]⟩
   ·rcases lz.1 hp with hp | hp
    ·obtain⟨j,x,n1,n2,n3,n4⟩:=XB _ _ p hp;obtain⟨u,hu,KA,hd⟩:=m0 j x n2;rw[n4];refine .sl u x (zd j p.1 x u n1 n2 n3 KA) ?_;rcases hd with ⟨d1,d2⟩ | ⟨d1,d2,d3⟩ | ⟨d1,d2⟩
     ·simp[*]
     ·rw[n3]at d2;cases d2
     ·rw[ahE j _ n1]at d2;refine d2.zq hB ox kQ ?_;rw[List.all_cons,aK]at T;have:=bS.1 T.1 x (gy n2)
      rwa [n3,Bool.false_or]at this
    ·rw[List.all_cons,aK]at T
     refine Qt hR hv kQ ox hB E ins outs (i+1) (C+1+I.length) (λj D BB=>?_) (λD h=>jx D (.tail _ h)) BA (by omega) ?_ (λk n Z=>?_) (λp hp=>BE p ?_) (λD h=>oH D (.tail _ h)) T.2 p hp
     ·have:=gV (j+1) D (by simpa using BB);rw[show i+(j+1)=i+1+j by omega]at this;exact this
     ·rw[g1,<- Qu];exact Qv
     ·have:=lI (1+I.length+k) n (by
       rw[show 1+I.length+k=(I.length+k)+1 by omega];simp only[zD,List.getElem?_cons_succ];rw[List.getElem?_append_right (by rw[Gr];omega),Gr];rw[show I.length+k-I.length=k by omega];exact Z)
      rw[show C+1+I.length+k=C+(1+I.length+k) by omega];exact this
     ·simp only[sE];exact List.mem_append_right _ hp
 | .sl q y0 :: E,.sl y1 :: ins,.sl y :: outs,i,C,gV,jx,hrel,hi,hO,lI,BE,oH,T,p,hp=>by
  obtain⟨hm,hf⟩:=jx _ (.head _);obtain⟨_,BA⟩:=hrel;have nJ:=gV 0 _ rfl;rw[Nat.add_zero]at nJ;simp only[mN]at hi;obtain⟨hO1,Qv⟩:=hO;rw[List.all_cons,aK]at T;have tY:nm C=q:=by have:=lI 0 q rfl;rwa [Nat.add_zero]at this
  have hp:(p=(q,.sl y)/\y.jI=true) \/ p∈kT ns cn c0 (C+1) E outs:=by
   simp only[kT]at hp;cases hy:y.jI with
   |false=>rw[hy]at hp;exact .inr hp
   | true=>
    rw[hy]at hp;rcases gp.1 hp with h|h
    ·grind
    ·simp[*]
  rcases hp with ⟨rfl,hy⟩|hp
  ·obtain⟨v,U,h2⟩:=hO1.resolve_left (by rintro rfl;cases hy);rw[Gj nJ (by omega)]at U;rw[tY]at h2;exact .sl v y ((hv.eV q (oH _ (.head _))).trans U) (h2.zq hB ox kQ T.1)
  ·refine Qt hR hv kQ ox hB E ins outs (i+1) (C+1) (λj D BB=>?_) (λD h=>jx D (.tail _ h)) BA (by omega) Qv (λk n Z=>?_) (λp hp=>BE p hp) (λD h=>oH D (.tail _ h)) T.2 p hp
   ·have:=gV (j+1) D (by simpa using BB);rw[show i+(j+1)=i+1+j by omega]at this;exact this
   ·have:=lI (k+1) n (by simpa [zD]using Z);rw[show C+1+k=C+(k+1) by omega];exact this
end
section
variable {P:Program} {w w':World} {w0:Wd} {B N:Nat} {af dx az:bh} {ρ eW ρ':Nat->Loc} {σ:S} {a:Act} {X:Type} {d:Nat} {r:X} {ns cn:aa Nat} {o:Oper} {rs:aa Nat} {dW:aa (Nat×Nat)} {nm Kz:Nat->Nat} {c0:Nat}
def ahF{C:ah Tmp}{E:fL}{k:S -> ah X}(h:pX N σ C E k=some r):∃ cB,k cB=some r /\ ∀ af ρ a w v,Rl w0 N af ρ σ a w -> pO w w0.heap.size af (λn=>gW C+n) E v -> ∃ ρ',Rl w0 N af ρ' cB (a.put C v) w /\ ∀ r,r<gW C -> ρ' r=ρ r:=by
 unfold pX at h;cases C with
 |none=>exact⟨σ,h,λaf ρ a w v D _=>⟨ρ,D,λ_ _=>rfl⟩⟩
 | some d=>
  have h:(bif Nat.blt d N then (match E with
   | .one p=>(match yY (p.1,nM (1000000000100000+1000*d) p.2)with
    |some y=>k ((l8 _ σ p.2).set d y)
    |none=>none)
   |.eU ps=>k ((nN _ σ ps).set d _))else none)=some r:=h
  cases O:Nat.blt d N with
  |false=>rw[O]at h;cases h
  | true=>
   rw[O,aq]at h;have xy:d<N:=cu O;cases E with
   | one p=>
    simp only at h;split at h
    ·rename_i y hy
     refine⟨_,h,λaf ρ a w v D T=>?_⟩
     obtain⟨ρ',U,Y,_,Z⟩:=Ga [p] (1000000000100000+1000*d) 0 σ ρ [v] (by omega) D T;have PY:=Z 0 _ v rfl rfl;exact⟨ρ',U.set (Pg hy PY) xy,Y⟩
    ·cases h
   | eU xB=>
    refine⟨_,h,λaf ρ a w v D T=>?_⟩
    obtain⟨I,rfl,hv⟩:=T;obtain⟨ρ',U,Y,hlen,Z⟩:=Ga xB (1000000000100000+1000*d) 0 σ ρ I.toList (by omega) D hv
    refine⟨ρ',U.set ⟨I,rfl,by simpa using hlen,λj p hp=>?_⟩ xy,Y⟩
    have hj:j<I.size:=by
     have:=(dI.1 hp).1
     grind
    exact⟨I[j],Array.getElem?_eq_getElem hj,Z j p _ hp (by rw[Array.getElem?_toList,Array.getElem?_eq_getElem hj])⟩
def Qx{f:Nat}{args:Array Operand}{iM:Array TypeId}{c:m9}{k:S -> ah X}(ho:o.op = .call { callee:=.value (.func f),args,argTypes:=iM })(he:enters P f)(hc:vD P f c)(h:nO N σ o.dst c args.toList k=some r):∃ cB D cn,k cB=some r/\jg σ c.ps args.toList=some D/\(∀ n,cP n cn=true -> n<N \/ 60000 <= n)/\(∀ U∈D,cP U.root cn=false) /\
  ∀a w K Q af ρ,Rl w0 N af ρ σ a w -> (∀v w' dx eW sF,Rl w0 N dx sF cB (a.put o.dst v) w' -> ug w w' af dx ρ eW ((kS 0 D).map (·.1)) cn -> iS w0 w w' -> (∀r,r<gW o.dst -> sF r=eW r) -> K (a.put o.dst v) w') -> o.wp P a w K Q:=by
 unfold nO at h;split at h
 ·rename_i D um;generalize XE:kS 0 D=dW at h;cases jO:(once dW&&Nat.ble D.length 40)with
  |false=>rw[jO]at h;cases h
  | true=>
   rw[jO,aq]at h;rw[aK]at jO;have auu:=cu jO.2;have ud:∀ p∈kS 0 D,dW.lookup p.1=some p.2:=by
    intro p hp;rw[XE]at hp;have:=bS.1 jO.1 p hp;obtain⟨n,Y,he⟩:=(Option.any_eq_true _ _).1 this;simp_all
   obtain⟨x,h2,hrel,auv,lG⟩:=Kw (w0:=w0) (N:=N) _ _ D _ um h;clear h;split at h2
   ·rename_i y hy;unfold DI at h2;generalize oH:nc (gW o.dst) (eP c.ro y.1).len D (iN (ez c.ps) y.2)=cn at h2;generalize yT:dW.map (·.1)=ns at h2 lG;cases fk:DH N D (iN (ez c.ps) y.2) cn with
    |false=>rw[fk]at h2;cases h2
    | true=>
     rw[fk,aq]at h2;simp only[DH,aK]at fk;obtain⟨⟨⟨ok1,XF⟩,XG⟩,ok4⟩:=fk;obtain⟨cB,h3,BF⟩:=ahF (w0:=w0) h2
     refine⟨cB,D,cn,h3,um,λn Y=>?_,λU jx=>by simpa using bS.1 XF U jx,λa w K Q af ρ O hK=>?_⟩
     ·have:=bS.1 XG n (uf.1 Y);rw[dZ]at this;rcases this with h | h
      ·exact .inl (by have:=cu h;omega)
      ·exact .inr (cu h)
     have hS:By ns af (ey af dW id):=by rw[<- yT];exact ahB (λb k C=>(O.cN b k C).2.2)
     have XH:=Kv _ _ _ um;let rs:=D.map Mu.root
     have gV:∀ j U,D[j]?=some U -> rs[0+j]?=some U.root:=by
      intro j U hj;rw[fe,ef,hj];rfl
     have hE:=Qo (rs:=rs) O hS D (m8 c.ps x) 0 ud gV XH hrel (by omega);have hA:=lG af ρ a w (ey af dW id) (xF w ρ rs) O hS (m8 c.ps x) 0 (λj z Z=>by rw[fe];exact Z) (λj U hj=>by
      have h1:=gV j U hj;rw[fe]at h1 ⊢;exact Gj h1 (by have:=(dI.1 hj).1;omega))
     obtain⟨hA1,PC⟩:=DG.get _ _ hA;let nm:Nat -> Nat:=λn=>if n<(eP c.ro y.1).len then gW o.dst+n else (zD (gW o.dst) (eP c.ro y.1).len D).getD (n-(eP c.ro y.1).len) 0
     have pU:∀ (ps:aa PK) (i:Nat) (x:kR ps),(jN ps i x).length=ps.length:=by
      intro ps
      induction ps with
      |nil=>intro i x;rfl
      | cons p ps ih=>
       intro i x;cases p with
       |v=>exact bz (· + 1) (ih _ _)
       |p=>exact bz (· + 1) (ih _ _)
       |s=>exact bz (· + 1) (ih _ _)
     unfold Oper.wp;rw[Kr w o a f args iM ho he,Oper.upon_enter];have xz:(args.map a.eval)=(args.toList.map a.eval).toArray:=by apply Array.ext';rw[Array.toList_map]
     rw[xz];have KB:∀ b k,ey af dW id b=some k -> (∃ T,af b=some T/\fI T ns=true)/\k≠[]:=by
      intro b k C;cases E:af b with
      |none=>rw[hS.none b E]at C;cases C
      | some T=>
       refine⟨⟨T,rfl,?_⟩,?_⟩
       ·cases hq:fI T ns with
        |true=>rfl
        |false=>rw[(hS.rest b T E).2 hq]at C;cases C
       ·simp only[ey,E]at C;split at C
        ·cases C
        ·cases XI:dW.lookup _ with
         |none=>rw[XI]at C;cases C
         |some n=>rw[XI]at C;injection C with C;subst C;simp
     have hQ:Hd w (ey af dW id):=w0.on O.below (λb k C=>by obtain⟨⟨T,E,_⟩,_⟩:=KB b k C;exact(O.cN b T E).1)
     refine(hc x y hy nm w (ey af dW id) (xF w ρ rs) _ hE (λb k C=>⟨?_,(KB b k C).2⟩) ?_ PC hQ).mono λe w' qX=>?_
     ·obtain⟨⟨T,E,_⟩,_⟩:=KB b k C;exact(O.cN b T E).2.1
     ·rw[List.size_toArray,hA1,pU]
     ·obtain⟨v,I,rfl,ku,DK,jM,Qy⟩:=qX;have hB:=O.below.size;let dx:bh:=λb=>match ey af dW id b with
       |none=>if b<w.heap.size then af b else I b
       |some _=>I b
      have e1:∀ b k,I b=some k -> dx b=some k:=by
       intro b k C;show (match ey af dW id b with|none=>if b<w.heap.size then af b else I b|some _=>I b)=some k;split
       next iu=>have:=(DK b k C).1;have ox:=this.resolve_right (λh=>h iu);rw[aX];exact C
       ·exact C
      have e2:∀ b,w.heap.size <= b -> dx b=I b:=by
       intro b C;show (match ey af dW id b with|none=>if b<w.heap.size then af b else I b|some _=>I b)=I b;split
       ·rw[aX]
       ·rfl
      have XJ:∀ p∈sE w' ρ (gW o.dst) (eP c.ro y.1).len D (iN (ez c.ps) y.2),(sE w' ρ (gW o.dst) (eP c.ro y.1).len D (iN (ez c.ps) y.2)).lookup p.1=some p.2:=
       Xz (by rw[Ky,oH];exact ok1)
      generalize BE:sE w' ρ (gW o.dst) (eP c.ro y.1).len D (iN (ez c.ps) y.2)=hd at XJ;have ahG:hd.map (·.1)=cn:=by rw[<- BE,Ky,oH]
      have hv:ug w w' af dx ρ (Xx hd ρ) ns cn:=by
       refine⟨ku.size,λb C hk=>?_,λn Y=>?_,λb k C=>(O.cN b k C).2⟩
       ·have iu:ey af dW id b=none:=by
         cases E:af b with
         |none=>exact hS.none b E
         |some k=>exact(hS.rest b k E).2 (hk k E)
        refine⟨ku.block b C iu,?_⟩;show (match ey af dW id b with|none=>if b<w.heap.size then af b else I b|some _=>I b)=af b;rw[iu];exact aW C
       ·show (match hd.lookup n with|some v=>Loc.dA v|none=>ρ n)=ρ n;rw[Xy (by rw[ahG];exact Y)]
      have zG:∀U∈D,cP U.root cn=false:=λU jx=>by simpa using bS.1 XF U jx
      have sG:=Qt (c0:=gW o.dst) (nm:=nm) O hv e1 e2 hB D (m8 c.ps x) (iN (ez c.ps) y.2) 0 (eP c.ro y.1).len gV XH hrel (by omega) Qy (λk n Y=>?_) (λp hp=>?_) zG ok4
      ·have XK:iS w0 w w':=by
        refine⟨ku.os,ku.tape,ku.output,ku.size,λk hk hL=>ku.block k (Nat.lt_of_lt_of_le hk hB) ?_⟩
        cases E:af k with
        |none=>exact hS.none k E
        |some T=>exact absurd hL ((O.cN k T E).1.resolve_left (by omega))
       have m7:Rl w0 N dx (Xx hd ρ) (σ.c8 ns cn (kT ns cn (gW o.dst) (eP c.ro y.1).len D (iN (ez c.ps) y.2))) a w':=by
        refine O.uh hv XK (λb k C=>?_) (λn Y=>?_) (λn z Z=>?_)
        ·have C:(match ey af dW id b with | none=>if b<w.heap.size then af b else I b | some _=>I b)=some k:=C;have XL:I b=some k -> (w0.heap.size <= b \/ w0.L b≠none)/\b<w'.heap.size/\k≠[]:=by
          intro h1;obtain⟨g1,g2,g3⟩:=DK b k h1;refine⟨?_,g2,g3⟩;rcases g1 with g1|g1
          ·exact .inl (Nat.le_trans hB g1)
          ·cases iu:ey af dW id b with
           |none=>exact absurd iu g1
           | some k2=>
            obtain⟨⟨T,E,_⟩,_⟩:=KB b k2 iu;exact(O.cN b T E).1
         split at C
         ·split at C
          ·have:=O.cN b k C;exact⟨this.1,Nat.lt_of_lt_of_le this.2.1 ku.size,this.2.2⟩
          ·exact XL C
         ·exact XL C
        ·have:=bS.1 XG n (uf.1 Y);rw[dZ]at this;refine O.cF n ?_;rcases this with h | h
         ·exact .inl (by have:=cu h;omega)
         ·exact .inr (cu h)
        ·have vC:(n,z)∈kT ns cn (gW o.dst) (eP c.ro y.1).len D (iN (ez c.ps) y.2):=by
          clear sG;generalize kT ns cn (gW o.dst) (eP c.ro y.1).len D (iN (ez c.ps) y.2)=l at Z
          induction l with
          |nil=>cases Z
          | cons p l ih=>
           rw[List.lookup_cons]at Z;cases C:n==p.1 with
           | true=>
            rw[C]at Z;have e:n=p.1:=by simpa using C
            injection Z with Z;rw[e,<- Z]
            grind
           | false=>
            rw[C]at Z;exact .tail _ (ih Z)
         exact sG (n,z) vC
       have ahH:pO w' w0.heap.size dx (λn=>gW o.dst+n) (eP c.ro y.1) v:=?_
       ·obtain⟨sF,Gs,xJ⟩:=BF dx _ a w' v m7 ahH;exact hK v w' dx _ sF Gs (by rw[XE,yT];exact hv) XK xJ
       have Qz:∀(L:Nat),L=(eP c.ro y.1).len -> ∀n,n<L -> nm n=gW o.dst+n:=λL hL n Y=>aW
       generalize auw:eP c.ro y.1=res at jM Qz;cases res with
       | one p=>
        have jM:jv w' w.heap.size I nm 0 [p] [v]:=jM;exact jv.zq [p] 0 [v] jM hB e2 e1 (λn _ Y=>Qz _ rfl n (by simpa [fL.len]using Y))
       | eU xB=>
        obtain⟨vs,e,jK⟩:=jM;exact⟨vs,e,jv.zq xB 0 vs.toList jK hB e2 e1 (λn _ Y=>Qz _ rfl n (by simpa [fL.len]using Y))⟩
      ·show (if (eP c.ro y.1).len+k<(eP c.ro y.1).len then gW o.dst+((eP c.ro y.1).len+k)else (zD _ (eP c.ro y.1).len D).getD ((eP c.ro y.1).len+k-(eP c.ro y.1).len) 0)=n;rw[aX,show (eP c.ro y.1).len+k-(eP c.ro y.1).len=k by omega,cL,Y];rfl
      ·rw[BE]at hp;show (match hd.lookup p.1 with|some v=>Loc.dA v|none=>ρ p.1) = .dA p.2;rw[XJ p hp]
   ·cases h2
 ·cases h
def ahI{f:Nat}{args:Array Operand}{E:Array TypeId}{c:m9}{k:S -> ah X}(I:o.op = .call { callee:=.value (.func f),args,argTypes:=E })(O:enters P f)(T:vD P f c)(h:nO N σ o.dst c args.toList k=some r):∃ C,k C=some r/\kP P w0 N o σ C:=by
 obtain⟨C,QA,cn,U,_,_,_,Y⟩:=Qx I O T h
 refine⟨C,U,λa w K Q D Z=>?_⟩
 obtain⟨af,ρ,D⟩:=D;exact Y a w K Q af ρ D λv w' dx eW sF dm _ _ _=>Z _ _ ⟨dx,sF,dm⟩
end
end Go.Proofs.YtgjfmljpdnnihaaGreat
