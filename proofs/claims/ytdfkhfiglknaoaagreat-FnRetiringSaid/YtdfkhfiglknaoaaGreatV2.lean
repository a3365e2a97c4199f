/-
  Running the program over pure contents, and that it follows (part 2). Nothing here is a claim.
-/
import Derived.Laws.StructEq
import Derived.Test.YtdfkhfiglknaoaaGreatV1
set_option linter.unusedSimpArgs false
namespace Go.Proofs.YtdfkhfiglknaoaaGreat
set_option linter.defProp false
open Go.RowKit
set_option linter.unusedVariables false
def aGb{X:Type}(N:Nat)(σ:S)(C:ah Tmp)(c x y:A)(k:S->ah X):ah X:=
 match c with
 |.lf (.v (.bool b))=>bif b then iU N σ C x k else iU N σ C y k
 |_=>none
def IS{X:Type}(P:Program)(s:TypeId)(x:A)(f:Nat)(k:A->ah X):ah X:=
 match IA P s f,x with
 | some C,.agg cs=>(match kr P C.type,E3 P C.type with
  |some n,some true=>if C.offset+n<=cs.length then k (.agg ((cs.drop C.offset).take n))else none
  | some _,some false=>(match cs[C.offset]? with
   |some y=>k (.lf y)
   |none=>none)
  |_,_=>none)
 |_,_=>none
def Fg{X:Type}(C:Bool)(x y:A)(k:A->ah X):ah X:=
 match x,y with
 |.lf (.v (.int D a)),.lf (.v (.int _ b))=>k (.lf (.v (.int D (bif C then (if b > a then b else a)else (if b<a then b else a)))))
 |_,_=>none
def IU{X:Type}(P:Program)(t:TypeId)(x i:A)(k:A->ah X):ah X:=
 match x,i with
 | .lf (.v (.str s)),.lf (.v (.int _ iv))=>(match P.underlying t with
  |some .string=>if h:0<=iv/\iv.toNat<s.size then k (.lf (.v (.int .u8 ((s[iv.toNat]'h.2).toNat:Int))))else none
  |_=>none)
 |_,_=>none
def uQ{X:Type}(x:ah A)(d:Int)(k:Int->ah X):ah X:=
 match x with
 |none=>k d
 |some (.lf (.v (.int _ n)))=>k n
 |_=>none
def yw{X:Type}(P:Program)(t:TypeId)(x:A)(lo hi:ah A)(k:A->ah X):ah X:=
 match x with
 | .lf (.v (.str s))=>(match P.underlying t with
  |some .string=>uQ lo 0 λl=>uQ hi (s.size:Int) λh=>if 0<=l/\l<=h/\h<=(s.size:Int)then k (.lf (.v (.str (s.extract l.toNat h.toNat))))else none
  |_=>none)
 | .lf (.v (.sl C g D l))=>(match rm P t with
  | some e=>(match kr P e with
   |some n=>if n=aH C then (bif Nat.blt g 2 then uQ lo 0 λa=>uQ hi (l.length:Int) λb=>if 0<=a/\a<=b/\b<=(l.length:Int)then k (.lf (.v (.sl C g false ((l.take b.toNat).drop a.toNat))))else none else none)else none
   |none=>none)
  |none=>none)
 |_=>none
def Fh(P:Program)(C D:TypeId):Bool:=
 match P.underlying C,P.underlying D with
 | some (.slice e),some .string=>(match P.underlying e with
  |some (.int .u8)=>true
  |_=>false)
 |_,_=>false
def OS{X:Type}(P:Program)(C D:TypeId)(z:V)(k:A->ah X):ah X:=
 match z with
 |.sl .u8 _ _ l=>bif Fh P C D then k (.lf (.v (.str (strOfNums l))))else none
 |.nil=>bif Fh P C D then k (.lf (.v (.str (strOfNums []))))else none
 |_=>none
def Ao{X:Type}(P:Program)(σ:S)(C D:TypeId)(x:A)(k:A->ah X):ah X:=
 match x with
 | .lf (.v (.int _ n))=>(match P.underlying C,P.underlying D with
  |some _,some (.int E)=>k (.lf (.v (.int E (E.wrap n))))
  |_,_=>none)
 |.lf y=>qy σ y λz=>OS P C D z k
 |_=>none
section
variable {P:Program} {w w':World} {w0:Wd} {B N:Nat} {aj aD:bJ} {ρ ρ':Nat->Loc} {σ:S} {a:Act} {X:Type} {d:Nat} {r:X} {o:Oper}
def aGc{α:Type}(f:α -> aa Value)(s:Nat)(C:∀ x,(f x).length=s)(l:aa α):(l.flatMap f).length=l.length*s:=by
 induction l with
 |nil=>simp
 |cons a l D=>grind
def ao4{α:Type}(f:α -> aa Value)(s:Nat)(D:∀ x,(f x).length=s):∀ (l:aa α) (k:Nat) (C:k<l.length) (j:Nat),j<s -> (l.flatMap f)[k*s+j]?=(f l[k])[j]?:=by
 intro l
 induction l with
 |nil=>simp_all
 | cons a l E=>
  intro k C j I;rw[List.flatMap_cons];cases k with
  |zero=>grind
  |succ k =>grind
def ab8(z:Array Value)(s n:Nat)(C:z.size=s)(E:0<s):(madeCells z (n*s)).toList=(List.replicate n z.toList).flatten:=by
 have e:(List.replicate n z.toList).flatten=(List.replicate n ()).flatMap (λ_=>z.toList):=by
  rw[List.flatMap_def,List.map_replicate]
 rw[e];have hl:((List.replicate n ()).flatMap (λ_=>z.toList)).length=n*s:=by
  simp_all
 apply List.ext_getElem?;intro i;rcases Nat.lt_or_ge i _ with hi|hi
 ·have I:i / s<n:=Nat.div_lt_of_lt_mul (by rw[Nat.mul_comm];exact hi);have O:i % s<s:=Nat.mod_lt _ E;have U:i=i / s*s+i % s:=by rw[Nat.mul_comm];exact(Nat.div_add_mod i s).symm
  have D:=ao4 (λ_=>z.toList) s (λ_=>by simpa using C) (List.replicate n ()) (i / s) (by simpa using I) (i % s) O;rw[<- U]at D;rw[D];have Y:i % s<z.size:=by omega
  simp only[madeCells,Array.toList_map,Array.toList_range,fh,List.getElem?_range hi,Option.map_some,C];simp[Y]
 ·rw[qg (by rw[mR,size_madeCells];exact hi),qg (by rw[hl];exact hi)]
def ao5{t:TypeId}{len:Nat}{parts:Array (Nat×Operand)}{k:S -> ah X}(h:An P N σ d t len parts.toList k=some r):∃ cW,k cW=some r /\ ∀ aj ρ a w,Rl w0 N aj ρ σ a w ->
  ∃w' aD ρ' v,(Instr.buildSlice t len (parts.map λ(i,x)=>(i,a.eval x))).run P w = .ok v w'/\Rl w0 N aD ρ' cW (a.put (some d) v) w':=by
 unfold An at h;split at h
 ·rename_i e tc lA;obtain⟨gP,ht,i,hi,gx,kZ⟩:=Ak lA;split at h
  ·rename_i z hz;cases U:(Nat.beq (full tc) 0&&Nat.beq z.cells.size (aH tc)&&Nat.blt (len*aH tc) 16777217)with
   |false=>rw[U]at h;cases h
   | true=>
    rw[U,aq]at h;simp only[aP]at U;have hf:=cL U.1.1;have ox:=cL U.1.2;have hsm:len*aH tc<16777217:=by have:=dj U.2;omega
    have qA:i.zero=some z:=by unfold zeroOf at hz;simpa [hi]using hz
    split at h
    ·rename_i cs gA;split at h
     ·rename_i vs jz;split at h
      ·rename_i l hl;obtain⟨hd,h⟩:=oG h
       refine⟨_,h,λaj ρ a w hR=>?_⟩
       obtain⟨yx,yo,jk⟩:=OQ tc 0 len vs l hl;have Vo:fy w w0.heap.size aj ρ (List.replicate len (z.cells.toList.map pI)).flatten (madeCells z.cells (len*aH tc)):=by
        have e1:(List.replicate len (z.cells.toList.map pI)).flatten=((List.replicate len z.cells.toList).flatten).map pI:=by
         rw[List.map_flatten,List.map_replicate]
        rw[e1,<- ab8 z.cells (aH tc) len ox (pE tc)]
        refine⟨by simp,λj x C=>?_⟩
        rw[fh]at C;cases E:(madeCells z.cells (len*aH tc)).toList[j]? with
        |none=>rw[E]at C;cases C
        | some v=>
         rw[E]at C;injection C with C;subst C;exact⟨v,by simpa using E,OH v⟩
       obtain⟨I,yz,fz⟩:=OP (w:=w) (B:=w0.heap.size) (aj:=aj) (ρ:=ρ) _ _ _ (parts.toList.map λp=>(p.1,a.eval p.2)) cs gA Vo (by simp) (λj p q O hq=>by
        rw[fh]at O hq;cases C:parts.toList[j]? with
        |none=>rw[C]at O;cases O
        | some x=>
         rw[C]at O hq;injection O with O;injection hq with hq;subst O hq;exact⟨rfl,hR.aL x.2⟩)
       have IV:=IP cs vs jz;have Vp:I.size=len*aH tc:=by rw[fz.1,IV,fN,yo]
       have cH:(Instr.buildSlice t len (parts.map λ(i,x)=>(i,a.eval x))).run P w = .ok (.slice (some ⟨w.heap.size,0,none⟩) len len) (w.alloc (.cells I e)):=by
        have IN:(parts.map λ(i,x)=>(i,a.eval x)).toList=parts.toList.map λp=>(p.1,a.eval p.2):=by simp
        by_cases h0:len*aH tc=0
        ·have hm:madeCells z.cells (len*aH tc) = #[]:=by rw[h0];simp[madeCells]
         rw[hm]at yz;have Vq:len*i.size=0:=by rw[gx];exact h0
         rw[<- gx]at yz;have e0:∀f:Nat -> Value,Array.map f (Array.range 0) = #[]:=λf=>by simp
         simp only[Instr.buildSlice,gN,iJ gP,sizeOf,typeInfo];simp[hi,Vq];rw[e0,yz];simp[newRow]
        ·exact run_buildSlice (P:=P) w t e len _ I i z gP hi qA (by rw[gx];omega) (by rw[gx];exact h0) (by rw[gx,IN];exact yz)
       refine⟨_,cc aj w.heap.size (some [d]),cc ρ d (.eU (.slice (some ⟨w.heap.size,0,none⟩) len len)),_,cH,(hR.Ct (hR.dY d (.inl hd)) (λr hr=>cN _ _ _ hr) (.sl _ _ (cm _ _ _) ?_)).set ⟨rfl,by simp[dn,cm]⟩ hd⟩
       have tF:∀ D (Y:D<l.length) j x,(enc tc 0 l[D])[j]?=some x -> ∃ v,I[D*aH tc+j]?=some v /\ ∀ (w':World) (B':Nat) (aD:bJ) (q':aa Nat),RV w' B' aD q' x v:=by
        intro D Y j x C;obtain⟨y,hy,hw⟩:=jk D Y j x C;obtain⟨v,E,hr⟩:=fz.2 (D*aH tc+j) (.v y) (by rw[IV,fh,hy];rfl);exact⟨v,E,λw' B' aD q'=>(hr.2.wk hw).uI (zY tc 0 l[D] hf x (iB C))⟩
       have:=RV.own (w:=w.alloc (.cells I e)) (B:=w0.heap.size) (aj:=cc aj w.heap.size (some [d])) [d] tc 0 true l w.heap.size len I (λi j=>(I[i*aH tc+j]?).getD undef)
        (cm _ _ _) (by rw[ht];exact heap_alloc_new w _) Vp (by omega) ⟨by have:=Nat.le_mul_of_pos_right len (pE tc);unfold maxLen;omega,λ_=>yx.symm⟩ (λD Y j x C=>?_) (λD Y j x C=>?_)
       ·rw[yx]at this;exact this
       ·obtain⟨v,E,_⟩:=tF D Y j x C;rw[E];rfl
       ·obtain⟨v,E,hr⟩:=tF D Y j x C;rw[E];exact hr _ _ _ _
      ·cases h
     ·cases h
    ·cases h
  ·cases h
 ·cases h
def ab9{C:Bool}{x y:A}{k:A->ah X}(h:Fg C x y k=some r):∃ z,k z=some r/\∀ (w:World) (B:Nat) (aj:bJ) (ρ:Nat->Loc) (t ty:TypeId) (u v:Value),RA w B aj ρ x u->RA w B aj ρ y v->
  ∃D,((bif C then Builtin.max_ #[t,t] ty #[u,v]else Builtin.min_ #[t,t] ty #[u,v]):Sem Value).run P w = .ok D w/\RA w B aj ρ z D:=by
 unfold Fg at h;split at h
 ·refine⟨_,h,λw B aj ρ t ty u v E I=>?_⟩
  obtain rfl:=E.2.iE;obtain rfl:=I.2.iE;cases C with
  |true=>exact⟨_,by simp[Builtin.max_,Builtin.max2],rfl,.int _ _ _⟩
  |false=>exact⟨_,by simp[Builtin.min_,Builtin.min2],rfl,.int _ _ _⟩
 ·cases h
def ao6{t:TypeId}{x i:A}{k:A->ah X}(h:IU P t x i k=some r):∃ z,k z=some r/\∀ (w:World) (B:Nat) (aj:bJ) (ρ:Nat->Loc) (u v:Value),RA w B aj ρ x u->RA w B aj ρ i v->
  ∃C,(Instr.index t u v).run P w = .ok C w/\RA w B aj ρ z C:=by
 unfold IU at h;split at h
 ·rename_i s O iv;split at h
  ·rename_i D;split at h
   ·rename_i hb
    refine⟨_,h,λw B aj ρ u v E I=>?_⟩
    obtain rfl:=E.2.yj;obtain rfl:=I.2.iE;exact⟨_,by simp[Instr.index,asIntOf,iJ D,hb.1,hb.2],rfl,.int _ _ _⟩
   ·cases h
  ·cases h
 ·cases h
def acd{C D:TypeId}(h:Fh P C D=true):∃ e,P.underlying C=some (.slice e)/\P.underlying D=some .string/\P.underlying e=some (.int .u8):=by
 unfold Fh at h
 grind
def ace(l:aa Int)(i:Nat)(hi:i<l.length):l.getD i 0=l[i]:=by rw[cV,bT hi];rfl
def RV.toStr{I O e:TypeId}(Y:P.underlying I=some (.slice e))(hd:P.underlying O=some .string)(he:P.underlying e=some (.int .u8)){o:Nat}{qn:Bool}{l:aa (T .u8)}{q:aa Nat}{B:Nat}{u:Value}(h:RV w B aj q (.sl .u8 o qn l) u):
  (convert I O u).run P w = .ok (.string (strOfNums l)) w:=by
 generalize C:V.sl .u8 o qn l=y at h;cases h with
 |int=>cases C
 |bool=>cases C
 |str=>cases C
 |nil=>cases C
 | fq q t o'=>
  injection C with D e2 e3 E;subst D;obtain rfl:=eq_of_heq E;rw[run_convert_bytes_nil w I e Y he 0 0 O hd];rfl
 | gy q t o' A c ho=>
  injection C with D e2 e3 E;subst D;obtain rfl:=eq_of_heq E;have hl:=run_loadCells_list (P:=P) w A [] (λj v hj=>by simp at hj);rw[run_convert_bytes_string w I O e _ 0 c Y he hd];rfl
 | gL q t o' A c ho=>
  injection C with D e2 e3 E;subst D;obtain rfl:=eq_of_heq E;have hl:(loadCells A 0).run P w = .ok (([]:aa Int).map (Value.int .u8)).toArray w:=run_loadCells_list (P:=P) w A [] (λj v hj=>by simp at hj);rw[run_convert_bytes_string w I O e _ 0 c Y he hd,run_bytesToString w A 0 c [] hl];rfl
 | aI q t o' Vr l' b off cap uu ho hl hb h1 jM hc hr=>
  injection C with D e2 e3 E;subst D;obtain rfl:=eq_of_heq E
  refine run_convert_bytes_arg w I e Y he b off _ cap l rfl (λi hi=>?_) O hd
  have U:=hc i hi 0 (.int .u8 l[i]) rfl;have h3:=(hr i hi 0 (.int .u8 l[i]) rfl).iE;simp only[aH,Nat.mul_one,Nat.add_zero]at U;have hg:=ace (show aa Int from l) i hi;rw[U,h3];exact bC (λz=>some (Value.int .u8 z)) hg.symm
 | own q t o' Vr l' b cap cs uu hl hh yg hn hm hc hr=>
  injection C with D e2 e3 E;subst D;obtain rfl:=eq_of_heq E
  refine run_convert_bytes_arg w I e Y he b 0 _ cap l rfl (λi hi=>?_) O hd
  have U:=hc i hi 0 (.int .u8 l[i]) rfl;have h3:=(hr i hi 0 (.int .u8 l[i]) rfl).iE;simp only[aH,Nat.mul_one,Nat.add_zero]at U;have hg:=ace (show aa Int from l) i hi;rw[h3]at U;have h4:w.cell? ⟨b,0+i,none⟩=some (.int .u8 l[i]):=by simp[World.cell?,hh,U]
  rw[h4];exact bC (λz=>some (Value.int .u8 z)) hg.symm
def ao7{E I:TypeId}{x:A}{k:A -> ah X}(h:Ao P σ E I x k=some r):∃ z,k z=some r /\ ∀ aj ρ a w,Rl w0 N aj ρ σ a w -> ∀ u,RA w w0.heap.size aj ρ x u ->
  ∃t',(convert E I u).run P w = .ok t' w/\RA w w0.heap.size aj ρ z t':=by
 unfold Ao at h;split at h
 ·rename_i kk n;split at h
  ·rename_i d1 kd hs hd
   refine⟨_,h,λaj ρ a w _ u C=>?_⟩
   obtain rfl:=C.2.iE;exact⟨_,by simp[convert,iJ hs,iJ hd,Conv.intToInt],rfl,.int _ _ _⟩
  ·cases h
 ·rename_i y _;have key:∃ z,(∀ aj ρ a w,Rl w0 N aj ρ σ a w -> ∀ u,eS w w0.heap.size aj ρ y u -> ∃ q,RV w w0.heap.size aj q z u)/\OS P E I z k=some r:=by
   cases y with
   |v z=>exact⟨z,λaj ρ a w _ u C=>⟨[],C.2⟩,h⟩
   |dead=>cases h
   | own q=>
    obtain⟨z,U,h⟩:=tD q _ h
    refine⟨z,λaj ρ a w hR u C=>?_,h⟩
    obtain⟨v,hv,Y⟩:=U.ok hR.root;have h3:=C.2
    grind
  obtain⟨z,U,D⟩:=key;clear h;unfold OS at D;split at D
  ·rename_i o qn l;cases O:Fh P E I with
   |false=>simp_all
   | true=>
    rw[O]at D;obtain⟨e,e1,e2,e3⟩:=acd O
    refine⟨_,D,λaj ρ a w hR u C=>?_⟩
    obtain⟨q,Y⟩:=U aj ρ a w hR u C;exact⟨_,Y.toStr e1 e2 e3,rfl,.str _ _⟩
  ·cases O:Fh P E I with
   |false=>simp_all
   | true=>
    rw[O,aq]at D;obtain⟨e,e1,e2,e3⟩:=acd O
    refine⟨_,D,λaj ρ a w hR u C=>?_⟩
    obtain⟨q,Y⟩:=U aj ρ a w hR u C;cases Y;exact⟨_,by rw[run_convert_bytes_nil w E e e1 e3 0 0 I e2];rfl,rfl,.str _ _⟩
  ·cases D
 ·cases h
def ao8{s:TypeId}{x:A}{f:Nat}{k:A -> ah X}(h:IS P s x f k=some r):∃ z,k z=some r /\ ∀ (w:World) (B:Nat) (aj:bJ) (ρ:Nat -> Loc) (u:Value),RA w B aj ρ x u ->
  ∃t',(Instr.field s u f).run P w = .ok t' w/\RA w B aj ρ z t':=by
 unfold IS at h;split at h
 ·rename_i E cs I;have lC:∃ O,P.underlying s=some (.struct O)/\O[f]?=some E:=by
   unfold IA at I;split at I
   ·simp_all
   ·cases I
  obtain⟨O,m0,Ap⟩:=lC;split at h
  ·rename_i n U C;split at h
   ·rename_i hle
    refine⟨_,h,λw B aj ρ u D=>?_⟩
    obtain⟨us,rfl,hR⟩:=D;have Y:(isAgg E.type).run P w = .ok true w:=by
     unfold E3 at C;split at C
     next fs' D=>unfold isAgg;rw[gN,iJ D];rfl
     next c e D=>unfold isAgg;rw[gN,iJ D];rfl
     ·cases C
     ·cases C
    unfold kr at U;cases hi:P.info? E.type with
    |none=>simp_all
    | some i=>
     have uJ:i.size=n:=by simpa [hi]using U
     refine⟨.agg (us.extract E.offset (E.offset+n)),by simp[Instr.field,iJ m0,Ap,asAgg,part,gN,Y,sizeOf,typeInfo,hi,uJ],_,rfl,?_,λj y hy=>?_⟩
     ·have:=hR.1
      grind
     ·obtain⟨hj,IQ⟩:=Oy _ _ _ _ _ hy;obtain⟨v,hv,hr⟩:=hR.2 _ y IQ
      grind
   ·cases h
  ·rename_i n U C;split at h
   ·rename_i y hy
    refine⟨_,h,λw B aj ρ u D=>?_⟩
    obtain⟨us,rfl,hR⟩:=D;obtain⟨v,hv,hr⟩:=hR.2 _ y hy;have Y:(isAgg E.type).run P w = .ok false w:=by
     unfold E3 at C;split at C
     ·cases C
     ·cases C
     next d hs ha D=>unfold isAgg;rw[gN,iJ D];simp_all
     ·cases C
    exact⟨v,by simp[Instr.field,iJ m0,Ap,asAgg,part,gN,Y,hv],hr⟩
   ·cases h
  ·cases h
 ·cases h
end
def V.val:V->Value
 |.int k n=>.int k n
 |.bool b=>.bool b
 |.str s=>.string s
 |_=>undef
def OT:TypeDesc->V->V->ah Bool
 |.int _,.int k a,.int C b=>if k=C then some (a==b)else none
 |.bool,.bool a,.bool b=>some (a==b)
 |.string,.str a,.str b=>some (a.toList==b.toList)
 |_,_,_=>none
def IW(P:Program)(g:TypeId->aa V->aa V->ah Bool)(xs ys:aa V):aa Field->ah Bool
 |[]=>some true
 | f :: C=>bif f.name == "_" then IW P g xs ys C else (match kr P f.type with
  | some n=>bif Nat.ble (f.offset+n) xs.length then (match g f.type ((xs.drop f.offset).take n) ((ys.drop f.offset).take n),IW P g xs ys C with
   |some a,some b=>some (a&&b)
   |_,_=>none)else none
  |none=>none)
def Aq(P:Program):Nat->TypeId->aa V->aa V->ah Bool
 |0,_,_,_=>none
 | n+1,t,xs,ys=>match P.underlying t with
  |some (.struct C)=>bif P.stoodInHeld t ||!Nat.beq xs.length ys.length then none else IW P (Aq P n) xs ys C.toList
  | some d=>(match xs,ys with
   |[x],[y]=>OT d x y
   |_,_=>none)
  |none=>none
def OU:BinOp->ah Bool
 |.eql=>some false
 |.neq=>some true
 |_=>none
def kM{α:Type}:aa α->Bool
 |[]=>true
 |_=>false
def isStr(P:Program)(t:TypeId):Bool:=match P.underlying t with
 |some (.struct _)=>true
 |_=>false
def As{X:Type}(P:Program)(σ:S)(D:BinOp)(t:TypeId)(x y:A)(k:A->ah X):ah X:=
 match OU D,x,y with
 | some C,.agg cs,.agg E=>(match sD cs,sD E with
  | some xs,some ys=>bif P.eqGuardType P.depth t || !isStr P t then none else (match Aq P 20 t xs ys with
   |some b=>k (.lf (.v (.bool (bif C then !b else b))))
   |none=>none)
  |_,_=>none)
 | some C,.lf l,.lf (.v .nil)=>(match rm P t with
  | some _=>qy σ l λz=>(match z with
   |.nil=>k (.lf (.v (.bool (bif C then false else true))))
   |.sl _ _ true _=>k (.lf (.v (.bool (bif C then true else false))))
   |.sl _ _ false l=>bif kM l then none else k (.lf (.v (.bool (bif C then true else false))))
   |_=>none)
  |none=>none)
 |_,_,_=>vK x λa=>vK y λb=>Ix P t D a b λz=>k (.lf (.v z))
section
variable {P:Program} {w w':World} {w0:Wd} {B N:Nat} {aj aD:bJ} {ρ ρ':Nat->Loc} {σ:S} {a:Act} {X:Type} {d:Nat} {r:X} {o:Oper}
def ao9{D:TypeDesc}{x y:V}{b:Bool}{t:TypeId}{n:Nat}(C:P.underlying t=some D)(h:OT D x y=some b):(Op.equalIn (n+1) t x.val y.val).run P w = .ok b w:=by
 unfold OT at h;split at h
 ·split at h
  next I _ a k O E=>subst E;injection h with h;subst h;exact run_equalIn_int w n t _ _ _ _ C
  ·cases h
 ·injection h with h;subst h;exact run_equalIn_bool' w n t _ _ C
 ·injection h with h;subst h;exact run_equalIn_string w n t _ _ C
 ·cases h
def uR(P:Program)(t:TypeId)(xs:aa V)(u:Value):Prop:=
 match P.underlying t with
 |some (.struct _)=>u = .agg (xs.map V.val).toArray
 |_=>∃x,xs=[x]/\u=x.val
def acf{t:TypeId}{n off:Nat}{xs:aa V}(O:kr P t=some n)(hle:off+n <= xs.length)(U:∃ d,P.underlying t=some d/\(∀ c e,d ≠ .array c e)/\((∀ C,d ≠ .struct C) -> n=1)):
  ∃u,(part t (xs.map V.val).toArray off).run P w = .ok u w/\uR P t ((xs.drop off).take n) u:=by
 obtain⟨d,D,Y,h1⟩:=U;unfold kr at O;cases hi:P.info? t with
 |none=>grind
 | some i=>
  have uJ:i.size=n:=by simpa [hi]using O
  by_cases E:∃C,d = .struct C
  ·obtain⟨C,rfl⟩:=E;have I:(isAgg t).run P w = .ok true w:=by
    unfold isAgg;rw[gN,iJ D];rfl
   refine⟨.agg ((xs.map V.val).toArray.extract off (off+n)),by simp[part,gN,I,sizeOf,typeInfo,hi,uJ],?_⟩;unfold uR;rw[D];simp only;congr 1;apply Array.ext';simp[List.map_drop,List.map_take]
  ·have I:(isAgg t).run P w = .ok false w:=by
    unfold isAgg;rw[gN,iJ D w];cases d<;>first|rfl|(exfalso;exact E ⟨_,rfl⟩)|(exfalso;exact Y _ _ rfl)
   have Cy:n=1:=h1 λC e=>E ⟨C,e⟩
   subst Cy;have dQ:off<xs.length:=by omega
   have tF:(xs.map V.val).toArray[off]?=some (xs[off]).val:=by simp[dQ]
   refine⟨(xs[off]).val,by simp[part,gN,I,tF],?_⟩;have e1:(xs.drop off).take 1=[xs[off]]:=by
    rw[List.drop_eq_getElem_cons];rfl
   unfold uR;rw[D];split
   ·grind
   ·grind
def apa{n:Nat}{t:TypeId}{xs ys:aa V}{b:Bool}(h:Aq P n t xs ys=some b):∃ d,P.underlying t=some d/\(∀ c e,d ≠ .array c e)/\((∀ C,d ≠ .struct C) -> xs.length=1):=by
 cases n with
 |zero=>cases h
 | succ n=>
  unfold Aq at h;split at h
  ·simp_all
  ·rename_i d I D;split at h
   next x y=>exact⟨d,D,(λc e E=>by subst E;simp[OT]at h),λ_=>rfl⟩
   ·cases h
  ·cases h
def Vs{n:Nat}{xs ys:aa V}(hlen:xs.length=ys.length)(I:∀ t xs ys b,Aq P n t xs ys=some b -> ∀ u v,uR P t xs u -> uR P t ys v -> ∀ k,(Op.equalIn (k+n) t u v).run P w = .ok b w)(k:Nat):∀ (C:aa Field) (b:Bool),IW P (Aq P n) xs ys C=some b ->
  (Op.eqFields (k+n) (xs.map V.val).toArray (ys.map V.val).toArray C).run P w = .ok b w
 | [],b,h=>by
  injection h with h;subst h;simp[Op.eqFields]
 | f :: C,b,h=>by
  unfold IW at h;cases D:f.name == "_" with
  | true=>
   rw[D]at h;have:f.name = "_":=by simpa using D
   simp[Op.eqFields,this,not_true];exact Vs hlen I k C b h
  | false=>
   rw[D,av]at h;have cx:f.name ≠ "_":=by simpa using D
   split at h
   ·rename_i s O;cases E:Nat.ble (f.offset+s) xs.length with
    |false=>simp_all
    | true=>
     rw[E,aq]at h;have E:=dj E;split at h
     ·rename_i c e U h2;injection h with h;subst h;obtain⟨Y,hd1,ha1,nT⟩:=apa U;have rz:((xs.drop f.offset).take s).length=s:=by simp;omega
      obtain⟨u,Vt,Vu⟩:=acf (w:=w) O E ⟨Y,hd1,ha1,λh=>rz.symm.trans (nT h)⟩;obtain⟨v,Vv,IX⟩:=acf (w:=w) (xs:=ys) (off:=f.offset) O (by omega) ⟨Y,hd1,ha1,λh=>rz.symm.trans (nT h)⟩;have hr:=I _ _ _ c U u v Vu IX k;have tJ:=Vs hlen I k C e h2;simp only[Op.eqFields,cx,ne_eq,not_false_eq_true,if_true,gN,Vt,Vv,hr,mS];cases c
      ·simp
      ·simp_all
     ·cases h
   ·cases h
def acg:∀ (n:Nat) (t:TypeId) (xs ys:aa V) (b:Bool),Aq P n t xs ys=some b -> ∀ u v,uR P t xs u -> uR P t ys v -> ∀ k,(Op.equalIn (k+n) t u v).run P w = .ok b w
 |0,t,xs,ys,b,h=>by cases h
 | n+1,t,xs,ys,b,h=>by
  intro u v C D k;unfold Aq at h;split at h
  ·rename_i Y I;cases E:(P.stoodInHeld t || !Nat.beq xs.length ys.length)with
   |true=>simp_all
   | false=>
    rw[E,av]at h;rw[o5,Bool.not_eq_false']at E;have hlen:=cL E.2;unfold uR at C D;rw[I]at C D;simp only at C D;subst C D;have hf:P.fieldsOf t=Y:=by simp[Program.fieldsOf,I]
    rw[<- Nat.add_assoc,run_equalIn_struct w (k+n) t _ _ (by rw[hf];exact I) E.1,hf];exact Vs hlen (acg n) k Y.toList b h
  ·rename_i d Ac hd;split at h
   ·rename_i x y;unfold uR at C D;rw[hd]at C D;split at C
    ·simp_all
    ·split at D
     ·simp_all
     ·obtain⟨x',O,rfl⟩:=C;obtain⟨y',U,rfl⟩:=D;injection O with O;injection U with U;subst O U;exact ao9 hd h
   ·cases h
  ·cases h
def ach{cs:aa Lf}{xs:aa V}(h:sD cs=some xs){u:Value}(D:RA w B aj ρ (.agg cs) u):u = .agg (xs.map V.val).toArray:=by
 obtain⟨e,E⟩:=Oz _ _ h;obtain⟨us,rfl,hs,I⟩:=D;congr 1;apply Array.ext';apply List.ext_getElem?;intro j;rw[ fh,Array.getElem?_toList];cases C:xs[j]? with
 |none =>simp_all
 | some x=>
  obtain⟨v,O,U⟩:=I j _ (by rw[e,fh,C];rfl);rw[O];have:=E x (iB C);have Y:=U.2;cases Y<;>first|rfl|cases this
def Fi{C:BinOp}{D:Bool}(E:OU C=some D){t e:TypeId}(I:P.underlying t=some (.slice e))(O U:Operand)(A:ah Addr)(n c:Nat):
  (do eqGuard C t O U (.slice A n c) (.slice none 0 0);binOp C t (.slice A n c) (.slice none 0 0):Sem Value).run P w = .ok (.bool (bif D then !A.isNone else A.isNone)) w:=by
 have Y:(Op.equal t (.slice A n c) (.slice none 0 0)).run P w = .ok A.isNone w:=by
  have h:∀ d,(Op.equalIn (d+1) t (.slice A n c) (.slice none 0 0)).run P w = .ok A.isNone w:=by
   intro d;cases A<;>simp[Op.equalIn,iJ I]
  exact h 9999
 cases C<;>simp[OU]at E<;>subst E<;>simp[eqGuard,binOp,Y]
def apb{op:BinOp}{t:TypeId}{x y:A}{k:A -> ah X}(h:As P σ op t x y k=some r):∃ z,k z=some r /\ ∀ aj ρ a w,Rl w0 N aj ρ σ a w -> ∀ C D u v,RA w w0.heap.size aj ρ x u -> RA w w0.heap.size aj ρ y v ->
  ∃t',(do eqGuard op t C D u v;binOp op t u v:Sem Value).run P w = .ok t' w/\RA w w0.heap.size aj ρ z t':=by
 unfold As at h;split at h
 ·rename_i U cs ds O;split at h
  ·rename_i xs ys oE At;cases hg:(P.eqGuardType P.depth t || !isStr P t)with
   |true=>simp_all
   | false=>
    rw[hg,av]at h;rw[o5,Bool.not_eq_false']at hg;obtain⟨hg,lC⟩:=hg;split at h
    ·rename_i b hb
     refine⟨_,h,λaj ρ a w hR C D u v E I=>?_⟩
     have E:=ach oE E;have I:=ach At I;subst E I;have hs:∃ fs,P.underlying t=some (.struct fs):=by
      unfold isStr at lC;split at lC
      ·simp_all
      ·cases lC
     obtain⟨fs,Ap⟩:=hs;have hr:=acg (w:=w) 20 t xs ys b hb (.agg (xs.map V.val).toArray) (.agg (ys.map V.val).toArray) (by unfold uR;rw[Ap]) (by unfold uR;rw[Ap]) 9980;refine⟨.bool (bif U then !b else b),?_,rfl,.bool _ _⟩;rw[gN,run_eqGuard_agg w op t C D _ _ hg,mS];cases op<;>simp[OU]at O<;>subst O
     ·rw[run_eql_struct,hr];rfl
     ·rw[run_neq_struct,hr];rfl
    ·cases h
  ·cases h
 ·rename_i U l O;split at h
  ·rename_i e he;have ht:P.underlying t=some (.slice e):=by
    unfold rm at he;split at he
    ·simp_all
    ·cases he
   obtain⟨z,hz,Y⟩:=Vm (w0:=w0) (N:=N) h;clear h;split at Y
   ·refine⟨_,Y,λaj ρ a w hR C D u v E I=>?_⟩
    obtain⟨q,hq⟩:=hz aj ρ a w hR u E;cases hq;cases I.2;exact⟨_,Fi O ht C D none 0 0,rfl,by cases U<;>exact .bool _ _⟩
   ·refine⟨_,Y,λaj ρ a w hR C D u v E I=>?_⟩
    obtain⟨q,hq⟩:=hz aj ρ a w hR u E;cases I.2;cases hq with
    |aI _ _ _ _ _ b off cap us ho hl hb h1 jM hc hr=>exact⟨_,Fi O ht C D _ _ _,rfl,by cases U<;>exact .bool _ _⟩
    |own=>exact⟨_,Fi O ht C D _ _ _,rfl,by cases U<;>exact .bool _ _⟩
    |gL=>exact⟨_,Fi O ht C D _ _ _,rfl,by cases U<;>exact .bool _ _⟩
   ·rename_i t' o' l';cases hl:kM l' with
    |true=>simp_all
    | false=>
     rw[hl,av]at Y
     refine⟨_,Y,λaj ρ a w hR C D u v E I=>?_⟩
     obtain⟨q,hq⟩:=hz aj ρ a w hR u E;cases I.2;cases hq with
     |fq=>cases hl
     |gy=>cases hl
     |aI _ _ _ _ _ b off cap us ho yu hb h1 jM hc hr=>exact⟨_,Fi O ht C D _ _ _,rfl,by cases U<;>exact .bool _ _⟩
     |own=>exact⟨_,Fi O ht C D _ _ _,rfl,by cases U<;>exact .bool _ _⟩
   ·cases Y
  ·cases h
 ·obtain⟨u0,hx,h1⟩:=U5 h;obtain⟨v0,hy,Y⟩:=U5 h1;obtain⟨z,h3,hp,hs⟩:=aoC Y;subst hx hy
  refine⟨_,h3,λaj ρ a w hR C D u v E I=>?_⟩
  obtain⟨t',cH,hr⟩:=hs w _ aj C D [] [] _ _ E.2 I.2;exact⟨t',cH,V.Iz hp,hr⟩
/-! Parts of slices that nobody writes. -/
def Fj{x:ah A}{C:Int}{k:Int->ah X}(h:uQ x C k=some r):∃ n,k n=some r/\(∀ (E:Type) (D:Int->ah E),uQ x C D=D n)/\((x=none/\n=C)\/∃ I,x=some (.lf (.v (.int I n)))):=by
 unfold uQ at h;split at h
 ·exact⟨_,h,λ_ _=>rfl,.inl ⟨rfl,rfl⟩⟩
 ·exact⟨_,h,λ_ _=>rfl,.inr ⟨_,rfl⟩⟩
 ·cases h
def apc{t:TypeId}{x:A}{lo hi:ah A}{k:A -> ah X}(h:yw P t x lo hi k=some r):∃ y,k y=some r/\(∀ (I:Type) (E:A -> ah I),yw P t x lo hi E=E y) /\
  ((∃ (s:ByteArray) (l h:Int),x = .lf (.v (.str s))/\P.underlying t=some .string/\((lo=none/\l=0) \/ ∃ C,lo=some (.lf (.v (.int C l))))/\((hi=none/\h=s.size) \/ ∃ C,hi=some (.lf (.v (.int C h))))/\0 <= l/\l <= h/\h <= (s.size:Int)/\y = .lf (.v (.str (s.extract l.toNat h.toNat)))) \/
   ∃(tc:TC) (g:Nat) (O:Bool) (xs:aa (T tc)) (e:TypeId) (l h:Int),x = .lf (.v (.sl tc g O xs))/\rm P t=some e/\kr P e=some (aH tc)/\g<2/\((lo=none/\l=0) \/ ∃C,lo=some (.lf (.v (.int C l))))/\((hi=none/\h=xs.length) \/ ∃C,hi=some (.lf (.v (.int C h))))/\0 <= l/\l <= h/\h <= (xs.length:Int)/\y = .lf (.v (.sl tc g false ((xs.take h.toNat).drop l.toNat)))):=by
 unfold yw at h;split at h
 ·rename_i s;split at h
  ·rename_i hu;obtain⟨l,U,d1,Y⟩:=Fj h;obtain⟨m,D,d2,e2⟩:=Fj U;split at D
   ·rename_i hb
    refine⟨_,D,λI E=>?_,.inl ⟨s,l,m,rfl,hu,Y,e2,hb.1,hb.2.1,hb.2.2,rfl⟩⟩
    simp[yw,hu];simp_all
   ·cases D
  ·cases h
 ·rename_i tc g O xs;split at h
  ·rename_i e he;split at h
   ·rename_i n hn;split at h
    ·rename_i Cq;subst Cq;cases hg:Nat.blt g 2 with
     |false=>simp_all
     | true=>
      rw[hg,aq]at h;obtain⟨l,U,d1,Y⟩:=Fj h;obtain⟨m,D,d2,e2⟩:=Fj U;split at D
      ·rename_i hb
       refine⟨_,D,λI E=>?_,.inr ⟨tc,g,O,xs,e,l,m,rfl,he,hn,dj hg,Y,e2,hb.1,hb.2.1,hb.2.2,rfl⟩⟩
       simp[yw,he,hn,if_true,hg,aq];simp_all
      ·cases D
    ·cases h
   ·cases h
  ·cases h
 ·cases h
def apd{t:TypeId}{x:A}{lo hi:ah A}{k:A->ah X}(h:yw P t x lo hi k=some r):∃ y,k y=some r/\(∀ (X':Type) (k':A->ah X'),yw P t x lo hi k'=k' y)/\
  ∀ (w:World) (B:Nat) (aj:bJ) (ρ:Nat->Loc) (u:Value) (Y C:ah Value),RA w B aj ρ x u->(∀ a,lo=some a->∃ v,Y=some v/\RA w B aj ρ a v)->(lo=none->Y=none)->(∀ a,hi=some a->∃ v,C=some v/\RA w B aj ρ a v)->(hi=none->C=none)->
   ∃t',(Instr.sliceAt t u Y C none).run P w = .ok t' w/\RA w B aj ρ y t':=by
 obtain⟨y,h1,hd,hc⟩:=apc h
 refine⟨y,h1,hd,λw B aj ρ u Y C hu rz kL Au wu=>?_⟩
 have bl:∀ {o:ah A} {E:ah Value} {n Cz:Int},(∀ a,o=some a->∃ v,E=some v/\RA w B aj ρ a v)->(o=none->E=none)->((o=none/\n=Cz)\/∃ I,o=some (.lf (.v (.int I n))))->(E=none/\n=Cz)\/∃ I,E=some (.int I n):=by
  intro o E n Cz g1 g2 g3;rcases g3 with ⟨e,e'⟩|⟨I,e⟩
  ·exact .inl ⟨g2 e,e'⟩
  ·obtain⟨v,C,hr⟩:=g1 _ e;exact .inr ⟨I,by rw[C,hr.2.iE]⟩
 rcases hc with ⟨s,l,m,rfl,O,e1,e2,b1,b2,b3,rfl⟩|⟨tc,g,qn,xs,e,l,m,rfl,D,hn,hg,e1,e2,b1,b2,b3,rfl⟩
 ·have h5:=bl rz kL e1;have h6:=bl Au wu e2;obtain rfl:=hu.2.yj;have em:(m.toNat:Int)=m:=Int.toNat_of_nonneg (by omega);refine⟨.string (s.extract l.toNat m.toNat),?_,rfl,.str _ _⟩;rw[run_sliceAt_string w t _ _ _ _ O];have CA:0<=m:=by omega
  rcases h5 with ⟨rfl,h7⟩|⟨kl,rfl⟩<;>rcases h6 with ⟨rfl,h8⟩|⟨kh,rfl⟩
  all_goals simp_all [Instr.slice,iJ O,Instr.sliceBounds,run_sliceBound]
 ·have h5:=bl rz kL e1;have h6:=bl Au wu e2;have O:P.underlying t=some (.slice e):=by
   unfold rm at D;split at D
   next e' tG=>injection D with D;rw[<-D];exact tG
   ·cases D
  have jk:P.elem t=e:=by simp[Program.elem,O]
  have U:P.underlying t=some (.slice (P.elem t)):=by rw[jk];exact O
  have uS:(sizeOf (P.elem t)).run P w = .ok (aH tc) w:=by
   unfold kr at hn;cases hi:P.info? e with
   |none=>simp[hi]at hn
   | some i=>
    have:i.size=aH tc:=by simpa [hi]using hn
    simp[sizeOf,typeInfo,jk,hi,this]
  have m0:∃ A n c,u = .slice A n c:=by
   cases hu.2 with
   |fq=>exact⟨_,_,_,rfl⟩
   |gy=>exact⟨_,_,_,rfl⟩
   |gL=>exact⟨_,_,_,rfl⟩
   |aI=>exact⟨_,_,_,rfl⟩
   |own=>exact⟨_,_,_,rfl⟩
  obtain⟨A,n,c,rfl⟩:=m0;obtain⟨hp,Cy,hn2⟩:=hu.2.part (a:=l.toNat) (h:=m.toNat) hg (by omega) (by omega);refine⟨_,?_,by simp[V.aI,hg],hp⟩;rw[run_sliceAt_slice w t _ _ _ _ U];rcases h5 with ⟨rfl,rfl⟩|⟨kl,rfl⟩<;>rcases h6 with ⟨rfl,rfl⟩|⟨kh,rfl⟩
  ·rw[run_slice_all w t A n c U,uS,Cy];simp
  ·rw[run_slice_h w t A n c U kh m (by omega) (by omega),uS];simp
  ·rw[run_slice_l w t A n c U kl l (by omega) (by omega),uS,Cy];simp
  ·rw[run_slice_lh w t A n c U kl kh l m (by omega) (by omega) (by omega),uS];simp
/-! Parts of slices that are owned. -/
def Fk{X:Type}(n:Nat)(q:aa Nat)(C:ah Nat)(lo hi:ah A)(y:V)(k:A->ah X):ah X:=
 match y with
 |.sl D _ _ l=>if n=aH D then uQ lo 0 λa=>uQ hi ((C.getD l.length:Nat):Int) λb=>if 0<=a/\a<=b/\b<=(l.length:Int)then k (.view q n a.toNat b.toNat)else none else none
 |_=>none
def CB{X:Type}(P:Program)(σ:S)(t:TypeId)(q:aa Nat)(C:ah Nat)(lo hi:ah A)(k:A->ah X):ah X:=
 match rm P t with
 | some e=>(match kr P e with
  |some n=>jX σ.m q λy=>Fk n q C lo hi y k
  |none=>none)
 |none=>none
def Av{X:Type}(P:Program)(σ:S)(t:TypeId)(x:A)(lo hi:ah A)(k:A->ah X):ah X:=
 match x with
 |.lf (.own q)=>CB P σ t q none lo hi k
 |.view q _ 0 j=>CB P σ t q (some j) lo hi k
 |x=>yw P t x lo hi k
def ape{n:Nat}{q:aa Nat}{C:ah Nat}{lo hi:ah A}{y:V}{k:A -> ah X}(h:Fk n q C lo hi y k=some r):∃ (tc:TC) (g:Nat) (D:Bool) (xs:aa (T tc)) (l h:Int),y = .sl tc g D xs/\n=aH tc /\
  ((lo=none/\l=0) \/ ∃E,lo=some (.lf (.v (.int E l))))/\((hi=none/\h=((C.getD xs.length:Nat):Int)) \/ ∃E,hi=some (.lf (.v (.int E h))))/\0 <= l/\l <= h/\h <= (xs.length:Int)/\k (.view q n l.toNat h.toNat)=some r /\
  ∀(U:Type) (I:A -> ah U),Fk n q C lo hi y I=I (.view q n l.toNat h.toNat):=by
 unfold Fk at h;split at h
 ·rename_i tc g D xs;split at h
  ·rename_i Y;obtain⟨l,h1,d1,e1⟩:=Fj h;obtain⟨m,O,d2,e2⟩:=Fj h1;split at O
   ·rename_i hb
    refine⟨tc,g,D,xs,l,m,rfl,Y,e1,e2,hb.1,hb.2.1,hb.2.2,O,λU I=>?_⟩
    simp[Fk,bg Y];simp_all
   ·cases O
  ·cases h
 ·cases h
def aci{t:TypeId}{q:aa Nat}{dh:ah Nat}{lo hi:ah A}{k:A -> ah X}(h:CB P σ t q dh lo hi k=some r):∃ y,k y=some r /\
  ∀ aj ρ a w,Rl w0 N aj ρ σ a w -> ∀ (D:ah Addr) (n c C:Nat) (Y E:ah Value),dn w aj ρ q=some (.slice D n c) -> C=dh.getD n -> C <= n -> (∀ a,lo=some a -> ∃ v,Y=some v/\RA w w0.heap.size aj ρ a v) -> (lo=none -> Y=none) -> (∀ a,hi=some a -> ∃ v,E=some v/\RA w w0.heap.size aj ρ a v) -> (hi=none -> E=none) ->
   ∃t',(Instr.sliceAt t (.slice D C c) Y E none).run P w = .ok t' w/\RA w w0.heap.size aj ρ y t':=by
 unfold CB at h;split at h
 ·rename_i e he;split at h
  ·rename_i n hn;obtain⟨y0,Vw,h2⟩:=tD q _ h;obtain⟨tc,g,qn,xs,l,m,rfl,Cq,e1,e2,b1,b2,b3,h3,_⟩:=ape h2
   refine⟨_,h3,λaj ρ a w hR D n' c C Y E mB Vx hle rz kL Au wu=>?_⟩
   have bl:∀ {o:ah A} {I:ah Value} {n Cz:Int},(∀ a,o=some a -> ∃ v,I=some v/\RA w w0.heap.size aj ρ a v) -> (o=none -> I=none) -> ((o=none/\n=Cz) \/ ∃ O,o=some (.lf (.v (.int O n)))) -> (I=none/\n=Cz) \/ ∃ O,I=some (.int O n):=by
    intro o I n Cz g1 g2 g3;rcases g3 with ⟨e,e'⟩|⟨O,e⟩
    ·grind
    ·obtain⟨v,E,hr⟩:=g1 _ e;exact .inr ⟨O,by rw[E,hr.2.iE]⟩
   have h5:=bl rz kL e1;have h6:=bl Au wu e2;have gP:P.underlying t=some (.slice e):=by
    unfold rm at he;split at he
    ·grind
    ·cases he
   have jk:P.elem t=e:=by simp[Program.elem,gP]
   have U:P.underlying t=some (.slice (P.elem t)):=by rw[jk];exact gP
   have uS:(sizeOf (P.elem t)).run P w = .ok n w:=by
    unfold kr at hn;cases hi:P.info? e with
    |none=>grind
    | some i=>
     have:i.size=n:=by simpa [hi]using hn
     simp[sizeOf,typeInfo,jk,hi,this]
   obtain⟨v0,rA,jA⟩:=Vw.ok hR.root;rw[mB]at rA;injection rA with rA;subst rA;have hf:RV w 0 (λ_=>none) [] (.sl tc 0 qn xs) (.slice D n' c):=jA.gT;obtain⟨hp,Cy,hn2⟩:=hf.part (a:=l.toNat) (h:=m.toNat) (by omega) (by omega) (by omega);have apf:((dh.getD xs.length:Nat):Int)=(C:Int):=by rw[Vx,Cy]
   rw[apf]at h6;refine⟨sliced D l.toNat m.toNat c n,?_,D,n',c,mB,by omega,by omega,rfl⟩;rw[run_sliceAt_slice w t _ _ _ _ U];rcases h5 with ⟨rfl,rfl⟩|⟨kl,rfl⟩<;>rcases h6 with ⟨rfl,rfl⟩|⟨kh,rfl⟩
   ·rw[run_slice_all w t D C c U,uS];simp
   ·rw[run_slice_h w t D C c U kh m (by omega) (by omega),uS];simp
   ·rw[run_slice_l w t D C c U kl l (by omega) (by omega),uS];simp
   ·rw[run_slice_lh w t D C c U kl kh l m (by omega) (by omega) (by omega),uS];simp
  ·cases h
 ·cases h
def apg{t:TypeId}{x:A}{lo hi:ah A}{k:A -> ah X}(h:Av P σ t x lo hi k=some r):∃ y,k y=some r /\
  ∀ aj ρ a w,Rl w0 N aj ρ σ a w -> ∀ (u:Value) (C D:ah Value),RA w w0.heap.size aj ρ x u -> (∀ a,lo=some a -> ∃ v,C=some v/\RA w w0.heap.size aj ρ a v) -> (lo=none -> C=none) -> (∀ a,hi=some a -> ∃ v,D=some v/\RA w w0.heap.size aj ρ a v) -> (hi=none -> D=none) ->
   ∃t',(Instr.sliceAt t u C D none).run P w = .ok t' w/\RA w w0.heap.size aj ρ y t':=by
 unfold Av at h;split at h
 ·rename_i q;obtain⟨y,E,I⟩:=aci h
  refine⟨y,E,λaj ρ a w hR u C D O U Y Au wu=>?_⟩
  have ia:∃ A n c,u = .slice A n c:=by
   have:=O.1;cases u<;>first|cases this;done|exact⟨_,_,_,rfl⟩
  obtain⟨A,n,c,rfl⟩:=ia;exact I aj ρ a w hR A n c n C D O.2 rfl (dc _) U Y Au wu
 ·rename_i q s j;obtain⟨y,E,I⟩:=aci h
  refine⟨y,E,λaj ρ a w hR u C D O U Y Au wu=>?_⟩
  obtain⟨A,n,c,mB,_,a2,rfl⟩:=O;have e:sliced A 0 j c s = .slice A j c:=by cases A<;>simp[sliced,Addr.add]
  rw[e];exact I aj ρ a w hR A n c j C D mB rfl a2 U Y Au wu
 ·obtain⟨y,E,_,I⟩:=apd h;exact⟨y,E,λaj ρ a w _ u C D=>I w _ aj ρ u C D⟩
end
abbrev Pt:=Bool×aa V
def PV(w:World)(B:Nat)(aj:bJ)(key:Nat->aa Nat)(p:Pt)(u:Value):Prop:=
 ∃us:Array Value,(match p.1 with|true=>u = .agg us|false=>us = #[u])/\us.size=p.2.length/\∀(j:Nat) x,p.2[j]?=some x->∃v,us[j]?=some v/\RV w B aj (key j) x v
def Aw(w:World)(cs:aa V)(u:Value):Prop:=
 ∃b off,u = .pointer (some ⟨b,off,none⟩)/\b<w.heap.size/\∀(j:Nat) x,cs[j]?=some x->∃v,w.cell? ⟨b,off+j,none⟩=some v/\RV w w.heap.size (λ_=>none) [] x v
inductive PA (w:World):Pt->Value->Prop
 |v (p:Pt) (u:Value) (h:PV w w.heap.size (λ_=>none) (λ_=>[]) p u):PA w p u
 |p (c:V) (cs:List V) (u:Value) (h:Aw w (c::cs) u):PA w (false,.bool true::c::cs) u
 |f (g:Nat) (c:V) (cs:List V) (u:Value) (h:Aw w (c::cs) u):PA w (false,.bool false::.int .i64 (g:Int)::c::cs) (.func (.func g) #[] #[u])
def rB(w:World)(args:aa Pt)(cE:Array Value):Prop:=
 cE.size=args.length/\∀(i:Nat) p,args[i]?=some p->∃u,cE[i]?=some u/\PA w p u
def PA.pv{w:World}{x:V}{u:Value}(h:PA w (false,[x]) u):PV w w.heap.size (λ_=>none) (λ_=>[]) (false,[x]) u:=by
 cases h with
 |v _ _ h=>exact h
inductive gM where
 |one (p:Pt)
 |fO (ps:List Pt)
def Ax(t:TC):Nat->Bool
 |0=>false
 |1=>true
 |o+2=>Nat.ble (full t) o ||Nat.beq (o % 2) 1
def V.loc:V->Bool
 |.sl t o _ _=>Ax t o
 |_=>true
def kN(w:World)(B:Nat)(aj:bJ)(nm:Nat->Nat):Nat->aa Pt->aa Value->Prop
 |_,[],[]=>True
 |off,p::ps,v::C=>(p.2.all V.loc=true/\PV w B aj (λj=>[nm (off+j)]) p v)/\kN w B aj nm (off+p.2.length) ps C
 |_,_,_=>False
def rC(w:World)(B:Nat)(aj:bJ)(nm:Nat->Nat):gM->Value->Prop
 |.one p,v=>kN w B aj nm 0 [p] [v]
 |.fO ps,v=>∃C:Array Value,v = .tuple C/\kN w B aj nm 0 ps C.toList
structure jQ where
 run:(X:Type)->List Pt->(gM->Option X)->Option X
def jl(P:Program)(f:Nat)(c:jQ):Prop:=
 (∀ args,cU λX k=>c.run X args k)/\∀ args C,c.run gM args some=some C->∀ (nm:Nat->Nat) (w:World) (cE:Array Value),rB w args cE->Hd w (λ_=>none)->
  Calls P f cE w λe w'=>∃v aD,e = .returned v/\Below w.heap.size w w'/\(∀b k,aD b=some k->w.heap.size<=b/\b<w'.heap.size/\k≠[])/\rC w' w.heap.size aD nm C v
def sI{X:Type}(σ:S):aa Lf->(aa V->ah X)->ah X
 |[],k=>k []
 |x::xs,k=>qy σ x λy=>sI σ xs λys=>k (y.gT::ys)
def pJ{X:Type}(σ:S)(x:A)(k:Pt->ah X):ah X:=
 match x with
 |.lf y=>sI σ [y] λC=>k (false,C)
 |.agg ys=>sI σ ys λC=>k (true,C)
 |.view q s i j=>wh σ q s i j λy=>k (false,[y])
 |.jW (c::cs)=>k (false,.bool true::c.gT::cs.map V.gT)
 |_=>none
def wz{X:Type}(σ:S)(x:A)(k:Pt->ah X):ah X:=
 match x with
 |.jW (c::cs)=>k (false,.bool true::c.gT::cs.map V.gT)
 |.oC f (c::cs)=>k (false,.bool false::.int .i64 (f:Int)::c.gT::cs.map V.gT)
 | .aE r j=>(match σ.m r with
  | some (.aB cs)=>sI σ (cs.drop j) λC=>(match C with
   |c::cs=>k (false,.bool true::c::cs)
   |[]=>none)
  |_=>none)
 | .fn f [(r,j)]=>(match σ.m r with
  | some (.aB cs)=>sI σ (cs.drop j) λC=>(match C with
   |c::cs=>k (false,.bool false::.int .i64 (f:Int)::c::cs)
   |[]=>none)
  |_=>none)
 |x=>pJ σ x k
def wA{X:Type}(f:A->(Pt->ah X)->ah X)(σ:S):aa Operand->(aa Pt->ah X)->ah X
 |[],k=>k []
 |x::xs,k=>f (aL σ x) λp=>wA f σ xs λps=>k (p::ps)
def CC{X:Type}(σ:S)(xs:aa Operand)(k:aa Pt->ah X):ah X:=wA (wz σ) σ xs k
def uT{X:Type}(σ:S)(xs:aa Operand)(k:aa Pt->ah X):ah X:=wA (pJ σ) σ xs k
def pK(c:Nat):aa V->aa Lf
 |[]=>[]
 |x::xs=>(bif x.aI then .v x else .own [c])::pK (c+1) xs
def nU(c:Nat)(σ:S):aa V->S
 |[]=>σ
 |x::xs=>nU (c+1) (bif x.aI then σ else (σ.drop c).root c (.sl x)) xs
def tK(c:Nat):aa Pt->aa (Bool×aa Lf)
 |[]=>[]
 |p::ps=>(p.1,pK c p.2)::tK (c+p.2.length) ps
def pL(c:Nat)(σ:S):aa Pt->S
 |[]=>σ
 |p::ps=>pL (c+p.2.length) (nU c σ p.2) ps
def oH{X:Type}(σ:S)(d:Nat)(C:gM)(k:S->ah X):ah X:=match C with
 | .one p=>(match Ah (p.1,pK (1000000000100000+1000*d) p.2)with
  |some y=>k ((nU (1000000000100000+1000*d) σ p.2).set d y)
  |none=>none)
 |.fO ps=>k ((pL (1000000000100000+1000*d) σ ps).set d (.fO (tK (1000000000100000+1000*d) ps)))
def tL{X:Type}(N:Nat)(σ:S)(d:Nat)(c:jQ)(ev:(aa Pt->ah X)->ah X)(k:S->ah X):ah X:=
 bif Nat.blt d N then ev λps=>c.run X ps λC=>oH σ d C k else none
def aph{X:Type}(N:Nat)(σ:S)(d:Nat)(c:jQ)(args:aa Operand)(k:S->ah X):ah X:=tL N σ d c (CC σ args) k
def api{X:Type}(N:Nat)(σ:S)(d:Nat)(c:jQ)(args:aa Operand)(k:S->ah X):ah X:=tL N σ d c (uT σ args) k
section
variable {P:Program} {w w':World} {w0:Wd} {B N:Nat} {aj aD:bJ} {ρ ρ':Nat->Loc} {σ:S} {a:Act} {X:Type} {d:Nat} {r:X} {o:Oper}
def IY:∀ (xs:aa Lf) (k:aa V -> ah X),sI σ xs k=some r -> ∃ C,k C=some r/\C.length=xs.length /\ ∀ aj ρ a w,Rl w0 N aj ρ σ a w -> ∀ (j:Nat) x y u,xs[j]?=some x -> C[j]?=some y -> eS w w0.heap.size aj ρ x u -> RV w w.heap.size (λ_=>none) [] y u
 |[],k,h=>⟨[],h,rfl,λ_ _ _ _ _ j x y u I=>by simp at I⟩
 | x :: xs,k,h=>by
  obtain⟨y,O,U⟩:=Vm h;obtain⟨ys,Y,hl,hr⟩:=IY xs _ U
  refine⟨y.gT::ys,Y,by simp[hl],λaj ρ a w hR j x' y' u D E hu=>?_⟩
  cases j with
  | zero=>
   simp at D E;subst D E;obtain⟨q,hq⟩:=O aj ρ a w hR u hu;exact hq.gT
  |succ j=>grind
def acj{D C:Nat}{cs:aa Lf}{E:aa V}(hm:σ.m D=some (.aB cs))(hl:E.length=(cs.drop C).length)
  (hr:∀aj ρ a w,Rl w0 N aj ρ σ a w->∀(j:Nat) x y u,(cs.drop C)[j]?=some x->E[j]?=some y->eS w w0.heap.size aj ρ x u->RV w w.heap.size (λ_=>none) [] y u)
  {aj:bJ} {ρ:Nat->Loc} {a:Act} {w:World} {u:Value} (hR:Rl w0 N aj ρ σ a w) (hu:RA w w0.heap.size aj ρ (.aE D C) u):Aw w E u:=by
 obtain⟨b,off,e1,rfl⟩:=hu;cases hR.root D _ hm with
 | aB b' Cn cells e _ us I mE O hs hc=>
  rw[e1]at I;injection I with q1 q2;subst q1 q2
  refine⟨b,off+C,rfl,(jU.1 O).1,λj x U=>?_⟩
  have hj:j<(cs.drop C).length:=by rw[<-hl];exact(eO.1 U).1
  have Y:=bT hj;have apj:cs[C+j]?=some (cs.drop C)[j]:=by rw[<-List.getElem?_drop];exact Y
  obtain⟨k1,k2⟩:=hc _ _ apj;refine⟨us (C+j),?_,hr aj ρ a w hR j _ x _ Y U k2⟩;rw[Nat.add_assoc,cell_of_row w b _ cells _ _ O];exact k1
def Vy{cs:aa V}{u:Value}(E:RF w B aj cs u):Aw w (cs.map V.gT) u:=by
 obtain⟨b,off,rfl,I,h2,O⟩:=E
 refine⟨b,off,rfl,I,λj x C=>?_⟩
 rw[fh]at C;cases D:cs[j]? with
 |none=>simp_all
 | some y=>
  rw[D]at C;injection C with C;subst C;obtain⟨_,v,U,Y⟩:=O j y D;exact⟨v,U,Y.gT⟩
def ack{x:A}{k:Pt -> ah X}(h:pJ σ x k=some r):∃ p,k p=some r /\ ∀ aj ρ a w,Rl w0 N aj ρ σ a w -> ∀ u,RA w w0.heap.size aj ρ x u -> PA w p u:=by
 unfold pJ at h;split at h
 ·rename_i y;obtain⟨Y,E,hl,O⟩:=IY (w0:=w0) (N:=N) _ _ h
  refine⟨_,E,λaj ρ a w hR u C=>.v _ _ ⟨#[u],rfl,by simp[hl],λj x D=>?_⟩⟩
  have I:j=0:=by
   grind
  subst I;exact⟨u,rfl,O aj ρ a w hR 0 y x u rfl D C⟩
 ·rename_i ys;obtain⟨Y,E,hl,O⟩:=IY (w0:=w0) (N:=N) _ _ h
  refine⟨_,E,λaj ρ a w hR u C=>?_⟩
  obtain⟨us,rfl,U⟩:=C
  refine .v _ _ ⟨us,rfl,by rw[hl];exact U.1,λj x D=>?_⟩
  have I:j<ys.length:=by rw[<- hl];exact(eO.1 D).1
  obtain⟨v,hv,gz⟩:=U.2 j _ (bT I)
  grind
 ·obtain⟨z,E,_,hz⟩:=abP h
  refine⟨_,E,λaj ρ a w hR u C=>.v _ _ ⟨#[u],rfl,rfl,λj x D=>?_⟩⟩
  cases j with
  | zero=>
   simp at D;subst D;exact⟨u,rfl,hz _ _ _ _ _ _ hR u C _⟩
  |succ j=>simp at D
 next c cs=>exact⟨_,h,λaj ρ a w hR u C=>.p _ _ _ (Vy C)⟩
 ·cases h
def apk{x:A}{k:Pt -> ah X}(h:wz σ x k=some r):∃ p,k p=some r /\ ∀ aj ρ a w,Rl w0 N aj ρ σ a w -> ∀ u,RA w w0.heap.size aj ρ x u -> PA w p u:=by
 unfold wz at h;split at h
 ·rename_i c cs
  refine⟨_,h,λaj ρ a w hR u C=>?_⟩
  exact .p _ _ _ (Vy C)
 ·rename_i f c cs
  refine⟨_,h,λaj ρ a w hR u C=>?_⟩
  obtain⟨pv,rfl,E⟩:=C;exact .f _ _ _ _ (Vy E)
 ·rename_i Y U;split at h
  ·rename_i cs I;obtain⟨vs,D,hl,O⟩:=IY (w0:=w0) (N:=N) _ _ h;split at D
   ·rename_i c fM
    refine⟨_,D,λaj ρ a w hR u C=>?_⟩
    exact .p _ _ _ (acj I hl O hR C)
   ·cases D
  ·cases h
 ·rename_i f Y U;split at h
  ·rename_i cs I;obtain⟨vs,D,hl,O⟩:=IY (w0:=w0) (N:=N) _ _ h;split at D
   ·rename_i c fM
    refine⟨_,D,λaj ρ a w hR u C=>?_⟩
    obtain⟨ps,rfl,hs,E⟩:=C;obtain⟨b,off,e1,e2⟩:=E 0 _ rfl;have e:ps = #[.pointer (some ⟨b,off+U,none⟩)]:=by
     grind
    subst e;exact .f _ _ _ _ (acj I hl O hR ⟨b,off,e1,rfl⟩)
   ·cases D
  ·cases h
 ·exact ack h
def Vz{f:A->(Pt->ah X)->ah X}(E:∀ x k,f x k=some r->∃ p,k p=some r/\∀ aj ρ a w,Rl w0 N aj ρ σ a w->∀ u,RA w w0.heap.size aj ρ x u->PA w p u):
  ∀(xs:aa Operand) (k:aa Pt->ah X),wA f σ xs k=some r->∃ps,k ps=some r/\∀aj ρ a w,Rl w0 N aj ρ σ a w->rB w ps (xs.map a.eval).toArray
 |[],k,h=>⟨[],h,λ_ _ _ _ _=>⟨rfl,λi p C=>by simp at C⟩⟩
 | x :: xs,k,h=>by
  unfold wA at h;obtain⟨p,O,C⟩:=E _ _ h;obtain⟨ps,U,I⟩:=Vz E xs _ O
  refine⟨p::ps,U,λaj ρ a w hR=>⟨?_,λi q D=>?_⟩⟩
  ·have:=(I aj ρ a w hR).1;simp at this;simp[this]
  ·cases i with
   | zero=>
    simp at D;subst D;exact⟨_,rfl,C aj ρ a w hR _ (hR.aL x)⟩
   | succ i=>
    obtain⟨u,Y,hr⟩:=(I aj ρ a w hR).2 i q (by simpa using D);exact⟨u,by simpa using Y,hr⟩
def apl(xs:aa Operand)(k:aa Pt->ah X)(h:CC σ xs k=some r):∃ps,k ps=some r/\∀aj ρ a w,Rl w0 N aj ρ σ a w->rB w ps (xs.map a.eval).toArray:=Vz (λ_ _=>apk) xs k h
def apm(xs:aa Operand)(k:aa Pt->ah X)(h:uT σ xs k=some r):∃ps,k ps=some r/\∀aj ρ a w,Rl w0 N aj ρ σ a w->rB w ps (xs.map a.eval).toArray:=Vz (λ_ _=>ack) xs k h
def apn{t:TC}{o:Nat}(h:Ax t (o+2)=true)(x:T t):∀ y∈enc t o x,y.loc=true:=by
 intro y D;have I:=zZ t o x y D;cases y with
 | sl E C q l=>
  have O:C=o:=by simpa [V.gr]using I
  subst O;have U:full E+2 <= full t:=dj (Oo t C x _ D);show Ax E C=true;simp only[Ax,eN]at h;rcases h with h|h
  ·have h:=dj h
   match C,h with
   |0,h=>omega
   |1,h=>rfl
   | n+2,h=>
    simp only[Ax,eN];left;exact mT (by omega)
  ·have h:=cL h
   match C,h with
   |0,h=>omega
   |1,h=>rfl
   | n+2,h=>
    simp only[Ax,eN];simp_all
 |_=>rfl
def RV.Ay{q:aa Nat}{x:V}{v:Value}(h:RV w B aj q x v){B':Nat}(hB:B' <= B)(hl:∀ b,B <= b -> aD b=aj b)(hg:∀ b k,aj b=some k -> aD b=some k)(O:x.loc=true):RV w B' aD q x v:=by
 induction h with
 |int=>exact .int _ _ _
 |bool=>exact .bool _ _
 |str=>exact .str _ _
 |nil=>exact .nil _
 |fq=>exact .fq _ _ _
 |gy=>exact .gy _ _ _ _ _ (by first|assumption|omega)
 |gL=>exact .gL _ _ _ _ _ (by first|assumption|omega)
 | aI q t o qn l b off cap u U D hb h1 jM E hr I=>
  have CD:o=1:=by
   match o,U,O with
   |1,_,_=>rfl
  subst CD;have Y:=h1 rfl
  refine .aI _ _ _ _ _ _ _ _ u U ((hl b Y).trans D) hb (λ_=>Nat.le_trans hB Y) jM E (λi h j x C=>I i h j x C ?_)
  have:=zZ t 1 l[i] x (iB C);cases x with
  | sl t' o' q' l'=>
   have:o'=1:=by simpa [V.gr]using this
   subst this;rfl
  |_=>rfl
 | own q t o qn l b cap cs u D hh hs hn hm E hr I=>
  exact .own _ _ _ _ _ _ _ cs u (hg b q D) hh hs hn hm E (λi h j x C=>I i h j x C (apn O l[i] x (iB C)))
def RV.home{q:aa Nat}{x:V}{v:Value}(h:RV w B aj q x v){B':Nat}(hB:B'<=B)(hl:∀ b,B<=b->aD b=aj b)(C:∀ b k,aj b=some k->B<=b)(D:x.loc=true):RV w B' aD q x v:=
 h.Ay hB hl (λb k h=>(hl b (C b k h)).trans h) D
def VA:∀ (xs:aa V) (c:Nat) (σ:S) (ρ:Nat -> Loc) (us:aa Value),60000 <= c -> Rl w0 N aj ρ σ a w -> us.length=xs.length -> (∀ (j:Nat) x u,xs[j]?=some x -> us[j]?=some u -> RV w w0.heap.size aj [c+j] x u) ->
  ∃ρ',Rl w0 N aj ρ' (nU c σ xs) a w/\(∀r,r<c -> ρ' r=ρ r) /\ ∀(j:Nat) x u,(pK c xs)[j]?=some x -> us[j]?=some u -> eS w w0.heap.size aj ρ' x u
 |[],c,σ,ρ,us,_,h,hl,E=>⟨ρ,h,λ_ _=>rfl,λj x u hx=>by simp[pK]at hx⟩
 | x :: xs,c,σ,ρ,us,hc,h,hl,E=>by
  cases us with
  |nil=>simp at hl
  | cons u us=>
   have O:=E 0 x u rfl rfl;rw[Nat.add_zero]at O;have tJ:∀ (j:Nat) U Y,xs[j]?=some U -> us[j]?=some Y -> RV w w0.heap.size aj [c+1+j] U Y:=λj U Y hx hu=>by
    have:=E (j+1) U Y (by simpa using hx) (by simpa using hu)
    grind
   cases C:x.aI with
   | true=>
    obtain⟨ρ',fz,cu,VB⟩:=VA xs (c+1) σ ρ us (by omega) h (by simpa using hl) tJ
    refine⟨ρ',?_,λr E=>cu r (by omega),λj y v D I=>?_⟩
    ·simp[nU,C];exact fz
    ·simp only[pK,C,aq]at D;cases j with
     | zero=>
      simp at D I;subst D I;exact⟨C,O.key C⟩
     |succ j=>grind
   | false=>
    have ia:=O.UT C;obtain⟨ρ',fz,cu,VB⟩:=VA xs (c+1) _ _ us (by omega) (h.new (d:=c) (x:=.sl x) (.eU u) (.sl u x (cm _ _ _) O) (h.dY c (.inr hc))) (by simpa using hl) tJ
    refine⟨ρ',?_,λr E=>?_,λj y v D I=>?_⟩
    ·simp[nU,C];exact fz
    ·rw[cu r (by omega)];exact cN _ _ _ (by omega)
    ·simp only[pK,C,av]at D;cases j with
     | zero=>
      simp at D I;subst D I;refine⟨ia,?_⟩;have:ρ' c = .eU u:=by rw[cu c (by omega)];exact cm _ _ _
      simp[dn,this]
     |succ j=>grind
def apo(xs:aa V):∀ c,(pK c xs).length=xs.length:=by
 induction xs with
 |nil=>intro c;rfl
 |cons x xs C=>intro c;simp[pK,C]
end
def enters(P:Program)(f:Nat):Prop:=∃fn,P.funcs[f]?=some fn/\(fn.name == "runtime.NumGoroutine")=false/\fn.body.isNone=false
/-! What a function gives back. -/
def OV:A->ah (Bool×aa Lf)
 |.lf x=>some (false,[x])
 |.agg xs=>some (true,xs)
 |_=>none
def tM{X:Type}(P:Program)(σ:S):aa ResultVar->(aa (Bool×aa Lf)->ah X)->ah X
 |[],k=>k []
 | .tmp t :: rest,k=>(match OV (σ.t t)with
  |some p=>tM P σ rest λps=>k (p::ps)
  |none=>none)
 | .cell p ty :: rest,k=>pH P σ ty (σ.t p) λx=>(match OV x with
  |some p=>tM P σ rest λps=>k (p::ps)
  |none=>none)
def VC(m:Nat->ah aX):Lf->ah (V×ah Nat)
 |.v x=>bif x.loc&&x.aI then some (x,none)else none
 | .own [r]=>match m r with
  |some (.sl y)=>bif y.loc then some (y,some r)else none
  |_=>none
 |_=>none
def IZ(m:Nat->ah aX)(off:Nat):aa Lf->ah (aa V×aa (Nat×Nat))
 |[]=>some ([],[])
 | x :: xs=>match VC m x,IZ m (off+1) xs with
  |some (y,none),some (ys,rs)=>some (y::ys,rs)
  |some (y,some r),some (ys,rs)=>some (y::ys,(r,off)::rs)
  |_,_=>none
def Fl(m:Nat->ah aX)(off:Nat):aa (Bool×aa Lf)->ah (aa Pt×aa (Nat×Nat))
 |[]=>some ([],[])
 | p :: ps=>match IZ m off p.2,Fl m (off+p.2.length) ps with
  |some (C,rs),some (D,E)=>some ((p.1,C)::D,rs++E)
  |_,_=>none
def once(rs:aa (Nat×Nat)):Bool:=rs.all λp=>(rs.lookup p.1).any λn=>Nat.beq n p.2
def I0{X:Type}(P:Program)(σ:S)(fn:Array ResultVar)(k:gM->ah X):ah X:=
 tM P σ fn.toList λps=>match Fl σ.m 0 ps with
  | some (qs,rs)=>bif once rs then (match qs with
   |[p]=>k (.one p)
   |qs=>k (.fO qs))else none
  |none=>none
section
variable {P:Program} {w w':World} {w0:Wd} {B N:Nat} {aj aD:bJ} {ρ ρ':Nat->Loc} {σ:S} {a:Act} {X:Type} {d:Nat} {r:X} {o:Oper}
def acm:∀ (xs:aa V) (c:Nat) (j:Nat) x u,(pK c xs)[j]?=some x -> eS w B aj ρ x u -> (∀ r,r<c+xs.length -> ρ' r=ρ r) -> eS w B aj ρ' x u
 |[],c,j,x,u,D,_,_=>by simp[pK]at D
 | y :: ys,c,j,x,u,D,C,E=>by
  cases j with
  | zero=>
   simp[pK,List.getElem?_cons_zero,kI]at D;subst D;cases I:y.aI with
   |true=>rw[I]at C;simp;exact C
   | false=>
    rw[I]at C;refine⟨C.1,?_⟩;have:=C.2;simp[dn,E c (by simp)]at this ⊢;exact this
  | succ j=>
   exact acm ys _ j x u D C (λr h=>E r (by simp;omega))
def PV.cells{key:Nat -> aa Nat}{p:Pt}{u:Value}(h:PV w B aj key p u):∃ us:aa Value,us.length=p.2.length/\(∀ (j:Nat) x v,p.2[j]?=some x -> us[j]?=some v -> RV w B aj (key j) x v) /\
  ∀(ρ:Nat -> Loc) (C:aa Lf),C.length=p.2.length -> (∀(j:Nat) x v,C[j]?=some x -> us[j]?=some v -> eS w B aj ρ x v) -> RP w B aj ρ (p.1,C) u:=by
 obtain⟨us,D,E,hr⟩:=h;obtain⟨b,xs⟩:=p
 refine⟨us.toList,by simpa using E,λj x v I hv=>?_,λρ C hl Y=>?_⟩
 ·grind
 ·have O:fy w B aj ρ C us:=⟨by rw[E,hl],λj x I=>by
   have U:j<us.size:=by rw[E,<- hl];exact(eO.1 I).1
   exact⟨us[j],Array.getElem?_eq_getElem U,Y j x _ I (by rw[Array.getElem?_toList,Array.getElem?_eq_getElem U])⟩⟩
  cases b with
  |true=>exact⟨us,D,O⟩
  |false=>have D:=D;subst D;exact O
def I1:∀ (ps:aa Pt) (c0 off:Nat) (σ:S) (ρ:Nat -> Loc) (C:aa Value),60000 <= c0 -> Rl w0 N aj ρ σ a w -> kN w w0.heap.size aj (λn=>c0+n) off ps C ->
  ∃ρ',Rl w0 N aj ρ' (pL (c0+off) σ ps) a w/\(∀r,r<c0+off -> ρ' r=ρ r)/\C.length=(tK (c0+off) ps).length /\ ∀(i:Nat) p v,(tK (c0+off) ps)[i]?=some p -> C[i]?=some v -> RP w w0.heap.size aj ρ' p v
 | [],c0,off,σ,ρ,C,_,h,D=>by
  cases C with
  |nil=>exact⟨ρ,h,λ_ _=>rfl,rfl,λi p v U=>by simp[tK]at U⟩
  |cons v C=>exact D.elim
 | p :: ps,c0,off,σ,ρ,C,hc,h,D=>by
  cases C with
  |nil=>exact D.elim
  | cons v C=>
   obtain⟨⟨_,U⟩,D⟩:=D;obtain⟨us,hl,mC,wB⟩:=U.cells;obtain⟨wC,h1,VD,VB⟩:=VA p.2 (c0+off) σ ρ us (by omega) h hl (λj x u I E=>by
    have:RV w _ aj [c0+(off+j)] x u:=mC j x u I E;rw[<- Nat.add_assoc]at this;exact this)
   obtain⟨gi,h2,Y,hlen,jY⟩:=I1 ps c0 (off+p.2.length) (nU (c0+off) σ p.2) wC C hc h1 D;rw[<- Nat.add_assoc]at h2 Y hlen jY
   refine⟨gi,h2,λr D=>(Y r (by omega)).trans (VD r D),by simp[tK,hlen],λi q u O E=>?_⟩
   cases i with
   | zero=>
    simp[tK,List.getElem?_cons_zero,kI]at O E;subst O E
    refine wB gi _ (apo _ _) (λj x u I E=>acm p.2 _ j x u I (VB j x u I E) Y)
   | succ i=>
    simp[ List.getElem?_cons_succ]at O E;exact jY i q u O E
def kN.home{nm:Nat -> Nat}:∀ (ps:aa Pt) (off:Nat) (C:aa Value) {B':Nat},kN w B aj nm off ps C -> B' <= B -> (∀ b,B <= b -> aD b=aj b) -> (∀ b k,aj b=some k -> B <= b) -> kN w B' aD nm off ps C
 |[],_,[],_,h,_,_,_=>h
 | p :: ps,off,v :: C,B',h,hB,hl,D=>by
  obtain⟨⟨E,us,O,U,Y⟩,tJ⟩:=h
  refine⟨⟨E,us,O,U,λj x I=>?_⟩,kN.home ps _ C tJ hB hl D⟩
  obtain⟨v',uH,gz⟩:=Y j x I;exact⟨v',uH,gz.home hB hl D (ck.1 E x (iB I))⟩
def VE(w:World)(o:Oper)(a:Act)(f:Nat)(args:Array Operand)(D:Array TypeId)(E:o.op = .call { callee:=.value (.func f),args,argTypes:=D })(I:enters P f):(execOp a.eval o).run P w = .ok (.enter f (args.map a.eval)) w:=by
 obtain⟨fn,O,U,C⟩:=I;have Y:¬ fn.name = "runtime.NumGoroutine":=by simpa using U
 have VF:¬ fn.body=none:=by intro e;rw[e]at C;cases C
 simp[execOp,E,resolve,Act.eval,Deferred.ofValue,invoke,callFunc,Sem.run,O,Y,VF]
def apq{f:Nat}{args:Array Operand}{iW:Array TypeId}{c:jQ}{k:S->ah X}(ho:o.op = .call { callee:=.value (.func f),args,argTypes:=iW })(hd:o.dst=some d)(he:enters P f)(hc:jl P f c)(CE:d<N){ps:aa Pt}(sJ:∀ aj ρ a w,Rl w0 N aj ρ σ a w->rB w ps (args.toList.map a.eval).toArray)
  (h2:(c.run X ps λD=>oH σ d D k)=some r):∃cW,k cW=some r/\nR P w0 N o σ cW:=by
 obtain⟨D,E,VG⟩:=(hc.1 ps).m6 h2;have VH:=hc.2 ps D (VG _ _);unfold oH at E;have step:∀ a w K Q aj ρ,Rl w0 N aj ρ σ a w->(∀ v w' aD,Below w.heap.size w w'->Rl w0 N aD ρ σ a w'->rC w' w0.heap.size aD (λn=>1000000000100000+1000*d+n) D v->K (a.put o.dst v) w')->o.wp P a w K Q:=by
  intro a w K Q aj ρ hR U;unfold Oper.wp;rw[VE w o a f args iW ho he,Oper.upon_enter];have CF:(args.map a.eval)=(args.toList.map a.eval).toArray:=by apply Array.ext';rw[Array.toList_map]
  rw[CF]
  refine(VH (λn=>1000000000100000+1000*d+n) w _ (sJ aj ρ a w hR) (w0.on hR.below (λ_ _ h=>by cases h))).mono λe w' uU=>?_
  obtain⟨v,I2,rfl,Y,mE,I⟩:=uU;have hB:=hR.below.size;let fe:bJ:=λb=>if b<w.heap.size then aj b else I2 b
  have e1:∀b,b<w.heap.size->fe b=aj b:=λb hb=>bg hb
  have e2:∀b,w.heap.size<=b->fe b=I2 b:=λb hb=>bk
  refine U v w' fe Y (hR.grow Y e1 (λb k hb O=>?_)) ?_
  ·rw[e2 b hb]at O;exact(mE b k O).2
  ·cases D with
   |one p=>exact kN.home [p] 0 [v] I hB e2 (λb k O=>(mE b k O).1)
   | fO yA=>
    obtain⟨C,e,hv⟩:=I;exact⟨C,e,kN.home yA 0 C.toList hv hB e2 (λb k O=>(mE b k O).1)⟩
 cases D with
 | one p=>
  simp only at E;split at E
  ·rename_i y hy
   refine⟨_,E,λa w K Q hR U=>?_⟩
   obtain⟨aj,ρ,hR⟩:=hR
   refine step a w K Q aj ρ hR λv w' aD Y fz I=>?_
   obtain⟨ρ',mF,_,_,jY⟩:=I1 [p] (1000000000100000+1000*d) 0 σ ρ [v] (by omega) fz I;rw[hd];have VI:=jY 0 _ v rfl rfl;exact U _ _ ⟨aD,ρ',mF.set (Va hy VI) CE⟩
  ·cases E
 | fO yA=>
  refine⟨_,E,λa w K Q hR U=>?_⟩
  obtain⟨aj,ρ,hR⟩:=hR
  refine step a w K Q aj ρ hR λv w' aD Y fz I=>?_
  obtain⟨C,rfl,hv⟩:=I;obtain⟨ρ',mF,_,hlen,jY⟩:=I1 yA (1000000000100000+1000*d) 0 σ ρ C.toList (by omega) fz hv;rw[hd]
  refine U _ _ ⟨aD,ρ',mF.set ⟨C,rfl,by simpa using hlen,λj p hp=>?_⟩ CE⟩
  have hj:j<C.size:=by
   have:=(eO.1 hp).1;rw[Nat.add_zero]at hlen;rw[<-hlen]at this
   simpa using this
  exact⟨C[j],Array.getElem?_eq_getElem hj,jY j p _ hp (by rw[Array.getElem?_toList,Array.getElem?_eq_getElem hj])⟩
def acn{f:Nat}{args:Array Operand}{E:Array TypeId}{c:jQ}{k:S->ah X}{ev:(aa Pt->ah X)->ah X}(I:o.op = .call { callee:=.value (.func f),args,argTypes:=E })(O:o.dst=some d)(U:enters P f)(Y:jl P f c)
  (VJ:∀k,ev k=some r->∃ps,k ps=some r/\∀aj ρ a w,Rl w0 N aj ρ σ a w->rB w ps (args.toList.map a.eval).toArray) (h:tL N σ d c ev k=some r):∃D,k D=some r/\nR P w0 N o σ D:=by
 unfold tL at h;cases C:Nat.blt d N with
 |false=>rw[C]at h;cases h
 | true=>
  rw[C,aq]at h;obtain⟨ps,h2,sJ⟩:=VJ _ h;exact apq I O U Y (dj C) sJ h2
end
def fj(aj:bJ)(rs:aa (Nat×Nat))(nm:Nat->Nat):bJ:=λb=>
 match aj b with
 |none=>none
 | some k=>match k.getLast? with
  |none=>none
  |some r=>(rs.lookup r).map λn=>k.dropLast++[nm n]
section
variable {P:Program} {w w':World} {w0:Wd} {B N:Nat} {aj aD:bJ} {ρ ρ':Nat->Loc} {σ:S} {a:Act} {X:Type} {d:Nat} {r:X} {rs:aa (Nat×Nat)} {nm:Nat->Nat}
def Az{b:Nat}(h:aj b=none):fj aj rs nm b=none:=by simp[fj,h]
def RV.fj{p:aa Nat}{r n:Nat}{x:V}{v:Value}(h:RV w B aj (p++[r]) x v)(D:rs.lookup r=some n):RV w B (fj aj rs nm) (p++[nm n]) x v:=
 h.map (Q:=λq C=>∃ p,q=p++[r]/\C=p++[nm n]) (dc _) (λb _ h=>⟨rfl,Az h⟩) (λb q C _ hl e=>by
  obtain⟨p,rfl,rfl⟩:=e;exact⟨rfl,by simp[Proofs.YtdfkhfiglknaoaaGreat.fj,hl,D],λj i s=>⟨j::i::s::p,rfl,rfl⟩⟩) (.inr ⟨p,rfl,rfl⟩)
def VK{m:Nat -> ah aX}:∀ (xs:aa Lf) (off:Nat) (ys:aa V) (E:aa (Nat×Nat)),IZ m off xs=some (ys,E) -> ys.length=xs.length /\ ∀ (j:Nat) x,xs[j]?=some x -> ∃ y,ys[j]?=some y/\y.loc=true/\((x = .v y/\y.aI=true) \/ ∃ r,x = .own [r]/\m r=some (.sl y)/\(r,off+j)∈E)
 | [],off,ys,E,h=>by
  simp only[IZ,kI,Prod.mk.injEq]at h;obtain⟨rfl,rfl⟩:=h;exact⟨rfl,λj x C=>by simp at C⟩
 | x :: xs,off,ys,E,h=>by
  have hc:∀ y z,VC m x=some (y,z) -> y.loc=true/\((z=none/\x = .v y/\y.aI=true) \/ ∃ r,z=some r/\x = .own [r]/\m r=some (.sl y)):=by
   intro y z D;unfold VC at D
   grind
  unfold IZ at h;split at h
  ·rename_i y I O U Y;simp only[kI,Prod.mk.injEq]at h;obtain⟨rfl,rfl⟩:=h;obtain⟨h1,h2⟩:=VK xs (off+1) I O Y
   refine⟨by simp[h1],λj x' C=>?_⟩
   cases j with
   | zero=>
    simp at C;subst C;obtain⟨hl,D|⟨r,D,_⟩⟩:=hc y none U
    ·simp_all
    ·cases D
   |succ j =>grind
  ·rename_i y r I O U Y;simp only[kI,Prod.mk.injEq]at h;obtain⟨rfl,rfl⟩:=h;obtain⟨h1,h2⟩:=VK xs (off+1) I O Y
   refine⟨by simp[h1],λj x' C=>?_⟩
   cases j with
   | zero=>
    simp at C;subst C;obtain⟨hl,D|⟨r',D,e1,e2⟩⟩:=hc y (some r) U
    ·cases D.1
    ·simp_all
   |succ j =>grind
  ·cases h
def VL{m:Nat -> ah aX}(hm:∀ r x,m r=some x -> eV w B aj ρ r x):∀ (ps:aa (Bool×aa Lf)) (off:Nat) (I:aa Pt) (O:aa (Nat×Nat)) (C:aa Value),Fl m off ps=some (I,O) -> (∀ p∈O,rs.lookup p.1=some p.2) -> C.length=ps.length ->
  (∀(i:Nat) p v,ps[i]?=some p -> C[i]?=some v -> RP w B aj ρ p v) -> kN w B (fj aj rs nm) nm off I C
 | [],off,I,O,C,h,_,hl,_=>by
  have:C=[]:=List.eq_nil_of_length_eq_zero hl;subst this;simp only[Fl,kI,Prod.mk.injEq]at h;obtain⟨rfl,rfl⟩:=h;trivial
 | p :: ps,off,I,O,C,h,iX,hl,hp=>by
  cases C with
  |nil=>simp at hl
  | cons v C=>
   unfold Fl at h;split at h
   ·rename_i ys rs1 qs' CG h1 h2;simp only[kI,Prod.mk.injEq]at h;obtain⟨rfl,rfl⟩:=h;obtain⟨hlen,Ol⟩:=VK _ _ _ _ h1;have tJ:=VL hm ps _ qs' CG C h2 (λq hq=>iX q (List.mem_append_right _ hq)) (by simpa using hl) (λi q u hq hu=>hp (i+1) q u (by simpa using hq) (by simpa using hu));have qD:=hp 0 p v rfl rfl;have key:∀ us:Array Value,fy w B aj ρ p.2 us -> (us.size=ys.length /\ ∀ (j:Nat) x,ys[j]?=some x -> ∃ u,us[j]?=some u/\RV w B (fj aj rs nm) [nm (off+j)] x u):=by
     intro us U
     refine⟨by rw[hlen];exact U.1,λj y Y=>?_⟩
     have hj:j<p.2.length:=by rw[<- hlen];exact(eO.1 Y).1
     obtain⟨y',E,qE,hz⟩:=Ol j _ (bT hj);rw[Y]at E;injection E with E;subst E;obtain⟨u,hu,hr⟩:=U.2 j _ (bT hj);refine⟨u,hu,?_⟩;rcases hz with ⟨e,hf⟩|⟨r,e,hmr,sK⟩
     ·rw[e]at hr;exact(hr.2.Oq hf (λb=>Az)).key hf
     ·rw[e]at hr;have fG:=hm r _ hmr;generalize D:aX.sl y=z at fG;cases fG with
      |aB=>cases D
      |mp=>cases D
      |gh=>cases D
      | sl v' y' cu mC=>
       injection D with D;subst D;have VM:v'=u:=by
        have h4:=hr.2;simp only[dn,cu]at h4;simp_all
       subst VM;exact RV.fj (p:=[]) mC (iX (r,off+j) (List.mem_append_left _ sK))
    refine⟨⟨?_,?_⟩,?_⟩
    ·rw[ck];intro y Y;obtain⟨j,hj⟩:=List.mem_iff_getElem?.1 Y;have yh:j<p.2.length:=by rw[<- hlen];exact(eO.1 hj).1
     obtain⟨y',E,qE,_⟩:=Ol j _ (bT yh);simp_all
    ·obtain⟨b,xs⟩:=p;cases b with
     | true=>
      obtain⟨us,e,U⟩:=qD;obtain⟨k1,k2⟩:=key us U;exact⟨us,e,k1,k2⟩
     | false=>
      obtain⟨k1,k2⟩:=key #[v] qD;exact⟨#[v],rfl,k1,k2⟩
    ·grind
   ·cases h
def apr{t:TypeId}{x:A}{k:A->ah X}(h:pH P σ t x k=some r){u:Value}(C:RA w B aj ρ x u):∃ ad,u = .pointer (some ad):=by
 unfold pH at h;split at h
 ·cases h
 ·split at h
  ·obtain⟨b,off,_,rfl⟩:=C;exact⟨_,rfl⟩
  ·obtain⟨b,off,rfl,_⟩:=C;exact⟨_,rfl⟩
  ·obtain⟨ad,rfl,_⟩:=C;exact⟨_,rfl⟩
  ·cases h
def aco{x:A}{p:Bool×aa Lf}(h:OV x=some p){u:Value}(D:RA w B aj ρ x u):RP w B aj ρ p u:=by
 unfold OV at h;split at h
 ·injection h with h;subst h
  refine⟨rfl,λj y C=>?_⟩
  cases j with
  |zero=>simp at C;subst C;exact⟨u,rfl,D⟩
  |succ j=>simp at C
 ·injection h with h;subst h;exact D
 ·cases h
def uV(tmps:Array Value):ResultVar->Sem Value
 |.tmp t=>pure (tmps.getD t undef)
 |.cell a t=>do loadVar t (<-asAddr (tmps.getD a undef))
def I3:∀ (l:aa ResultVar) (k:aa (Bool×aa Lf) -> ah X),tM P σ l k=some r -> ∃ ps,k ps=some r /\ ∀ aj ρ a w,Rl w0 N aj ρ σ a w -> ∃ C,(l.mapM (uV a.tmps)).run P w = .ok C w/\C.length=ps.length /\ ∀ (i:Nat) p v,ps[i]?=some p -> C[i]?=some v -> RP w w0.heap.size aj ρ p v
 |[],k,h=>⟨[],h,λ_ _ _ _ _=>⟨[],rfl,rfl,λi p v D=>by simp at D⟩⟩
 | .tmp t :: rest,k,h=>by
  simp only[tM]at h;split at h
  ·rename_i p D;obtain⟨ps,U,Y⟩:=I3 rest _ h
   refine⟨p::ps,U,λaj ρ a w hR=>?_⟩
   obtain⟨C,cH,hl,hv⟩:=Y aj ρ a w hR
   refine⟨a.tmps.getD t undef::C,?_,by simp[hl],λi q u E I=>?_⟩
   ·rw[List.mapM_cons];simp[uV,Sem.run_pure,mS,gN,cH]
   ·cases i with
    |zero=>simp only[List.getElem?_cons_zero,kI]at E I;subst E I;exact aco D (hR.tmp t)
    |succ i=>grind
  ·cases h
 | .cell c ty :: rest,k,h=>by
  simp only[tM]at h;obtain⟨y,hy,hld⟩:=abR (w0:=w0) (N:=N) h;split at hy
  ·rename_i p D;obtain⟨ps,U,Y⟩:=I3 rest _ hy
   refine⟨p::ps,U,λaj ρ a w hR=>?_⟩
   obtain⟨C,cH,hl,hv⟩:=Y aj ρ a w hR;obtain⟨v,O,IX⟩:=hld aj ρ a w hR _ (hR.tmp c);obtain⟨ad,qx⟩:=apr h (hR.tmp c);rw[qx]at O;have O:(loadVar ty ad).run P w = .ok v w:=by
    simpa [Instr.loadAt,Instr.sureAddr]using O
   refine⟨v::C,?_,by simp[hl],λi q u E I=>?_⟩
   ·rw[List.mapM_cons];simp[uV,qx,asAddr,Sem.run_pure,mS,gN,cH,O]
   ·cases i with
    |zero=>simp at E I;subst E I;exact aco D IX
    |succ i=>grind
  ·cases hy
def aps{fn:Func}{k:gM -> ah X}(h:I0 P σ fn.results k=some r):∃ res,k res=some r /\ ∀ aj ρ a w,Rl w0 N aj ρ σ a w -> ∀ nm,∃ v aD,(results fn a.tmps).run P w = .ok v w/\(∀ b k,aD b=some k -> (w0.heap.size <= b \/ w0.L b≠none)/\b<w.heap.size/\k≠[])/\rC w w0.heap.size aD nm res v:=by
 unfold I0 at h;obtain⟨ps,I,jY⟩:=I3 (w0:=w0) (N:=N) _ _ h;clear h;split at I
 ·rename_i U rs VN;cases ho:once rs with
  |false=>grind
  | true=>
   rw[ho,aq]at I;have iX:∀ p∈rs,rs.lookup p.1=some p.2:=by
    intro p hp;have:=ck.1 ho p hp;obtain⟨n,hn,he⟩:=(Option.any_eq_true _ _).1 this;simp_all
   have core:∀ aj ρ a w,Rl w0 N aj ρ σ a w -> ∀ nm:Nat -> Nat,∃ C:aa Value,(fn.results.mapM (uV a.tmps)).run P w = .ok C.toArray w/\(∀ b k,fj aj rs nm b=some k -> (w0.heap.size <= b \/ w0.L b≠none)/\b<w.heap.size/\k≠[])/\kN w w0.heap.size (fj aj rs nm) nm 0 U C:=by
    intro aj ρ a w hR nm;obtain⟨C,O,hl,hv⟩:=jY aj ρ a w hR
    refine⟨C,?_,λb k E=>?_,VL hR.root ps 0 U rs C VN iX hl hv⟩
    ·rw[Array.mapM_eq_mapM_toList];simp[O]
    ·unfold fj at E;split at E
     ·cases E
     ·rename_i k' qC;have:=hR.dI b k' qC;split at E
      ·cases E
      ·cases uW:rs.lookup _ with
       |none=>rw[uW]at E;cases E
       | some n=>
        rw[uW]at E;injection E with E;subst E;simp_all
   have mG:∀ (tmps:Array Value),results fn tmps=(do let C <- fn.results.mapM (uV tmps);pure (if h:C.size=1 then C[0]else .tuple C)):=λtmps=>by
    unfold results;congr 1
   split at I
   ·rename_i p
    refine⟨_,I,λaj ρ a w hR nm=>?_⟩
    obtain⟨C,O,Y,D⟩:=core aj ρ a w hR nm
    match C,D with
    |[v],D=>exact⟨v,_,by rw[mG,gN,O];rfl,Y,D⟩
    |[],D=>exact D.elim
    |_::_::_,D=>exact D.2.elim
   ·rename_i cx
    refine⟨_,I,λaj ρ a w hR nm=>?_⟩
    obtain⟨C,O,Y,D⟩:=core aj ρ a w hR nm;have gx:C.toArray.size≠1:=by
     intro e
     match U,C,D,cx with
     |[q],[v],_,cx=>exact cx q rfl
     |[],[v],D,_=>exact D.elim
     |_::_::_,[v],D,_=>exact D.2.elim
    refine⟨.tuple C.toArray,_,?_,Y,C.toArray,rfl,D⟩;rw[mG,gN,O,mS];simp only[gx,dif_neg,not_false_eq_true,Sem.run_pure]
 ·cases I
end
inductive In where
 |aB (cs:List V)
 |sl (y:V)
def nF(i:Nat):Nat:=20000+1000*i
def nC(i j:Nat)(x:V):Nat:=bif x.aI then 20001+1000*i+j else 60000+1000*i+j
def AA(i j:Nat)(x:V):Lf:=bif x.plain then .v x else .own [nC i j x]
def AB(i:Nat):Nat->aa V->aa Lf
 |_,[]=>[]
 |j,x::xs=>AA i j x::AB i (j+1) xs
def VO(i:Nat):Nat->aa V->(Nat->ah aX)->(Nat->ah aX)
 |_,[],m=>m
 |j,x::xs,m=>VO i (j+1) xs (bif x.plain then m else cc m (nC i j x) (some (.sl x)))
def OW:Nat->aa In->(Nat->ah aX)->(Nat->ah aX)
 |_,[],m=>m
 |i,.aB cs::r,m=>OW (i+1) r (VO i 0 cs (cc m (nF i) (some (.aB (AB i 0 cs)))))
 |i,.sl y::r,m=>OW (i+1) r (cc m (nF i) (some (.sl y)))
inductive Ar where
 |pt (p:Pt)
 |mut (i off:Nat)
def VP(C:aa In):Ar->A
 |.pt (false,[x])=>.lf (.v x)
 |.pt (true,xs)=>.agg (xs.map .v)
 |.pt (false,.bool false::.int .i64 g::c::cs)=>.oC g.toNat (c::cs)
 |.pt _=>.undef
 | .mut i off=>match C[i]? with
  |some (.aB _)=>.aE (nF i) off
  |some (.sl _)=>.lf (.own [nF i])
  |none=>.undef
def yB(C:aa In)(args:aa Ar):S:=⟨λk=>match args[k]? with
 |some x=>VP C x
 |none=>.undef,OW 0 C (λ_=>none)⟩
def sL(w w':World)(aD:bJ)(ρ:Nat->Loc)(nm:Nat->Nat):Nat->Nat->aa In->aa In->Prop
 |_,_,[],[]=>True
 | i,D,.aB cs :: r,.aB fM :: I=>(∃ b off cells O e Y,ρ (nF i) = .aB b off/\w.heap[b]?=some (.cells cells e (0,0))/\w'.heap[b]?=some (.cells O Y (0,0))/\aD b=some [nm D]/\off+fM.length<=O.size/\fM.length=cs.length/\
   ∀(j:Nat) C,fM[j]?=some C->∃u,O[off+j]?=some u/\((C.plain=true/\∀(w:World) (B:Nat) (aj:bJ) (q:aa Nat),RV w B aj q C u)\/(C = .nil/\u = .slice none 0 0/\∃E,cs[j]?=some E/\E.aI=false)\/(C.plain=false/\C.aI=true/\C.lu=true/\(∃E,cs[j]?=some E/\Wk E C)/\cells[off+j]?=some u)\/(C.aI=false/\RV w' w.heap.size aD [nm (D+1+j)] C u)))/\
   sL w w' aD ρ nm (i+1) (D+1+cs.length) r I
 |i,D,.sl y::r,.sl U::I=>(U = .nil\/∃v,ρ (nF i) = .eU v/\RV w' w.heap.size aD [nm D] U v)/\sL w w' aD ρ nm (i+1) (D+1) r I
 |_,_,_,_=>False
def I4(w w':World)(aD:bJ)(ρ:Nat->Loc)(nm:Nat->Nat):Nat->Nat->aa In->aa In->Prop
 |_,_,[],[]=>True
 | i,D,.aB cs :: r,.aB fM :: E=>(∃ b off cells I e U,ρ (nF i) = .aB b off/\w.heap[b]?=some (.cells cells e (0,0))/\w'.heap[b]?=some (.cells I U (0,0))/\aD b=some [nm D]/\off+fM.length<=I.size/\fM.length=cs.length/\
   ∀(j:Nat) C,fM[j]?=some C->∃u,I[off+j]?=some u/\((C.plain=true/\∀(w:World) (B:Nat) (aj:bJ) (q:aa Nat),RV w B aj q C u)\/(C.plain=false/\C.aI=true/\cells[off+j]?=some u)\/(C.aI=false/\RV w' w.heap.size aD [nm (D+1+j)] C u)))/\
   I4 w w' aD ρ nm (i+1) (D+1+cs.length) r E
 |i,D,.sl y::r,.sl O::E=>(O = .nil\/∃v,ρ (nF i) = .eU v/\RV w' w.heap.size aD [nm D] O v)/\I4 w w' aD ρ nm (i+1) (D+1) r E
 |_,_,_,_=>False
def gM.len:gM->Nat
 |.one p=>p.2.length
 |.fO ps=>(ps.map λp=>p.2.length).sum
def qF(w:World)(B:Nat)(aj:bJ)(ρ:Nat->Loc):Nat->aa In->Prop
 |_,[]=>True
 |i,.aB cs::r=>eV w B aj ρ (nF i) (.aB (AB i 0 cs))/\(∀(j:Nat) x,cs[j]?=some x->x.plain=false->eV w B aj ρ (nC i j x) (.sl x))/\qF w B aj ρ (i+1) r
 |i,.sl y::r=>eV w B aj ρ (nF i) (.sl y)/\qF w B aj ρ (i+1) r
/-! The end: what is given back,and what the written parameters hold. -/
def VQ(m:Nat->ah aX)(i j:Nat)(C:V):Lf->ah (V×ah Nat)
 |.v x=>bif x.plain then some (x,none)else (bif !x.lu && !C.aI then some (.nil,none)else none)
 | .own [r]=>match m r with
  |some (.sl y)=>bif y.aI then (bif !C.plain&&(C.aI&&C.lu)&&Nat.beq r (20001+1000*i+j)&&Nat.blt r 60000 then some (C,none)else none)else (bif y.loc then some (y,some r)else none)
  |_=>none
 |_=>none
def CH(m:Nat->ah aX)(i C:Nat):Nat->aa V->aa Lf->ah (aa V×aa (Nat×Nat))
 |_,[],[]=>some ([],[])
 | j,D :: xs,l :: E=>match VQ m i j D l,CH m i C (j+1) xs E with
  |some (y,none),some (ys,rs)=>some (y::ys,rs)
  |some (y,some r),some (ys,rs)=>some (y::ys,(r,C+1+j)::rs)
  |_,_=>none
 |_,_,_=>none
def V.gone:V->Bool
 |.sl _ o _ _=>Nat.ble 1000000 o
 |_=>false
def AD(m:Nat->ah aX):Nat->Nat->aa In->ah (aa In×aa (Nat×Nat))
 |_,_,[]=>some ([],[])
 | i,C,.aB cs :: r=>match bif Nat.blt (nF i) 60000 then m (nF i)else none with
  | some (.aB I)=>match CH m i C 0 cs I,AD m (i+1) (C+1+cs.length) r with
   |some (fM,rs),some (os,D)=>some (.aB fM::os,(nF i,C)::(rs++D))
   |_,_=>none
  |_=>none
 | i,C,.sl O :: r=>bif O.gone then (match AD m (i+1) (C+1) r with
   |some (os,D)=>some (.sl .nil::os,D)
   |none=>none)else match bif Nat.blt (nF i) 60000 then m (nF i)else none with
  | some (.sl E)=>bif E.loc && !E.aI then (match AD m (i+1) (C+1) r with
   |some (os,D)=>some (.sl E::os,(nF i,C)::D)
   |none=>none)else none
  |_=>none
def I5{X:Type}(P:Program)(σ:S)(fn:Array ResultVar)(C:aa In)(k:aa In->gM->ah X):ah X:=
 tM P σ fn.toList λps=>match Fl σ.m 0 ps with
  | some (qs,rs)=>match AD σ.m 0 (qs.map λp=>p.2.length).sum C with
   | some (os,D)=>bif once (rs++D)then (match qs with
    |[p]=>k os (.one p)
    |qs=>k os (.fO qs))else none
   |none=>none
  |none=>none
/-! Types of parameters and results. -/
def jB:aa (Bool×TC×Nat)->Type
 |[]=>af
 |[(_,t,_)]=>T t
 |(_,t,_)::r=>T t×jB r
def uX:(l:aa (Bool×TC×Nat))->jB l->aa Pt
 |[],_=>[]
 |[(b,t,g)],x=>[(b,enc t g x)]
 |(b,t,g)::q::r,x=>(b,enc t g x.1)::uX (q::r) x.2
def rD:(l:aa (Bool×TC×Nat))->aa Pt->ah (jB l)
 |[],[]=>some ()
 |[(b,t,g)],[(C,D)]=>bif b==C then dec t g D else none
 | (b,t,g) :: q :: r,(C,D) :: ps=>bif b==C then (match dec t g D,rD (q :: r) ps with
  |some x,some xs=>some (x,xs)
  |_,_=>none)else none
 |_,_=>none
def m8(l:aa (Bool×TC×Nat)):gM->ah (jB l)
 |.one p=>rD l [p]
 |.fO ps=>bif Nat.beq ps.length 1 then none else rD l ps
def fL(l:aa (Bool×TC×Nat))(x:jB l):gM:=
 match uX l x with
 |[p]=>.one p
 |ps=>.fO ps
inductive PK where
 |v (b:Bool) (t:TC)
 |p (t:TC) (g off:Nat)
 |s (t:TC) (g:Nat)
def mH:aa PK->Type
 |[]=>af
 |.v _ t::r=>T t×mH r
 |.p t _ _::r=>T t×mH r
 |.s t _::r=>aa (T t)×mH r
def sM:aa (Bool×TC×Nat)->Type
 |[]=>af
 |(true,t,_)::r=>T t×sM r
 |(false,t,_)::r=>aa (T t)×sM r
def jR:(l:aa (Bool×TC×Nat))->sM l->aa In
 |[],_=>[]
 |(true,t,g)::r,x=>.aB (enc t g x.1)::jR r x.2
 |(false,t,g)::r,x=>.sl (bif Nat.ble 1000000 g then .nil else .sl t (g+2) false x.1)::jR r x.2
def fk:aa PK->aa (Bool×TC×Nat)
 |[]=>[]
 |.v _ _::r=>fk r
 |.p t g _::r=>(true,t,g)::fk r
 |.s t g::r=>(false,t,g)::fk r
def oI:(l:aa PK)->mH l->aa In
 |[],_=>[]
 |.v _ _::r,x=>oI r x.2
 |.p t g _::r,x=>.aB (enc t g x.1)::oI r x.2
 |.s t g::r,x=>.sl (.sl t (g+2) false x.1)::oI r x.2
def lD:(l:aa PK)->Nat->mH l->aa Ar
 |[],_,_=>[]
 |.v b t::r,i,x=>.pt (b,enc t 0 x.1)::lD r i x.2
 |.p _ _ off::r,i,x=>.mut i off::lD r (i+1) x.2
 |.s _ _::r,i,x=>.mut i 0::lD r (i+1) x.2
structure qG where
 ps:List PK
 ro:List (Bool×TC×Nat)
 F:mH ps->Option (jB ro×sM (fk ps))
def yC(P:Program)(f:Nat)(c:qG):Prop:=
 ∀ x y,c.F x=some y->∀ (nm:Nat->Nat) (w:World) (aj:bJ) (ρ:Nat->Loc) (cE:Array Value),qF w w.heap.size aj ρ 0 (oI c.ps x)->(∀ b k,aj b=some k->b<w.heap.size/\k≠[])->
     cE.size=c.ps.length->(∀i,RA w w.heap.size aj ρ ((yB (oI c.ps x) (lD c.ps 0 x)).t i) (cE.getD i undef))->∀C:Hd w aj,
     Calls P f cE w λe w'=>∃v aD,e = .returned v/\lz ⟨w,aj,λ_=>none,C,λ_ _=>rfl⟩ w w'/\(∀b k,aD b=some k->(w.heap.size<=b\/aj b≠none)/\b<w'.heap.size/\k≠[])/\rC w' w.heap.size aD nm (fL c.ro y.1) v/\I4 w w' aD ρ nm 0 (fL c.ro y.1).len (oI c.ps x) (jR (fk c.ps) y.2)
def I6(w:World)(ρ:Nat->Loc):Nat->aa In->Prop
 |_,[]=>True
 |i,.aB cs::r=>(∃b off cells e,ρ (nF i) = .aB b off/\w.heap[b]?=some (.cells cells e (0,0))/\∀(j:Nat) x,cs[j]?=some x->x.plain=false->x.aI=true->∃u,cells[off+j]?=some u/\ρ (20001+1000*i+j) = .eU u)/\I6 w ρ (i+1) r
 |i,.sl y::r=>(∃v,ρ (nF i) = .eU v)/\I6 w ρ (i+1) r
section
variable {P:Program} {w w':World} {w0:Wd} {B N:Nat} {aj aD:bJ} {ρ ρ':Nat->Loc} {σ:S} {a:Act} {X:Type} {d:Nat} {r:X} {rs:aa (Nat×Nat)} {nm:Nat->Nat}
def VR{m:Nat -> ah aX}{i pos:Nat}:∀ (xs:aa V) (U:aa Lf) (D:Nat) (ys:aa V) (Y:aa (Nat×Nat)),CH m i pos D xs U=some (ys,Y) -> ys.length=xs.length/\U.length=xs.length /\
  ∀(j:Nat) y,ys[j]?=some y -> ∃l x0,U[j]?=some l/\xs[j]?=some x0/\((l = .v y/\y.plain=true) \/ (l = .v .nil/\y = .nil/\x0.aI=false) \/ (l = .own [20001+1000*i+(D+j)]/\y=x0/\y.plain=false/\(y.aI&&y.lu)=true/\20001+1000*i+(D+j)<60000) \/ (∃q,l = .own [q]/\m q=some (.sl y)/\y.aI=false/\(q,pos+1+(D+j))∈Y))
 | [],[],D,ys,Y,h=>by
  simp only[CH,kI,Prod.mk.injEq]at h;obtain⟨rfl,rfl⟩:=h;exact⟨rfl,rfl,λj y hy=>by simp at hy⟩
 |[],_::_,D,ys,Y,h=>by simp[CH]at h
 |_::_,[],D,ys,Y,h=>by simp[CH]at h
 | x0 :: xs,l :: U,D,ys,Y,h=>by
  have hc:∀ y z,VQ m i D x0 l=some (y,z) -> (z=none/\l = .v y/\y.plain=true) \/ (z=none/\l = .v .nil/\y = .nil/\x0.aI=false) \/ (z=none/\l = .own [20001+1000*i+D]/\y=x0/\y.plain=false/\(y.aI&&y.lu)=true/\20001+1000*i+D<60000) \/ (∃ q,z=some q/\l = .own [q]/\m q=some (.sl y)/\y.aI=false):=by
   intro y z C;unfold VQ at C;split at C
   ·rename_i x;cases hp:x.plain with
    | false=>
     rw[hp,av]at C;cases hb:(!x.lu && !x0.aI)with
     |false=>rw[hb]at C;cases C
     | true=>
      rw[hb,aq]at C;simp only[kI,Prod.mk.injEq]at C;obtain⟨rfl,rfl⟩:=C;rw[aP,ij,ij]at hb;have hx:x = .nil:=by
       cases x<;>first|rfl|(exact absurd hb.1 (by simp[V.lu]))
      subst hx;exact .inr (.inl ⟨rfl,rfl,rfl,hb.2⟩)
    |true =>grind
   ·rename_i q;split at C
    ·rename_i y1 hy1;cases hf:y1.aI with
     | true=>
      rw[hf,aq]at C;cases hb:(!x0.plain&&(x0.aI&&x0.lu)&&Nat.beq q (20001+1000*i+D)&&Nat.blt q 60000)with
      |false=>rw[hb]at C;cases C
      | true=>
       rw[hb,aq]at C;simp only[kI,Prod.mk.injEq]at C;obtain⟨rfl,rfl⟩:=C;rw[aP,aP,aP,ij]at hb;obtain⟨⟨⟨b1,b2⟩,b3⟩,b4⟩:=hb;obtain rfl:=cL b3;exact .inr (.inr (.inl ⟨rfl,rfl,rfl,b1,b2,by have:=dj b4;omega⟩))
     | false=>
      rw[hf,av]at C;cases hl:y1.loc with
      |false=>rw[hl]at C;cases C
      |true =>grind
    ·cases C
   ·cases C
  unfold CH at h;split at h
  ·rename_i y VS VT hy At;simp only[kI,Prod.mk.injEq]at h;obtain⟨rfl,rfl⟩:=h;obtain⟨h1,h2,h3⟩:=VR xs U (D+1) VS VT At
   refine⟨by simp[h1],by simp[h2],λj y' E=>?_⟩
   cases j with
   | zero=>
    simp at E;subst E;refine⟨l,x0,rfl,rfl,?_⟩;rcases hc y none hy with ⟨_,I,O⟩|⟨_,I,O,e3⟩|⟨_,I,O,e3,e4,e5⟩|⟨q,hq,_⟩
    ·simp[*]
    ·simp[*]
    ·exact .inr (.inr (.inl ⟨I,O,e3,e4,e5⟩))
    ·cases hq
   | succ j=>
    obtain⟨l',x',g1,g2,g3⟩:=h3 j y' (by simpa using E);rw[show D+1+j=D+(j+1) by omega]at g3;exact⟨l',x',by simpa using g1,by simpa using g2,g3⟩
  ·rename_i y q VS VT hy At;simp only[kI,Prod.mk.injEq]at h;obtain⟨rfl,rfl⟩:=h;obtain⟨h1,h2,h3⟩:=VR xs U (D+1) VS VT At
   refine⟨by simp[h1],by simp[h2],λj y' E=>?_⟩
   cases j with
   | zero=>
    simp at E;subst E;refine⟨l,x0,rfl,rfl,?_⟩;rcases hc y (some q) hy with ⟨e0,_⟩|⟨e0,_⟩|⟨e0,_⟩|⟨q',hq,I,O,e3⟩
    ·cases e0
    ·cases e0
    ·cases e0
    ·injection hq with hq;subst hq;exact .inr (.inr (.inr ⟨q,I,O,e3,.head _⟩))
   | succ j=>
    obtain⟨l',x',g1,g2,g3⟩:=h3 j y' (by simpa using E);rw[show D+1+j=D+(j+1) by omega]at g3;exact⟨l',x',by simpa using g1,by simpa using g2,g3.imp id (λg=>g.imp id (λg=>g.imp id λ⟨q',I,O,e3,e4⟩=>⟨q',I,O,e3,.tail _ e4⟩))⟩
  ·cases h
def OX{w1:World}{VU:Nat -> Loc}{m:Nat -> ah aX}(U:∀ r,20000 <= r -> r<60000 -> ρ r=VU r)(Y:∀ r x,m r=some x -> eV w w1.heap.size aj ρ r x):
  ∀(ins:aa In) (i pos:Nat) (outs:aa In) (I7:aa (Nat×Nat)),AD m i pos ins=some (outs,I7) -> (∀p∈I7,rs.lookup p.1=some p.2) -> I6 w1 VU i ins -> sL w1 w (fj aj rs nm) VU nm i pos ins outs
 | [],i,pos,outs,I7,h,I,he=>by
  simp only[AD,kI,Prod.mk.injEq]at h;obtain⟨rfl,rfl⟩:=h;trivial
 | .aB cs :: r,i,pos,outs,I7,h,I,he=>by
  unfold AD at h;cases hi:Nat.blt (nF i) 60000 with
  |false=>grind
  | true=>
   rw[hi,aq]at h;have hi:=dj hi;split at h
   ·rename_i ls hls;split at h
    ·rename_i fM rs1 os CG h1 h2;simp only[kI,Prod.mk.injEq]at h;obtain⟨rfl,rfl⟩:=h;obtain⟨⟨b,off,cells,e,acp,Vx,tN⟩,I8⟩:=he;obtain⟨k1,k2,k3⟩:=VR _ _ _ _ _ h1
     refine⟨?_,OX U Y r (i+1) _ os CG h2 (λp D=>I p (.tail _ (List.mem_append_right _ D))) I8⟩
     have O:=Y _ _ hls;have VV:=U (nF i) (by unfold nF;omega) (by omega);generalize C:aX.aB ls=x at O;cases O with
     |sl=>cases C
     |mp=>cases C
     |gh=>cases C
     | aB b' Cn yD e' ls' us E hl hh hs hc=>
      injection C with C;subst C;rw[VV,acp]at E;injection E with e1 e2;subst e1 e2
      refine⟨b,off,cells,yD,e,e',acp,Vx,hh,?_,by rw[k1,<- k2];exact hs,k1,λj y hy=>?_⟩
      ·have:=I _ (List.Mem.head _);simp[fj,hl,this]
      ·obtain⟨l,x0,g1,g2,g3⟩:=k3 j y hy;obtain⟨c1,c2⟩:=hc j l g1;refine⟨_,c1,?_⟩;rw[fB]at g3;rcases g3 with ⟨rfl,D⟩ | ⟨rfl,rfl,ON⟩ | ⟨rfl,rfl,D,Ap,dQ⟩ | ⟨q,rfl,hq,hf,sK⟩
       ·exact .inl ⟨D,λ_ _ _ _=>c2.2.uI D⟩
       ·exact .inr (.inl ⟨rfl,by have h9:=c2.2;generalize us j=u9 at h9 ⊢;cases h9;rfl,x0,g2,ON⟩)
       ·rw[aP]at Ap;obtain⟨hf,OY⟩:=Ap;obtain⟨u,hu,apt⟩:=tN j y g2 D hf;refine .inr (.inr (.inl ⟨D,hf,OY,⟨y,g2,.same _⟩,?_⟩));have h3:=c2.2;have VW:=U (20001+1000*i+j) (by omega) dQ;simp only[dn,VW,apt]at h3;simp_all
       ·refine .inr (.inr (.inr ⟨hf,?_⟩));have O:=Y _ _ hq;generalize C:aX.sl y=x at O;cases O with
        |aB=>cases C
        |mp=>cases C
        |gh=>cases C
        | sl v y' E hr=>
         injection C with C;subst C;have h3:=c2.2;simp only[dn,E]at h3;injection h3 with h3;rw[<- h3];exact RV.fj (p:=[]) hr (I _ (.tail _ (List.mem_append_left _ sK)))
    ·cases h
   ·cases h
 | .sl y :: r,i,pos,outs,I7,h,I,he=>by
  unfold AD at h;cases hg:y.gone with
  | true=>
   rw[hg,aq]at h;split at h
   next os CG h2=>simp at h;obtain⟨rfl,rfl⟩:=h;exact⟨.inl rfl,OX U Y r _ _ os CG h2 I he.2⟩
   ·cases h
  |false=>
  rw[hg,av]at h;cases hi:Nat.blt (nF i) 60000 with
  |false=>grind
  | true=>
   rw[hi,aq]at h;have hi:=dj hi;split at h
   ·rename_i y' IQ;cases hl:(y'.loc && !y'.aI)with
    |false=>grind
    | true=>
     rw[hl,aq]at h;split at h
     ·rename_i os CG h2;simp only[kI,Prod.mk.injEq]at h;obtain⟨rfl,rfl⟩:=h;obtain⟨⟨v,hv⟩,I8⟩:=he
      refine⟨.inr ⟨v,hv,?_⟩,OX U Y r (i+1) _ os CG h2 (λp D=>I p (.tail _ D)) I8⟩
      have VV:=U (nF i) (by unfold nF;omega) (by omega);have O:=Y _ _ IQ;generalize C:aX.sl y'=x at O;cases O with
      |aB=>cases C
      |mp=>cases C
      |gh=>cases C
      | sl v' y'' E hr=>
       injection C with C;subst C;rw[VV,hv]at E;injection E with E;subst E;exact RV.fj (p:=[]) hr (I _ (.head _))
     ·cases h
   ·cases h
def apu{w1:World}{Y:Nat -> Loc}{fn:Func}{O:aa In}{k:aa In -> gM -> ah X}(hw:w0.w=w1)(hF:∀ r,20000 <= r -> r<60000 -> w0.F r=some (Y r))(he:I6 w1 Y 0 O)(h:I5 P σ fn.results O k=some r):
  ∃outs res,k outs res=some r /\ ∀aj ρ a w,Rl w0 N aj ρ σ a w -> ∀nm,∃v aD,(results fn a.tmps).run P w = .ok v w/\(∀b k,aD b=some k -> (w0.heap.size <= b \/ w0.L b≠none)/\b<w.heap.size/\k≠[])/\rC w w0.heap.size aD nm res v/\sL w1 w aD Y nm 0 res.len O outs:=by
 unfold I5 at h;obtain⟨ps,E,jY⟩:=I3 (w0:=w0) (N:=N) _ _ h;clear h;split at E
 ·rename_i qs VX VN;split at E
  ·rename_i os VY hos;cases ho:once (VX++VY)with
   |false=>rw[ho]at E;cases E
   | true=>
    rw[ho,aq]at E;generalize acq:VX++VY=rs at ho;have iX:∀ p∈rs,rs.lookup p.1=some p.2:=by
     intro p hp;have:=ck.1 ho p hp;obtain⟨n,hn,he⟩:=(Option.any_eq_true _ _).1 this;simp_all
    have core:∀ aj ρ a w,Rl w0 N aj ρ σ a w -> ∀ nm:Nat -> Nat,∃ C:aa Value,(fn.results.mapM (uV a.tmps)).run P w = .ok C.toArray w/\(∀ b k,fj aj rs nm b=some k -> (w0.heap.size <= b \/ w0.L b≠none)/\b<w.heap.size/\k≠[])/\kN w w0.heap.size (fj aj rs nm) nm 0 qs C /\
      sL w1 w (fj aj rs nm) Y nm 0 (qs.map λp=>p.2.length).sum O os:=by
     intro aj ρ a w hR nm;obtain⟨C,cH,hl,hv⟩:=jY aj ρ a w hR
     refine⟨C,?_,λb k I=>?_,VL hR.root ps 0 qs VX C VN (λp hp=>iX p (by rw[<- acq];exact List.mem_append_left _ hp)) hl hv,
      OX (λr h1 E=>hR.fix r _ (hF r h1 E)) (by rw[<- hw];exact hR.root) O 0 _ os VY hos (λp hp=>iX p (by rw[<- acq];exact List.mem_append_right _ hp)) he⟩
     ·rw[Array.mapM_eq_mapM_toList];simp[cH]
     ·unfold fj at I;split at I
      ·cases I
      ·rename_i k' qC;have:=hR.dI b k' qC;split at I
       ·cases I
       ·cases uW:rs.lookup _ with
        |none=>rw[uW]at I;cases I
        | some n=>
         rw[uW]at I;injection I with I;subst I;simp_all
    have mG:∀ (tmps:Array Value),results fn tmps=(do let C <- fn.results.mapM (uV tmps);pure (if h:C.size=1 then C[0]else .tuple C)):=λtmps=>by
     unfold results;congr 1
    split at E
    ·rename_i p
     refine⟨_,_,E,λaj ρ a w hR nm=>?_⟩
     obtain⟨C,cH,mE,D,U⟩:=core aj ρ a w hR nm;have U:sL w1 w (fj aj rs nm) Y nm 0 (gM.one p).len O os:=by simpa [gM.len]using U
     match C,D with
     |[v],D=>exact⟨v,_,by rw[mG,gN,cH];rfl,mE,D,U⟩
     |[],D=>exact D.elim
     |_::_::_,D=>exact D.2.elim
    ·rename_i cx
     refine⟨_,_,E,λaj ρ a w hR nm=>?_⟩
     obtain⟨C,cH,mE,D,U⟩:=core aj ρ a w hR nm;have gx:C.toArray.size≠1:=by
      intro e;clear U;have e:C.length=1:=by simpa using e
      match qs,C,D,cx,e with
      |[q],[v],_,cx,_=>exact cx q rfl
      |[],[v],D,_,_=>exact D.elim
      |_::_::_,[v],D,_,_=>exact D.2.elim
     refine⟨.tuple C.toArray,_,?_,mE,⟨C.toArray,rfl,D⟩,U⟩;rw[mG,gN,cH,mS];simp only[gx,dif_neg,not_false_eq_true,Sem.run_pure]
  ·cases E
 ·cases E
def acr{i:Nat}:∀ (cs:aa V) (D:Nat) (m:Nat -> ah aX) (r:Nat) (x:aX),VO i D cs m r=some x -> m r=some x \/ ∃ j y,cs[j]?=some y/\y.plain=false/\r=nC i (D+j) y/\x = .sl y
 |[],D,m,r,x,h=>.inl h
 | c :: cs,D,m,r,x,h=>by
  rcases acr cs _ _ r x h with C|⟨j,y,C,O,U,Y⟩
  ·cases E:c.plain with
   |true=>simp_all
   | false=>
    rw[E,av]at C;by_cases I:r=nC i D c
    ·subst I;rw[cm]at C;injection C with C;exact .inr ⟨0,c,rfl,E,rfl,C.symm⟩
    ·rw[cN _ _ _ I]at C;simp_all
  ·exact .inr ⟨j+1,y,by simpa using C,O,by rw[U];congr 1;omega,Y⟩
def qF.roots:∀ (C:aa In) (i:Nat) (m:Nat -> ah aX),qF w B aj ρ i C -> (∀ r x,m r=some x -> eV w B aj ρ r x) -> ∀ r x,OW i C m r=some x -> eV w B aj ρ r x
 |[],i,m,_,I,r,x,h=>I r x h
 | .aB cs :: C,i,m,O,I,r,x,h=>by
  obtain⟨h1,h2,U⟩:=O
  refine qF.roots C _ _ U (λr x E=>?_) r x h
  rcases acr cs 0 _ r x E with Y|⟨j,y,g1,g2,g3,g4⟩
  ·by_cases D:r=nF i
   ·subst D;rw[cm]at Y;simp_all
   ·rw[cN _ _ _ D]at Y;simp_all
  ·simp_all
 | .sl y :: C,i,m,O,I,r,x,h=>by
  obtain⟨h1,U⟩:=O
  refine qF.roots C _ _ U (λr x E=>?_) r x h
  by_cases D:r=nF i
  ·subst D;rw[cm]at E;simp_all
  ·rw[cN _ _ _ D]at E;simp_all
def VZ{i:Nat}:∀ (cs:aa V) (C j:Nat) x,cs[j]?=some x->(AB i C cs)[j]?=some (AA i (C+j) x)
 |[],C,j,x,h=>by simp at h
 |c::cs,C,0,x,h=>by simp at h;subst h;rfl
 | c :: cs,C,j+1,x,h=>by
  simp only[AB,List.getElem?_cons_succ];rw[VZ cs (C+1) j x (by simpa using h)];congr 2;omega
def qF.V0:∀ (C:aa In) (i:Nat),qF w B aj ρ i C -> I6 w ρ i C
 |[],_,_=>trivial
 | .aB cs :: C,i,I=>by
  obtain⟨E,_,O⟩:=I;refine⟨?_,qF.V0 C (i+1) O⟩;generalize D:aX.aB (AB i 0 cs)=x at E;cases E with
  |sl=>cases D
  |mp=>cases D
  |gh=>cases D
  | aB b off cells e ls us cu hl hh hs hc=>
   injection D with D;subst D
   refine⟨b,off,cells,e,cu,hh,λj x hj hp hf=>?_⟩
   obtain⟨c1,U⟩:=hc j _ (VZ cs 0 j x hj);rw[fB]at U;refine⟨_,c1,?_⟩;have e1:AA i j x = .own [20001+1000*i+j]:=by simp[AA,hp,nC,hf]
   rw[e1]at U;have Y:=U.2;simp only[dn]at Y;split at Y
   ·simp_all
   ·cases Y
 | .sl y :: C,i,I=>by
  obtain⟨E,O⟩:=I;refine⟨?_,qF.V0 C (i+1) O⟩;cases E with
  |sl v y' cu hr=>simp_all
end
def dB(n:Nat):aa Nat->Bool
 |[]=>false
 |m::l=>Nat.beq n m ||dB n l
def uY{n:Nat}:∀ {l:aa Nat},dB n l=true ↔ n∈l
 |[]=>by simp[dB]
 | m :: l=>by
  simp only[dB,eN,gZ,uY];simp_all
def apv{n:Nat}{l:aa Nat}(h:dB n l=false):n ∉ l:=λk=>by rw[uY.2 k]at h;cases h
def iq(k l:aa Nat):Bool:=match k.getLast? with
 |some r=>dB r l
 |none=>false
def wD(ns cn:aa Nat):oD:=⟨λk=>iq k cn ||(iq k ns && !(Nat.beq k.length 1)),λk=>iq k cn ||iq k ns,λr=>dB r cn⟩
def Lf.dR(ns cn:aa Nat):Lf->Lf:=Lf.cG (wD ns cn).l
def A.dR(ns cn:aa Nat):A->A:=A.cG (wD ns cn)
def aX.dR(ns cn:aa Nat):aX->aX:=aX.cG (wD ns cn)
def S.dR(σ:S)(ns cn:aa Nat)(nr:aa (Nat×aX)):S:=⟨λk=>(σ.t k).dR ns cn,λr=>match nr.lookup r with
 |some x=>some x
 |none=>bif dB r ns ||dB r cn then none else (σ.m r).map (aX.dR ns cn)⟩
structure yE (w w':World) (aj fe:bJ) (ρ gi:Nat->Loc) (ns cn:List Nat):Prop where
 size:w.heap.size<=w'.heap.size
 same:∀b,b<w.heap.size->(∀k,aj b=some k->iq k ns=false)->w'.heap[b]?=w.heap[b]?/\fe b=aj b
 gf:∀r,dB r cn=false->gi r=ρ r
 aj:∀b k,aj b=some k->b<w.heap.size/\k≠[]
section
variable {P:Program} {w w':World} {w0:Wd} {B N:Nat} {aj fe aD:bJ} {ρ gi:Nat->Loc} {σ:S} {a:Act} {X:Type} {d:Nat} {r:X} {ns cn:aa Nat}
def acs{j i s:Nat}{q l:aa Nat}(h:q≠[]):iq (j :: i :: s :: q) l=iq q l:=by
 cases q with
 |nil=>simp_all
 |cons x q=>simp[iq]
def yE.tr(C:yE w w' aj fe ρ gi ns cn):Tr w w' aj fe ρ gi (λk=>iq k ns) (λr=>dB r cn):=
 ⟨C.size,λb hb hl=>let e:=C.same b hb (λk D=>by rw[hl]at D;cases D);⟨e.1,e.2.trans hl⟩,λb k hl D=>let e:=C.same b (C.aj b k hl).1 (λI E=>by rw[hl]at E;injection E with E;subst E;exact D);⟨e.1,e.2.trans hl⟩,C.gf,λj i s x q=>acs (by simp),λb hb=>absurd rfl (C.aj b [] hb).2⟩
def V1:(wD ns cn).OK (λk=>iq k ns) (λr=>dB r cn):=by
 refine⟨λk D=>?_,λk D=>?_,λ_ h=>h⟩
 ·obtain⟨E,C⟩:=o5.1 D;refine⟨?_,E⟩;cases I:iq k ns with
  |false=>exact .inr rfl
  | true=>
   rw[I,cC,Bool.not_eq_false']at C;exact .inl (cL C)
 ·obtain⟨E,C⟩:=o5.1 D;exact⟨C,E⟩
def RA.AE(C:yE w w' aj fe ρ gi ns cn){x:A}{u:Value}(h:RA w B aj ρ x u):RA w' B fe gi (x.dR ns cn) u:=h.tr C.tr V1
def eS.AE(C:yE w w' aj fe ρ gi ns cn){x:Lf}{u:Value}(h:eS w B aj ρ x u):eS w' B fe gi (x.dR ns cn) u:=h.tr C.tr V1
def eV.AE(C:yE w w' aj fe ρ gi ns cn){n:Nat}{x:aX}(h:eV w B aj ρ n x)(D:dB n ns=false)(E:dB n cn=false):eV w' B fe gi n (x.dR ns cn):=h.tr C.tr V1 D E
def Rl.AE(h:Rl w0 N aj ρ σ a w)(D:yE w w' aj fe ρ gi ns cn)(hb:lz w0 w w')(hl:∀ b k,fe b=some k -> (w0.heap.size <= b \/ w0.L b≠none)/\b<w'.heap.size/\k≠[])(U:∀ r,dB r cn=true -> w0.F r=none){nr:aa (Nat×aX)}
  (Y:∀r x,nr.lookup r=some x -> eV w' w0.heap.size fe gi r x):Rl w0 N fe gi (σ.dR ns cn nr) a w':=by
 refine⟨h.below.trans hb,hl,λr x C=>?_,λk=>(h.tmp k).AE D,h.size,h.defers,λr l I=>?_,h.dY⟩
 ·simp only[S.dR]at C;split at C
  ·simp_all
  ·cases hm:(dB r ns || dB r cn)with
   |true=>simp_all
   | false=>
    rw[hm]at C;rw[o5]at hm;cases E:σ.m r with
    |none=>simp_all
    | some y=>
     rw[E]at C;injection C with C;subst C;exact(h.root r y E).AE D hm.1 hm.2
 ·have O:dB r cn=false:=by
   grind
  exact(D.gf r O).trans (h.fix r l I)
end
inductive Mu where
 |aB (r:Nat) (cs:List Lf) (vs:List (V×Option Nat))
 |sl (q:Nat) (y:V)
def Mu.root:Mu->Nat
 |.aB r _ _=>r
 |.sl q _=>q
def wE(m:Nat->ah aX):Lf->ah (V×ah Nat)
 |.v x=>some (x.gT,none)
 | .own [q]=>match m q with
  |some (.sl y)=>bif y.aI then some (y.gT,none)else some (y,some q)
  |_=>none
 |_=>none
def sN(m:Nat->ah aX):aa Lf->ah (aa (V×ah Nat))
 |[]=>some []
 | l :: C=>match wE m l,sN m C with
  |some v,some D=>some (v::D)
  |_,_=>none
def wF(σ:S):PK->A->ah (ah Mu)
 |.v _ _,_=>some none
 | .p _ _ off,.aE r j=>(match (bif Nat.beq j off then σ.m r else none)with
  | some (.aB cs)=>(match sN σ.m cs with
   |some C=>bif Nat.blt cs.length 999 then some (some (.aB r cs C))else none
   |none=>none)
  |_=>none)
 | .s _ _,.lf (.own [q])=>(match σ.m q with
  |some (.sl y)=>bif y.aI then none else some (some (.sl q y))
  |_=>none)
 |_,_=>none
def kz(σ:S):aa PK->aa Operand->ah (aa Mu)
 |[],[]=>some []
 | p :: ps,x :: xs=>(match wF σ p (aL σ x),kz σ ps xs with
  |some (some D),some C=>some (D::C)
  |some none,some C=>some C
  |_,_=>none)
 |_,_=>none
def Fm(i:Nat):Nat->aa (V×ah Nat)->aa (Nat×Nat)
 |_,[]=>[]
 |j,(_,some q)::C=>(q,60000+1000*i+j)::Fm i (j+1) C
 |j,(_,none)::C=>Fm i (j+1) C
def m9:Nat->aa Mu->aa (Nat×Nat)
 |_,[]=>[]
 |i,.aB r _ D::C=>(r,nF i)::(Fm i 0 D++m9 (i+1) C)
 |i,.sl q _::C=>(q,nF i)::m9 (i+1) C
def V2(ns:aa Nat):Lf->Bool
 |.own k=>!iq k ns
 |_=>true
def tO{X:Type}(σ:S)(ns:aa Nat):aa Lf->(aa V->ah X)->ah X
 |[],k=>k []
 |x::xs,k=>bif V2 ns x then qy σ x λy=>tO σ ns xs λys=>k (y.gT::ys)else none
def sO{X:Type}(σ:S)(ns:aa Nat)(x:A)(k:Pt->ah X):ah X:=
 match x with
 |.lf y=>tO σ ns [y] λC=>k (false,C)
 |.agg ys=>tO σ ns ys λC=>k (true,C)
 |.oC f (c::cs)=>k (false,.bool false::.int .i64 (f:Int)::c.gT::cs.map V.gT)
 | .fn f [(r,j)]=>bif dB r ns then none else (match σ.m r with
  | some (.aB cs)=>(match sD (cs.drop j)with
   |some (c::C)=>k (false,.bool false::.int .i64 (f:Int)::c::C)
   |_=>none)
  |_=>none)
 |_=>none
def kA{X:Type}(σ:S)(ns:aa Nat):(ps:aa PK)->aa Operand->aa Mu->(mH ps->ah X)->ah X
 |[],[],[],k=>k ()
 | .v b t :: ps,x :: xs,C,k=>sO σ ns (aL σ x) λp=>bif p.1==b then (match dec t 0 p.2 with
  |some y=>kA σ ns ps xs C λys=>k (y,ys)
  |none=>none)else none
 | .p t g _ :: ps,_ :: xs,.aB _ _ D :: C,k=>(match (bif Nat.beq (g % 2) 0 then dec t g (D.map (·.1))else none)with
  |some y=>kA σ ns ps xs C λys=>k (y,ys)
  |none=>none)
 | .s t g :: ps,_ :: xs,.sl _ y :: C,k=>(match (bif Nat.beq (g % 2) 0 then y.fW t (g+2)else none)with
  |some z=>kA σ ns ps xs C λys=>k (z,ys)
  |none=>none)
 |_,_,_,_=>none
def yF(w:World)(ρ:Nat->Loc)(rs:aa Nat):Nat->Loc:=λn=>
 if n<60000 then (if (n-20000) % 1000=0 then ρ (rs.getD ((n-20000) / 1000) 0)else (match ρ (rs.getD ((n-20000) / 1000) 0)with
  |.aB b off=>.eU ((w.cell? ⟨b,off+((n-20000) % 1000-1),none⟩).getD undef)
  |.eU v=>.eU v
  |.cE us=>.cE us))
 else (match ρ (rs.getD ((n-60000) / 1000) 0)with
  |.aB b off=>.eU ((w.cell? ⟨b,off+(n-60000) % 1000,none⟩).getD undef)
  |.eU v=>.eU v
  |.cE us=>.cE us)
def I9{w:World}{ρ:Nat -> Loc}{rs:aa Nat}{i r:Nat}(h:rs[i]?=some r)(hi:i<40):yF w ρ rs (nF i)=ρ r:=by
 have C:nF i<60000:=by unfold nF;omega
 have D:(nF i-20000) % 1000=0:=by unfold nF;omega
 have E:(nF i-20000) / 1000=i:=by unfold nF;omega
 have I:rs.getD i 0=r:=by rw[cV,h];rfl
 unfold yF;simp_all
def apw{w:World}{ρ:Nat -> Loc}{rs:aa Nat}{i j r b off:Nat}{u:Value}{x:V}(h:rs[i]?=some r)(hi:i<40)(C:j<999)(D:ρ r = .aB b off)(E:w.cell? ⟨b,off+j,none⟩=some u):yF w ρ rs (nC i j x) = .eU u:=by
 have I:rs.getD i 0=r:=by rw[cV,h];rfl
 unfold yF nC;cases x.aI with
 |true =>grind
 |false =>grind
def V.OZ:V->Bool
 |.sl _ o _ _=>Nat.beq (o % 2) 0
 |_=>true
section
variable {P:Program} {w w':World} {w0:Wd} {B N:Nat} {aj fe aD:bJ} {ρ gi:Nat->Loc} {σ:S} {a:Act} {X:Type} {d:Nat} {r:X} {ns cn:aa Nat}
def RV.reB{B':Nat}{q:aa Nat}{x:V}{v:Value}(h:RV w B aj q x v)(D:x.OZ=true):RV w B' aj q x v:=by
 induction h with
 |int=>exact .int _ _ _
 |bool=>exact .bool _ _
 |str=>exact .str _ _
 |nil=>exact .nil _
 |fq=>exact .fq _ _ _
 |gy=>exact .gy _ _ _ _ _ (by first|assumption|omega)
 |gL=>exact .gL _ _ _ _ _ (by first|assumption|omega)
 | aI q t o U l b off cap u Y hl hb h1 jM E hr I=>
  have D:=cL D;have ho0:o=0:=by omega
  subst ho0
  refine .aI _ _ _ _ _ _ _ _ u Y hl hb (by omega) jM E (λi h j x C=>I i h j x C ?_)
  have:=zZ t 0 l[i] x (iB C);cases x with
  | sl t' O q' l'=>
   have:O=0:=by simpa [V.gr]using this
   subst this;rfl
  |_=>rfl
 | own q t o U l b cap cs u hl hh hs hn hm E hr I=>
  have D:=cL D
  refine .own _ _ _ _ _ _ _ cs u hl hh hs hn hm E (λi h j x C=>I i h j x C ?_)
  have:=zZ t o l[i] x (iB C);cases x with
  | sl t' O q' l'=>
   have:O=o:=by simpa [V.gr]using this
   show Nat.beq _ 0=true;simp_all
  |_=>rfl
def RV.out{q I:aa Nat}{x:V}{v:Value}(h:RV w B aj q x v)(h1:∀ b,aj b=none -> aD b=none)(h2:∀ b k,aj b=some k -> k≠[]/\(iq k ns=false -> aD b=none))(hq:x.aI=true \/ iq q ns=false){B':Nat}:RV w B' aD I x.gT v:=by
 induction h generalizing I with
 |int=>exact .int _ _ _
 |bool=>exact .bool _ _
 |str=>exact .str _ _
 |nil=>exact .nil _
 |fq=>exact .fq _ _ _
 |gy=>exact .gy _ _ _ _ _ (by first|assumption|omega)
 |gL=>exact .gL _ _ _ _ _ (by first|assumption|omega)
 | aI q t o qn l b off cap u ho hl hb h1' jM O hr E=>
  refine .aI _ _ _ _ _ _ _ _ u (by omega) (h1 b hl) hb (by omega) jM (λi h j x C=>?_) (λi h j x C=>?_)
  ·obtain⟨y,D,_⟩:=yd t o l[i] j x C;simp_all
  ·obtain⟨y,D,rfl⟩:=yd t o l[i] j x C;exact E i h j y D (.inl (sy t o l[i] ho j y D))
 | own q t o qn l b cap cs u hl U hs hn hm O hr E=>
  have Y:iq q ns=false:=by
   rcases hq with hq|hq
   ·simp[V.aI]at hq;omega
   ·exact hq
  obtain⟨cx,qz⟩:=h2 b q hl
  refine .aI _ _ _ _ _ _ _ _ u (by omega) (qz Y) (jU.1 U).1 (by omega) hn (λi h j x C=>?_) (λi h j x C=>?_)
  ·obtain⟨y,D,_⟩:=yd t o l[i] j x C;have:=O i h j y D;rw[fB,cell_of_row w b _ cs _ _ U];exact this
  ·obtain⟨y,D,rfl⟩:=yd t o l[i] j x C;exact E i h j y D (.inr (by rw[acs cx];exact Y))
def apx{x:Lf}{k:V -> ah X}(h:qy σ x k=some r):∃ y,k y=some r /\ ∀ aj ρ a w,Rl w0 N aj ρ σ a w -> ∀ u,eS w w0.heap.size aj ρ x u -> ∃ q,(x = .own q \/ y.aI=true)/\RV w w0.heap.size aj q y u:=by
 cases x with
 |v y=>exact⟨y,h,λaj ρ a w hR u C=>⟨[],.inr C.1,C.2⟩⟩
 |dead=>cases h
 | own q=>
  obtain⟨y,D,E⟩:=tD q k h
  refine⟨y,E,λaj ρ a w hR u C=>⟨q,.inl rfl,?_⟩⟩
  obtain⟨v,I,O⟩:=D.ok hR.root;have:v=u:=by
   have U:=C.2;simp_all
  simp_all
structure CI (ns:List Nat) (aj aD:bJ):Prop where
 none:∀b,aj b=none->aD b=none
 rest:∀b k,aj b=some k->k≠[]/\(iq k ns=false->aD b=Option.none)
def V3:∀ (xs:aa Lf) (k:aa V -> ah X),tO σ ns xs k=some r -> ∃ C,k C=some r/\C.length=xs.length /\ ∀ aj ρ a w aD,Rl w0 N aj ρ σ a w -> CI ns aj aD -> ∀ (j:Nat) x y u,xs[j]?=some x -> C[j]?=some y -> eS w w0.heap.size aj ρ x u -> RV w w.heap.size aD [] y u
 |[],k,h=>⟨[],h,rfl,λ_ _ _ _ _ _ _ j x y u U=>by simp at U⟩
 | x :: xs,k,h=>by
  unfold tO at h;cases D:V2 ns x with
  |false=>simp_all
  | true=>
   rw[D,aq]at h;obtain⟨y,Y,hy⟩:=apx (w0:=w0) (N:=N) h;obtain⟨ys,h3,hl,hr⟩:=V3 xs _ Y
   refine⟨y.gT::ys,h3,by simp[hl],λaj ρ a w aD hR E j x' y' u I O hu=>?_⟩
   cases j with
   | zero=>
    simp at I O;subst I O;obtain⟨q,hq,mC⟩:=hy aj ρ a w hR u hu;refine mC.out E.none E.rest ?_;rcases hq with rfl|hq
    ·exact .inr (by simpa [V2]using D)
    ·simp_all
   |succ j=>grind
inductive PM (w:World) (aD:bJ):Pt->Value->Prop
 |v (p:Pt) (u:Value) (h:PV w w.heap.size aD (λ_=>[]) p u):PM w aD p u
 |f (g:Nat) (c:V) (cs:List V) (u:Value) (h:RF w w.heap.size aD (c::cs) u):PM w aD (false,.bool false::.int .i64 (g:Int)::c::cs) (.func (.func g) #[] #[u])
def apy{g:Nat}{c:V}{cs ys:aa V}(hl:(V.bool false :: .int .i64 (g:Int) :: c :: cs).length=ys.length)(h:∀ (j:Nat) x z,(V.bool false :: .int .i64 (g:Int) :: c :: cs)[j]?=some x -> ys[j]?=some z -> Wk x z):∃ C fM,ys = .bool false :: .int .i64 (g:Int) :: C :: fM/\mA (c :: cs) (C :: fM):=by
 match ys,hl,h with
 | a :: b :: C :: fM,hl,h=>
  have D:=h 0 _ a rfl rfl;have E:=h 1 _ b rfl rfl;cases D;cases E;exact⟨C,fM,rfl,by simpa using hl,λj x z I O=>h (j+2) x z (by simpa using I) (by simpa using O)⟩
def RF.wG{cs C:aa V}{u:Value}(h:RF w B aj cs u)(E:mA cs C)(O:∀ (j:Nat) z,C[j]?=some z->z.aI=true):RF w B aj C u:=by
 obtain⟨b,off,rfl,hb,hl,U⟩:=h
 refine⟨b,off,rfl,hb,hl,λj x D=>?_⟩
 have I:j<cs.length:=by rw[E.1];exact(eO.1 D).1
 obtain⟨_,v,Y,h5⟩:=U j _ (bT I);exact⟨O j x D,v,Y,h5.wk (E.2 j _ x (bT I) D)⟩
def RF.gT{cs:aa V}{u:Value}(h:RF w B aj cs u)(D:∀ b,aj b=none -> aD b=none)(I:∀ b k,aj b=some k -> k≠[]/\(iq k ns=false -> aD b=none)){B':Nat}:RF w B' aD (cs.map V.gT) u:=by
 obtain⟨b,off,rfl,hb,hl,O⟩:=h
 refine⟨b,off,rfl,hb,D b hl,λj x C=>?_⟩
 rw[fh]at C;cases E:cs[j]? with
 |none=>simp_all
 | some y=>
  rw[E]at C;injection C with C;subst C;obtain⟨U,v,Y,h5⟩:=O j y E;exact⟨V.aov y,v,Y,h5.out D I (.inl U)⟩
def apz{x:A}{k:Pt -> ah X}(h:sO σ ns x k=some r):∃ p,k p=some r /\ ∀ aj ρ a w aD,Rl w0 N aj ρ σ a w -> CI ns aj aD -> ∀ u,RA w w0.heap.size aj ρ x u -> PM w aD p u:=by
 unfold sO at h;split at h
 ·rename_i y;obtain⟨vs,O,hl,U⟩:=V3 (w0:=w0) (N:=N) _ _ h
  refine⟨_,O,λaj ρ a w aD hR C u D=>.v _ _ ⟨#[u],rfl,by simp[hl],λj x E=>?_⟩⟩
  have I:j=0:=by
   grind
  subst I;exact⟨u,rfl,U aj ρ a w aD hR C 0 y x u rfl E D⟩
 ·rename_i ys;obtain⟨vs,O,hl,U⟩:=V3 (w0:=w0) (N:=N) _ _ h
  refine⟨_,O,λaj ρ a w aD hR C u D=>?_⟩
  obtain⟨us,rfl,Y⟩:=D
  refine .v _ _ ⟨us,rfl,by rw[hl];exact Y.1,λj x E=>?_⟩
  have I:j<ys.length:=by rw[<- hl];exact(eO.1 E).1
  obtain⟨v,hv,gz⟩:=Y.2 j _ (bT I);exact⟨v,hv,U aj ρ a w aD hR C j _ x v (bT I) E gz⟩
 ·rename_i f c cs
  refine⟨_,h,λaj ρ a w aD hR C u D=>?_⟩
  obtain⟨pv,rfl,wH⟩:=D;exact .f f _ _ _ (wH.gT C.none C.rest)
 ·rename_i f r' j;cases O0:dB r' ns with
  |true=>grind
  | false=>
   rw[O0,av]at h;split at h
   ·rename_i cs hm;split at h
    ·rename_i c vs Ab;obtain⟨e,hp⟩:=Oz _ _ Ab
     refine⟨_,h,λaj ρ a w aD hR C u D=>?_⟩
     obtain⟨us,rfl,m0,jM⟩:=D;obtain⟨b,off,cu,wj⟩:=jM 0 _ rfl;have wj:us[0]?=some (.pointer (some ⟨b,off+j,none⟩)):=wj;have aGd:us.size=1:=m0;have apA:us = #[.pointer (some ⟨b,off+j,none⟩)]:=by
      apply Array.ext';apply List.ext_getElem?;intro i;cases i with
      |zero=>grind
      |succ i=>grind
     subst apA;refine .f f _ _ _ ?_;cases hR.root r' _ hm with
     | aB b' Cn cells e' _ OD jO mE hh Y hc=>
      rw[cu]at jO;injection jO with q1 q2;subst q1 q2
      refine⟨b,off+j,rfl,(jU.1 hh).1,(C.rest b _ mE).2 (by simpa [iq]using O0),λi x E=>?_⟩
      have hpx:=hp x (iB E);have hcd:(cs.drop j)[i]?=some (.v x):=by rw[e,fh,E];rfl
      rw[List.getElem?_drop]at hcd;obtain⟨k1,k2⟩:=hc _ _ hcd;refine⟨(by cases x<;>first|rfl|cases hpx),OD (j+i),?_,k2.2.uI hpx⟩;rw[Nat.add_assoc,cell_of_row w b _ cells _ _ hh];exact k1
    ·cases h
   ·cases h
 ·cases h
def AF(σ:S):Mu->Prop
 |.aB r cs C=>σ.m r=some (.aB cs)/\sN σ.m cs=some C/\cs.length<999
 |.sl q y=>σ.m q=some (.sl y)/\y.aI=false
def Ja:aa Mu->aa In->Prop
 |[],[]=>True
 |.aB _ _ I::C,.aB xs::D=>(mA (I.map (·.1)) xs/\∀x∈xs,x.lu=true/\x.OZ=true)/\Ja C D
 |.sl _ y::C,.sl E::D=>(Wk y E/\E.OZ=true)/\Ja C D
 |_,_=>False
def Fo(w:World)(B:Nat)(aj:bJ)(ρ:Nat->Loc)(C:aa In):aa Ar->aa Value->Prop
 |[],[]=>True
 |x::xs,v::D=>RA w B aj ρ (VP C x) v/\Fo w B aj ρ C xs D
 |_,_=>False
def Fo.get{D:aa In}:∀ (xs:aa Ar) (C:aa Value),Fo w B aj ρ D xs C -> C.length=xs.length /\ ∀ i,RA w B aj ρ ((yB D xs).t i) (C.toArray.getD i undef)
 |[],[],_=>⟨rfl,λi=>trivial⟩
 | x :: xs,v :: C,h=>by
  obtain⟨E,I⟩:=Fo.get xs C h.2
  refine⟨by simp[E],λi=>?_⟩
  cases i with
  |zero=>exact h.1
  | succ i=>
   have:=I i;simp at this ⊢;exact this
def apB{t:TC}{g:Nat}{x:T t}(D:Nat.beq (g % 2) 0=true):∀ y∈enc t g x,y.lu=true/\y.OZ=true:=by
 intro y C;refine⟨US t g x y C,?_⟩;have:=zZ t g x y C;cases y with
 | sl I E O U=>
  have:E=g:=by simpa [V.gr]using this
  subst this;exact D
 |_=>rfl
def apC(σ:S):PK->A->ah Mu->Prop
 |.v _ _,_,none=>True
 |.p _ _ off,x,some (.aB r cs C)=>x = .aE r off/\AF σ (.aB r cs C)
 |.s _ _,x,some (.sl q y)=>x = .lf (.own [q])/\AF σ (.sl q y)
 |_,_,_=>False
def wI{p:PK}{x:A}{z:ah Mu}(h:wF σ p x=some z):apC σ p x z:=by
 cases p with
 | v b t=>
  injection h with h;subst h;trivial
 | p t g off=>
  cases x with
  | aE r j=>
   have h:(match (bif Nat.beq j off then σ.m r else none)with
    | some (.aB cs)=>(match sN σ.m cs with
     |some E=>bif Nat.blt cs.length 999 then some _ else none
     |none=>none)
    |_=>none)=some z:=h
   cases C:Nat.beq j off with
   |false=>rw[C]at h;cases h
   | true=>
    obtain rfl:=cL C;rw[C,aq]at h;split at h
    ·rename_i cs I;split at h
     ·rename_i E O;cases hl:Nat.blt cs.length 999 with
      |false=>rw[hl]at h;cases h
      | true=>
       rw[hl]at h;injection h with h;subst h;exact⟨rfl,I,O,by have:=dj hl;omega⟩
     ·cases h
    ·cases h
  |_=>cases h
 | s t g=>
  have U:(∃ q,x = .lf (.own [q])):=by
   unfold wF at h;split at h
   next e=>cases e
   next e=>cases e
   ·simp[*]
   ·cases h
  obtain⟨q,rfl⟩:=U;have h:(match σ.m q with
   |some (.sl y)=>bif y.aI then none else some _
   |_=>none)=some z:=h
  split at h
  ·rename_i y Y;cases D:y.aI with
   |true=>rw[D]at h;cases h
   | false=>
    rw[D]at h;injection h with h;subst h;exact⟨rfl,Y,D⟩
  ·cases h
def O1:∀ (ps:aa PK) (xs:aa Operand) (D:aa Mu),kz σ ps xs=some D -> ∀ O∈D,AF σ O
 |[],[],D,h=>by injection h with h;subst h;simp
 | p :: ps,x :: xs,D,h=>by
  unfold kz at h;split at h
  ·rename_i O E C I;injection h with h;subst h;have U:=O1 ps xs E I;have C:=wI C;intro z hz;rcases gZ.1 hz with rfl | hz
   ·cases p with
    |v=>exact C.elim
    | p=>
     cases z with
     |aB=>exact C.2
     |sl=>exact C.elim
    | s=>
     cases z with
     |aB=>exact C.elim
     |sl=>exact C.2
   ·simp_all
  next E C I=>injection h with h;subst h;exact O1 ps xs E I
  ·cases h
 |[],_::_,D,h=>by cases h
 |_::_,[],D,h=>by cases h
def Jb:∀ {ps:aa PK} (i C:Nat) (x:mH ps),(lD ps i x).length=(lD ps C x).length
 |[],_,_,_=>rfl
 |.v _ _::ps,i,C,x=>by simp[lD,mU];rw[Jb]
 |.p _ _ _::ps,i,C,x=>by simp only[lD,mU];rw[Jb (i+1) (C+1)]
 |.s _ _::ps,i,C,x=>by simp only[lD,mU];rw[Jb (i+1) (C+1)]
def O2:∀ (ps:aa PK) (xs:aa Operand) (O:aa Mu) (k:mH ps -> ah X),kz σ ps xs=some O -> kA σ ns ps xs O k=some r -> ∃ x,k x=some r/\Ja O (oI ps x)/\(lD ps 0 x).length=xs.length /\
  ∀aj ρ a w aD ρ',Rl w0 N aj ρ σ a w -> CI ns aj aD -> ∀(U:aa In) (i:Nat),(∀j z,(oI ps x)[j]?=some z -> U[i+j]?=some z) -> (∀j Y,O[j]?=some Y -> ρ' (nF (i+j))=ρ Y.root) -> Fo w w.heap.size aD ρ' U (lD ps i x) (xs.map a.eval)
 | [],[],O,k,C,h=>by
  injection C with C;subst C;exact⟨(),h,trivial,rfl,λ_ _ _ _ _ _ _ _ _ _ _ _=>trivial⟩
 | .v b t :: ps,x :: xs,O,k,C,h=>by
  have ru:kz σ ps xs=some O:=by
   unfold kz at C;split at C
   next Y nc D I=>exact(wI D).elim
   next nc D I=>rw[I];exact C
   ·cases C
  unfold kA at h;obtain⟨p,I,hp⟩:=apz (w0:=w0) (N:=N) h;cases hb:p.1==b with
  |false=>rw[hb]at I;cases I
  | true=>
   rw[hb,aq]at I;have hb:p.1=b:=by simpa using hb
   subst hb;split at I
   ·rename_i y hy;obtain⟨ys,h3,h4,h5,h6⟩:=O2 ps xs O _ ru I
    refine⟨(y,ys),h3,h4,?_,λaj ρ a w aD ρ' hR hS U i hi cu=>⟨?_,h6 aj ρ a w aD ρ' hR hS U i hi cu⟩⟩
    ·simp[lD,h5]
    ·have wH:=hp aj ρ a w aD hR hS _ (hR.aL x);have hk:=mY t 0 p.2 y hy;generalize a.eval x=ux at wH ⊢;rcases wH with ⟨_,_,us,hu,hs,hr⟩ | ⟨g,c,cs,pv,wH⟩
     case f=>
      have he:∀(j:Nat) z,(enc t 0 y)[j]?=some z -> z.aI=true:=λj z E=>sy t 0 y (by omega) j z E
      obtain⟨c',fM,e,hw⟩:=apy hk.1 hk.2;rw[e]at he ⊢;exact⟨pv,rfl,wH.wG hw λj z E=>he (j+2) z (by simpa using E)⟩
     have ku:∀ (j:Nat) z,(enc t 0 y)[j]?=some z -> ∃ v,us[j]?=some v/\z.aI=true/\RV w w.heap.size aD [] z v:=by
      intro j z E;have hj:j<p.2.length:=by rw[hk.1];exact(eO.1 E).1
      obtain⟨v,hv,gz⟩:=hr j _ (bT hj);exact⟨v,hv,sy t 0 y (by omega) j z E,gz.wk (hk.2 j _ z (bT hj) E)⟩
     have hlen:us.size=(enc t 0 y).length:=hs.trans hk.1;obtain⟨b,vs⟩:=p;cases b with
     | true=>
      show RA _ _ _ _ (.agg ((enc t 0 y).map .v)) _
      refine⟨us,hu,by rw[fN];exact hlen,λj z E=>?_⟩
      rw[fh]at E;cases E5:(enc t 0 y)[j]? with
      |none=>rw[E5]at E;cases E
      | some z'=>
       rw[E5]at E;injection E with E;subst E;obtain⟨v,hv,g1,g2⟩:=ku j z' E5;exact⟨v,hv,g1,g2⟩
     | false=>
      have hu:us = #[ux]:=hu;subst hu;show RA _ _ _ _ (VP U (.pt (false,enc t 0 y))) _
      match he:enc t 0 y,ku,hlen with
      | [z],ku,_=>
       obtain⟨v,hv,g1,g2⟩:=ku 0 z rfl;have:ux=v:=by simpa using hv
       rw[this];exact⟨g1,g2⟩
      |[],_,_=>trivial
      |_::_::_,_,hlen=>exact absurd hlen (by simp)
   ·cases I
 | .p t g off :: ps,x :: xs,O,k,C,h=>by
  unfold kz at C;split at C
  ·rename_i Y nc D I;injection C with C;subst C;have D:=wI D;cases Y with
   |sl=>exact D.elim
   | aB r cs vs=>
    have D:aL σ x = .aE r off/\AF σ (.aB r cs vs):=D;unfold kA at h;split at h
    ·rename_i y hy;cases hg:Nat.beq (g % 2) 0 with
     |false=>rw[hg]at hy;cases hy
     | true=>
      rw[hg,aq]at hy;obtain⟨ys,h3,h4,h5,h6⟩:=O2 ps xs nc _ I h
      refine⟨(y,ys),h3,⟨⟨mY t g _ y hy,apB hg⟩,h4⟩,by simp[lD,Jb 1 0,h5],λaj ρ a w aD ρ' hR hS U i hi cu=>⟨?_,?_⟩⟩
      ·have yG:=hi 0 _ rfl;rw[Nat.add_zero]at yG;have hx:=hR.aL x;rw[D.1]at hx;obtain⟨b,o,e1,e2⟩:=hx;show RA _ _ _ _ (match U[i]? with|some (.aB _)=>.aE (nF i) off|some (.sl _)=>.lf (.own [nF i])|none=>.undef) _;rw[yG];have jA:=cu 0 _ rfl;rw[Nat.add_zero]at jA;exact⟨b,o,jA.trans e1,e2⟩
      ·refine h6 aj ρ a w aD ρ' hR hS U (i+1) (λj z E=>?_) (λj Y l6=>?_)
       ·rw[show i+1+j=i+(j+1) by omega];exact hi _ z E
       ·rw[show i+1+j=i+(j+1) by omega];exact cu _ Y l6
    ·cases h
  next nc D I=>exact(wI D).elim
  ·cases C
 | .s t g :: ps,x :: xs,O,k,C,h=>by
  unfold kz at C;split at C
  ·rename_i Y nc D I;injection C with C;subst C;have D:=wI D;cases Y with
   |aB=>exact D.elim
   | sl q y0=>
    have D:aL σ x = .lf (.own [q])/\AF σ (.sl q y0):=D;unfold kA at h;split at h
    ·rename_i y hy;cases hg:Nat.beq (g % 2) 0 with
     |false=>rw[hg]at hy;cases hy
     | true=>
      rw[hg,aq]at hy;obtain⟨ys,h3,h4,h5,h6⟩:=O2 ps xs nc _ I h
      refine⟨(y,ys),h3,⟨⟨V.Io hy,?_⟩,h4⟩,by simp[lD,Jb 1 0,h5],λaj ρ a w aD ρ' hR hS U i hi cu=>⟨?_,?_⟩⟩
      ·show Nat.beq ((g+2) % 2) 0=true;simp[*]
      ·have yG:=hi 0 _ rfl;rw[Nat.add_zero]at yG;have hx:=hR.aL x;rw[D.1]at hx;show RA _ _ _ _ (match U[i]? with|some (.aB _)=>.aE (nF i) 0|some (.sl _)=>.lf (.own [nF i])|none=>.undef) _;rw[yG];have jA:=cu 0 _ rfl;rw[Nat.add_zero]at jA;refine⟨hx.1,?_⟩;have I:=hx.2;simp only[dn]at I ⊢;rw[jA];exact I
      ·refine h6 aj ρ a w aD ρ' hR hS U (i+1) (λj z E=>?_) (λj Y l6=>?_)
       ·rw[show i+1+j=i+(j+1) by omega];exact hi _ z E
       ·rw[show i+1+j=i+(j+1) by omega];exact cu _ Y l6
    ·cases h
  next nc D I=>exact(wI D).elim
  ·cases C
 |[],_::_,O,k,C,h=>by cases C
 |_::_,[],O,k,C,h=>by cases C
end
def nV(c0:Nat):Nat->aa (V×ah Nat)->aa Nat
 |_,[]=>[]
 |n,(_,some q)::C=>q::nV c0 (n+1) C
 |n,(_,none)::C=>(c0+n)::nV c0 (n+1) C
def AG(c0:Nat):Nat->aa Mu->aa Nat
 |_,[]=>[]
 |pos,.aB r _ D::C=>r::(nV c0 (pos+1) D++AG c0 (pos+1+D.length) C)
 |pos,.sl q _::C=>q::AG c0 (pos+1) C
def wJ:aa Nat->aa V->aa Nat
 |n::C,x::xs=>bif x.aI then wJ C xs else n::wJ C xs
 |_,_=>[]
def oJ(c0:Nat):Nat->aa Mu->aa In->aa Nat
 |pos,.aB _ _ D::C,.aB xs::outs=>wJ (nV c0 (pos+1) D) xs++oJ c0 (pos+1+D.length) C outs
 |pos,.sl _ _::C,.sl _::outs=>oJ c0 (pos+1) C outs
 |_,_,_=>[]
def qH(ns cn:aa Nat):aa Nat->aa Lf->aa V->aa Lf
 |n::C,l::D,x::xs=>(bif x.plain then .v x else bif x.aI then l.dR ns cn else .own [n])::qH ns cn C D xs
 |_,_,_=>[]
def uZ:aa Nat->aa V->aa (Nat×aX)
 |n::C,x::xs=>bif x.aI then uZ C xs else (n,.sl x)::uZ C xs
 |_,_=>[]
def mI(ns cn:aa Nat)(c0:Nat):Nat->aa Mu->aa In->aa (Nat×aX)
 |pos,.aB r cs D::C,.aB xs::outs=>(r,.aB (qH ns cn (nV c0 (pos+1) D) cs xs))::(uZ (nV c0 (pos+1) D) xs++mI ns cn c0 (pos+1+D.length) C outs)
 |pos,.sl q _::C,.sl y::outs=>bif y.lu then (q,.sl y)::mI ns cn c0 (pos+1) C outs else mI ns cn c0 (pos+1) C outs
 |_,_,_=>[]
def O3:aa Nat->Bool
 |[]=>true
 |n::l=>!dB n l&&O3 l
def acu:In->Bool
 |.aB xs=>xs.all λx=>x.aI ||x.loc
 |.sl y=>y.loc
def jS:ah Tmp->Nat
 |some d=>1000000000100000+1000*d
 |none=>90000
def rE{X:Type}(N:Nat)(σ:S)(C:ah Tmp)(D:gM)(k:S->ah X):ah X:=
 match C with
 |none=>k σ
 |some d=>bif Nat.blt d N then oH σ d D k else none
def Fp(N:Nat)(C:aa Mu)(outs:aa In)(cn:aa Nat):Bool:=
 O3 cn&&(C.all λD=>!dB D.root cn)&&(cn.all λn=>Nat.blt n N ||Nat.ble 60000 n)&&outs.all acu
def Fq{X:Type}(N:Nat)(σ:S)(C:ah Tmp)(D:aa Mu)(ns cn:aa Nat)(E:gM)(outs:aa In)(k:S->ah X):ah X:=
 bif Fp N D outs cn then rE N (σ.dR ns cn (mI ns cn (jS C) E.len D outs)) C E k else none
def qI{X:Type}(N:Nat)(σ:S)(D:ah Tmp)(c:qG)(args:aa Operand)(k:S->ah X):ah X:=
 match kz σ c.ps args with
 | some C=>bif once (m9 0 C)&&Nat.ble C.length 40 then
   kA σ ((m9 0 C).map (·.1)) c.ps args C λx=>(match c.F x with
    |some y=>Fq N σ D C ((m9 0 C).map (·.1)) (oJ (jS D) (fL c.ro y.1).len C (jR (fk c.ps) y.2)) (fL c.ro y.1) (jR (fk c.ps) y.2) k
    |none=>none)else none
 |none=>none
section
variable {P:Program} {w w':World} {w0:Wd} {B N:Nat} {aj fe aD:bJ} {ρ gi ρ':Nat->Loc} {σ:S} {a:Act} {X:Type} {d:Nat} {r:X} {ns cn:aa Nat} {o:Oper} {rs:aa Nat} {eX:aa (Nat×Nat)}
def acv{n:Nat}:∀ {l:aa (Nat×Nat)},dB n (l.map (·.1))=false -> l.lookup n=none
 |[],_=>rfl
 | p :: l,h=>by
  simp[List.map_cons,dB,o5]at h;rw[List.lookup_cons];have:(n==p.1)=false:=by
   cases hb:n==p.1 with
   |false=>rfl
   |true =>simp_all
  rw[this];exact acv h.2
def apD{b:Nat}{k:aa Nat}{n m:Nat}(h:aj b=some k)(C:k.getLast?=some n)(D:eX.lookup n=some m):fj aj eX id b=some (k.dropLast++[m]):=by
 simp[fj,h,C,D]
def apE(C:∀ b k,aj b=some k -> k≠[]):CI (eX.map (·.1)) aj (fj aj eX id):=by
 refine⟨λb h=>Az h,λb k h=>⟨C b k h,λhl=>?_⟩⟩
 simp[fj,h];cases D:k.getLast? with
 |none=>rfl
 | some n=>
  simp[iq,D]at hl;simp[acv hl]
def V4{m:Nat -> ah aX}:∀ (cs:aa Lf) (C:aa (V×ah Nat)),sN m cs=some C -> C.length=cs.length /\ ∀ (j:Nat) l,cs[j]?=some l -> ∃ v,C[j]?=some v/\wE m l=some v
 |[],C,h=>by injection h with h;subst h;exact⟨rfl,λj l hl=>by simp at hl⟩
 | c :: cs,C,h=>by
  unfold sN at h;split at h
  ·rename_i v D I E;injection h with h;subst h;obtain⟨O,U⟩:=V4 cs D E
   grind
  ·cases h
def apF{l:Lf}{v:V}{E:ah Nat}(h:wE σ.m l=some (v,E))(hR:Rl w0 N aj ρ σ a w)(D:CI ns aj aD){u:Value}(I:eS w w0.heap.size aj ρ l u):
  (E=none /\ ∀B' O,RV w B' aD O v u) \/ (∃q,E=some q/\v.aI=false/\RV w w0.heap.size aj [q] v u):=by
 unfold wE at h;split at h
 ·simp at h;obtain⟨rfl,rfl⟩:=h;exact .inl ⟨rfl,λB' O=>I.2.out D.none D.rest (.inl I.1)⟩
 ·rename_i q;split at h
  ·rename_i y hy;have U:=hR.root q _ hy;generalize C:aX.sl y=x at U;cases U with
   |aB=>cases C
   |mp=>cases C
   |gh=>cases C
   | sl v' y' cu hr=>
    injection C with C;subst C;have VM:v'=u:=by
     have h2:=I.2;simp only[dn,cu]at h2;simp_all
    subst VM;cases Y:y.aI with
    | true=>
     rw[Y,aq]at h;obtain⟨rfl,rfl⟩:=h;exact .inl ⟨rfl,λB' O=>hr.out D.none D.rest (.inl Y)⟩
    |false =>grind
  ·cases h
 ·cases h
def acw{i:Nat}{v:V}{q:Nat}:∀ (D:aa (V×ah Nat)) (C j:Nat),D[j]?=some (v,some q) -> (q,60000+1000*i+(C+j))∈Fm i C D
 |[],C,j,h=>by simp at h
 | (I,E) :: D,C,j,h=>by
  cases j with
  | zero=>
   obtain⟨rfl,rfl⟩:=h;exact .head _
  | succ j=>
   have:=acw (i:=i) D (C+1) j (by simpa using h);rw[show C+1+j=C+(j+1) by omega]at this;cases E with
   |none=>exact this
   |some O=>exact .tail _ this
def V5{i:Nat}:∀ (cs:aa V) (C:Nat),(AB i C cs).length=cs.length
 |[],_=>rfl
 |c::cs,C=>by simp[AB,V5 cs]
def RV.pF{q:aa Nat}{x:V}{u:Value}(h:RV w B aj q x u)(C:x.plain=false)(D:x.lu=true):pF u=true:=by
 cases h<;>first|rfl|cases C|cases D
def Wk.V6{x y:V}(h:Wk x y)(C:x.aI=false):y.aI=false:=by
 cases h with
 |same=>exact C
 |nil=>cases C
 |q=>exact C
 |gr t o D E l I O=>simp[V.aI];omega
def V7(hR:Rl w0 N aj ρ σ a w)(hS:CI ns aj (fj aj eX id)):∀ (I:aa Mu) (U:aa In) (i:Nat),(∀ p∈m9 i I,eX.lookup p.1=some p.2) -> (∀ j E,I[j]?=some E -> rs[i+j]?=some E.root) -> (∀ E∈I,AF σ E) -> Ja I U -> i+I.length <= 40 ->
  qF w w.heap.size (fj aj eX id) (yF w ρ rs) i U
 |[],[],_,_,_,_,_,_=>trivial
 |[],_::_,_,_,_,_,h,_=>h.elim
 |.aB _ _ _::_,[],_,_,_,_,h,_=>h.elim
 |.sl _ _::_,[],_,_,_,_,h,_=>h.elim
 |.aB _ _ _::_,.sl _::_,_,_,_,_,h,_=>h.elim
 |.sl _ _::_,.aB _::_,_,_,_,_,h,_=>h.elim
 | .aB r cs vs :: I,.aB xs :: U,i,Y,iX,l6,hrel,hi=>by
  obtain⟨hm,hg,hlen⟩:=l6 _ (.head _);obtain⟨⟨hw,hx⟩,CJ⟩:=hrel;obtain⟨g1,g2⟩:=V4 cs vs hg;have jj:=iX 0 _ rfl;rw[Nat.add_zero]at jj;simp only[mU]at hi;have oE:xs.length=cs.length:=by rw[<- hw.1,fN,g1]
  have fG:=hR.root r _ hm;generalize C:aX.aB cs=z at fG;cases fG with
  |sl=>cases C
  |mp=>cases C
  |gh=>cases C
  | aB b off cells e fM us cu hl hh hs hc=>
   injection C with C;subst C;have ku:∀ (j:Nat) x,xs[j]?=some x -> cells[off+j]?=some (us j)/\RV w w.heap.size (fj aj eX id) [nC i j x] x (us j)/\(x.plain=false -> yF w ρ rs (nC i j x) = .eU (us j)):=by
    intro j x O;have yh:j<cs.length:=by rw[<- oE];exact(eO.1 O).1
    obtain⟨v,hv,Jc⟩:=g2 j _ (bT yh);obtain⟨c1,c2⟩:=hc j _ (bT yh);obtain⟨v,qo⟩:=v;have V8:Wk v x:=hw.2 j v x (by rw[fh,hv];rfl) O;obtain⟨AH,OA⟩:=hx x (iB O)
    refine⟨c1,?_,λD=>?_⟩
    ·rcases apF Jc hR hS c2 with ⟨rfl,h1⟩ | ⟨q,rfl,hf,h1⟩
     ·exact(h1 _ _).wk V8
     ·have VW:=V8.V6 hf;have hq:=Y _ (.tail _ (List.mem_append_left _ (acw vs 0 j hv)));rw[fB]at hq;have h2:=(RV.fj (nm:=id) (p:=[]) h1 hq).wk V8;have e1:nC i j x=60000+1000*i+j:=by simp[nC,VW]
      rw[e1];exact h2.reB OA
    ·exact apw jj (by omega) (by omega) cu (by rw[cell_of_row w b _ cells _ _ hh];exact c1)
   refine⟨.aB b off cells e _ us ((I9 jj (by omega)).trans cu) ?_ hh (by rw[V5,oE];exact hs) (λj z C=>?_),λj x O D=>?_,V7 hR hS I U (i+1) (λp D=>Y p (.tail _ (List.mem_append_right _ D))) (λj E CK=>?_) (λE h=>l6 E (.tail _ h)) CJ (by omega)⟩
   ·exact apD hl rfl (Y _ (.head _))
   ·have O:j<xs.length:=by rw[<- V5 (i:=i) xs 0];exact(eO.1 C).1
    have Fs:=VZ (i:=i) xs 0 j _ (bT O);rw[C]at Fs;injection Fs with Fs;subst Fs;rw[fB];obtain⟨c1,c2,c3⟩:=ku j _ (bT O);refine⟨c1,?_⟩;cases D:(xs[j]).plain with
    | true=>
     have e1:AA i j xs[j] = .v xs[j]:=by simp[AA,D]
     rw[e1];exact⟨V.Iz D,c2.uI D⟩
    | false=>
     have e1:AA i j xs[j] = .own [nC i j xs[j]]:=by simp[AA,D]
     rw[e1];exact⟨c2.pF D (hx _ (cQ _)).1,by simp only[dn,c3 D]⟩
   ·obtain⟨c1,c2,c3⟩:=ku j x O;exact .sl _ x (c3 D) c2
   ·have:=iX (j+1) E (by simpa using CK);rw[show i+(j+1)=i+1+j by omega]at this;exact this
 | .sl q y :: I,.sl y' :: U,i,Y,iX,l6,hrel,hi=>by
  obtain⟨hm,hf⟩:=l6 _ (.head _);obtain⟨⟨hw,hx⟩,CJ⟩:=hrel;have jj:=iX 0 _ rfl;rw[Nat.add_zero]at jj;simp only[mU]at hi;have fG:=hR.root q _ hm;generalize C:aX.sl y=z at fG;cases fG with
  |aB=>cases C
  |mp=>cases C
  |gh=>cases C
  | sl v y0 cu hr=>
   injection C with C;subst C
   refine⟨.sl v y' ((I9 jj (by omega)).trans cu) ?_,V7 hR hS I U (i+1) (λp D=>Y p (.tail _ D)) (λj E CK=>?_) (λE h=>l6 E (.tail _ h)) CJ (by omega)⟩
   ·exact((RV.fj (p:=[]) hr (Y _ (.head _))).wk hw).reB hx
   ·have:=iX (j+1) E (by simpa using CK);rw[show i+(j+1)=i+1+j by omega]at this;exact this
end
def V9:Loc->Nat×Nat
 |.aB b off=>(b,off)
 |.eU _=>(0,0)
 |.cE _=>(0,0)
def AI(w:World)(b off:Nat):Nat->aa Nat->aa V->aa (Nat×Value)
 |j,n::C,x::xs=>bif x.aI then AI w b off (j+1) C xs else (n,(w.cell? ⟨b,off+j,none⟩).getD undef)::AI w b off (j+1) C xs
 |_,_,_=>[]
def tP(w:World)(ρ:Nat->Loc)(c0:Nat):Nat->aa Mu->aa In->aa (Nat×Value)
 |pos,.aB r _ D::C,.aB xs::outs=>AI w (V9 (ρ r)).1 (V9 (ρ r)).2 0 (nV c0 (pos+1) D) xs++tP w ρ c0 (pos+1+D.length) C outs
 |pos,.sl _ _::C,.sl _::outs=>tP w ρ c0 (pos+1) C outs
 |_,_,_=>[]
def acy(l:aa (Nat×Value))(ρ:Nat->Loc):Nat->Loc:=λn=>match l.lookup n with
 |some v=>.eU v
 |none=>ρ n
def Wa{w:World}{b off:Nat}:∀ (C:aa Nat) (xs:aa V) (j:Nat),(AI w b off j C xs).map (·.1)=wJ C xs
 |[],[],_=>rfl
 |[],_::_,_=>rfl
 |_::_,[],_=>rfl
 | n :: C,x :: xs,j=>by
  simp[AI,wJ];cases x.aI with
  |true=>exact Wa C xs _
  |false=>simp;rw[Wa]
def O4{w:World}{ρ:Nat -> Loc}{c0:Nat}:∀ (C:aa Mu) (outs:aa In) (D:Nat),(tP w ρ c0 D C outs).map (·.1)=oJ c0 D C outs
 | .aB r _ E :: C,.aB xs :: outs,D=>by
  simp[tP,oJ,List.map_append];rw[Wa,O4]
 | .sl _ _ :: C,.sl _ :: outs,D=>by
  simp only[tP,oJ];exact O4 C outs _
 |[],_,_=>by simp[tP,oJ]
 |.aB _ _ _::_,[],_=>rfl
 |.sl _ _::_,[],_=>rfl
 |.aB _ _ _::_,.sl _::_,_=>rfl
 |.sl _ _::_,.aB _::_,_=>rfl
def acz{n:Nat}:∀ {l:aa (Nat×Value)},dB n (l.map (·.1))=false -> l.lookup n=none
 |[],_=>rfl
 | p :: l,h=>by
  simp[List.map_cons,dB,o5]at h;rw[List.lookup_cons];cases hb:n==p.1 with
  |false=>exact acz h.2
  |true =>simp_all
def acA:∀ {l:aa (Nat×Value)},O3 (l.map (·.1))=true -> ∀ p∈l,l.lookup p.1=some p.2
 |[],_,p,hp=>by cases hp
 | q :: l,h,p,hp=>by
  simp[List.map_cons,O3,aP,ij]at h;rw[List.lookup_cons];rcases gZ.1 hp with rfl|hp
  ·simp
  ·cases hb:p.1==q.1 with
   |false=>exact acA h.2 p hp
   | true=>
    have e:p.1=q.1:=by simpa using hb
    exact absurd (List.mem_map_of_mem (f:=(·.1)) hp) (by rw[e];exact apv h.1)
def Jd{c0:Nat}:∀ (C:aa (V×ah Nat)) (n:Nat),(nV c0 n C).length=C.length
 |[],_=>rfl
 |(_,some _)::C,n=>by simp[nV,Jd]
 |(_,none)::C,n=>by simp[nV,Jd C]
def acB{ns cn:aa Nat}:∀ (D:aa Nat) (C:aa Lf) (xs:aa V),D.length=C.length -> xs.length=C.length -> (qH ns cn D C xs).length=C.length /\
  ∀(j:Nat) z,(qH ns cn D C xs)[j]?=some z -> ∃n l x,D[j]?=some n/\C[j]?=some l/\xs[j]?=some x/\z=(bif x.plain then .v x else bif x.aI then l.dR ns cn else .own [n])
 |[],[],[],_,_=>⟨rfl,λj z E=>by simp[qH]at E⟩
 | n :: D,l :: C,x :: xs,I,O=>by
  obtain⟨U,Y⟩:=acB (ns:=ns) (cn:=cn) D C xs (by simpa using I) (by simpa using O)
  refine⟨by simp[qH,U],λj z E=>?_⟩
  cases j with
  |zero=>simp[qH,List.getElem?_cons_zero,kI]at E;exact⟨n,l,x,rfl,rfl,rfl,E.symm⟩
  |succ j=>exact Y j z (by simpa [qH]using E)
def acC:∀ (C:aa Nat) (xs:aa V),∀ p∈uZ C xs,∃ (j:Nat) (x:V),C[j]?=some p.1/\xs[j]?=some x/\x.aI=false/\p.2 = .sl x
 |[],[],p,hp=>by cases hp
 |[],_::_,p,hp=>by cases hp
 | n :: C,x :: xs,p,hp=>by
  simp[uZ]at hp;have rest:p∈uZ C xs -> ∃ (j:Nat) (y:V),(n :: C)[j]?=some p.1/\(x :: xs)[j]?=some y/\y.aI=false/\p.2 = .sl y:=λhp=>by
   obtain⟨j,y,E,I,O,U⟩:=acC C xs p hp;exact⟨j+1,y,by simpa using E,by simpa using I,O,U⟩
  cases D:x.aI with
  |true=>grind
  | false=>
   rw[D]at hp;rcases gZ.1 hp with rfl|hp
   ·exact⟨0,x,rfl,rfl,D,rfl⟩
   ·grind
def acD{w:World}{b off n:Nat}{x:V}:∀ (D:aa Nat) (xs:aa V) (C j:Nat),D[j]?=some n -> xs[j]?=some x -> x.aI=false -> (n,(w.cell? ⟨b,off+(C+j),none⟩).getD undef)∈AI w b off C D xs
 |[],_,_,j,h,_,_=>by simp at h
 | m :: D,y :: xs,C,j,E,I,O=>by
  cases j with
  | zero=>
   simp at E I;subst E I;simp only[AI,O];simp_all
  | succ j=>
   have:=acD (w:=w) (b:=b) (off:=off) D xs (C+1) j (by simpa using E) (by simpa using I) O;rw[show C+1+j=C+(j+1) by omega]at this;simp[AI]
   grind
section
variable {P:Program} {w w':World} {w0:Wd} {B N:Nat} {aj fe aD:bJ} {ρ gi ρ':Nat->Loc} {σ:S} {a:Act} {X:Type} {d:Nat} {r:X} {ns cn:aa Nat} {o:Oper} {rs:aa Nat} {eX:aa (Nat×Nat)} {nm O5:Nat->Nat} {c0:Nat}
def kN.Ay{nm:Nat -> Nat}:∀ (ps:aa Pt) (off:Nat) (C:aa Value) {B':Nat},kN w B aj nm off ps C -> B' <= B -> (∀ b,B <= b -> aD b=aj b) -> (∀ b k,aj b=some k -> aD b=some k) -> (∀ n,off <= n -> n<off+(ps.map λp=>p.2.length).sum -> nm n=O5 n) -> kN w B' aD O5 off ps C
 |[],_,[],_,h,_,_,_,_=>h
 | p :: ps,off,v :: C,B',h,hB,hl,I,D=>by
  obtain⟨⟨O,us,Y,hs,hr⟩,tJ⟩:=h;simp only[List.map_cons,List.sum_cons]at D
  refine⟨⟨O,us,Y,hs,λj x E=>?_⟩,kN.Ay ps _ C tJ hB hl I (λn h1 h2=>D n (by omega) (by omega))⟩
  obtain⟨U,uH,gz⟩:=hr j x E;have hj:j<p.2.length:=(eO.1 E).1;refine⟨U,uH,?_⟩;show RV w B' aD [O5 (off+j)] x U;rw[<- D (off+j) (by omega) (by omega)];exact gz.Ay hB hl I (ck.1 O x (iB E))
def Wb(hR:Rl w0 N aj ρ σ a w)(hv:yE w w' aj fe ρ gi ns cn)(mE:∀ b k,aD b=some k -> fe b=some k)(qt:∀ b,w.heap.size <= b -> fe b=aD b)(hB:w0.heap.size <= w.heap.size):
  ∀(E:aa Mu) (ins outs:aa In) (i C:Nat),(∀j D,E[j]?=some D -> rs[i+j]?=some D.root) -> (∀D∈E,AF σ D) -> Ja E ins -> i+E.length <= 40 -> I4 w w' aD (yF w ρ rs) nm i C ins outs ->
  (∀k n,(AG c0 C E)[k]?=some n -> nm (C+k)=n) -> (∀p∈tP w' ρ c0 C E outs,gi p.1 = .eU p.2) -> (∀D∈E,dB D.root cn=false) -> outs.all acu=true -> ∀p∈mI ns cn c0 C E outs,eV w' w0.heap.size fe gi p.1 p.2
 |[],[],[],_,_,_,_,_,_,_,_,_,_,_,p,hp=>by simp[mI]at hp
 |[],[],_::_,_,_,_,_,_,_,h,_,_,_,_,_,_=>h.elim
 |[],_::_,_,_,_,_,_,h,_,_,_,_,_,_,_,_=>h.elim
 |.aB _ _ _::_,[],_,_,_,_,_,h,_,_,_,_,_,_,_,_=>h.elim
 |.sl _ _::_,[],_,_,_,_,_,h,_,_,_,_,_,_,_,_=>h.elim
 |.aB _ _ _::_,.sl _::_,_,_,_,_,_,h,_,_,_,_,_,_,_,_=>h.elim
 |.sl _ _::_,.aB _::_,_,_,_,_,_,h,_,_,_,_,_,_,_,_=>h.elim
 |.aB _ _ _::_,.aB _::_,[],_,_,_,_,_,_,h,_,_,_,_,_,_=>h.elim
 |.sl _ _::_,.sl _::_,[],_,_,_,_,_,_,h,_,_,_,_,_,_=>h.elim
 |.aB _ _ _::_,.aB _::_,.sl _::_,_,_,_,_,_,_,h,_,_,_,_,_,_=>h.elim
 |.sl _ _::_,.sl _::_,.aB _::_,_,_,_,_,_,_,h,_,_,_,_,_,_=>h.elim
 | .aB r cs I :: E,.aB xs0 :: ins,.aB xs :: outs,i,C,iX,l6,hrel,hi,hO,kO,CL,sH,qE,p,hp=>by
  obtain⟨hm,hg,hlen⟩:=l6 _ (.head _);obtain⟨⟨hw,hx⟩,CJ⟩:=hrel;obtain⟨g1,g2⟩:=V4 cs I hg;have jj:=iX 0 _ rfl;rw[Nat.add_zero]at jj;simp only[mU]at hi;have Wc:xs0.length=cs.length:=by rw[<- hw.1,fN,g1]
  obtain⟨⟨b,off,cells,yD,e,e',h1,h2,h3,h4,h5,h6,h7⟩,We⟩:=hO;have fG:=hR.root r _ hm;generalize hz:aX.aB cs=z at fG;cases fG with
  |sl=>cases hz
  |mp=>cases hz
  |gh=>cases hz
  | aB b0 Y acE e0 fM us cu hl hh hs hc=>
   injection hz with hz;subst hz;rw[I9 jj (by omega)]at h1;have h1:ρ r = .aB b off:=h1;rw[cu]at h1;injection h1 with e1 e2;subst e1 e2;have apG:acE=cells:=by
    rw[hh]at h2;injection h2 with h2;injection h2
   subst apG;have jA:=sH _ (.head _);have Ft:gi r = .aB b0 Y:=(hv.gf r jA).trans cu;have uN:nm C=r:=by have:=kO 0 r rfl;rwa [Nat.add_zero]at this
   have apH:∀ (j:Nat) n,(nV c0 (C+1) I)[j]?=some n -> nm (C+1+j)=n:=by
    intro j n hn;have hj:j<(nV c0 (C+1) I).length:=(eO.1 hn).1;have:=kO (j+1) n (by simp only[AG,List.getElem?_cons_succ];rw[List.getElem?_append_left hj];exact hn);rw[show C+1+j=C+(j+1) by omega];exact this
   have ku:∀ (j:Nat) x,xs[j]?=some x -> ∃ u,yD[Y+j]?=some u/\w'.cell? ⟨b0,Y+j,none⟩=some u/\((x.plain=true /\ ∀ (w:World) (B:Nat) (aj:bJ) (q:aa Nat),RV w B aj q x u) \/ (x.plain=false/\x.aI=true/\acE[Y+j]?=some u) \/ (x.aI=false/\RV w' w.heap.size aD [nm (C+1+j)] x u)):=by
    intro j x hj;obtain⟨u,hu,hd⟩:=h7 j x hj;exact⟨u,hu,by rw[cell_of_row w' b0 _ yD _ _ h3];exact hu,hd⟩
   have Al:∀ (j:Nat) n x u,(nV c0 (C+1) I)[j]?=some n -> xs[j]?=some x -> x.aI=false -> w'.cell? ⟨b0,Y+j,none⟩=some u -> gi n = .eU u:=by
    intro j n x u hn hxj hf hu;have sK:=acD (w:=w') (b:=b0) (off:=Y) _ xs 0 j hn hxj hf;rw[fB,hu]at sK;exact CL (n,u) (by simp only[tP,cu,V9];exact List.mem_append_left _ sK)
   simp only[mI]at hp;rcases gZ.1 hp with rfl|hp
   ·obtain⟨k1,k2⟩:=acB (ns:=ns) (cn:=cn) (nV c0 (C+1) I) cs xs (by rw[Jd,g1]) (by rw[h6,Wc])
    refine .aB b0 Y yD e' _ (λj=>yD.getD (Y+j) undef) Ft (mE _ _ (by rw[h4,uN])) h3 (by show Y+(qH _ _ _ _ _).length <= _;rw[k1,<- Wc,<- h6];exact h5) (λj z hz=>?_)
    obtain⟨n,l,x,n1,n2,n3,rfl⟩:=k2 j z hz;obtain⟨u,hu,Wf,hd⟩:=ku j x n3;have eu:yD.getD (Y+j) undef=u:=by rw[jv,hu];rfl
    rw[eu];refine⟨hu,?_⟩;rcases hd with ⟨O,U⟩|⟨O,U,d3⟩|⟨O,U⟩
    ·rw[O,aq];exact⟨V.Iz O,U _ _ _ _⟩
    ·rw[O,U,av,aq];obtain⟨c1,c2⟩:=hc j l n2;rw[c1]at d3;injection d3 with d3;rw[<- d3];exact c2.AE hv
    ·have qD:x.plain=false:=by
      cases qD:x.plain with
      |false=>rfl
      |true=>rw[V.Iz qD]at O;cases O
     rw[qD,O,av,av];exact⟨U.UT O,by simp only[dn,Al j n x u n1 n3 O Wf]⟩
   ·rcases List.mem_append.1 hp with hp | hp
    ·obtain⟨j,x,n1,n2,n3,n4⟩:=acC _ _ p hp;obtain⟨u,hu,Wf,hd⟩:=ku j x n2;rw[n4];refine .sl u x (Al j p.1 x u n1 n2 n3 Wf) ?_;rcases hd with ⟨O,U⟩ | ⟨O,U,d3⟩ | ⟨O,U⟩
     ·simp[*]
     ·rw[n3]at U;cases U
     ·rw[apH j _ n1]at U;refine U.Ay hB qt mE ?_;rw[List.all_cons,aP]at qE;have:=ck.1 qE.1 x (iB n2)
      rwa [n3,Bool.false_or]at this
    ·rw[List.all_cons,aP]at qE
     refine Wb hR hv mE qt hB E ins outs (i+1) (C+1+I.length) (λj D CK=>?_) (λD h=>l6 D (.tail _ h)) CJ (by omega) ?_ (λk n hn=>?_) (λp hp=>CL p ?_) (λD h=>sH D (.tail _ h)) qE.2 p hp
     ·have:=iX (j+1) D (by simpa using CK);rw[show i+(j+1)=i+1+j by omega]at this;exact this
     ·rw[g1,<- Wc];exact We
     ·have:=kO (1+I.length+k) n (by
       rw[show 1+I.length+k=(I.length+k)+1 by omega];simp only[AG,List.getElem?_cons_succ];rw[List.getElem?_append_right (by rw[Jd];omega),Jd];rw[show I.length+k-I.length=k by omega];exact hn)
      rw[show C+1+I.length+k=C+(1+I.length+k) by omega];exact this
     ·simp only[tP];exact List.mem_append_right _ hp
 | .sl q y0 :: E,.sl y1 :: ins,.sl y :: outs,i,C,iX,l6,hrel,hi,hO,kO,CL,sH,qE,p,hp=>by
  obtain⟨hm,hf⟩:=l6 _ (.head _);obtain⟨_,CJ⟩:=hrel;have jj:=iX 0 _ rfl;rw[Nat.add_zero]at jj;simp only[mU]at hi;obtain⟨hO1,We⟩:=hO;rw[List.all_cons,aP]at qE;have uN:nm C=q:=by have:=kO 0 q rfl;rwa [Nat.add_zero]at this
  have hp:(p=(q,.sl y)/\y.lu=true) \/ p∈mI ns cn c0 (C+1) E outs:=by
   simp only[mI]at hp;cases hy:y.lu with
   |false=>rw[hy]at hp;exact .inr hp
   | true=>
    rw[hy]at hp;rcases gZ.1 hp with h|h
    ·grind
    ·simp[*]
  rcases hp with ⟨rfl,hy⟩|hp
  ·obtain⟨v,h1,h2⟩:=hO1.resolve_left (by rintro rfl;cases hy);rw[I9 jj (by omega)]at h1;rw[uN]at h2;exact .sl v y ((hv.gf q (sH _ (.head _))).trans h1) (h2.Ay hB qt mE qE.1)
  ·refine Wb hR hv mE qt hB E ins outs (i+1) (C+1) (λj D CK=>?_) (λD h=>l6 D (.tail _ h)) CJ (by omega) We (λk n hn=>?_) (λp hp=>CL p hp) (λD h=>sH D (.tail _ h)) qE.2 p hp
   ·have:=iX (j+1) D (by simpa using CK);rw[show i+(j+1)=i+1+j by omega]at this;exact this
   ·have:=kO (k+1) n (by simpa [AG]using hn);rw[show C+1+k=C+(k+1) by omega];exact this
end
section
variable {P:Program} {w w':World} {w0:Wd} {B N:Nat} {aj fe aD:bJ} {ρ gi ρ':Nat->Loc} {σ:S} {a:Act} {X:Type} {d:Nat} {r:X} {ns cn:aa Nat} {o:Oper} {rs:aa Nat} {eX:aa (Nat×Nat)} {nm O5:Nat->Nat} {c0:Nat}
def apI{C:ah Tmp}{D:gM}{k:S -> ah X}(h:rE N σ C D k=some r):∃ cW,k cW=some r /\ ∀ aj ρ a w v,Rl w0 N aj ρ σ a w -> rC w w0.heap.size aj (λn=>jS C+n) D v -> ∃ ρ',Rl w0 N aj ρ' cW (a.put C v) w /\ ∀ r,r<jS C -> ρ' r=ρ r:=by
 unfold rE at h;cases C with
 |none=>exact⟨σ,h,λaj ρ a w v hR _=>⟨ρ,hR,λ_ _=>rfl⟩⟩
 | some d=>
  have h:(bif Nat.blt d N then (match D with
   | .one p=>(match Ah (p.1,pK (1000000000100000+1000*d) p.2)with
    |some y=>k ((nU _ σ p.2).set d y)
    |none=>none)
   |.fO ps=>k ((pL _ σ ps).set d _))else none)=some r:=h
  cases I:Nat.blt d N with
  |false=>rw[I]at h;cases h
  | true=>
   rw[I,aq]at h;have CE:d<N:=dj I;cases D with
   | one p=>
    simp only at h;split at h
    ·rename_i y hy
     refine⟨_,h,λaj ρ a w v hR O=>?_⟩
     obtain⟨ρ',U,Y,_,jY⟩:=I1 [p] (1000000000100000+1000*d) 0 σ ρ [v] (by omega) hR O;have VI:=jY 0 _ v rfl rfl;exact⟨ρ',U.set (Va hy VI) CE,Y⟩
    ·cases h
   | fO yA=>
    refine⟨_,h,λaj ρ a w v hR O=>?_⟩
    obtain⟨E,rfl,hv⟩:=O;obtain⟨ρ',U,Y,hlen,jY⟩:=I1 yA (1000000000100000+1000*d) 0 σ ρ E.toList (by omega) hR hv
    refine⟨ρ',U.set ⟨E,rfl,by simpa using hlen,λj p hp=>?_⟩ CE,Y⟩
    have hj:j<E.size:=by
     have:=(eO.1 hp).1
     grind
    exact⟨E[j],Array.getElem?_eq_getElem hj,jY j p _ hp (by rw[Array.getElem?_toList,Array.getElem?_eq_getElem hj])⟩
def acF{f:Nat}{args:Array Operand}{iW:Array TypeId}{c:qG}{k:S -> ah X}(ho:o.op = .call { callee:=.value (.func f),args,argTypes:=iW })(he:enters P f)(hc:yC P f c)(h:qI N σ o.dst c args.toList k=some r):∃ cW C cn,k cW=some r/\kz σ c.ps args.toList=some C/\(∀ n,dB n cn=true -> n<N \/ 60000 <= n)/\(∀ I∈C,dB I.root cn=false) /\
  ∀a w K Q aj ρ,Rl w0 N aj ρ σ a w -> (∀v w' fe gi AJ,Rl w0 N fe AJ cW (a.put o.dst v) w' -> yE w w' aj fe ρ gi ((m9 0 C).map (·.1)) cn -> lz w0 w w' -> (∀r,r<jS o.dst -> AJ r=gi r) -> K (a.put o.dst v) w') -> o.wp P a w K Q:=by
 unfold qI at h;split at h
 ·rename_i C yH;generalize acH:m9 0 C=eX at h;cases lE:(once eX&&Nat.ble C.length 40)with
  |false=>rw[lE]at h;cases h
  | true=>
   rw[lE,aq]at h;rw[aP]at lE;have aGe:=dj lE.2;have uW:∀ p∈m9 0 C,eX.lookup p.1=some p.2:=by
    intro p hp;rw[acH]at hp;have:=ck.1 lE.1 p hp;obtain⟨n,O,he⟩:=(Option.any_eq_true _ _).1 this;simp_all
   obtain⟨x,Y,hrel,aGf,sJ⟩:=O2 (w0:=w0) (N:=N) _ _ C _ yH h;clear h;split at Y
   ·rename_i y hy;unfold Fq at Y;generalize sH:oJ (jS o.dst) (fL c.ro y.1).len C (jR (fk c.ps) y.2)=cn at Y;generalize Ac:eX.map (·.1)=ns at Y sJ;cases gk:Fp N C (jR (fk c.ps) y.2) cn with
    |false=>rw[gk]at Y;cases Y
    | true=>
     rw[gk,aq]at Y;simp only[Fp,aP]at gk;obtain⟨⟨⟨ok1,ok2⟩,ok3⟩,ok4⟩:=gk;obtain⟨cW,h3,CM⟩:=apI (w0:=w0) Y
     refine⟨cW,C,cn,h3,yH,λn O=>?_,λI l6=>by simpa using ck.1 ok2 I l6,λa w K Q aj ρ hR hK=>?_⟩
     ·have:=ck.1 ok3 n (uY.1 O);rw[eN]at this;rcases this with h | h
      ·exact .inl (by have:=dj h;omega)
      ·exact .inr (dj h)
     have hS:CI ns aj (fj aj eX id):=by rw[<- Ac];exact apE (λb k hb=>(hR.dI b k hb).2.2)
     have acI:=O1 _ _ _ yH;let rs:=C.map Mu.root
     have iX:∀ j I,C[j]?=some I -> rs[0+j]?=some I.root:=by
      intro j I hj;rw[fB,fh,hj];rfl
     have hE:=V7 (rs:=rs) hR hS C (oI c.ps x) 0 uW iX acI hrel (by omega);have hA:=sJ aj ρ a w (fj aj eX id) (yF w ρ rs) hR hS (oI c.ps x) 0 (λj z U=>by rw[fB];exact U) (λj I hj=>by
      have h1:=iX j I hj;rw[fB]at h1 ⊢;exact I9 h1 (by have:=(eO.1 hj).1;omega))
     obtain⟨hA1,Fe⟩:=Fo.get _ _ hA;let nm:Nat -> Nat:=λn=>if n<(fL c.ro y.1).len then jS o.dst+n else (AG (jS o.dst) (fL c.ro y.1).len C).getD (n-(fL c.ro y.1).len) 0
     have jY:∀ (ps:aa PK) (i:Nat) (x:mH ps),(lD ps i x).length=ps.length:=by
      intro ps
      induction ps with
      |nil=>intro i x;rfl
      | cons p ps ih=>
       intro i x;cases p with
       |v=>exact bC (· + 1) (ih _ _)
       |p=>exact bC (· + 1) (ih _ _)
       |s=>exact bC (· + 1) (ih _ _)
     unfold Oper.wp;rw[VE w o a f args iW ho he,Oper.upon_enter];have CF:(args.map a.eval)=(args.toList.map a.eval).toArray:=by apply Array.ext';rw[Array.toList_map]
     rw[CF];have O6:∀ b k,fj aj eX id b=some k -> (∃ E,aj b=some E/\iq E ns=true)/\k≠[]:=by
      intro b k hb;cases hl:aj b with
      |none=>rw[hS.none b hl]at hb;cases hb
      | some E=>
       refine⟨⟨E,rfl,?_⟩,?_⟩
       ·cases hq:iq E ns with
        |true=>rfl
        |false=>rw[(hS.rest b E hl).2 hq]at hb;cases hb
       ·simp only[fj,hl]at hb;split at hb
        ·cases hb
        ·cases acJ:eX.lookup _ with
         |none=>rw[acJ]at hb;cases hb
         |some n=>rw[acJ]at hb;injection hb with hb;subst hb;simp
     have hQ:Hd w (fj aj eX id):=w0.on hR.below (λb k hb=>by obtain⟨⟨E,hl,_⟩,_⟩:=O6 b k hb;exact(hR.dI b E hl).1)
     refine(hc x y hy nm w (fj aj eX id) (yF w ρ rs) _ hE (λb k hb=>⟨?_,(O6 b k hb).2⟩) ?_ Fe hQ).mono λe w' uU=>?_
     ·obtain⟨⟨E,hl,_⟩,_⟩:=O6 b k hb;exact(hR.dI b E hl).2.1
     ·rw[List.size_toArray,hA1,jY]
     ·obtain⟨v,D,rfl,mD,acK,mG,Wg⟩:=uU;have hB:=hR.below.size;let fe:bJ:=λb=>match fj aj eX id b with
       |none=>if b<w.heap.size then aj b else D b
       |some _=>D b
      have e1:∀ b k,D b=some k -> fe b=some k:=by
       intro b k hb;show (match fj aj eX id b with|none=>if b<w.heap.size then aj b else D b|some _=>D b)=some k;split
       next jA=>have:=(acK b k hb).1;have qt:=this.resolve_right (λh=>h jA);rw[bk];exact hb
       ·exact hb
      have e2:∀ b,w.heap.size <= b -> fe b=D b:=by
       intro b hb;show (match fj aj eX id b with|none=>if b<w.heap.size then aj b else D b|some _=>D b)=D b;split
       ·rw[bk]
       ·rfl
      have acL:∀ p∈tP w' ρ (jS o.dst) (fL c.ro y.1).len C (jR (fk c.ps) y.2),(tP w' ρ (jS o.dst) (fL c.ro y.1).len C (jR (fk c.ps) y.2)).lookup p.1=some p.2:=
       acA (by rw[O4,sH];exact ok1)
      generalize CL:tP w' ρ (jS o.dst) (fL c.ro y.1).len C (jR (fk c.ps) y.2)=hd at acL;have apJ:hd.map (·.1)=cn:=by rw[<- CL,O4,sH]
      have hv:yE w w' aj fe ρ (acy hd ρ) ns cn:=by
       refine⟨mD.size,λb hb hk=>?_,λn O=>?_,λb k hb=>(hR.dI b k hb).2⟩
       ·have jA:fj aj eX id b=none:=by
         cases hl:aj b with
         |none=>exact hS.none b hl
         |some k=>exact(hS.rest b k hl).2 (hk k hl)
        refine⟨mD.block b hb jA,?_⟩;show (match fj aj eX id b with|none=>if b<w.heap.size then aj b else D b|some _=>D b)=aj b;rw[jA];exact bg hb
       ·show (match hd.lookup n with|some v=>Loc.eU v|none=>ρ n)=ρ n;rw[acz (by rw[apJ];exact O)]
      have Fu:∀I∈C,dB I.root cn=false:=λI l6=>by simpa using ck.1 ok2 I l6
      have Je:=Wb (c0:=jS o.dst) (nm:=nm) hR hv e1 e2 hB C (oI c.ps x) (jR (fk c.ps) y.2) 0 (fL c.ro y.1).len iX acI hrel (by omega) Wg (λk n O=>?_) (λp hp=>?_) Fu ok4
      ·have acM:lz w0 w w':=by
        refine⟨mD.os,mD.tape,mD.output,mD.size,λk hk hL=>mD.block k (Nat.lt_of_lt_of_le hk hB) ?_⟩
        cases hl:aj k with
        |none=>exact hS.none k hl
        |some E=>exact absurd hL ((hR.dI k E hl).1.resolve_left (by omega))
       have mF:Rl w0 N fe (acy hd ρ) (σ.dR ns cn (mI ns cn (jS o.dst) (fL c.ro y.1).len C (jR (fk c.ps) y.2))) a w':=by
        refine hR.AE hv acM (λb k hb=>?_) (λn O=>?_) (λn z U=>?_)
        ·have hb:(match fj aj eX id b with | none=>if b<w.heap.size then aj b else D b | some _=>D b)=some k:=hb;have acN:D b=some k -> (w0.heap.size <= b \/ w0.L b≠none)/\b<w'.heap.size/\k≠[]:=by
          intro h1;obtain⟨g1,g2,g3⟩:=acK b k h1;refine⟨?_,g2,g3⟩;rcases g1 with g1|g1
          ·exact .inl (Nat.le_trans hB g1)
          ·cases jA:fj aj eX id b with
           |none=>exact absurd jA g1
           | some k2=>
            obtain⟨⟨E,hl,_⟩,_⟩:=O6 b k2 jA;exact(hR.dI b E hl).1
         split at hb
         ·split at hb
          ·have:=hR.dI b k hb;exact⟨this.1,Nat.lt_of_lt_of_le this.2.1 mD.size,this.2.2⟩
          ·exact acN hb
         ·exact acN hb
        ·have:=ck.1 ok3 n (uY.1 O);rw[eN]at this;refine hR.dY n ?_;rcases this with h | h
         ·exact .inl (by have:=dj h;omega)
         ·exact .inr (dj h)
        ·have sK:(n,z)∈mI ns cn (jS o.dst) (fL c.ro y.1).len C (jR (fk c.ps) y.2):=by
          clear Je;generalize mI ns cn (jS o.dst) (fL c.ro y.1).len C (jR (fk c.ps) y.2)=l at U
          induction l with
          |nil=>cases U
          | cons p l ih=>
           rw[List.lookup_cons]at U;cases hb:n==p.1 with
           | true=>
            rw[hb]at U;have e:n=p.1:=by simpa using hb
            injection U with U;rw[e,<- U]
            grind
           | false=>
            rw[hb]at U;exact .tail _ (ih U)
         exact Je (n,z) sK
       have apK:rC w' w0.heap.size fe (λn=>jS o.dst+n) (fL c.ro y.1) v:=?_
       ·obtain⟨AJ,hR3,Fv⟩:=CM fe _ a w' v mF apK;exact hK v w' fe _ AJ hR3 (by rw[acH,Ac];exact hv) acM Fv
       have Wh:∀(L:Nat),L=(fL c.ro y.1).len -> ∀n,n<L -> nm n=jS o.dst+n:=λL hL n O=>bg
       generalize aGg:fL c.ro y.1=res at mG Wh;cases res with
       | one p=>
        have mG:kN w' w.heap.size D nm 0 [p] [v]:=mG;exact kN.Ay [p] 0 [v] mG hB e2 e1 (λn _ O=>Wh _ rfl n (by simpa [gM.len]using O))
       | fO yA=>
        obtain⟨vs,e,jz⟩:=mG;exact⟨vs,e,kN.Ay yA 0 vs.toList jz hB e2 e1 (λn _ O=>Wh _ rfl n (by simpa [gM.len]using O))⟩
      ·show (if (fL c.ro y.1).len+k<(fL c.ro y.1).len then jS o.dst+((fL c.ro y.1).len+k)else (AG _ (fL c.ro y.1).len C).getD ((fL c.ro y.1).len+k-(fL c.ro y.1).len) 0)=n;rw[bk,show (fL c.ro y.1).len+k-(fL c.ro y.1).len=k by omega,cV,O];rfl
      ·rw[CL]at hp;show (match hd.lookup p.1 with|some v=>Loc.eU v|none=>ρ p.1) = .eU p.2;rw[acL p hp]
   ·cases Y
 ·cases h
def apL{f:Nat}{args:Array Operand}{D:Array TypeId}{c:qG}{k:S -> ah X}(E:o.op = .call { callee:=.value (.func f),args,argTypes:=D })(I:enters P f)(O:yC P f c)(h:qI N σ o.dst c args.toList k=some r):∃ C,k C=some r/\nR P w0 N o σ C:=by
 obtain⟨C,mus,cn,U,_,_,_,Y⟩:=acF E I O h
 refine⟨C,U,λa w K Q hR hK=>?_⟩
 obtain⟨aj,ρ,hR⟩:=hR;exact Y a w K Q aj ρ hR λv w' fe gi AJ fz _ _ _=>hK _ _ ⟨fe,AJ,fz⟩
end
end Go.Proofs.YtdfkhfiglknaoaaGreat
