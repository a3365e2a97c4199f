/-
  Running the program over pure contents, and that it follows (part 2). Nothing here is a claim.
-/
import Derived.Laws.StructEq
import Derived.Test.YtgjfmljpdnnihaaGreatV1
set_option linter.unusedSimpArgs false
namespace Go.Proofs.YtgjfmljpdnnihaaGreat
set_option linter.defProp false
open Go.RowKit
set_option linter.unusedVariables false
def at3{X:Type}(N:Nat)(σ:S)(C:aj Tmp)(c x y:A)(k:S->aj X):aj X:=
 match c with
 |.lf (.v (.bool b))=>bif b then gG N σ C x k else gG N σ C y k
 |_=>none
def FB{X:Type}(P:Program)(s:TypeId)(x:A)(f:Nat)(k:A->aj X):aj X:=
 match Fh P s f,x with
 | some C,.agg cs=>(match jg P C.type,CJ P C.type with
  |some n,some true=>if C.offset+n<=cs.length then k (.agg ((cs.drop C.offset).take n))else none
  | some _,some false=>(match cs[C.offset]? with
   |some y=>k (.lf y)
   |none=>none)
  |_,_=>none)
 |_,_=>none
def CT{X:Type}(C:Bool)(x y:A)(k:A->aj X):aj X:=
 match x,y with
 |.lf (.v (.int D a)),.lf (.v (.int _ b))=>k (.lf (.v (.int D (bif C then (if b > a then b else a)else (if b<a then b else a)))))
 |_,_=>none
def FC{X:Type}(P:Program)(t:TypeId)(x i:A)(k:A->aj X):aj X:=
 match x,i with
 | .lf (.v (.str s)),.lf (.v (.int _ iv))=>(match P.underlying t with
  |some .string=>if h:0<=iv/\iv.toNat<s.size then k (.lf (.v (.int .u8 ((s[iv.toNat]'h.2).toNat:Int))))else none
  |_=>none)
 |_,_=>none
def tw{X:Type}(x:aj A)(d:Int)(k:Int->aj X):aj X:=
 match x with
 |none=>k d
 |some (.lf (.v (.int _ n)))=>k n
 |_=>none
def wq{X:Type}(P:Program)(t:TypeId)(x:A)(lo hi:aj A)(k:A->aj X):aj X:=
 match x with
 | .lf (.v (.str s))=>(match P.underlying t with
  |some .string=>tw lo 0 λl=>tw hi (s.size:Int) λh=>if 0<=l/\l<=h/\h<=(s.size:Int)then k (.lf (.v (.str (s.extract l.toNat h.toNat))))else none
  |_=>none)
 | .lf (.v (.sl C g D l))=>(match oS P t with
  | some e=>(match jg P e with
   |some n=>if n=aB C then (bif Nat.blt g 2 then tw lo 0 λa=>tw hi (l.length:Int) λb=>if 0<=a/\a<=b/\b<=(l.length:Int)then k (.lf (.v (.sl C g false ((l.take b.toNat).drop a.toNat))))else none else none)else none
   |none=>none)
  |none=>none)
 |_=>none
def CU(P:Program)(C D:TypeId):Bool:=
 match P.underlying C,P.underlying D with
 | some (.slice e),some .string=>(match P.underlying e with
  |some (.int .u8)=>true
  |_=>false)
 |_,_=>false
def JN{X:Type}(P:Program)(C D:TypeId)(z:V)(k:A->aj X):aj X:=
 match z with
 |.sl .u8 _ _ l=>bif CU P C D then k (.lf (.v (.str (strOfNums l))))else none
 |.nil=>bif CU P C D then k (.lf (.v (.str (strOfNums []))))else none
 |_=>none
def yK{X:Type}(P:Program)(σ:S)(C D:TypeId)(x:A)(k:A->aj X):aj X:=
 match x with
 | .lf (.v (.int _ n))=>(match P.underlying C,P.underlying D with
  |some _,some (.int E)=>k (.lf (.v (.int E (E.wrap n))))
  |_,_=>none)
 |.lf y=>n8 σ y λz=>JN P C D z k
 |_=>none
section
variable {P:Program} {w w':World} {w0:Wd} {B N:Nat} {af az:bk} {ρ ρ':Nat->Loc} {σ:S} {a:Act} {X:Type} {d:Nat} {r:X} {o:Oper}
def at4{α:Type}(f:α -> aa Value)(s:Nat)(C:∀ x,(f x).length=s)(l:aa α):(l.flatMap f).length=l.length*s:=by
 induction l with
 |nil=>simp
 |cons a l D=>grind
def agB{α:Type}(f:α -> aa Value)(s:Nat)(D:∀ x,(f x).length=s):∀ (l:aa α) (k:Nat) (C:k<l.length) (j:Nat),j<s -> (l.flatMap f)[k*s+j]?=(f l[k])[j]?:=by
 intro l
 induction l with
 |nil=>simp_all
 | cons a l E=>
  intro k C j I;rw[List.flatMap_cons];cases k with
  |zero=>grind
  |succ k =>grind
def Wy(z:Array Value)(s n:Nat)(C:z.size=s)(E:0<s):(madeCells z (n*s)).toList=(List.replicate n z.toList).flatten:=by
 have e:(List.replicate n z.toList).flatten=(List.replicate n ()).flatMap (λ_=>z.toList):=by
  rw[List.flatMap_def,List.map_replicate]
 rw[e];have hl:((List.replicate n ()).flatMap (λ_=>z.toList)).length=n*s:=by
  simp_all
 apply List.ext_getElem?;intro i;rcases Nat.lt_or_ge i _ with hi|hi
 ·have I:i / s<n:=Nat.div_lt_of_lt_mul (by rw[Nat.mul_comm];exact hi);have O:i % s<s:=Nat.mod_lt _ E;have T:i=i / s*s+i % s:=by rw[Nat.mul_comm];exact(Nat.div_add_mod i s).symm
  have D:=agB (λ_=>z.toList) s (λ_=>by simpa using C) (List.replicate n ()) (i / s) (by simpa using I) (i % s) O;rw[<- T]at D;rw[D];have U:i % s<z.size:=by omega
  simp only[madeCells,Array.toList_map,Array.toList_range,dW,List.getElem?_range hi,Option.map_some,C];simp[U]
 ·rw[List.getElem?_eq_none (by rw[kW,size_madeCells];exact hi),List.getElem?_eq_none (by rw[hl];exact hi)]
def agC{t:TypeId}{len:Nat}{parts:Array (Nat×Operand)}{k:S -> aj X}(h:yJ P N σ d t len parts.toList k=some r):∃ cG,k cG=some r /\ ∀ af ρ a w,Rl w0 N af ρ σ a w ->
  ∃w' az ρ' v,(Instr.buildSlice t len (parts.map λ(i,x)=>(i,a.eval x))).run P w = .ok v w'/\Rl w0 N az ρ' cG (a.put (some d) v) w':=by
 unfold yJ at h;split at h
 ·rename_i e tc oc;obtain⟨fS,ht,i,hi,Y,jC⟩:=yG oc;split at h
  ·rename_i z hz;cases T:(Nat.beq (full tc) 0&&Nat.beq z.cells.size (aB tc)&&Nat.blt (len*aB tc) 16777217)with
   |false=>rw[T]at h;cases h
   | true=>
    rw[T,aq]at h;simp only[aJ]at T;have hf:=cE T.1.1;have mI:=cE T.1.2;have hsm:len*aB tc<16777217:=by have:=cr T.2;omega
    have od:i.zero=some z:=by unfold zeroOf at hz;simpa [hi]using hz
    split at h
    ·rename_i cs gj;split at h
     ·rename_i vs jJ;split at h
      ·rename_i l hl;obtain⟨hd,h⟩:=oa h
       refine⟨_,h,λaf ρ a w hR=>?_⟩
       obtain⟨JO,AM,ic⟩:=O9 tc 0 len vs l hl;have Pa:ez w w0.heap.size af ρ (List.replicate len (z.cells.toList.map nv)).flatten (madeCells z.cells (len*aB tc)):=by
        have e1:(List.replicate len (z.cells.toList.map nv)).flatten=((List.replicate len z.cells.toList).flatten).map nv:=by
         rw[List.map_flatten,List.map_replicate]
        rw[e1,<- Wy z.cells (aB tc) len mI (nW tc)]
        refine⟨by simp,λj x C=>?_⟩
        rw[dW]at C;cases E:(madeCells z.cells (len*aB tc)).toList[j]? with
        |none=>rw[E]at C;cases C
        | some v=>
         rw[E]at C;injection C with C;subst C;exact⟨v,by simpa using E,JG v⟩
       obtain⟨I,wu,dc⟩:=JL (w:=w) (B:=w0.heap.size) (af:=af) (ρ:=ρ) _ _ _ (parts.toList.map λp=>(p.1,a.eval p.2)) cs gj Pa (by simp) (λj p q O Z=>by
        rw[dW]at O Z;cases C:parts.toList[j]? with
        |none=>rw[C]at O;cases O
        | some x=>
         rw[C]at O Z;injection O with O;injection Z with Z;subst O Z;exact⟨rfl,hR.aI x.2⟩)
       have Wz:=JM cs vs jJ;have agD:I.size=len*aB tc:=by rw[dc.1,Wz,eN,AM]
       have dV:(Instr.buildSlice t len (parts.map λ(i,x)=>(i,a.eval x))).run P w = .ok (.slice (some ⟨w.heap.size,0,none⟩) len len) (w.alloc (.cells I e)):=by
        have Fz:(parts.map λ(i,x)=>(i,a.eval x)).toList=parts.toList.map λp=>(p.1,a.eval p.2):=by simp
        by_cases h0:len*aB tc=0
        ·have hm:madeCells z.cells (len*aB tc) = #[]:=by rw[h0];simp[madeCells]
         rw[hm]at wu;have Pb:len*i.size=0:=by rw[Y];exact h0
         rw[<- Y]at wu;have e0:∀f:Nat -> Value,Array.map f (Array.range 0) = #[]:=λf=>by simp
         simp only[Instr.buildSlice,fQ,gB fS,sizeOf,typeInfo];simp[hi,Pb];rw[e0,wu];simp[newRow]
        ·exact run_buildSlice (P:=P) w t e len _ I i z fS hi od (by rw[Y];omega) (by rw[Y];exact h0) (by rw[Y,Fz];exact wu)
       refine⟨_,bG af w.heap.size (some [d]),bG ρ d (.dn (.slice (some ⟨w.heap.size,0,none⟩) len len)),_,dV,(hR.CO (hR.cD d (.inl hd)) (λr hr=>cc _ _ _ hr) (.sl _ _ (bJ _ _ _) ?_)).set ⟨rfl,by simp[cF,bJ]⟩ hd⟩
       have oT:∀ D (U:D<l.length) j x,(enc tc 0 l[D])[j]?=some x -> ∃ v,I[D*aB tc+j]?=some v /\ ∀ (w':World) (B':Nat) (az:bk) (q':aa Nat),RV w' B' az q' x v:=by
        intro D U j x C;obtain⟨y,hy,hw⟩:=ic D U j x C;obtain⟨v,E,hr⟩:=dc.2 (D*aB tc+j) (.v y) (by rw[Wz,dW,hy];rfl);exact⟨v,E,λw' B' az q'=>(hr.2.wk hw).s9 (yp tc 0 l[D] hf x (gv C))⟩
       have:=RV.own (w:=w.alloc (.cells I e)) (B:=w0.heap.size) (af:=bG af w.heap.size (some [d])) [d] tc 0 true l w.heap.size len I (λi j=>(I[i*aB tc+j]?).getD undef)
        (bJ _ _ _) (by rw[ht];exact heap_alloc_new w _) agD (by omega) ⟨by have:=Nat.le_mul_of_pos_right len (nW tc);unfold maxLen;omega,λ_=>JO.symm⟩ (λD U j x C=>?_) (λD U j x C=>?_)
       ·rw[JO]at this;exact this
       ·obtain⟨v,E,_⟩:=oT D U j x C;rw[E];rfl
       ·obtain⟨v,E,hr⟩:=oT D U j x C;rw[E];exact hr _ _ _ _
      ·cases h
     ·cases h
    ·cases h
  ·cases h
 ·cases h
def WA{C:Bool}{x y:A}{k:A->aj X}(h:CT C x y k=some r):∃ z,k z=some r/\∀ (w:World) (B:Nat) (af:bk) (ρ:Nat->Loc) (t ty:TypeId) (u v:Value),RA w B af ρ x u->RA w B af ρ y v->
  ∃D,((bif C then Builtin.max_ #[t,t] ty #[u,v]else Builtin.min_ #[t,t] ty #[u,v]):Sem Value).run P w = .ok D w/\RA w B af ρ z D:=by
 unfold CT at h;split at h
 ·refine⟨_,h,λw B af ρ t ty u v E I=>?_⟩
  obtain rfl:=E.2.gz;obtain rfl:=I.2.gz;cases C with
  |true=>exact⟨_,by simp[Builtin.max_,Builtin.max2],rfl,.int _ _ _⟩
  |false=>exact⟨_,by simp[Builtin.min_,Builtin.min2],rfl,.int _ _ _⟩
 ·cases h
def agE{t:TypeId}{x i:A}{k:A->aj X}(h:FC P t x i k=some r):∃ z,k z=some r/\∀ (w:World) (B:Nat) (af:bk) (ρ:Nat->Loc) (u v:Value),RA w B af ρ x u->RA w B af ρ i v->
  ∃C,(Instr.index t u v).run P w = .ok C w/\RA w B af ρ z C:=by
 unfold FC at h;split at h
 ·rename_i s O iv;split at h
  ·rename_i D;split at h
   ·rename_i hb
    refine⟨_,h,λw B af ρ u v E I=>?_⟩
    obtain rfl:=E.2.v5;obtain rfl:=I.2.gz;exact⟨_,by simp[Instr.index,asIntOf,gB D,hb.1,hb.2],rfl,.int _ _ _⟩
   ·cases h
  ·cases h
 ·cases h
def WB{C D:TypeId}(h:CU P C D=true):∃ e,P.underlying C=some (.slice e)/\P.underlying D=some .string/\P.underlying e=some (.int .u8):=by
 unfold CU at h
 grind
def WC(l:aa Int)(i:Nat)(hi:i<l.length):l.getD i 0=l[i]:=by rw[cW,bH hi];rfl
def RV.toStr{I O e:TypeId}(Y:P.underlying I=some (.slice e))(Z:P.underlying O=some .string)(he:P.underlying e=some (.int .u8)){o:Nat}{qn:Bool}{l:aa (T .u8)}{q:aa Nat}{B:Nat}{u:Value}(h:RV w B af q (.sl .u8 o qn l) u):
  (convert I O u).run P w = .ok (.string (strOfNums l)) w:=by
 generalize C:V.sl .u8 o qn l=y at h;cases h with
 |int=>cases C
 |bool=>cases C
 |str=>cases C
 |nil=>cases C
 | dX q t o'=>
  injection C with D e2 e3 E;subst D;obtain rfl:=eq_of_heq E;rw[run_convert_bytes_nil w I e Y he 0 0 O Z];rfl
 | fy q t o' A c ho=>
  injection C with D e2 e3 E;subst D;obtain rfl:=eq_of_heq E;have hl:=run_loadCells_list (P:=P) w A [] (λj v hj=>by simp at hj);rw[run_convert_bytes_string w I O e _ 0 c Y he Z];rfl
 | fJ q t o' A c ho=>
  injection C with D e2 e3 E;subst D;obtain rfl:=eq_of_heq E;have hl:(loadCells A 0).run P w = .ok (([]:aa Int).map (Value.int .u8)).toArray w:=run_loadCells_list (P:=P) w A [] (λj v hj=>by simp at hj);rw[run_convert_bytes_string w I O e _ 0 c Y he Z,run_bytesToString w A 0 c [] hl];rfl
 | aG q t o' Pc l' b off cap uu ho hl hb h1 jH hc hr=>
  injection C with D e2 e3 E;subst D;obtain rfl:=eq_of_heq E
  refine run_convert_bytes_arg w I e Y he b off _ cap l rfl (λi hi=>?_) O Z
  have U:=hc i hi 0 (.int .u8 l[i]) rfl;have h3:=(hr i hi 0 (.int .u8 l[i]) rfl).gz;simp only[aB,Nat.mul_one,Nat.add_zero]at U;have hg:=WC (show aa Int from l) i hi;rw[U,h3];exact bx (λz=>some (Value.int .u8 z)) hg.symm
 | own q t o' Pc l' b cap cs uu hl hh n6 hn hm hc hr=>
  injection C with D e2 e3 E;subst D;obtain rfl:=eq_of_heq E
  refine run_convert_bytes_arg w I e Y he b 0 _ cap l rfl (λi hi=>?_) O Z
  have U:=hc i hi 0 (.int .u8 l[i]) rfl;have h3:=(hr i hi 0 (.int .u8 l[i]) rfl).gz;simp only[aB,Nat.mul_one,Nat.add_zero]at U;have hg:=WC (show aa Int from l) i hi;rw[h3]at U;have h4:w.cell? ⟨b,0+i,none⟩=some (.int .u8 l[i]):=by simp[World.cell?,hh,U]
  rw[h4];exact bx (λz=>some (Value.int .u8 z)) hg.symm
def agF{E I:TypeId}{x:A}{k:A -> aj X}(h:yK P σ E I x k=some r):∃ z,k z=some r /\ ∀ af ρ a w,Rl w0 N af ρ σ a w -> ∀ u,RA w w0.heap.size af ρ x u ->
  ∃t',(convert E I u).run P w = .ok t' w/\RA w w0.heap.size af ρ z t':=by
 unfold yK at h;split at h
 ·rename_i kk n;split at h
  ·rename_i d1 kd hs hd
   refine⟨_,h,λaf ρ a w _ u C=>?_⟩
   obtain rfl:=C.2.gz;exact⟨_,by simp[convert,gB hs,gB hd,Conv.intToInt],rfl,.int _ _ _⟩
  ·cases h
 ·rename_i y _;have key:∃ z,(∀ af ρ a w,Rl w0 N af ρ σ a w -> ∀ u,dH w w0.heap.size af ρ y u -> ∃ q,RV w w0.heap.size af q z u)/\JN P E I z k=some r:=by
   cases y with
   |v z=>exact⟨z,λaf ρ a w _ u C=>⟨[],C.2⟩,h⟩
   |dead=>cases h
   | own q=>
    obtain⟨z,T,h⟩:=rK q _ h
    refine⟨z,λaf ρ a w hR u C=>?_,h⟩
    obtain⟨v,hv,U⟩:=T.ok hR.root;have h3:=C.2
    grind
  obtain⟨z,T,D⟩:=key;clear h;unfold JN at D;split at D
  ·rename_i o qn l;cases O:CU P E I with
   |false=>simp_all
   | true=>
    rw[O]at D;obtain⟨e,Y,Z,e3⟩:=WB O
    refine⟨_,D,λaf ρ a w hR u C=>?_⟩
    obtain⟨q,U⟩:=T af ρ a w hR u C;exact⟨_,U.toStr Y Z e3,rfl,.str _ _⟩
  ·cases O:CU P E I with
   |false=>simp_all
   | true=>
    rw[O,aq]at D;obtain⟨e,Y,Z,e3⟩:=WB O
    refine⟨_,D,λaf ρ a w hR u C=>?_⟩
    obtain⟨q,U⟩:=T af ρ a w hR u C;cases U;exact⟨_,by rw[run_convert_bytes_nil w E e Y e3 0 0 I Z];rfl,rfl,.str _ _⟩
  ·cases D
 ·cases h
def agG{s:TypeId}{x:A}{f:Nat}{k:A -> aj X}(h:FB P s x f k=some r):∃ z,k z=some r /\ ∀ (w:World) (B:Nat) (af:bk) (ρ:Nat -> Loc) (u:Value),RA w B af ρ x u ->
  ∃Z,(Instr.field s u f).run P w = .ok Z w/\RA w B af ρ z Z:=by
 unfold FB at h;split at h
 ·rename_i E cs I;have jK:∃ O,P.underlying s=some (.struct O)/\O[f]?=some E:=by
   unfold Fh at I;split at I
   ·simp_all
   ·cases I
  obtain⟨O,kf,yL⟩:=jK;split at h
  ·rename_i n T C;split at h
   ·rename_i hle
    refine⟨_,h,λw B af ρ u D=>?_⟩
    obtain⟨us,rfl,hR⟩:=D;have U:(isAgg E.type).run P w = .ok true w:=by
     unfold CJ at C;split at C
     next fs' D=>unfold isAgg;rw[fQ,gB D];rfl
     next c e D=>unfold isAgg;rw[fQ,gB D];rfl
     ·cases C
     ·cases C
    unfold jg at T;cases hi:P.info? E.type with
    |none=>simp_all
    | some i=>
     have vY:i.size=n:=by simpa [hi]using T
     refine⟨.agg (us.extract E.offset (E.offset+n)),by simp[Instr.field,gB kf,yL,asAgg,part,fQ,U,sizeOf,typeInfo,hi,vY],_,rfl,?_,λj y Y=>?_⟩
     ·have:=hR.1
      grind
     ·obtain⟨hj,FD⟩:=Jx _ _ _ _ _ Y;obtain⟨v,hv,hr⟩:=hR.2 _ y FD
      grind
   ·cases h
  ·rename_i n T C;split at h
   ·rename_i y Y
    refine⟨_,h,λw B af ρ u D=>?_⟩
    obtain⟨us,rfl,hR⟩:=D;obtain⟨v,hv,hr⟩:=hR.2 _ y Y;have U:(isAgg E.type).run P w = .ok false w:=by
     unfold CJ at C;split at C
     ·cases C
     ·cases C
     next d hs ha D=>unfold isAgg;rw[fQ,gB D];simp_all
     ·cases C
    exact⟨v,by simp[Instr.field,gB kf,yL,asAgg,part,fQ,U,hv],hr⟩
   ·cases h
  ·cases h
 ·cases h
end
def V.val:V->Value
 |.int k n=>.int k n
 |.bool b=>.bool b
 |.str s=>.string s
 |_=>undef
def JP:TypeDesc->V->V->aj Bool
 |.int _,.int k a,.int C b=>if k=C then some (a==b)else none
 |.bool,.bool a,.bool b=>some (a==b)
 |.string,.str a,.str b=>some (a.toList==b.toList)
 |_,_,_=>none
def FE(P:Program)(g:TypeId->aa V->aa V->aj Bool)(xs ys:aa V):aa Field->aj Bool
 |[]=>some true
 | f :: C=>bif f.name == "_" then FE P g xs ys C else (match jg P f.type with
  | some n=>bif Nat.ble (f.offset+n) xs.length then (match g f.type ((xs.drop f.offset).take n) ((ys.drop f.offset).take n),FE P g xs ys C with
   |some a,some b=>some (a&&b)
   |_,_=>none)else none
  |none=>none)
def yM(P:Program):Nat->TypeId->aa V->aa V->aj Bool
 |0,_,_,_=>none
 | n+1,t,xs,ys=>match P.underlying t with
  |some (.struct C)=>bif P.stoodInHeld t ||!Nat.beq xs.length ys.length then none else FE P (yM P n) xs ys C.toList
  | some d=>(match xs,ys with
   |[x],[y]=>JP d x y
   |_,_=>none)
  |none=>none
def JQ:BinOp->aj Bool
 |.eql=>some false
 |.neq=>some true
 |_=>none
def jt{α:Type}:aa α->Bool
 |[]=>true
 |_=>false
def isStr(P:Program)(t:TypeId):Bool:=match P.underlying t with
 |some (.struct _)=>true
 |_=>false
def yN{X:Type}(P:Program)(σ:S)(D:BinOp)(t:TypeId)(x y:A)(k:A->aj X):aj X:=
 match JQ D,x,y with
 | some C,.agg cs,.agg E=>(match qy cs,qy E with
  | some xs,some ys=>bif P.eqGuardType P.depth t || !isStr P t then none else (match yM P 20 t xs ys with
   |some b=>k (.lf (.v (.bool (bif C then !b else b))))
   |none=>none)
  |_,_=>none)
 | some C,.lf l,.lf (.v .nil)=>(match oS P t with
  | some _=>n8 σ l λz=>(match z with
   |.nil=>k (.lf (.v (.bool (bif C then false else true))))
   |.sl _ _ true _=>k (.lf (.v (.bool (bif C then true else false))))
   |.sl _ _ false l=>bif jt l then none else k (.lf (.v (.bool (bif C then true else false))))
   |_=>none)
  |none=>none)
 |_,_,_=>vK x λa=>vK y λb=>Fe P t D a b λz=>k (.lf (.v z))
section
variable {P:Program} {w w':World} {w0:Wd} {B N:Nat} {af az:bk} {ρ ρ':Nat->Loc} {σ:S} {a:Act} {X:Type} {d:Nat} {r:X} {o:Oper}
def agH{D:TypeDesc}{x y:V}{b:Bool}{t:TypeId}{n:Nat}(C:P.underlying t=some D)(h:JP D x y=some b):(Op.equalIn (n+1) t x.val y.val).run P w = .ok b w:=by
 unfold JP at h;split at h
 ·split at h
  next I _ a k O E=>subst E;injection h with h;subst h;exact run_equalIn_int w n t _ _ _ _ C
  ·cases h
 ·injection h with h;subst h;exact run_equalIn_bool' w n t _ _ C
 ·injection h with h;subst h;exact run_equalIn_string w n t _ _ C
 ·cases h
def tA(P:Program)(t:TypeId)(xs:aa V)(u:Value):Prop:=
 match P.underlying t with
 |some (.struct _)=>u = .agg (xs.map V.val).toArray
 |_=>∃x,xs=[x]/\u=x.val
def WD{t:TypeId}{n off:Nat}{xs:aa V}(O:jg P t=some n)(hle:off+n <= xs.length)(T:∃ d,P.underlying t=some d/\(∀ c e,d ≠ .array c e)/\((∀ C,d ≠ .struct C) -> n=1)):
  ∃u,(part t (xs.map V.val).toArray off).run P w = .ok u w/\tA P t ((xs.drop off).take n) u:=by
 obtain⟨d,D,U,Y⟩:=T;unfold jg at O;cases hi:P.info? t with
 |none=>grind
 | some i=>
  have Z:i.size=n:=by simpa [hi]using O
  by_cases E:∃C,d = .struct C
  ·obtain⟨C,rfl⟩:=E;have I:(isAgg t).run P w = .ok true w:=by
    unfold isAgg;rw[fQ,gB D];rfl
   refine⟨.agg ((xs.map V.val).toArray.extract off (off+n)),by simp[part,fQ,I,sizeOf,typeInfo,hi,Z],?_⟩;unfold tA;rw[D];simp only;congr 1;apply Array.ext';simp[List.map_drop,List.map_take]
  ·have I:(isAgg t).run P w = .ok false w:=by
    unfold isAgg;rw[fQ,gB D w];cases d<;>first|rfl|(exfalso;exact E ⟨_,rfl⟩)|(exfalso;exact U _ _ rfl)
   have yO:n=1:=Y λC e=>E ⟨C,e⟩
   subst yO;have c9:off<xs.length:=by omega
   have oT:(xs.map V.val).toArray[off]?=some (xs[off]).val:=by simp[c9]
   refine⟨(xs[off]).val,by simp[part,fQ,I,oT],?_⟩;have e1:(xs.drop off).take 1=[xs[off]]:=by
    rw[List.drop_eq_getElem_cons];rfl
   unfold tA;rw[D];split
   ·grind
   ·grind
def agI{n:Nat}{t:TypeId}{xs ys:aa V}{b:Bool}(h:yM P n t xs ys=some b):∃ d,P.underlying t=some d/\(∀ c e,d ≠ .array c e)/\((∀ C,d ≠ .struct C) -> xs.length=1):=by
 cases n with
 |zero=>cases h
 | succ n=>
  unfold yM at h;split at h
  ·simp_all
  ·rename_i d I D;split at h
   next x y=>exact⟨d,D,(λc e E=>by subst E;simp[JP]at h),λ_=>rfl⟩
   ·cases h
  ·cases h
def Pd{n:Nat}{xs ys:aa V}(hlen:xs.length=ys.length)(I:∀ t xs ys b,yM P n t xs ys=some b -> ∀ u v,tA P t xs u -> tA P t ys v -> ∀ k,(Op.equalIn (k+n) t u v).run P w = .ok b w)(k:Nat):∀ (C:aa Field) (b:Bool),FE P (yM P n) xs ys C=some b ->
  (Op.eqFields (k+n) (xs.map V.val).toArray (ys.map V.val).toArray C).run P w = .ok b w
 | [],b,h=>by
  injection h with h;subst h;simp[Op.eqFields]
 | f :: C,b,h=>by
  unfold FE at h;cases D:f.name == "_" with
  | true=>
   rw[D]at h;have:f.name = "_":=by simpa using D
   simp[Op.eqFields,this,not_true];exact Pd hlen I k C b h
  | false=>
   rw[D,av]at h;have ck:f.name ≠ "_":=by simpa using D
   split at h
   ·rename_i s O;cases E:Nat.ble (f.offset+s) xs.length with
    |false=>simp_all
    | true=>
     rw[E,aq]at h;have E:=cr E;split at h
     ·rename_i c e T h2;injection h with h;subst h;obtain⟨d1,U,Y,Z⟩:=agI T;have qA:((xs.drop f.offset).take s).length=s:=by simp;omega
      obtain⟨u,Pe,oq⟩:=WD (w:=w) O E ⟨d1,U,Y,λh=>qA.symm.trans (Z h)⟩;obtain⟨v,FF,wz⟩:=WD (w:=w) (xs:=ys) (off:=f.offset) O (by omega) ⟨d1,U,Y,λh=>qA.symm.trans (Z h)⟩;have hr:=I _ _ _ c T u v oq wz k;have uR:=Pd hlen I k C e h2;simp only[Op.eqFields,ck,ne_eq,not_false_eq_true,if_true,fQ,Pe,FF,hr,lU];cases c
      ·simp
      ·simp_all
     ·cases h
   ·cases h
def WE:∀ (n:Nat) (t:TypeId) (xs ys:aa V) (b:Bool),yM P n t xs ys=some b -> ∀ u v,tA P t xs u -> tA P t ys v -> ∀ k,(Op.equalIn (k+n) t u v).run P w = .ok b w
 |0,t,xs,ys,b,h=>by cases h
 | n+1,t,xs,ys,b,h=>by
  intro u v C D k;unfold yM at h;split at h
  ·rename_i U I;cases E:(P.stoodInHeld t || !Nat.beq xs.length ys.length)with
   |true=>simp_all
   | false=>
    rw[E,av]at h;rw[nh,Bool.not_eq_false']at E;have hlen:=cE E.2;unfold tA at C D;rw[I]at C D;simp only at C D;subst C D;have Y:P.fieldsOf t=U:=by simp[Program.fieldsOf,I]
    rw[<- Nat.add_assoc,run_equalIn_struct w (k+n) t _ _ (by rw[Y];exact I) E.1,Y];exact Pd hlen (WE n) k U.toList b h
  ·rename_i d yz Z;split at h
   ·rename_i x y;unfold tA at C D;rw[Z]at C D;split at C
    ·simp_all
    ·split at D
     ·simp_all
     ·obtain⟨x',O,rfl⟩:=C;obtain⟨y',T,rfl⟩:=D;injection O with O;injection T with T;subst O T;exact agH Z h
   ·cases h
  ·cases h
def WG{cs:aa Lf}{xs:aa V}(h:qy cs=some xs){u:Value}(D:RA w B af ρ (.agg cs) u):u = .agg (xs.map V.val).toArray:=by
 obtain⟨e,E⟩:=Jy _ _ h;obtain⟨us,rfl,Y,I⟩:=D;congr 1;apply Array.ext';apply List.ext_getElem?;intro j;rw[ dW,Array.getElem?_toList];cases C:xs[j]? with
 |none =>simp_all
 | some x=>
  obtain⟨v,O,T⟩:=I j _ (by rw[e,dW,C];rfl);rw[O];have:=E x (gv C);have U:=T.2;cases U<;>first|rfl|cases this
def CV{C:BinOp}{D:Bool}(E:JQ C=some D){t e:TypeId}(I:P.underlying t=some (.slice e))(O T:Operand)(A:aj Addr)(n c:Nat):
  (do eqGuard C t O T (.slice A n c) (.slice none 0 0);binOp C t (.slice A n c) (.slice none 0 0):Sem Value).run P w = .ok (.bool (bif D then !A.isNone else A.isNone)) w:=by
 have U:(Op.equal t (.slice A n c) (.slice none 0 0)).run P w = .ok A.isNone w:=by
  have h:∀ d,(Op.equalIn (d+1) t (.slice A n c) (.slice none 0 0)).run P w = .ok A.isNone w:=by
   intro d;cases A<;>simp[Op.equalIn,gB I]
  exact h 9999
 cases C<;>simp[JQ]at E<;>subst E<;>simp[eqGuard,binOp,U]
def agJ{op:BinOp}{t:TypeId}{x y:A}{k:A -> aj X}(h:yN P σ op t x y k=some r):∃ z,k z=some r /\ ∀ af ρ a w,Rl w0 N af ρ σ a w -> ∀ C D u v,RA w w0.heap.size af ρ x u -> RA w w0.heap.size af ρ y v ->
  ∃t',(do eqGuard op t C D u v;binOp op t u v:Sem Value).run P w = .ok t' w/\RA w w0.heap.size af ρ z t':=by
 unfold yN at h;split at h
 ·rename_i T cs ds O;split at h
  ·rename_i xs ys n9 yP;cases hg:(P.eqGuardType P.depth t || !isStr P t)with
   |true=>simp_all
   | false=>
    rw[hg,av]at h;rw[nh,Bool.not_eq_false']at hg;obtain⟨hg,jK⟩:=hg;split at h
    ·rename_i b hb
     refine⟨_,h,λaf ρ a w hR C D u v E I=>?_⟩
     have E:=WG n9 E;have I:=WG yP I;subst E I;have hs:∃ fs,P.underlying t=some (.struct fs):=by
      unfold isStr at jK;split at jK
      ·simp_all
      ·cases jK
     obtain⟨fs,yL⟩:=hs;have Y:=WE (w:=w) 20 t xs ys b hb (.agg (xs.map V.val).toArray) (.agg (ys.map V.val).toArray) (by unfold tA;rw[yL]) (by unfold tA;rw[yL]) 9980;refine⟨.bool (bif T then !b else b),?_,rfl,.bool _ _⟩;rw[fQ,run_eqGuard_agg w op t C D _ _ hg,lU];cases op<;>simp[JQ]at O<;>subst O
     ·rw[run_eql_struct,Y];rfl
     ·rw[run_neq_struct,Y];rfl
    ·cases h
  ·cases h
 ·rename_i T l O;split at h
  ·rename_i e he;have Z:P.underlying t=some (.slice e):=by
    unfold oS at he;split at he
    ·simp_all
    ·cases he
   obtain⟨z,hz,U⟩:=O6 (w0:=w0) (N:=N) h;clear h;split at U
   ·refine⟨_,U,λaf ρ a w hR C D u v E I=>?_⟩
    obtain⟨q,hq⟩:=hz af ρ a w hR u E;cases hq;cases I.2;exact⟨_,CV O Z C D none 0 0,rfl,by cases T<;>exact .bool _ _⟩
   ·refine⟨_,U,λaf ρ a w hR C D u v E I=>?_⟩
    obtain⟨q,hq⟩:=hz af ρ a w hR u E;cases I.2;cases hq with
    |aG _ _ _ _ _ b off cap us ho hl hb h1 jH hc Y=>exact⟨_,CV O Z C D _ _ _,rfl,by cases T<;>exact .bool _ _⟩
    |own=>exact⟨_,CV O Z C D _ _ _,rfl,by cases T<;>exact .bool _ _⟩
    |fJ=>exact⟨_,CV O Z C D _ _ _,rfl,by cases T<;>exact .bool _ _⟩
   ·rename_i t' o' l';cases hl:jt l' with
    |true=>simp_all
    | false=>
     rw[hl,av]at U
     refine⟨_,U,λaf ρ a w hR C D u v E I=>?_⟩
     obtain⟨q,hq⟩:=hz af ρ a w hR u E;cases I.2;cases hq with
     |dX=>cases hl
     |fy=>cases hl
     |aG _ _ _ _ _ b off cap us ho FA hb h1 jH hc Y=>exact⟨_,CV O Z C D _ _ _,rfl,by cases T<;>exact .bool _ _⟩
     |own=>exact⟨_,CV O Z C D _ _ _,rfl,by cases T<;>exact .bool _ _⟩
   ·cases U
  ·cases h
 ·obtain⟨u0,hx,h1⟩:=OP h;obtain⟨v0,hy,U⟩:=OP h1;obtain⟨z,h3,hp,hs⟩:=aga U;subst hx hy
  refine⟨_,h3,λaf ρ a w hR C D u v E I=>?_⟩
  obtain⟨t',dV,Y⟩:=hs w _ af C D [] [] _ _ E.2 I.2;exact⟨t',dV,V.Fg hp,Y⟩
/-! Parts of slices that nobody writes. -/
def CW{x:aj A}{C:Int}{k:Int->aj X}(h:tw x C k=some r):∃ n,k n=some r/\(∀ (E:Type) (D:Int->aj E),tw x C D=D n)/\((x=none/\n=C)\/∃ I,x=some (.lf (.v (.int I n)))):=by
 unfold tw at h;split at h
 ·exact⟨_,h,λ_ _=>rfl,.inl ⟨rfl,rfl⟩⟩
 ·exact⟨_,h,λ_ _=>rfl,.inr ⟨_,rfl⟩⟩
 ·cases h
def agK{t:TypeId}{x:A}{lo hi:aj A}{k:A -> aj X}(h:wq P t x lo hi k=some r):∃ y,k y=some r/\(∀ (I:Type) (E:A -> aj I),wq P t x lo hi E=E y) /\
  ((∃ (s:ByteArray) (l h:Int),x = .lf (.v (.str s))/\P.underlying t=some .string/\((lo=none/\l=0) \/ ∃ C,lo=some (.lf (.v (.int C l))))/\((hi=none/\h=s.size) \/ ∃ C,hi=some (.lf (.v (.int C h))))/\0 <= l/\l <= h/\h <= (s.size:Int)/\y = .lf (.v (.str (s.extract l.toNat h.toNat)))) \/
   ∃(tc:TC) (g:Nat) (O:Bool) (xs:aa (T tc)) (e:TypeId) (l h:Int),x = .lf (.v (.sl tc g O xs))/\oS P t=some e/\jg P e=some (aB tc)/\g<2/\((lo=none/\l=0) \/ ∃C,lo=some (.lf (.v (.int C l))))/\((hi=none/\h=xs.length) \/ ∃C,hi=some (.lf (.v (.int C h))))/\0 <= l/\l <= h/\h <= (xs.length:Int)/\y = .lf (.v (.sl tc g false ((xs.take h.toNat).drop l.toNat)))):=by
 unfold wq at h;split at h
 ·rename_i s;split at h
  ·rename_i hu;obtain⟨l,U,d1,Y⟩:=CW h;obtain⟨m,D,d2,Z⟩:=CW U;split at D
   ·rename_i hb
    refine⟨_,D,λI E=>?_,.inl ⟨s,l,m,rfl,hu,Y,Z,hb.1,hb.2.1,hb.2.2,rfl⟩⟩
    simp[wq,hu];simp_all
   ·cases D
  ·cases h
 ·rename_i tc g O xs;split at h
  ·rename_i e he;split at h
   ·rename_i n hn;split at h
    ·rename_i AP;subst AP;cases hg:Nat.blt g 2 with
     |false=>simp_all
     | true=>
      rw[hg,aq]at h;obtain⟨l,U,d1,Y⟩:=CW h;obtain⟨m,D,d2,Z⟩:=CW U;split at D
      ·rename_i hb
       refine⟨_,D,λI E=>?_,.inr ⟨tc,g,O,xs,e,l,m,rfl,he,hn,cr hg,Y,Z,hb.1,hb.2.1,hb.2.2,rfl⟩⟩
       simp[wq,he,hn,if_true,hg,aq];simp_all
      ·cases D
    ·cases h
   ·cases h
  ·cases h
 ·cases h
def agL{t:TypeId}{x:A}{lo hi:aj A}{k:A->aj X}(h:wq P t x lo hi k=some r):∃ y,k y=some r/\(∀ (X':Type) (k':A->aj X'),wq P t x lo hi k'=k' y)/\
  ∀ (w:World) (B:Nat) (af:bk) (ρ:Nat->Loc) (u:Value) (U C:aj Value),RA w B af ρ x u->(∀ a,lo=some a->∃ v,U=some v/\RA w B af ρ a v)->(lo=none->U=none)->(∀ a,hi=some a->∃ v,C=some v/\RA w B af ρ a v)->(hi=none->C=none)->
   ∃t',(Instr.sliceAt t u U C none).run P w = .ok t' w/\RA w B af ρ y t':=by
 obtain⟨y,h1,hd,hc⟩:=agK h
 refine⟨y,h1,hd,λw B af ρ u U C Z qA kM JR CX=>?_⟩
 have bl:∀ {o:aj A} {E:aj Value} {n AS:Int},(∀ a,o=some a->∃ v,E=some v/\RA w B af ρ a v)->(o=none->E=none)->((o=none/\n=AS)\/∃ I,o=some (.lf (.v (.int I n))))->(E=none/\n=AS)\/∃ I,E=some (.int I n):=by
  intro o E n AS g1 g2 g3;rcases g3 with ⟨e,e'⟩|⟨I,e⟩
  ·exact .inl ⟨g2 e,e'⟩
  ·obtain⟨v,C,hr⟩:=g1 _ e;exact .inr ⟨I,by rw[C,hr.2.gz]⟩
 rcases hc with ⟨s,l,m,rfl,O,e1,e2,b1,b2,b3,rfl⟩|⟨tc,g,qn,xs,e,l,m,rfl,D,hn,hg,e1,e2,b1,b2,b3,rfl⟩
 ·have h5:=bl qA kM e1;have h6:=bl JR CX e2;obtain rfl:=Z.2.v5;have em:(m.toNat:Int)=m:=Int.toNat_of_nonneg (by omega);refine⟨.string (s.extract l.toNat m.toNat),?_,rfl,.str _ _⟩;rw[run_sliceAt_string w t _ _ _ _ O];have JS:0<=m:=by omega
  rcases h5 with ⟨rfl,h7⟩|⟨kl,rfl⟩<;>rcases h6 with ⟨rfl,h8⟩|⟨kh,rfl⟩
  all_goals simp_all [Instr.slice,gB O,Instr.sliceBounds,run_sliceBound]
 ·have h5:=bl qA kM e1;have h6:=bl JR CX e2;have O:P.underlying t=some (.slice e):=by
   unfold oS at D;split at D
   next e' uN=>injection D with D;rw[<-D];exact uN
   ·cases D
  have ic:P.elem t=e:=by simp[Program.elem,O]
  have T:P.underlying t=some (.slice (P.elem t)):=by rw[ic];exact O
  have Y:(sizeOf (P.elem t)).run P w = .ok (aB tc) w:=by
   unfold jg at hn;cases hi:P.info? e with
   |none=>simp[hi]at hn
   | some i=>
    have:i.size=aB tc:=by simpa [hi]using hn
    simp[sizeOf,typeInfo,ic,hi,this]
  have kf:∃ A n c,u = .slice A n c:=by
   cases Z.2 with
   |dX=>exact⟨_,_,_,rfl⟩
   |fy=>exact⟨_,_,_,rfl⟩
   |fJ=>exact⟨_,_,_,rfl⟩
   |aG=>exact⟨_,_,_,rfl⟩
   |own=>exact⟨_,_,_,rfl⟩
  obtain⟨A,n,c,rfl⟩:=kf;obtain⟨hp,yO,Pf⟩:=Z.2.part (a:=l.toNat) (h:=m.toNat) hg (by omega) (by omega);refine⟨_,?_,by simp[V.aG,hg],hp⟩;rw[run_sliceAt_slice w t _ _ _ _ T];rcases h5 with ⟨rfl,rfl⟩|⟨kl,rfl⟩<;>rcases h6 with ⟨rfl,rfl⟩|⟨kh,rfl⟩
  ·rw[run_slice_all w t A n c T,Y,yO];simp
  ·rw[run_slice_h w t A n c T kh m (by omega) (by omega),Y];simp
  ·rw[run_slice_l w t A n c T kl l (by omega) (by omega),Y,yO];simp
  ·rw[run_slice_lh w t A n c T kl kh l m (by omega) (by omega) (by omega),Y];simp
/-! Parts of slices that are owned. -/
def CY{X:Type}(n:Nat)(q:aa Nat)(C:aj Nat)(lo hi:aj A)(y:V)(k:A->aj X):aj X:=
 match y with
 |.sl D _ _ l=>if n=aB D then tw lo 0 λa=>tw hi ((C.getD l.length:Nat):Int) λb=>if 0<=a/\a<=b/\b<=(l.length:Int)then k (.view q n a.toNat b.toNat)else none else none
 |_=>none
def AT{X:Type}(P:Program)(σ:S)(t:TypeId)(q:aa Nat)(C:aj Nat)(lo hi:aj A)(k:A->aj X):aj X:=
 match oS P t with
 | some e=>(match jg P e with
  |some n=>iZ σ.m q λy=>CY n q C lo hi y k
  |none=>none)
 |none=>none
def yQ{X:Type}(P:Program)(σ:S)(t:TypeId)(x:A)(lo hi:aj A)(k:A->aj X):aj X:=
 match x with
 |.lf (.own q)=>AT P σ t q none lo hi k
 |.view q _ 0 j=>AT P σ t q (some j) lo hi k
 |x=>wq P t x lo hi k
def agM{n:Nat}{q:aa Nat}{C:aj Nat}{lo hi:aj A}{y:V}{k:A -> aj X}(h:CY n q C lo hi y k=some r):∃ (tc:TC) (g:Nat) (D:Bool) (xs:aa (T tc)) (l h:Int),y = .sl tc g D xs/\n=aB tc /\
  ((lo=none/\l=0) \/ ∃E,lo=some (.lf (.v (.int E l))))/\((hi=none/\h=((C.getD xs.length:Nat):Int)) \/ ∃E,hi=some (.lf (.v (.int E h))))/\0 <= l/\l <= h/\h <= (xs.length:Int)/\k (.view q n l.toNat h.toNat)=some r /\
  ∀(U:Type) (I:A -> aj U),CY n q C lo hi y I=I (.view q n l.toNat h.toNat):=by
 unfold CY at h;split at h
 ·rename_i tc g D xs;split at h
  ·rename_i Y;obtain⟨l,Z,d1,e1⟩:=CW h;obtain⟨m,O,d2,e2⟩:=CW Z;split at O
   ·rename_i hb
    refine⟨tc,g,D,xs,l,m,rfl,Y,e1,e2,hb.1,hb.2.1,hb.2.2,O,λU I=>?_⟩
    simp[CY,aV Y];simp_all
   ·cases O
  ·cases h
 ·cases h
def WH{t:TypeId}{q:aa Nat}{dh:aj Nat}{lo hi:aj A}{k:A -> aj X}(h:AT P σ t q dh lo hi k=some r):∃ y,k y=some r /\
  ∀ af ρ a w,Rl w0 N af ρ σ a w -> ∀ (D:aj Addr) (n c C:Nat) (U E:aj Value),cF w af ρ q=some (.slice D n c) -> C=dh.getD n -> C <= n -> (∀ a,lo=some a -> ∃ v,U=some v/\RA w w0.heap.size af ρ a v) -> (lo=none -> U=none) -> (∀ a,hi=some a -> ∃ v,E=some v/\RA w w0.heap.size af ρ a v) -> (hi=none -> E=none) ->
   ∃t',(Instr.sliceAt t (.slice D C c) U E none).run P w = .ok t' w/\RA w w0.heap.size af ρ y t':=by
 unfold AT at h;split at h
 ·rename_i e he;split at h
  ·rename_i n hn;obtain⟨y0,Pg,h2⟩:=rK q _ h;obtain⟨tc,g,qn,xs,l,m,rfl,AP,e1,e2,b1,b2,b3,h3,_⟩:=agM h2
   refine⟨_,h3,λaf ρ a w hR D n' c C U E kL Ph hle qA kM JR CX=>?_⟩
   have bl:∀ {o:aj A} {I:aj Value} {n AS:Int},(∀ a,o=some a -> ∃ v,I=some v/\RA w w0.heap.size af ρ a v) -> (o=none -> I=none) -> ((o=none/\n=AS) \/ ∃ O,o=some (.lf (.v (.int O n)))) -> (I=none/\n=AS) \/ ∃ O,I=some (.int O n):=by
    intro o I n AS g1 g2 g3;rcases g3 with ⟨e,e'⟩|⟨O,e⟩
    ·grind
    ·obtain⟨v,E,hr⟩:=g1 _ e;exact .inr ⟨O,by rw[E,hr.2.gz]⟩
   have h5:=bl qA kM e1;have h6:=bl JR CX e2;have fS:P.underlying t=some (.slice e):=by
    unfold oS at he;split at he
    ·grind
    ·cases he
   have ic:P.elem t=e:=by simp[Program.elem,fS]
   have T:P.underlying t=some (.slice (P.elem t)):=by rw[ic];exact fS
   have Y:(sizeOf (P.elem t)).run P w = .ok n w:=by
    unfold jg at hn;cases hi:P.info? e with
    |none=>grind
    | some i=>
     have:i.size=n:=by simpa [hi]using hn
     simp[sizeOf,typeInfo,ic,hi,this]
   obtain⟨v0,Z,ij⟩:=Pg.ok hR.root;rw[kL]at Z;injection Z with Z;subst Z;have hf:RV w 0 (λ_=>none) [] (.sl tc 0 qn xs) (.slice D n' c):=ij.fZ;obtain⟨hp,yO,Pf⟩:=hf.part (a:=l.toNat) (h:=m.toNat) (by omega) (by omega) (by omega);have agN:((dh.getD xs.length:Nat):Int)=(C:Int):=by rw[Ph,yO]
   rw[agN]at h6;refine⟨sliced D l.toNat m.toNat c n,?_,D,n',c,kL,by omega,by omega,rfl⟩;rw[run_sliceAt_slice w t _ _ _ _ T];rcases h5 with ⟨rfl,rfl⟩|⟨kl,rfl⟩<;>rcases h6 with ⟨rfl,rfl⟩|⟨kh,rfl⟩
   ·rw[run_slice_all w t D C c T,Y];simp
   ·rw[run_slice_h w t D C c T kh m (by omega) (by omega),Y];simp
   ·rw[run_slice_l w t D C c T kl l (by omega) (by omega),Y];simp
   ·rw[run_slice_lh w t D C c T kl kh l m (by omega) (by omega) (by omega),Y];simp
  ·cases h
 ·cases h
def agO{t:TypeId}{x:A}{lo hi:aj A}{k:A -> aj X}(h:yQ P σ t x lo hi k=some r):∃ y,k y=some r /\
  ∀ af ρ a w,Rl w0 N af ρ σ a w -> ∀ (u:Value) (C D:aj Value),RA w w0.heap.size af ρ x u -> (∀ a,lo=some a -> ∃ v,C=some v/\RA w w0.heap.size af ρ a v) -> (lo=none -> C=none) -> (∀ a,hi=some a -> ∃ v,D=some v/\RA w w0.heap.size af ρ a v) -> (hi=none -> D=none) ->
   ∃t',(Instr.sliceAt t u C D none).run P w = .ok t' w/\RA w w0.heap.size af ρ y t':=by
 unfold yQ at h;split at h
 ·rename_i q;obtain⟨y,E,I⟩:=WH h
  refine⟨y,E,λaf ρ a w hR u C D O T U Y Z=>?_⟩
  have fR:∃ A n c,u = .slice A n c:=by
   have:=O.1;cases u<;>first|cases this;done|exact⟨_,_,_,rfl⟩
  obtain⟨A,n,c,rfl⟩:=fR;exact I af ρ a w hR A n c n C D O.2 rfl (dz _) T U Y Z
 ·rename_i q s j;obtain⟨y,E,I⟩:=WH h
  refine⟨y,E,λaf ρ a w hR u C D O T U Y Z=>?_⟩
  obtain⟨A,n,c,kL,_,a2,rfl⟩:=O;have e:sliced A 0 j c s = .slice A j c:=by cases A<;>simp[sliced,Addr.add]
  rw[e];exact I af ρ a w hR A n c j C D kL rfl a2 T U Y Z
 ·obtain⟨y,E,_,I⟩:=agL h;exact⟨y,E,λaf ρ a w _ u C D=>I w _ af ρ u C D⟩
end
abbrev Pt:=Bool×aa V
def PV(w:World)(B:Nat)(af:bk)(key:Nat->aa Nat)(p:Pt)(u:Value):Prop:=
 ∃us:Array Value,(match p.1 with|true=>u = .agg us|false=>us = #[u])/\us.size=p.2.length/\∀(j:Nat) x,p.2[j]?=some x->∃v,us[j]?=some v/\RV w B af (key j) x v
def yR(w:World)(cs:aa V)(u:Value):Prop:=
 ∃b off,u = .pointer (some ⟨b,off,none⟩)/\b<w.heap.size/\∀(j:Nat) x,cs[j]?=some x->∃v,w.cell? ⟨b,off+j,none⟩=some v/\RV w w.heap.size (λ_=>none) [] x v
inductive PA (w:World):Pt->Value->Prop
 |v (p:Pt) (u:Value) (h:PV w w.heap.size (λ_=>none) (λ_=>[]) p u):PA w p u
 |p (c:V) (cs:List V) (u:Value) (h:yR w (c::cs) u):PA w (false,.bool true::c::cs) u
 |f (g:Nat) (c:V) (cs:List V) (u:Value) (h:yR w (c::cs) u):PA w (false,.bool false::.int .i64 (g:Int)::c::cs) (.func (.func g) #[] #[u])
def ot(w:World)(args:aa Pt)(bB:Array Value):Prop:=
 bB.size=args.length/\∀(i:Nat) p,args[i]?=some p->∃u,bB[i]?=some u/\PA w p u
def PA.pv{w:World}{x:V}{u:Value}(h:PA w (false,[x]) u):PV w w.heap.size (λ_=>none) (λ_=>[]) (false,[x]) u:=by
 cases h with
 |v _ _ h=>exact h
def PA.WI{w:World}{xs:aa V}{u:Value}(h:PA w (true,xs) u):PV w w.heap.size (λ_=>none) (λ_=>[]) (true,xs) u:=by
 cases h with
 |v _ _ h=>exact h
inductive fO where
 |one (p:Pt)
 |eO (ps:List Pt)
def yS(t:TC):Nat->Bool
 |0=>false
 |1=>true
 |o+2=>Nat.ble (full t) o ||Nat.beq (o % 2) 1
def V.loc:V->Bool
 |.sl t o _ _=>yS t o
 |_=>true
def ju(w:World)(B:Nat)(af:bk)(nm:Nat->Nat):Nat->aa Pt->aa Value->Prop
 |_,[],[]=>True
 |off,p::ps,v::C=>(p.2.all V.loc=true/\PV w B af (λj=>[nm (off+j)]) p v)/\ju w B af nm (off+p.2.length) ps C
 |_,_,_=>False
def oW(w:World)(B:Nat)(af:bk)(nm:Nat->Nat):fO->Value->Prop
 |.one p,v=>ju w B af nm 0 [p] [v]
 |.eO ps,v=>∃C:Array Value,v = .tuple C/\ju w B af nm 0 ps C.toList
structure jh where
 run:(X:Type)->List Pt->(fO->Option X)->Option X
def iL(P:Program)(f:Nat)(c:jh):Prop:=
 (∀ args,cm λX k=>c.run X args k)/\∀ args C,c.run fO args some=some C->∀ (nm:Nat->Nat) (w:World) (bB:Array Value),ot w args bB->Hd w (λ_=>none)->
  Calls P f bB w λe w'=>∃v az,e = .returned v/\Below w.heap.size w w'/\(∀b k,az b=some k->w.heap.size<=b/\b<w'.heap.size/\k≠[])/\oW w' w.heap.size az nm C v
def qB{X:Type}(σ:S):aa Lf->(aa V->aj X)->aj X
 |[],k=>k []
 |x::xs,k=>n8 σ x λy=>qB σ xs λys=>k (y.fZ::ys)
def ny{X:Type}(σ:S)(x:A)(k:Pt->aj X):aj X:=
 match x with
 |.lf y=>qB σ [y] λC=>k (false,C)
 |.agg ys=>qB σ ys λC=>k (true,C)
 |.view q s i j=>uM σ q s i j λy=>k (false,[y])
 |.iX (c::cs)=>k (false,.bool true::c.fZ::cs.map V.fZ)
 |_=>none
def uS{X:Type}(σ:S)(x:A)(k:Pt->aj X):aj X:=
 match x with
 |.iX (c::cs)=>k (false,.bool true::c.fZ::cs.map V.fZ)
 |.mO f (c::cs)=>k (false,.bool false::.int .i64 (f:Int)::c.fZ::cs.map V.fZ)
 | .aH r j=>(match σ.m r with
  | some (.ay cs)=>qB σ (cs.drop j) λC=>(match C with
   |c::cs=>k (false,.bool true::c::cs)
   |[]=>none)
  |_=>none)
 | .fn f [(r,j)]=>(match σ.m r with
  | some (.ay cs)=>qB σ (cs.drop j) λC=>(match C with
   |c::cs=>k (false,.bool false::.int .i64 (f:Int)::c::cs)
   |[]=>none)
  |_=>none)
 |x=>ny σ x k
def uT{X:Type}(f:A->(Pt->aj X)->aj X)(σ:S):aa Operand->(aa Pt->aj X)->aj X
 |[],k=>k []
 |x::xs,k=>f (aI σ x) λp=>uT f σ xs λps=>k (p::ps)
def AU{X:Type}(σ:S)(xs:aa Operand)(k:aa Pt->aj X):aj X:=uT (uS σ) σ xs k
def rR{X:Type}(σ:S)(xs:aa Operand)(k:aa Pt->aj X):aj X:=uT (ny σ) σ xs k
def nA(c:Nat):aa V->aa Lf
 |[]=>[]
 |x::xs=>(bif x.aG then .v x else .own [c])::nA (c+1) xs
def lZ(c:Nat)(σ:S):aa V->S
 |[]=>σ
 |x::xs=>lZ (c+1) (bif x.aG then σ else (σ.drop c).root c (.sl x)) xs
def rS(c:Nat):aa Pt->aa (Bool×aa Lf)
 |[]=>[]
 |p::ps=>(p.1,nA c p.2)::rS (c+p.2.length) ps
def nB(c:Nat)(σ:S):aa Pt->S
 |[]=>σ
 |p::ps=>nB (c+p.2.length) (lZ c σ p.2) ps
def mT{X:Type}(σ:S)(d:Nat)(C:fO)(k:S->aj X):aj X:=match C with
 | .one p=>(match yD (p.1,nA (1000000000100000+1000*d) p.2)with
  |some y=>k ((lZ (1000000000100000+1000*d) σ p.2).set d y)
  |none=>none)
 |.eO ps=>k ((nB (1000000000100000+1000*d) σ ps).set d (.eO (rS (1000000000100000+1000*d) ps)))
def rT{X:Type}(N:Nat)(σ:S)(d:Nat)(c:jh)(ev:(aa Pt->aj X)->aj X)(k:S->aj X):aj X:=
 bif Nat.blt d N then ev λps=>c.run X ps λC=>mT σ d C k else none
def agP{X:Type}(N:Nat)(σ:S)(d:Nat)(c:jh)(args:aa Operand)(k:S->aj X):aj X:=rT N σ d c (AU σ args) k
def agQ{X:Type}(N:Nat)(σ:S)(d:Nat)(c:jh)(args:aa Operand)(k:S->aj X):aj X:=rT N σ d c (rR σ args) k
section
variable {P:Program} {w w':World} {w0:Wd} {B N:Nat} {af az:bk} {ρ ρ':Nat->Loc} {σ:S} {a:Act} {X:Type} {d:Nat} {r:X} {o:Oper}
def FG:∀ (xs:aa Lf) (k:aa V -> aj X),qB σ xs k=some r -> ∃ C,k C=some r/\C.length=xs.length /\ ∀ af ρ a w,Rl w0 N af ρ σ a w -> ∀ (j:Nat) x y u,xs[j]?=some x -> C[j]?=some y -> dH w w0.heap.size af ρ x u -> RV w w.heap.size (λ_=>none) [] y u
 |[],k,h=>⟨[],h,rfl,λ_ _ _ _ _ j x y u I=>by simp at I⟩
 | x :: xs,k,h=>by
  obtain⟨y,O,T⟩:=O6 h;obtain⟨ys,U,hl,hr⟩:=FG xs _ T
  refine⟨y.fZ::ys,U,by simp[hl],λaf ρ a w hR j x' y' u D E Y=>?_⟩
  cases j with
  | zero=>
   simp at D E;subst D E;obtain⟨q,Z⟩:=O af ρ a w hR u Y;exact Z.fZ
  |succ j=>grind
def WJ{D C:Nat}{cs:aa Lf}{E:aa V}(Y:σ.m D=some (.ay cs))(hl:E.length=(cs.drop C).length)
  (Z:∀af ρ a w,Rl w0 N af ρ σ a w->∀(j:Nat) x y u,(cs.drop C)[j]?=some x->E[j]?=some y->dH w w0.heap.size af ρ x u->RV w w.heap.size (λ_=>none) [] y u)
  {af:bk} {ρ:Nat->Loc} {a:Act} {w:World} {u:Value} (hR:Rl w0 N af ρ σ a w) (hu:RA w w0.heap.size af ρ (.aH D C) u):yR w E u:=by
 obtain⟨b,off,e1,rfl⟩:=hu;cases hR.root D _ Y with
 | ay b' AL cells e _ us I nD O hs hc=>
  rw[e1]at I;injection I with q1 q2;subst q1 q2
  refine⟨b,off+C,rfl,(hU.1 O).1,λj x T=>?_⟩
  have hj:j<(cs.drop C).length:=by rw[<-hl];exact(dA.1 T).1
  have U:=bH hj;have agR:cs[C+j]?=some (cs.drop C)[j]:=by rw[<-List.getElem?_drop];exact U
  obtain⟨k1,k2⟩:=hc _ _ agR;refine⟨us (C+j),?_,Z af ρ a w hR j _ x _ U T k2⟩;rw[Nat.add_assoc,cell_of_row w b _ cells _ _ O];exact k1
def Pj{cs:aa V}{u:Value}(E:RF w B af cs u):yR w (cs.map V.fZ) u:=by
 obtain⟨b,off,rfl,I,Y,O⟩:=E
 refine⟨b,off,rfl,I,λj x C=>?_⟩
 rw[dW]at C;cases D:cs[j]? with
 |none=>simp_all
 | some y=>
  rw[D]at C;injection C with C;subst C;obtain⟨_,v,T,U⟩:=O j y D;exact⟨v,T,U.fZ⟩
def WK{x:A}{k:Pt -> aj X}(h:ny σ x k=some r):∃ p,k p=some r /\ ∀ af ρ a w,Rl w0 N af ρ σ a w -> ∀ u,RA w w0.heap.size af ρ x u -> PA w p u:=by
 unfold ny at h;split at h
 ·rename_i y;obtain⟨U,E,hl,O⟩:=FG (w0:=w0) (N:=N) _ _ h
  refine⟨_,E,λaf ρ a w hR u C=>.v _ _ ⟨#[u],rfl,by simp[hl],λj x D=>?_⟩⟩
  have I:j=0:=by
   grind
  subst I;exact⟨u,rfl,O af ρ a w hR 0 y x u rfl D C⟩
 ·rename_i ys;obtain⟨U,E,hl,O⟩:=FG (w0:=w0) (N:=N) _ _ h
  refine⟨_,E,λaf ρ a w hR u C=>?_⟩
  obtain⟨us,rfl,T⟩:=C
  refine .v _ _ ⟨us,rfl,by rw[hl];exact T.1,λj x D=>?_⟩
  have I:j<ys.length:=by rw[<- hl];exact(dA.1 D).1
  obtain⟨v,Z,fo⟩:=T.2 j _ (bH I)
  grind
 ·obtain⟨z,E,_,Y⟩:=V8 h
  refine⟨_,E,λaf ρ a w hR u C=>.v _ _ ⟨#[u],rfl,rfl,λj x D=>?_⟩⟩
  cases j with
  | zero=>
   simp at D;subst D;exact⟨u,rfl,Y _ _ _ _ _ _ hR u C _⟩
  |succ j=>simp at D
 next c cs=>exact⟨_,h,λaf ρ a w hR u C=>.p _ _ _ (Pj C)⟩
 ·cases h
def agS{x:A}{k:Pt -> aj X}(h:uS σ x k=some r):∃ p,k p=some r /\ ∀ af ρ a w,Rl w0 N af ρ σ a w -> ∀ u,RA w w0.heap.size af ρ x u -> PA w p u:=by
 unfold uS at h;split at h
 ·rename_i c cs
  refine⟨_,h,λaf ρ a w hR u C=>?_⟩
  exact .p _ _ _ (Pj C)
 ·rename_i f c cs
  refine⟨_,h,λaf ρ a w hR u C=>?_⟩
  obtain⟨pv,rfl,E⟩:=C;exact .f _ _ _ _ (Pj E)
 ·rename_i U T;split at h
  ·rename_i cs I;obtain⟨Y,D,hl,O⟩:=FG (w0:=w0) (N:=N) _ _ h;split at D
   ·rename_i c eM
    refine⟨_,D,λaf ρ a w hR u C=>?_⟩
    exact .p _ _ _ (WJ I hl O hR C)
   ·cases D
  ·cases h
 ·rename_i f U T;split at h
  ·rename_i cs I;obtain⟨Y,D,hl,O⟩:=FG (w0:=w0) (N:=N) _ _ h;split at D
   ·rename_i c eM
    refine⟨_,D,λaf ρ a w hR u C=>?_⟩
    obtain⟨ps,rfl,hs,E⟩:=C;obtain⟨b,off,Z,e2⟩:=E 0 _ rfl;have e:ps = #[.pointer (some ⟨b,off+T,none⟩)]:=by
     grind
    subst e;exact .f _ _ _ _ (WJ I hl O hR ⟨b,off,Z,rfl⟩)
   ·cases D
  ·cases h
 ·exact WK h
def Pm{f:A->(Pt->aj X)->aj X}(E:∀ x k,f x k=some r->∃ p,k p=some r/\∀ af ρ a w,Rl w0 N af ρ σ a w->∀ u,RA w w0.heap.size af ρ x u->PA w p u):
  ∀(xs:aa Operand) (k:aa Pt->aj X),uT f σ xs k=some r->∃ps,k ps=some r/\∀af ρ a w,Rl w0 N af ρ σ a w->ot w ps (xs.map a.eval).toArray
 |[],k,h=>⟨[],h,λ_ _ _ _ _=>⟨rfl,λi p C=>by simp at C⟩⟩
 | x :: xs,k,h=>by
  unfold uT at h;obtain⟨p,O,C⟩:=E _ _ h;obtain⟨ps,T,I⟩:=Pm E xs _ O
  refine⟨p::ps,T,λaf ρ a w hR=>⟨?_,λi q D=>?_⟩⟩
  ·have:=(I af ρ a w hR).1;simp at this;simp[this]
  ·cases i with
   | zero=>
    simp at D;subst D;exact⟨_,rfl,C af ρ a w hR _ (hR.aI x)⟩
   | succ i=>
    obtain⟨u,U,Y⟩:=(I af ρ a w hR).2 i q (by simpa using D);exact⟨u,by simpa using U,Y⟩
def agT(xs:aa Operand)(k:aa Pt->aj X)(h:AU σ xs k=some r):∃ps,k ps=some r/\∀af ρ a w,Rl w0 N af ρ σ a w->ot w ps (xs.map a.eval).toArray:=Pm (λ_ _=>agS) xs k h
def WL(xs:aa Operand)(k:aa Pt->aj X)(h:rR σ xs k=some r):∃ps,k ps=some r/\∀af ρ a w,Rl w0 N af ρ σ a w->ot w ps (xs.map a.eval).toArray:=Pm (λ_ _=>WK) xs k h
def agU{t:TC}{o:Nat}(h:yS t (o+2)=true)(x:T t):∀ y∈enc t o x,y.loc=true:=by
 intro y D;have I:=yu t o x y D;cases y with
 | sl E C q l=>
  have O:C=o:=by simpa [V.gr]using I
  subst O;have U:full E+2 <= full t:=cr (Jo t C x _ D);show yS E C=true;simp only[yS,dS]at h;rcases h with h|h
  ·have h:=cr h
   match C,h with
   |0,h=>omega
   |1,h=>rfl
   | n+2,h=>
    simp only[yS,dS];left;exact iF (by omega)
  ·have h:=cE h
   match C,h with
   |0,h=>omega
   |1,h=>rfl
   | n+2,h=>
    simp only[yS,dS];simp_all
 |_=>rfl
def RV.yT{q:aa Nat}{x:V}{v:Value}(h:RV w B af q x v){B':Nat}(hB:B' <= B)(hl:∀ b,B <= b -> az b=af b)(Y:∀ b k,af b=some k -> az b=some k)(O:x.loc=true):RV w B' az q x v:=by
 induction h with
 |int=>exact .int _ _ _
 |bool=>exact .bool _ _
 |str=>exact .str _ _
 |nil=>exact .nil _
 |dX=>exact .dX _ _ _
 |fy=>exact .fy _ _ _ _ _ (by first|assumption|omega)
 |fJ=>exact .fJ _ _ _ _ _ (by first|assumption|omega)
 | aG q t o Z l b off cap u T D hb h1 jH E hr I=>
  have AV:o=1:=by
   match o,T,O with
   |1,_,_=>rfl
  subst AV;have U:=h1 rfl
  refine .aG _ _ _ _ _ _ _ _ u T ((hl b U).trans D) hb (λ_=>Nat.le_trans hB U) jH E (λi h j x C=>I i h j x C ?_)
  have:=yu t 1 l[i] x (gv C);cases x with
  | sl t' o' q' l'=>
   have:o'=1:=by simpa [V.gr]using this
   subst this;rfl
  |_=>rfl
 | own q t o Z l b cap cs u D hh hs hn hm E hr I=>
  exact .own _ _ _ _ _ _ _ cs u (Y b q D) hh hs hn hm E (λi h j x C=>I i h j x C (agU O l[i] x (gv C)))
def RV.home{q:aa Nat}{x:V}{v:Value}(h:RV w B af q x v){B':Nat}(hB:B'<=B)(hl:∀ b,B<=b->az b=af b)(C:∀ b k,af b=some k->B<=b)(D:x.loc=true):RV w B' az q x v:=
 h.yT hB hl (λb k h=>(hl b (C b k h)).trans h) D
def Pn:∀ (xs:aa V) (c:Nat) (σ:S) (ρ:Nat -> Loc) (us:aa Value),60000 <= c -> Rl w0 N af ρ σ a w -> us.length=xs.length -> (∀ (j:Nat) x u,xs[j]?=some x -> us[j]?=some u -> RV w w0.heap.size af [c+j] x u) ->
  ∃ρ',Rl w0 N af ρ' (lZ c σ xs) a w/\(∀r,r<c -> ρ' r=ρ r) /\ ∀(j:Nat) x u,(nA c xs)[j]?=some x -> us[j]?=some u -> dH w w0.heap.size af ρ' x u
 |[],c,σ,ρ,us,_,h,hl,E=>⟨ρ,h,λ_ _=>rfl,λj x u Z=>by simp[nA]at Z⟩
 | x :: xs,c,σ,ρ,us,hc,h,hl,E=>by
  cases us with
  |nil=>simp at hl
  | cons u us=>
   have O:=E 0 x u rfl rfl;rw[Nat.add_zero]at O;have uR:∀ (j:Nat) T U,xs[j]?=some T -> us[j]?=some U -> RV w w0.heap.size af [c+1+j] T U:=λj T U Z hu=>by
    have:=E (j+1) T U (by simpa using Z) (by simpa using hu)
    grind
   cases C:x.aG with
   | true=>
    obtain⟨ρ',dc,Y,wA⟩:=Pn xs (c+1) σ ρ us (by omega) h (by simpa using hl) uR
    refine⟨ρ',?_,λr E=>Y r (by omega),λj y v D I=>?_⟩
    ·simp[lZ,C];exact dc
    ·simp only[nA,C,aq]at D;cases j with
     | zero=>
      simp at D I;subst D I;exact⟨C,O.key C⟩
     |succ j=>grind
   | false=>
    have fR:=O.OF C;obtain⟨ρ',dc,Y,wA⟩:=Pn xs (c+1) _ _ us (by omega) (h.new (d:=c) (x:=.sl x) (.dn u) (.sl u x (bJ _ _ _) O) (h.cD c (.inr hc))) (by simpa using hl) uR
    refine⟨ρ',?_,λr E=>?_,λj y v D I=>?_⟩
    ·simp[lZ,C];exact dc
    ·rw[Y r (by omega)];exact cc _ _ _ (by omega)
    ·simp only[nA,C,av]at D;cases j with
     | zero=>
      simp at D I;subst D I;refine⟨fR,?_⟩;have:ρ' c = .dn u:=by rw[Y c (by omega)];exact bJ _ _ _
      simp[cF,this]
     |succ j=>grind
def agV(xs:aa V):∀ c,(nA c xs).length=xs.length:=by
 induction xs with
 |nil=>intro c;rfl
 |cons x xs C=>intro c;simp[nA,C]
end
def enters(P:Program)(f:Nat):Prop:=∃fn,P.funcs[f]?=some fn/\(fn.name == "runtime.NumGoroutine")=false/\fn.body.isNone=false
/-! What a function gives back. -/
def JT:A->aj (Bool×aa Lf)
 |.lf x=>some (false,[x])
 |.agg xs=>some (true,xs)
 |_=>none
def rU{X:Type}(P:Program)(σ:S):aa ResultVar->(aa (Bool×aa Lf)->aj X)->aj X
 |[],k=>k []
 | .tmp t :: rest,k=>(match JT (σ.t t)with
  |some p=>rU P σ rest λps=>k (p::ps)
  |none=>none)
 | .cell p ty :: rest,k=>nt P σ ty (σ.t p) λx=>(match JT x with
  |some p=>rU P σ rest λps=>k (p::ps)
  |none=>none)
def Po(m:Nat->aj aP):Lf->aj (V×aj Nat)
 |.v x=>bif x.loc&&x.aG then some (x,none)else none
 | .own [r]=>match m r with
  |some (.sl y)=>bif y.loc then some (y,some r)else none
  |_=>none
 |_=>none
def FH(m:Nat->aj aP)(off:Nat):aa Lf->aj (aa V×aa (Nat×Nat))
 |[]=>some ([],[])
 | x :: xs=>match Po m x,FH m (off+1) xs with
  |some (y,none),some (ys,rs)=>some (y::ys,rs)
  |some (y,some r),some (ys,rs)=>some (y::ys,(r,off)::rs)
  |_,_=>none
def CZ(m:Nat->aj aP)(off:Nat):aa (Bool×aa Lf)->aj (aa Pt×aa (Nat×Nat))
 |[]=>some ([],[])
 | p :: ps=>match FH m off p.2,CZ m (off+p.2.length) ps with
  |some (C,rs),some (D,E)=>some ((p.1,C)::D,rs++E)
  |_,_=>none
def once(rs:aa (Nat×Nat)):Bool:=rs.all λp=>(rs.lookup p.1).any λn=>Nat.beq n p.2
def FI{X:Type}(P:Program)(σ:S)(fn:Array ResultVar)(k:fO->aj X):aj X:=
 rU P σ fn.toList λps=>match CZ σ.m 0 ps with
  | some (qs,rs)=>bif once rs then (match qs with
   |[p]=>k (.one p)
   |qs=>k (.eO qs))else none
  |none=>none
section
variable {P:Program} {w w':World} {w0:Wd} {B N:Nat} {af az:bk} {ρ ρ':Nat->Loc} {σ:S} {a:Act} {X:Type} {d:Nat} {r:X} {o:Oper}
def WM:∀ (xs:aa V) (c:Nat) (j:Nat) x u,(nA c xs)[j]?=some x -> dH w B af ρ x u -> (∀ r,r<c+xs.length -> ρ' r=ρ r) -> dH w B af ρ' x u
 |[],c,j,x,u,D,_,_=>by simp[nA]at D
 | y :: ys,c,j,x,u,D,C,E=>by
  cases j with
  | zero=>
   simp[nA,List.getElem?_cons_zero,ia]at D;subst D;cases I:y.aG with
   |true=>rw[I]at C;simp;exact C
   | false=>
    rw[I]at C;refine⟨C.1,?_⟩;have:=C.2;simp[cF,E c (by simp)]at this ⊢;exact this
  | succ j=>
   exact WM ys _ j x u D C (λr h=>E r (by simp;omega))
def PV.cells{key:Nat -> aa Nat}{p:Pt}{u:Value}(h:PV w B af key p u):∃ us:aa Value,us.length=p.2.length/\(∀ (j:Nat) x v,p.2[j]?=some x -> us[j]?=some v -> RV w B af (key j) x v) /\
  ∀(ρ:Nat -> Loc) (C:aa Lf),C.length=p.2.length -> (∀(j:Nat) x v,C[j]?=some x -> us[j]?=some v -> dH w B af ρ x v) -> RP w B af ρ (p.1,C) u:=by
 obtain⟨us,D,E,Y⟩:=h;obtain⟨b,xs⟩:=p
 refine⟨us.toList,by simpa using E,λj x v I Z=>?_,λρ C hl U=>?_⟩
 ·grind
 ·have O:ez w B af ρ C us:=⟨by rw[E,hl],λj x I=>by
   have T:j<us.size:=by rw[E,<- hl];exact(dA.1 I).1
   exact⟨us[j],Array.getElem?_eq_getElem T,U j x _ I (by rw[Array.getElem?_toList,Array.getElem?_eq_getElem T])⟩⟩
  cases b with
  |true=>exact⟨us,D,O⟩
  |false=>have D:=D;subst D;exact O
def FJ:∀ (ps:aa Pt) (c0 off:Nat) (σ:S) (ρ:Nat -> Loc) (C:aa Value),60000 <= c0 -> Rl w0 N af ρ σ a w -> ju w w0.heap.size af (λn=>c0+n) off ps C ->
  ∃ρ',Rl w0 N af ρ' (nB (c0+off) σ ps) a w/\(∀r,r<c0+off -> ρ' r=ρ r)/\C.length=(rS (c0+off) ps).length /\ ∀(i:Nat) p v,(rS (c0+off) ps)[i]?=some p -> C[i]?=some v -> RP w w0.heap.size af ρ' p v
 | [],c0,off,σ,ρ,C,_,h,D=>by
  cases C with
  |nil=>exact⟨ρ,h,λ_ _=>rfl,rfl,λi p v T=>by simp[rS]at T⟩
  |cons v C=>exact D.elim
 | p :: ps,c0,off,σ,ρ,C,hc,h,D=>by
  cases C with
  |nil=>exact D.elim
  | cons v C=>
   obtain⟨⟨_,T⟩,D⟩:=D;obtain⟨us,hl,jI,uU⟩:=T.cells;obtain⟨C0,h1,Pp,wA⟩:=Pn p.2 (c0+off) σ ρ us (by omega) h hl (λj x u I E=>by
    have:RV w _ af [c0+(off+j)] x u:=jI j x u I E;rw[<- Nat.add_assoc]at this;exact this)
   obtain⟨eR,Y,U,hlen,Z⟩:=FJ ps c0 (off+p.2.length) (lZ (c0+off) σ p.2) C0 C hc h1 D;rw[<- Nat.add_assoc]at Y U hlen Z
   refine⟨eR,Y,λr D=>(U r (by omega)).trans (Pp r D),by simp[rS,hlen],λi q u O E=>?_⟩
   cases i with
   | zero=>
    simp[rS,List.getElem?_cons_zero,ia]at O E;subst O E
    refine uU eR _ (agV _ _) (λj x u I E=>WM p.2 _ j x u I (wA j x u I E) U)
   | succ i=>
    simp[ List.getElem?_cons_succ]at O E;exact Z i q u O E
def ju.home{nm:Nat -> Nat}:∀ (ps:aa Pt) (off:Nat) (C:aa Value) {B':Nat},ju w B af nm off ps C -> B' <= B -> (∀ b,B <= b -> az b=af b) -> (∀ b k,af b=some k -> B <= b) -> ju w B' az nm off ps C
 |[],_,[],_,h,_,_,_=>h
 | p :: ps,off,v :: C,B',h,hB,hl,D=>by
  obtain⟨⟨E,us,O,T,U⟩,Y⟩:=h
  refine⟨⟨E,us,O,T,λj x I=>?_⟩,ju.home ps _ C Y hB hl D⟩
  obtain⟨Z,s8,fo⟩:=U j x I;exact⟨Z,s8,fo.home hB hl D (bN.1 E x (gv I))⟩
def JU(w:World)(o:Oper)(a:Act)(f:Nat)(args:Array Operand)(D:Array TypeId)(E:o.op = .call { callee:=.value (.func f),args,argTypes:=D })(I:enters P f):(execOp a.eval o).run P w = .ok (.enter f (args.map a.eval)) w:=by
 obtain⟨fn,O,T,C⟩:=I;have U:¬ fn.name = "runtime.NumGoroutine":=by simpa using T
 have Y:¬ fn.body=none:=by intro e;rw[e]at C;cases C
 simp[execOp,E,resolve,Act.eval,Deferred.ofValue,invoke,callFunc,Sem.run,O,U,Y]
def agW{f:Nat}{args:Array Operand}{jv:Array TypeId}{c:jh}{k:S->aj X}(ho:o.op = .call { callee:=.value (.func f),args,argTypes:=jv })(hd:o.dst=some d)(he:enters P f)(hc:iL P f c)(wB:d<N){ps:aa Pt}(lD:∀ af ρ a w,Rl w0 N af ρ σ a w->ot w ps (args.toList.map a.eval).toArray)
  (h2:(c.run X ps λD=>mT σ d D k)=some r):∃cG,k cG=some r/\kK P w0 N o σ cG:=by
 obtain⟨D,E,Pu⟩:=(hc.1 ps).lA h2;have FK:=hc.2 ps D (Pu _ _);unfold mT at E;have step:∀ a w K Q af ρ,Rl w0 N af ρ σ a w->(∀ v w' az,Below w.heap.size w w'->Rl w0 N az ρ σ a w'->oW w' w0.heap.size az (λn=>1000000000100000+1000*d+n) D v->K (a.put o.dst v) w')->o.wp P a w K Q:=by
  intro a w K Q af ρ hR T;unfold Oper.wp;rw[JU w o a f args jv ho he,Oper.upon_enter];have wC:(args.map a.eval)=(args.toList.map a.eval).toArray:=by apply Array.ext';rw[Array.toList_map]
  rw[wC]
  refine(FK (λn=>1000000000100000+1000*d+n) w _ (lD af ρ a w hR) (w0.on hR.below (λ_ _ h=>by cases h))).mono λe w' qC=>?_
  obtain⟨v,C1,rfl,U,Y,I⟩:=qC;have hB:=hR.below.size;let dj:bk:=λb=>if b<w.heap.size then af b else C1 b
  have e1:∀b,b<w.heap.size->dj b=af b:=λb hb=>aV hb
  have Z:∀b,w.heap.size<=b->dj b=C1 b:=λb hb=>aW
  refine T v w' dj U (hR.grow U e1 (λb k hb O=>?_)) ?_
  ·rw[Z b hb]at O;exact(Y b k O).2
  ·cases D with
   |one p=>exact ju.home [p] 0 [v] I hB Z (λb k O=>(Y b k O).1)
   | eO wD=>
    obtain⟨C,e,hv⟩:=I;exact⟨C,e,ju.home wD 0 C.toList hv hB Z (λb k O=>(Y b k O).1)⟩
 cases D with
 | one p=>
  simp only at E;split at E
  ·rename_i y hy
   refine⟨_,E,λa w K Q hR T=>?_⟩
   obtain⟨af,ρ,hR⟩:=hR
   refine step a w K Q af ρ hR λv w' az U dc I=>?_
   obtain⟨ρ',ki,_,_,qD⟩:=FJ [p] (1000000000100000+1000*d) 0 σ ρ [v] (by omega) dc I;rw[hd];have Pv:=qD 0 _ v rfl rfl;exact T _ _ ⟨az,ρ',ki.set (OU hy Pv) wB⟩
  ·cases E
 | eO wD=>
  refine⟨_,E,λa w K Q hR T=>?_⟩
  obtain⟨af,ρ,hR⟩:=hR
  refine step a w K Q af ρ hR λv w' az U dc I=>?_
  obtain⟨C,rfl,hv⟩:=I;obtain⟨ρ',ki,_,hlen,qD⟩:=FJ wD (1000000000100000+1000*d) 0 σ ρ C.toList (by omega) dc hv;rw[hd]
  refine T _ _ ⟨az,ρ',ki.set ⟨C,rfl,by simpa using hlen,λj p hp=>?_⟩ wB⟩
  have hj:j<C.size:=by
   have:=(dA.1 hp).1;rw[Nat.add_zero]at hlen;rw[<-hlen]at this
   simpa using this
  exact⟨C[j],Array.getElem?_eq_getElem hj,qD j p _ hp (by rw[Array.getElem?_toList,Array.getElem?_eq_getElem hj])⟩
def WN{f:Nat}{args:Array Operand}{E:Array TypeId}{c:jh}{k:S->aj X}{ev:(aa Pt->aj X)->aj X}(I:o.op = .call { callee:=.value (.func f),args,argTypes:=E })(O:o.dst=some d)(T:enters P f)(U:iL P f c)
  (Y:∀k,ev k=some r->∃ps,k ps=some r/\∀af ρ a w,Rl w0 N af ρ σ a w->ot w ps (args.toList.map a.eval).toArray) (h:rT N σ d c ev k=some r):∃D,k D=some r/\kK P w0 N o σ D:=by
 unfold rT at h;cases C:Nat.blt d N with
 |false=>rw[C]at h;cases h
 | true=>
  rw[C,aq]at h;obtain⟨ps,Z,lD⟩:=Y _ h;exact agW I O T U (cr C) lD Z
end
def dY(af:bk)(rs:aa (Nat×Nat))(nm:Nat->Nat):bk:=λb=>
 match af b with
 |none=>none
 | some k=>match k.getLast? with
  |none=>none
  |some r=>(rs.lookup r).map λn=>k.dropLast++[nm n]
section
variable {P:Program} {w w':World} {w0:Wd} {B N:Nat} {af az:bk} {ρ ρ':Nat->Loc} {σ:S} {a:Act} {X:Type} {d:Nat} {r:X} {rs:aa (Nat×Nat)} {nm:Nat->Nat}
def yU{b:Nat}(h:af b=none):dY af rs nm b=none:=by simp[dY,h]
def RV.dY{p:aa Nat}{r n:Nat}{x:V}{v:Value}(h:RV w B af (p++[r]) x v)(D:rs.lookup r=some n):RV w B (dY af rs nm) (p++[nm n]) x v:=
 h.map (Q:=λq C=>∃ p,q=p++[r]/\C=p++[nm n]) (dz _) (λb _ h=>⟨rfl,yU h⟩) (λb q C _ hl e=>by
  obtain⟨p,rfl,rfl⟩:=e;exact⟨rfl,by simp[Proofs.YtgjfmljpdnnihaaGreat.dY,hl,D],λj i s=>⟨j::i::s::p,rfl,rfl⟩⟩) (.inr ⟨p,rfl,rfl⟩)
def Pw{m:Nat -> aj aP}:∀ (xs:aa Lf) (off:Nat) (ys:aa V) (E:aa (Nat×Nat)),FH m off xs=some (ys,E) -> ys.length=xs.length /\ ∀ (j:Nat) x,xs[j]?=some x -> ∃ y,ys[j]?=some y/\y.loc=true/\((x = .v y/\y.aG=true) \/ ∃ r,x = .own [r]/\m r=some (.sl y)/\(r,off+j)∈E)
 | [],off,ys,E,h=>by
  simp only[FH,ia,Prod.mk.injEq]at h;obtain⟨rfl,rfl⟩:=h;exact⟨rfl,λj x C=>by simp at C⟩
 | x :: xs,off,ys,E,h=>by
  have Z:∀ y z,Po m x=some (y,z) -> y.loc=true/\((z=none/\x = .v y/\y.aG=true) \/ ∃ r,z=some r/\x = .own [r]/\m r=some (.sl y)):=by
   intro y z D;unfold Po at D
   grind
  unfold FH at h;split at h
  ·rename_i y I O T U;simp only[ia,Prod.mk.injEq]at h;obtain⟨rfl,rfl⟩:=h;obtain⟨Y,h2⟩:=Pw xs (off+1) I O U
   refine⟨by simp[Y],λj x' C=>?_⟩
   cases j with
   | zero=>
    simp at C;subst C;obtain⟨hl,D|⟨r,D,_⟩⟩:=Z y none T
    ·simp_all
    ·cases D
   |succ j =>grind
  ·rename_i y r I O T U;simp only[ia,Prod.mk.injEq]at h;obtain⟨rfl,rfl⟩:=h;obtain⟨Y,h2⟩:=Pw xs (off+1) I O U
   refine⟨by simp[Y],λj x' C=>?_⟩
   cases j with
   | zero=>
    simp at C;subst C;obtain⟨hl,D|⟨r',D,e1,e2⟩⟩:=Z y (some r) T
    ·cases D.1
    ·simp_all
   |succ j =>grind
  ·cases h
def Px{m:Nat -> aj aP}(hm:∀ r x,m r=some x -> dM w B af ρ r x):∀ (ps:aa (Bool×aa Lf)) (off:Nat) (I:aa Pt) (O:aa (Nat×Nat)) (C:aa Value),CZ m off ps=some (I,O) -> (∀ p∈O,rs.lookup p.1=some p.2) -> C.length=ps.length ->
  (∀(i:Nat) p v,ps[i]?=some p -> C[i]?=some v -> RP w B af ρ p v) -> ju w B (dY af rs nm) nm off I C
 | [],off,I,O,C,h,_,hl,_=>by
  have:C=[]:=List.eq_nil_of_length_eq_zero hl;subst this;simp only[CZ,ia,Prod.mk.injEq]at h;obtain⟨rfl,rfl⟩:=h;trivial
 | p :: ps,off,I,O,C,h,gO,hl,hp=>by
  cases C with
  |nil=>simp at hl
  | cons v C=>
   unfold CZ at h;split at h
   ·rename_i ys rs1 qs' AX h1 h2;simp only[ia,Prod.mk.injEq]at h;obtain⟨rfl,rfl⟩:=h;obtain⟨hlen,Jl⟩:=Pw _ _ _ _ h1;have uR:=Px hm ps _ qs' AX C h2 (λq hq=>gO q (List.mem_append_right _ hq)) (by simpa using hl) (λi q u hq hu=>hp (i+1) q u (by simpa using hq) (by simpa using hu));have yV:=hp 0 p v rfl rfl;have key:∀ us:Array Value,ez w B af ρ p.2 us -> (us.size=ys.length /\ ∀ (j:Nat) x,ys[j]?=some x -> ∃ u,us[j]?=some u/\RV w B (dY af rs nm) [nm (off+j)] x u):=by
     intro us T
     refine⟨by rw[hlen];exact T.1,λj y U=>?_⟩
     have Y:j<p.2.length:=by rw[<- hlen];exact(dA.1 U).1
     obtain⟨y',E,Py,hz⟩:=Jl j _ (bH Y);rw[U]at E;injection E with E;subst E;obtain⟨u,hu,Z⟩:=T.2 j _ (bH Y);refine⟨u,hu,?_⟩;rcases hz with ⟨e,hf⟩|⟨r,e,hmr,rV⟩
     ·rw[e]at Z;exact(Z.2.Jp hf (λb=>yU)).key hf
     ·rw[e]at Z;have eI:=hm r _ hmr;generalize D:aP.sl y=z at eI;cases eI with
      |ay=>cases D
      |mp=>cases D
      |gh=>cases D
      | sl v' y' bV jI=>
       injection D with D;subst D;have FL:v'=u:=by
        have h4:=Z.2;simp only[cF,bV]at h4;simp_all
       subst FL;exact RV.dY (p:=[]) jI (gO (r,off+j) (List.mem_append_left _ rV))
    refine⟨⟨?_,?_⟩,?_⟩
    ·rw[bN];intro y U;obtain⟨j,Y⟩:=List.mem_iff_getElem?.1 U;have vZ:j<p.2.length:=by rw[<- hlen];exact(dA.1 Y).1
     obtain⟨y',E,Py,_⟩:=Jl j _ (bH vZ);simp_all
    ·obtain⟨b,xs⟩:=p;cases b with
     | true=>
      obtain⟨us,e,T⟩:=yV;obtain⟨k1,k2⟩:=key us T;exact⟨us,e,k1,k2⟩
     | false=>
      obtain⟨k1,k2⟩:=key #[v] yV;exact⟨#[v],rfl,k1,k2⟩
    ·grind
   ·cases h
def agX{t:TypeId}{x:A}{k:A->aj X}(h:nt P σ t x k=some r){u:Value}(C:RA w B af ρ x u):∃ ad,u = .pointer (some ad):=by
 unfold nt at h;split at h
 ·cases h
 ·split at h
  ·obtain⟨b,off,_,rfl⟩:=C;exact⟨_,rfl⟩
  ·obtain⟨b,off,rfl,_⟩:=C;exact⟨_,rfl⟩
  ·obtain⟨ad,rfl,_⟩:=C;exact⟨_,rfl⟩
  ·cases h
def WO{x:A}{p:Bool×aa Lf}(h:JT x=some p){u:Value}(D:RA w B af ρ x u):RP w B af ρ p u:=by
 unfold JT at h;split at h
 ·injection h with h;subst h
  refine⟨rfl,λj y C=>?_⟩
  cases j with
  |zero=>simp at C;subst C;exact⟨u,rfl,D⟩
  |succ j=>simp at C
 ·injection h with h;subst h;exact D
 ·cases h
def qE(tmps:Array Value):ResultVar->Sem Value
 |.tmp t=>pure (tmps.getD t undef)
 |.cell a t=>do loadVar t (<-asAddr (tmps.getD a undef))
def FM:∀ (l:aa ResultVar) (k:aa (Bool×aa Lf) -> aj X),rU P σ l k=some r -> ∃ ps,k ps=some r /\ ∀ af ρ a w,Rl w0 N af ρ σ a w -> ∃ C,(l.mapM (qE a.tmps)).run P w = .ok C w/\C.length=ps.length /\ ∀ (i:Nat) p v,ps[i]?=some p -> C[i]?=some v -> RP w w0.heap.size af ρ p v
 |[],k,h=>⟨[],h,λ_ _ _ _ _=>⟨[],rfl,rfl,λi p v D=>by simp at D⟩⟩
 | .tmp t :: rest,k,h=>by
  simp only[rU]at h;split at h
  ·rename_i p D;obtain⟨ps,T,U⟩:=FM rest _ h
   refine⟨p::ps,T,λaf ρ a w hR=>?_⟩
   obtain⟨C,Y,hl,hv⟩:=U af ρ a w hR
   refine⟨a.tmps.getD t undef::C,?_,by simp[hl],λi q u E I=>?_⟩
   ·rw[List.mapM_cons];simp[qE,Sem.run_pure,lU,fQ,Y]
   ·cases i with
    |zero=>simp only[List.getElem?_cons_zero,ia]at E I;subst E I;exact WO D (hR.tmp t)
    |succ i=>grind
  ·cases h
 | .cell c ty :: rest,k,h=>by
  simp only[rU]at h;obtain⟨y,Z,hld⟩:=Wa (w0:=w0) (N:=N) h;split at Z
  ·rename_i p D;obtain⟨ps,T,U⟩:=FM rest _ Z
   refine⟨p::ps,T,λaf ρ a w hR=>?_⟩
   obtain⟨C,Y,hl,hv⟩:=U af ρ a w hR;obtain⟨v,O,wz⟩:=hld af ρ a w hR _ (hR.tmp c);obtain⟨ad,n7⟩:=agX h (hR.tmp c);rw[n7]at O;have O:(loadVar ty ad).run P w = .ok v w:=by
    simpa [Instr.loadAt,Instr.sureAddr]using O
   refine⟨v::C,?_,by simp[hl],λi q u E I=>?_⟩
   ·rw[List.mapM_cons];simp[qE,n7,asAddr,Sem.run_pure,lU,fQ,Y,O]
   ·cases i with
    |zero=>simp at E I;subst E I;exact WO D wz
    |succ i=>grind
  ·cases Z
def agY{fn:Func}{k:fO -> aj X}(h:FI P σ fn.results k=some r):∃ Z,k Z=some r /\ ∀ af ρ a w,Rl w0 N af ρ σ a w -> ∀ nm,∃ v az,(results fn a.tmps).run P w = .ok v w/\(∀ b k,az b=some k -> (w0.heap.size <= b \/ w0.L b≠none)/\b<w.heap.size/\k≠[])/\oW w w0.heap.size az nm Z v:=by
 unfold FI at h;obtain⟨ps,I,qD⟩:=FM (w0:=w0) (N:=N) _ _ h;clear h;split at I
 ·rename_i T rs Pz;cases ho:once rs with
  |false=>grind
  | true=>
   rw[ho,aq]at I;have gO:∀ p∈rs,rs.lookup p.1=some p.2:=by
    intro p hp;have:=bN.1 ho p hp;obtain⟨n,hn,he⟩:=(Option.any_eq_true _ _).1 this;simp_all
   have core:∀ af ρ a w,Rl w0 N af ρ σ a w -> ∀ nm:Nat -> Nat,∃ C:aa Value,(fn.results.mapM (qE a.tmps)).run P w = .ok C.toArray w/\(∀ b k,dY af rs nm b=some k -> (w0.heap.size <= b \/ w0.L b≠none)/\b<w.heap.size/\k≠[])/\ju w w0.heap.size (dY af rs nm) nm 0 T C:=by
    intro af ρ a w hR nm;obtain⟨C,O,hl,hv⟩:=qD af ρ a w hR
    refine⟨C,?_,λb k E=>?_,Px hR.root ps 0 T rs C Pz gO hl hv⟩
    ·rw[Array.mapM_eq_mapM_toList];simp[O]
    ·unfold dY at E;split at E
     ·cases E
     ·rename_i k' oh;have:=hR.cL b k' oh;split at E
      ·cases E
      ·cases tC:rs.lookup _ with
       |none=>rw[tC]at E;cases E
       | some n=>
        rw[tC]at E;injection E with E;subst E;simp_all
   have jL:∀ (tmps:Array Value),results fn tmps=(do let C <- fn.results.mapM (qE tmps);pure (if h:C.size=1 then C[0]else .tuple C)):=λtmps=>by
    unfold results;congr 1
   split at I
   ·rename_i p
    refine⟨_,I,λaf ρ a w hR nm=>?_⟩
    obtain⟨C,O,U,D⟩:=core af ρ a w hR nm
    match C,D with
    |[v],D=>exact⟨v,_,by rw[jL,fQ,O];rfl,U,D⟩
    |[],D=>exact D.elim
    |_::_::_,D=>exact D.2.elim
   ·rename_i Y
    refine⟨_,I,λaf ρ a w hR nm=>?_⟩
    obtain⟨C,O,U,D⟩:=core af ρ a w hR nm;have gZ:C.toArray.size≠1:=by
     intro e
     match T,C,D,Y with
     |[q],[v],_,Y=>exact Y q rfl
     |[],[v],D,_=>exact D.elim
     |_::_::_,[v],D,_=>exact D.2.elim
    refine⟨.tuple C.toArray,_,?_,U,C.toArray,rfl,D⟩;rw[jL,fQ,O,lU];simp only[gZ,dif_neg,not_false_eq_true,Sem.run_pure]
 ·cases I
end
inductive In where
 |ay (cs:List V)
 |sl (y:V)
def nF(i:Nat):Nat:=20000+1000*i
def nC(i j:Nat)(x:V):Nat:=bif x.aG then 20001+1000*i+j else 60000+1000*i+j
def yW(i j:Nat)(x:V):Lf:=bif x.plain then .v x else .own [nC i j x]
def yX(i:Nat):Nat->aa V->aa Lf
 |_,[]=>[]
 |j,x::xs=>yW i j x::yX i (j+1) xs
def PB(i:Nat):Nat->aa V->(Nat->aj aP)->(Nat->aj aP)
 |_,[],m=>m
 |j,x::xs,m=>PB i (j+1) xs (bif x.plain then m else bG m (nC i j x) (some (.sl x)))
def JV:Nat->aa In->(Nat->aj aP)->(Nat->aj aP)
 |_,[],m=>m
 |i,.ay cs::r,m=>JV (i+1) r (PB i 0 cs (bG m (nF i) (some (.ay (yX i 0 cs)))))
 |i,.sl y::r,m=>JV (i+1) r (bG m (nF i) (some (.sl y)))
inductive Ar where
 |pt (p:Pt)
 |mut (i off:Nat)
def PC(C:aa In):Ar->A
 |.pt (false,[x])=>.lf (.v x)
 |.pt (true,xs)=>.agg (xs.map .v)
 |.pt (false,.bool false::.int .i64 g::c::cs)=>.mO g.toNat (c::cs)
 |.pt _=>.undef
 | .mut i off=>match C[i]? with
  |some (.ay _)=>.aH (nF i) off
  |some (.sl _)=>.lf (.own [nF i])
  |none=>.undef
def wE(C:aa In)(args:aa Ar):S:=⟨λk=>match args[k]? with
 |some x=>PC C x
 |none=>.undef,JV 0 C (λ_=>none)⟩
def qF(w w':World)(az:bk)(ρ:Nat->Loc)(nm:Nat->Nat):Nat->Nat->aa In->aa In->Prop
 |_,_,[],[]=>True
 | i,D,.ay cs :: r,.ay eM :: I=>(∃ b off cells O e U,ρ (nF i) = .ay b off/\w.heap[b]?=some (.cells cells e (0,0))/\w'.heap[b]?=some (.cells O U (0,0))/\az b=some [nm D]/\off+eM.length<=O.size/\eM.length=cs.length/\
   ∀(j:Nat) C,eM[j]?=some C->∃u,O[off+j]?=some u/\((C.plain=true/\∀(w:World) (B:Nat) (af:bk) (q:aa Nat),RV w B af q C u)\/(C = .nil/\u = .slice none 0 0/\∃E,cs[j]?=some E/\E.aG=false)\/(C.plain=false/\C.aG=true/\C.jG=true/\(∃E,cs[j]?=some E/\Wk E C)/\cells[off+j]?=some u)\/(C.aG=false/\RV w' w.heap.size az [nm (D+1+j)] C u)))/\
   qF w w' az ρ nm (i+1) (D+1+cs.length) r I
 |i,D,.sl y::r,.sl T::I=>(T = .nil\/∃v,ρ (nF i) = .dn v/\RV w' w.heap.size az [nm D] T v)/\qF w w' az ρ nm (i+1) (D+1) r I
 |_,_,_,_=>False
def FN(w w':World)(az:bk)(ρ:Nat->Loc)(nm:Nat->Nat):Nat->Nat->aa In->aa In->Prop
 |_,_,[],[]=>True
 | i,D,.ay cs :: r,.ay eM :: E=>(∃ b off cells I e T,ρ (nF i) = .ay b off/\w.heap[b]?=some (.cells cells e (0,0))/\w'.heap[b]?=some (.cells I T (0,0))/\az b=some [nm D]/\off+eM.length<=I.size/\eM.length=cs.length/\
   ∀(j:Nat) C,eM[j]?=some C->∃u,I[off+j]?=some u/\((C.plain=true/\∀(w:World) (B:Nat) (af:bk) (q:aa Nat),RV w B af q C u)\/(C.plain=false/\C.aG=true/\cells[off+j]?=some u)\/(C.aG=false/\RV w' w.heap.size az [nm (D+1+j)] C u)))/\
   FN w w' az ρ nm (i+1) (D+1+cs.length) r E
 |i,D,.sl y::r,.sl O::E=>(O = .nil\/∃v,ρ (nF i) = .dn v/\RV w' w.heap.size az [nm D] O v)/\FN w w' az ρ nm (i+1) (D+1) r E
 |_,_,_,_=>False
def fO.len:fO->Nat
 |.one p=>p.2.length
 |.eO ps=>(ps.map λp=>p.2.length).sum
def ou(w:World)(B:Nat)(af:bk)(ρ:Nat->Loc):Nat->aa In->Prop
 |_,[]=>True
 |i,.ay cs::r=>dM w B af ρ (nF i) (.ay (yX i 0 cs))/\(∀(j:Nat) x,cs[j]?=some x->x.plain=false->dM w B af ρ (nC i j x) (.sl x))/\ou w B af ρ (i+1) r
 |i,.sl y::r=>dM w B af ρ (nF i) (.sl y)/\ou w B af ρ (i+1) r
/-! The end: what is given back,and what the written parameters hold. -/
def PD(m:Nat->aj aP)(i j:Nat)(C:V):Lf->aj (V×aj Nat)
 |.v x=>bif x.plain then some (x,none)else (bif !x.jG && !C.aG then some (.nil,none)else none)
 | .own [r]=>match m r with
  |some (.sl y)=>bif y.aG then (bif !C.plain&&(C.aG&&C.jG)&&Nat.beq r (20001+1000*i+j)&&Nat.blt r 60000 then some (C,none)else none)else (bif y.loc then some (y,some r)else none)
  |_=>none
 |_=>none
def AY(m:Nat->aj aP)(i C:Nat):Nat->aa V->aa Lf->aj (aa V×aa (Nat×Nat))
 |_,[],[]=>some ([],[])
 | j,D :: xs,l :: E=>match PD m i j D l,AY m i C (j+1) xs E with
  |some (y,none),some (ys,rs)=>some (y::ys,rs)
  |some (y,some r),some (ys,rs)=>some (y::ys,(r,C+1+j)::rs)
  |_,_=>none
 |_,_,_=>none
def V.gone:V->Bool
 |.sl _ o _ _=>Nat.ble 1000000 o
 |_=>false
def yY(m:Nat->aj aP):Nat->Nat->aa In->aj (aa In×aa (Nat×Nat))
 |_,_,[]=>some ([],[])
 | i,C,.ay cs :: r=>match bif Nat.blt (nF i) 60000 then m (nF i)else none with
  | some (.ay I)=>match AY m i C 0 cs I,yY m (i+1) (C+1+cs.length) r with
   |some (eM,rs),some (os,D)=>some (.ay eM::os,(nF i,C)::(rs++D))
   |_,_=>none
  |_=>none
 | i,C,.sl O :: r=>bif O.gone then (match yY m (i+1) (C+1) r with
   |some (os,D)=>some (.sl .nil::os,D)
   |none=>none)else match bif Nat.blt (nF i) 60000 then m (nF i)else none with
  | some (.sl E)=>bif E.loc && !E.aG then (match yY m (i+1) (C+1) r with
   |some (os,D)=>some (.sl E::os,(nF i,C)::D)
   |none=>none)else none
  |_=>none
def FO{X:Type}(P:Program)(σ:S)(fn:Array ResultVar)(C:aa In)(k:aa In->fO->aj X):aj X:=
 rU P σ fn.toList λps=>match CZ σ.m 0 ps with
  | some (qs,rs)=>match yY σ.m 0 (qs.map λp=>p.2.length).sum C with
   | some (os,D)=>bif once (rs++D)then (match qs with
    |[p]=>k os (.one p)
    |qs=>k os (.eO qs))else none
   |none=>none
  |none=>none
/-! Types of parameters and results. -/
def iq:aa (Bool×TC×Nat)->Type
 |[]=>ah
 |[(_,t,_)]=>T t
 |(_,t,_)::r=>T t×iq r
def tD:(l:aa (Bool×TC×Nat))->iq l->aa Pt
 |[],_=>[]
 |[(b,t,g)],x=>[(b,enc t g x)]
 |(b,t,g)::q::r,x=>(b,enc t g x.1)::tD (q::r) x.2
def oX:(l:aa (Bool×TC×Nat))->aa Pt->aj (iq l)
 |[],[]=>some ()
 |[(b,t,g)],[(C,D)]=>bif b==C then dec t g D else none
 | (b,t,g) :: q :: r,(C,D) :: ps=>bif b==C then (match dec t g D,oX (q :: r) ps with
  |some x,some xs=>some (x,xs)
  |_,_=>none)else none
 |_,_=>none
def lE(l:aa (Bool×TC×Nat)):fO->aj (iq l)
 |.one p=>oX l [p]
 |.eO ps=>bif Nat.beq ps.length 1 then none else oX l ps
def eJ(l:aa (Bool×TC×Nat))(x:iq l):fO:=
 match tD l x with
 |[p]=>.one p
 |ps=>.eO ps
inductive PK where
 |v (b:Bool) (t:TC)
 |p (t:TC) (g off:Nat)
 |s (t:TC) (g:Nat)
def kN:aa PK->Type
 |[]=>ah
 |.v _ t::r=>T t×kN r
 |.p t _ _::r=>T t×kN r
 |.s t _::r=>aa (T t)×kN r
def qG:aa (Bool×TC×Nat)->Type
 |[]=>ah
 |(true,t,_)::r=>T t×qG r
 |(false,t,_)::r=>aa (T t)×qG r
def iM:(l:aa (Bool×TC×Nat))->qG l->aa In
 |[],_=>[]
 |(true,t,g)::r,x=>.ay (enc t g x.1)::iM r x.2
 |(false,t,g)::r,x=>.sl (bif Nat.ble 1000000 g then .nil else .sl t (g+2) false x.1)::iM r x.2
def dZ:aa PK->aa (Bool×TC×Nat)
 |[]=>[]
 |.v _ _::r=>dZ r
 |.p t g _::r=>(true,t,g)::dZ r
 |.s t g::r=>(false,t,g)::dZ r
def mU:(l:aa PK)->kN l->aa In
 |[],_=>[]
 |.v _ _::r,x=>mU r x.2
 |.p t g _::r,x=>.ay (enc t g x.1)::mU r x.2
 |.s t g::r,x=>.sl (.sl t (g+2) false x.1)::mU r x.2
def jM:(l:aa PK)->Nat->kN l->aa Ar
 |[],_,_=>[]
 |.v b t::r,i,x=>.pt (b,enc t 0 x.1)::jM r i x.2
 |.p _ _ off::r,i,x=>.mut i off::jM r (i+1) x.2
 |.s _ _::r,i,x=>.mut i 0::jM r (i+1) x.2
structure mV where
 ps:List PK
 ro:List (Bool×TC×Nat)
 F:kN ps->Option (iq ro×qG (dZ ps))
def uV(P:Program)(f:Nat)(c:mV):Prop:=
 ∀ x y,c.F x=some y->∀ (nm:Nat->Nat) (w:World) (af:bk) (ρ:Nat->Loc) (bB:Array Value),ou w w.heap.size af ρ 0 (mU c.ps x)->(∀ b k,af b=some k->b<w.heap.size/\k≠[])->
     bB.size=c.ps.length->(∀i,RA w w.heap.size af ρ ((wE (mU c.ps x) (jM c.ps 0 x)).t i) (bB.getD i undef))->∀C:Hd w af,
     Calls P f bB w λe w'=>∃v az,e = .returned v/\iY ⟨w,af,λ_=>none,C,λ_ _=>rfl⟩ w w'/\(∀b k,az b=some k->(w.heap.size<=b\/af b≠none)/\b<w'.heap.size/\k≠[])/\oW w' w.heap.size az nm (eJ c.ro y.1) v/\FN w w' az ρ nm 0 (eJ c.ro y.1).len (mU c.ps x) (iM (dZ c.ps) y.2)
def FP(w:World)(ρ:Nat->Loc):Nat->aa In->Prop
 |_,[]=>True
 |i,.ay cs::r=>(∃b off cells e,ρ (nF i) = .ay b off/\w.heap[b]?=some (.cells cells e (0,0))/\∀(j:Nat) x,cs[j]?=some x->x.plain=false->x.aG=true->∃u,cells[off+j]?=some u/\ρ (20001+1000*i+j) = .dn u)/\FP w ρ (i+1) r
 |i,.sl y::r=>(∃v,ρ (nF i) = .dn v)/\FP w ρ (i+1) r
section
variable {P:Program} {w w':World} {w0:Wd} {B N:Nat} {af az:bk} {ρ ρ':Nat->Loc} {σ:S} {a:Act} {X:Type} {d:Nat} {r:X} {rs:aa (Nat×Nat)} {nm:Nat->Nat}
def PE{m:Nat -> aj aP}{i pos:Nat}:∀ (xs:aa V) (T:aa Lf) (D:Nat) (ys:aa V) (U:aa (Nat×Nat)),AY m i pos D xs T=some (ys,U) -> ys.length=xs.length/\T.length=xs.length /\
  ∀(j:Nat) y,ys[j]?=some y -> ∃l x0,T[j]?=some l/\xs[j]?=some x0/\((l = .v y/\y.plain=true) \/ (l = .v .nil/\y = .nil/\x0.aG=false) \/ (l = .own [20001+1000*i+(D+j)]/\y=x0/\y.plain=false/\(y.aG&&y.jG)=true/\20001+1000*i+(D+j)<60000) \/ (∃q,l = .own [q]/\m q=some (.sl y)/\y.aG=false/\(q,pos+1+(D+j))∈U))
 | [],[],D,ys,U,h=>by
  simp only[AY,ia,Prod.mk.injEq]at h;obtain⟨rfl,rfl⟩:=h;exact⟨rfl,rfl,λj y Z=>by simp at Z⟩
 |[],_::_,D,ys,U,h=>by simp[AY]at h
 |_::_,[],D,ys,U,h=>by simp[AY]at h
 | x0 :: xs,l :: T,D,ys,U,h=>by
  have hc:∀ y z,PD m i D x0 l=some (y,z) -> (z=none/\l = .v y/\y.plain=true) \/ (z=none/\l = .v .nil/\y = .nil/\x0.aG=false) \/ (z=none/\l = .own [20001+1000*i+D]/\y=x0/\y.plain=false/\(y.aG&&y.jG)=true/\20001+1000*i+D<60000) \/ (∃ q,z=some q/\l = .own [q]/\m q=some (.sl y)/\y.aG=false):=by
   intro y z C;unfold PD at C;split at C
   ·rename_i x;cases hp:x.plain with
    | false=>
     rw[hp,av]at C;cases hb:(!x.jG && !x0.aG)with
     |false=>rw[hb]at C;cases C
     | true=>
      rw[hb,aq]at C;simp only[ia,Prod.mk.injEq]at C;obtain⟨rfl,rfl⟩:=C;rw[aJ,fH,fH]at hb;have hx:x = .nil:=by
       cases x<;>first|rfl|(exact absurd hb.1 (by simp[V.jG]))
      subst hx;exact .inr (.inl ⟨rfl,rfl,rfl,hb.2⟩)
    |true =>grind
   ·rename_i q;split at C
    ·rename_i y1 hy1;cases hf:y1.aG with
     | true=>
      rw[hf,aq]at C;cases hb:(!x0.plain&&(x0.aG&&x0.jG)&&Nat.beq q (20001+1000*i+D)&&Nat.blt q 60000)with
      |false=>rw[hb]at C;cases C
      | true=>
       rw[hb,aq]at C;simp only[ia,Prod.mk.injEq]at C;obtain⟨rfl,rfl⟩:=C;rw[aJ,aJ,aJ,fH]at hb;obtain⟨⟨⟨b1,b2⟩,b3⟩,b4⟩:=hb;obtain rfl:=cE b3;exact .inr (.inr (.inl ⟨rfl,rfl,rfl,b1,b2,by have:=cr b4;omega⟩))
     | false=>
      rw[hf,av]at C;cases hl:y1.loc with
      |false=>rw[hl]at C;cases C
      |true =>grind
    ·cases C
   ·cases C
  unfold AY at h;split at h
  ·rename_i y PF PG Z yP;simp only[ia,Prod.mk.injEq]at h;obtain⟨rfl,rfl⟩:=h;obtain⟨h1,h2,h3⟩:=PE xs T (D+1) PF PG yP
   refine⟨by simp[h1],by simp[h2],λj y' E=>?_⟩
   cases j with
   | zero=>
    simp at E;subst E;refine⟨l,x0,rfl,rfl,?_⟩;rcases hc y none Z with ⟨_,I,O⟩|⟨_,I,O,Y⟩|⟨_,I,O,Y,e4,e5⟩|⟨q,hq,_⟩
    ·simp[*]
    ·simp[*]
    ·exact .inr (.inr (.inl ⟨I,O,Y,e4,e5⟩))
    ·cases hq
   | succ j=>
    obtain⟨l',x',g1,g2,g3⟩:=h3 j y' (by simpa using E);rw[show D+1+j=D+(j+1) by omega]at g3;exact⟨l',x',by simpa using g1,by simpa using g2,g3⟩
  ·rename_i y q PF PG Z yP;simp only[ia,Prod.mk.injEq]at h;obtain⟨rfl,rfl⟩:=h;obtain⟨h1,h2,h3⟩:=PE xs T (D+1) PF PG yP
   refine⟨by simp[h1],by simp[h2],λj y' E=>?_⟩
   cases j with
   | zero=>
    simp at E;subst E;refine⟨l,x0,rfl,rfl,?_⟩;rcases hc y (some q) Z with ⟨e0,_⟩|⟨e0,_⟩|⟨e0,_⟩|⟨q',hq,I,O,Y⟩
    ·cases e0
    ·cases e0
    ·cases e0
    ·injection hq with hq;subst hq;exact .inr (.inr (.inr ⟨q,I,O,Y,.head _⟩))
   | succ j=>
    obtain⟨l',x',g1,g2,g3⟩:=h3 j y' (by simpa using E);rw[show D+1+j=D+(j+1) by omega]at g3;exact⟨l',x',by simpa using g1,by simpa using g2,g3.imp id (λg=>g.imp id (λg=>g.imp id λ⟨q',I,O,Y,e4⟩=>⟨q',I,O,Y,.tail _ e4⟩))⟩
  ·cases h
def JW{w1:World}{PI:Nat -> Loc}{m:Nat -> aj aP}(T:∀ r,20000 <= r -> r<60000 -> ρ r=PI r)(U:∀ r x,m r=some x -> dM w w1.heap.size af ρ r x):
  ∀(ins:aa In) (i Z:Nat) (outs:aa In) (FQ:aa (Nat×Nat)),yY m i Z ins=some (outs,FQ) -> (∀p∈FQ,rs.lookup p.1=some p.2) -> FP w1 PI i ins -> qF w1 w (dY af rs nm) PI nm i Z ins outs
 | [],i,Z,outs,FQ,h,I,he=>by
  simp only[yY,ia,Prod.mk.injEq]at h;obtain⟨rfl,rfl⟩:=h;trivial
 | .ay cs :: r,i,Z,outs,FQ,h,I,he=>by
  unfold yY at h;cases hi:Nat.blt (nF i) 60000 with
  |false=>grind
  | true=>
   rw[hi,aq]at h;have hi:=cr hi;split at h
   ·rename_i ls PJ;split at h
    ·rename_i eM rs1 os AX h1 h2;simp only[ia,Prod.mk.injEq]at h;obtain⟨rfl,rfl⟩:=h;obtain⟨⟨b,off,cells,e,WQ,Ph,qH⟩,FR⟩:=he;obtain⟨k1,k2,k3⟩:=PE _ _ _ _ _ h1
     refine⟨?_,JW T U r (i+1) _ os AX h2 (λp D=>I p (.tail _ (List.mem_append_right _ D))) FR⟩
     have O:=U _ _ PJ;have PL:=T (nF i) (by unfold nF;omega) (by omega);generalize C:aP.ay ls=x at O;cases O with
     |sl=>cases C
     |mp=>cases C
     |gh=>cases C
     | ay b' AL wF e' ls' us E hl hh hs hc=>
      injection C with C;subst C;rw[PL,WQ]at E;injection E with e1 e2;subst e1 e2
      refine⟨b,off,cells,wF,e,e',WQ,Ph,hh,?_,by rw[k1,<- k2];exact hs,k1,λj y hy=>?_⟩
      ·have:=I _ (List.Mem.head _);simp[dY,hl,this]
      ·obtain⟨l,x0,g1,g2,g3⟩:=k3 j y hy;obtain⟨c1,c2⟩:=hc j l g1;refine⟨_,c1,?_⟩;rw[ff]at g3;rcases g3 with ⟨rfl,D⟩ | ⟨rfl,rfl,JK⟩ | ⟨rfl,rfl,D,yL,c9⟩ | ⟨q,rfl,hq,hf,rV⟩
       ·exact .inl ⟨D,λ_ _ _ _=>c2.2.s9 D⟩
       ·exact .inr (.inl ⟨rfl,by have h9:=c2.2;generalize us j=u9 at h9 ⊢;cases h9;rfl,x0,g2,JK⟩)
       ·rw[aJ]at yL;obtain⟨hf,PN⟩:=yL;obtain⟨u,hu,agZ⟩:=qH j y g2 D hf;refine .inr (.inr (.inl ⟨D,hf,PN,⟨y,g2,.same _⟩,?_⟩));have Y:=c2.2;have PO:=T (20001+1000*i+j) (by omega) c9;simp only[cF,PO,agZ]at Y;simp_all
       ·refine .inr (.inr (.inr ⟨hf,?_⟩));have O:=U _ _ hq;generalize C:aP.sl y=x at O;cases O with
        |ay=>cases C
        |mp=>cases C
        |gh=>cases C
        | sl v y' E hr=>
         injection C with C;subst C;have Y:=c2.2;simp only[cF,E]at Y;injection Y with Y;rw[<- Y];exact RV.dY (p:=[]) hr (I _ (.tail _ (List.mem_append_left _ rV)))
    ·cases h
   ·cases h
 | .sl y :: r,i,Z,outs,FQ,h,I,he=>by
  unfold yY at h;cases hg:y.gone with
  | true=>
   rw[hg,aq]at h;split at h
   next os AX h2=>simp at h;obtain⟨rfl,rfl⟩:=h;exact⟨.inl rfl,JW T U r _ _ os AX h2 I he.2⟩
   ·cases h
  |false=>
  rw[hg,av]at h;cases hi:Nat.blt (nF i) 60000 with
  |false=>grind
  | true=>
   rw[hi,aq]at h;have hi:=cr hi;split at h
   ·rename_i y' FD;cases hl:(y'.loc && !y'.aG)with
    |false=>grind
    | true=>
     rw[hl,aq]at h;split at h
     ·rename_i os AX h2;simp only[ia,Prod.mk.injEq]at h;obtain⟨rfl,rfl⟩:=h;obtain⟨⟨v,hv⟩,FR⟩:=he
      refine⟨.inr ⟨v,hv,?_⟩,JW T U r (i+1) _ os AX h2 (λp D=>I p (.tail _ D)) FR⟩
      have PL:=T (nF i) (by unfold nF;omega) (by omega);have O:=U _ _ FD;generalize C:aP.sl y'=x at O;cases O with
      |ay=>cases C
      |mp=>cases C
      |gh=>cases C
      | sl v' y'' E hr=>
       injection C with C;subst C;rw[PL,hv]at E;injection E with E;subst E;exact RV.dY (p:=[]) hr (I _ (.head _))
     ·cases h
   ·cases h
def ag0{w1:World}{U:Nat -> Loc}{fn:Func}{O:aa In}{k:aa In -> fO -> aj X}(hw:w0.w=w1)(hF:∀ r,20000 <= r -> r<60000 -> w0.F r=some (U r))(he:FP w1 U 0 O)(h:FO P σ fn.results O k=some r):
  ∃outs res,k outs res=some r /\ ∀af ρ a w,Rl w0 N af ρ σ a w -> ∀nm,∃v az,(results fn a.tmps).run P w = .ok v w/\(∀b k,az b=some k -> (w0.heap.size <= b \/ w0.L b≠none)/\b<w.heap.size/\k≠[])/\oW w w0.heap.size az nm res v/\qF w1 w az U nm 0 res.len O outs:=by
 unfold FO at h;obtain⟨ps,E,qD⟩:=FM (w0:=w0) (N:=N) _ _ h;clear h;split at E
 ·rename_i qs PR Pz;split at E
  ·rename_i os PS hos;cases ho:once (PR++PS)with
   |false=>rw[ho]at E;cases E
   | true=>
    rw[ho,aq]at E;generalize WR:PR++PS=rs at ho;have gO:∀ p∈rs,rs.lookup p.1=some p.2:=by
     intro p Y;have:=bN.1 ho p Y;obtain⟨n,hn,he⟩:=(Option.any_eq_true _ _).1 this;simp_all
    have core:∀ af ρ a w,Rl w0 N af ρ σ a w -> ∀ nm:Nat -> Nat,∃ C:aa Value,(fn.results.mapM (qE a.tmps)).run P w = .ok C.toArray w/\(∀ b k,dY af rs nm b=some k -> (w0.heap.size <= b \/ w0.L b≠none)/\b<w.heap.size/\k≠[])/\ju w w0.heap.size (dY af rs nm) nm 0 qs C /\
      qF w1 w (dY af rs nm) U nm 0 (qs.map λp=>p.2.length).sum O os:=by
     intro af ρ a w hR nm;obtain⟨C,Z,hl,hv⟩:=qD af ρ a w hR
     refine⟨C,?_,λb k I=>?_,Px hR.root ps 0 qs PR C Pz (λp Y=>gO p (by rw[<- WR];exact List.mem_append_left _ Y)) hl hv,
      JW (λr h1 E=>hR.fix r _ (hF r h1 E)) (by rw[<- hw];exact hR.root) O 0 _ os PS hos (λp Y=>gO p (by rw[<- WR];exact List.mem_append_right _ Y)) he⟩
     ·rw[Array.mapM_eq_mapM_toList];simp[Z]
     ·unfold dY at I;split at I
      ·cases I
      ·rename_i k' oh;have:=hR.cL b k' oh;split at I
       ·cases I
       ·cases tC:rs.lookup _ with
        |none=>rw[tC]at I;cases I
        | some n=>
         rw[tC]at I;injection I with I;subst I;simp_all
    have jL:∀ (tmps:Array Value),results fn tmps=(do let C <- fn.results.mapM (qE tmps);pure (if h:C.size=1 then C[0]else .tuple C)):=λtmps=>by
     unfold results;congr 1
    split at E
    ·rename_i p
     refine⟨_,_,E,λaf ρ a w hR nm=>?_⟩
     obtain⟨C,Z,nD,D,T⟩:=core af ρ a w hR nm;have T:qF w1 w (dY af rs nm) U nm 0 (fO.one p).len O os:=by simpa [fO.len]using T
     match C,D with
     |[v],D=>exact⟨v,_,by rw[jL,fQ,Z];rfl,nD,D,T⟩
     |[],D=>exact D.elim
     |_::_::_,D=>exact D.2.elim
    ·rename_i ck
     refine⟨_,_,E,λaf ρ a w hR nm=>?_⟩
     obtain⟨C,Z,nD,D,T⟩:=core af ρ a w hR nm;have gZ:C.toArray.size≠1:=by
      intro e;clear T;have e:C.length=1:=by simpa using e
      match qs,C,D,ck,e with
      |[q],[v],_,ck,_=>exact ck q rfl
      |[],[v],D,_,_=>exact D.elim
      |_::_::_,[v],D,_,_=>exact D.2.elim
     refine⟨.tuple C.toArray,_,?_,nD,⟨C.toArray,rfl,D⟩,T⟩;rw[jL,fQ,Z,lU];simp only[gZ,dif_neg,not_false_eq_true,Sem.run_pure]
  ·cases E
 ·cases E
def WS{i:Nat}:∀ (cs:aa V) (D:Nat) (m:Nat -> aj aP) (r:Nat) (x:aP),PB i D cs m r=some x -> m r=some x \/ ∃ j y,cs[j]?=some y/\y.plain=false/\r=nC i (D+j) y/\x = .sl y
 |[],D,m,r,x,h=>.inl h
 | c :: cs,D,m,r,x,h=>by
  rcases WS cs _ _ r x h with C|⟨j,y,C,O,T,U⟩
  ·cases E:c.plain with
   |true=>simp_all
   | false=>
    rw[E,av]at C;by_cases I:r=nC i D c
    ·subst I;rw[bJ]at C;injection C with C;exact .inr ⟨0,c,rfl,E,rfl,C.symm⟩
    ·rw[cc _ _ _ I]at C;simp_all
  ·exact .inr ⟨j+1,y,by simpa using C,O,by rw[T];congr 1;omega,U⟩
def ou.roots:∀ (C:aa In) (i:Nat) (m:Nat -> aj aP),ou w B af ρ i C -> (∀ r x,m r=some x -> dM w B af ρ r x) -> ∀ r x,JV i C m r=some x -> dM w B af ρ r x
 |[],i,m,_,I,r,x,h=>I r x h
 | .ay cs :: C,i,m,O,I,r,x,h=>by
  obtain⟨Y,Z,T⟩:=O
  refine ou.roots C _ _ T (λr x E=>?_) r x h
  rcases WS cs 0 _ r x E with U|⟨j,y,g1,g2,g3,g4⟩
  ·by_cases D:r=nF i
   ·subst D;rw[bJ]at U;simp_all
   ·rw[cc _ _ _ D]at U;simp_all
  ·simp_all
 | .sl y :: C,i,m,O,I,r,x,h=>by
  obtain⟨Y,T⟩:=O
  refine ou.roots C _ _ T (λr x E=>?_) r x h
  by_cases D:r=nF i
  ·subst D;rw[bJ]at E;simp_all
  ·rw[cc _ _ _ D]at E;simp_all
def PT{i:Nat}:∀ (cs:aa V) (C j:Nat) x,cs[j]?=some x->(yX i C cs)[j]?=some (yW i (C+j) x)
 |[],C,j,x,h=>by simp at h
 |c::cs,C,0,x,h=>by simp at h;subst h;rfl
 | c :: cs,C,j+1,x,h=>by
  simp only[yX,List.getElem?_cons_succ];rw[PT cs (C+1) j x (by simpa using h)];congr 2;omega
def ou.PU:∀ (C:aa In) (i:Nat),ou w B af ρ i C -> FP w ρ i C
 |[],_,_=>trivial
 | .ay cs :: C,i,I=>by
  obtain⟨E,_,O⟩:=I;refine⟨?_,ou.PU C (i+1) O⟩;generalize D:aP.ay (yX i 0 cs)=x at E;cases E with
  |sl=>cases D
  |mp=>cases D
  |gh=>cases D
  | ay b off cells e ls us Y hl Z hs hc=>
   injection D with D;subst D
   refine⟨b,off,cells,e,Y,Z,λj x hj hp hf=>?_⟩
   obtain⟨c1,T⟩:=hc j _ (PT cs 0 j x hj);rw[ff]at T;refine⟨_,c1,?_⟩;have e1:yW i j x = .own [20001+1000*i+j]:=by simp[yW,hp,nC,hf]
   rw[e1]at T;have U:=T.2;simp only[cF]at U;split at U
   ·simp_all
   ·cases U
 | .sl y :: C,i,I=>by
  obtain⟨E,O⟩:=I;refine⟨?_,ou.PU C (i+1) O⟩;cases E with
  |sl v y' Y hr=>simp_all
end
def cM(n:Nat):aa Nat->Bool
 |[]=>false
 |m::l=>Nat.beq n m ||cM n l
def tE{n:Nat}:∀ {l:aa Nat},cM n l=true ↔ n∈l
 |[]=>by simp[cM]
 | m :: l=>by
  simp only[cM,dS,gk,tE];simp_all
def WT{n:Nat}{l:aa Nat}(h:cM n l=false):n ∉ l:=λk=>by rw[tE.2 k]at h;cases h
def fK(k l:aa Nat):Bool:=match k.getLast? with
 |some r=>cM r l
 |none=>false
def uW(ns cn:aa Nat):mP:=⟨λk=>fK k cn ||(fK k ns && !(Nat.beq k.length 1)),λk=>fK k cn ||fK k ns,λr=>cM r cn⟩
def Lf.cX(ns cn:aa Nat):Lf->Lf:=Lf.bY (uW ns cn).l
def A.cX(ns cn:aa Nat):A->A:=A.bY (uW ns cn)
def aP.cX(ns cn:aa Nat):aP->aP:=aP.bY (uW ns cn)
def S.cX(σ:S)(ns cn:aa Nat)(nr:aa (Nat×aP)):S:=⟨λk=>(σ.t k).cX ns cn,λr=>match nr.lookup r with
 |some x=>some x
 |none=>bif cM r ns ||cM r cn then none else (σ.m r).map (aP.cX ns cn)⟩
structure tF (w w':World) (af dj:bk) (ρ eR:Nat->Loc) (ns cn:List Nat):Prop where
 size:w.heap.size<=w'.heap.size
 same:∀b,b<w.heap.size->(∀k,af b=some k->fK k ns=false)->w'.heap[b]?=w.heap[b]?/\dj b=af b
 eP:∀r,cM r cn=false->eR r=ρ r
 af:∀b k,af b=some k->b<w.heap.size/\k≠[]
section
variable {P:Program} {w w':World} {w0:Wd} {B N:Nat} {af dj az:bk} {ρ eR:Nat->Loc} {σ:S} {a:Act} {X:Type} {d:Nat} {r:X} {ns cn:aa Nat}
def WU{j i s:Nat}{q l:aa Nat}(h:q≠[]):fK (j :: i :: s :: q) l=fK q l:=by
 cases q with
 |nil=>simp_all
 |cons x q=>simp[fK]
def tF.tr(C:tF w w' af dj ρ eR ns cn):Tr w w' af dj ρ eR (λk=>fK k ns) (λr=>cM r cn):=
 ⟨C.size,λb hb hl=>let e:=C.same b hb (λk D=>by rw[hl]at D;cases D);⟨e.1,e.2.trans hl⟩,λb k hl D=>let e:=C.same b (C.af b k hl).1 (λI E=>by rw[hl]at E;injection E with E;subst E;exact D);⟨e.1,e.2.trans hl⟩,C.eP,λj i s x q=>WU (by simp),λb hb=>absurd rfl (C.af b [] hb).2⟩
def PW:(uW ns cn).OK (λk=>fK k ns) (λr=>cM r cn):=by
 refine⟨λk D=>?_,λk D=>?_,λ_ h=>h⟩
 ·obtain⟨E,C⟩:=nh.1 D;refine⟨?_,E⟩;cases I:fK k ns with
  |false=>exact .inr rfl
  | true=>
   rw[I,cP,Bool.not_eq_false']at C;exact .inl (cE C)
 ·obtain⟨E,C⟩:=nh.1 D;exact⟨C,E⟩
def RV.tG(C:tF w w' af dj ρ eR ns cn){q:aa Nat}{x:V}{v:Value}(h:RV w B af q x v)(D:fK q ns=false\/x.aG=true):RV w' B dj q x v:=h.tr C.tr D.symm
def RA.tG(C:tF w w' af dj ρ eR ns cn){x:A}{u:Value}(h:RA w B af ρ x u):RA w' B dj eR (x.cX ns cn) u:=h.tr C.tr PW
def dH.tG(C:tF w w' af dj ρ eR ns cn){x:Lf}{u:Value}(h:dH w B af ρ x u):dH w' B dj eR (x.cX ns cn) u:=h.tr C.tr PW
def dM.tG(C:tF w w' af dj ρ eR ns cn){n:Nat}{x:aP}(h:dM w B af ρ n x)(D:cM n ns=false)(E:cM n cn=false):dM w' B dj eR n (x.cX ns cn):=h.tr C.tr PW D E
def Rl.tG(h:Rl w0 N af ρ σ a w)(D:tF w w' af dj ρ eR ns cn)(hb:iY w0 w w')(hl:∀ b k,dj b=some k -> (w0.heap.size <= b \/ w0.L b≠none)/\b<w'.heap.size/\k≠[])(T:∀ r,cM r cn=true -> w0.F r=none){nr:aa (Nat×aP)}
  (U:∀r x,nr.lookup r=some x -> dM w' w0.heap.size dj eR r x):Rl w0 N dj eR (σ.cX ns cn nr) a w':=by
 refine⟨h.below.trans hb,hl,λr x C=>?_,λk=>(h.tmp k).tG D,h.size,h.defers,λr l I=>?_,h.cD⟩
 ·simp only[S.cX]at C;split at C
  ·simp_all
  ·cases hm:(cM r ns || cM r cn)with
   |true=>simp_all
   | false=>
    rw[hm]at C;rw[nh]at hm;cases E:σ.m r with
    |none=>simp_all
    | some y=>
     rw[E]at C;injection C with C;subst C;exact(h.root r y E).tG D hm.1 hm.2
 ·have O:cM r cn=false:=by
   grind
  exact(D.eP r O).trans (h.fix r l I)
end
inductive Mu where
 |ay (r:Nat) (cs:List Lf) (vs:List (V×Option Nat))
 |sl (q:Nat) (y:V)
def Mu.root:Mu->Nat
 |.ay r _ _=>r
 |.sl q _=>q
def uX(m:Nat->aj aP):Lf->aj (V×aj Nat)
 |.v x=>some (x.fZ,none)
 | .own [q]=>match m q with
  |some (.sl y)=>bif y.aG then some (y.fZ,none)else some (y,some q)
  |_=>none
 |_=>none
def qI(m:Nat->aj aP):aa Lf->aj (aa (V×aj Nat))
 |[]=>some []
 | l :: C=>match uX m l,qI m C with
  |some v,some D=>some (v::D)
  |_,_=>none
def uY(σ:S):PK->A->aj (aj Mu)
 |.v _ _,_=>some none
 | .p _ _ off,.aH r j=>(match (bif Nat.beq j off then σ.m r else none)with
  | some (.ay cs)=>(match qI σ.m cs with
   |some C=>bif Nat.blt cs.length 999 then some (some (.ay r cs C))else none
   |none=>none)
  |_=>none)
 | .s _ _,.lf (.own [q])=>(match σ.m q with
  |some (.sl y)=>bif y.aG then none else some (some (.sl q y))
  |_=>none)
 |_,_=>none
def ji(σ:S):aa PK->aa Operand->aj (aa Mu)
 |[],[]=>some []
 | p :: ps,x :: xs=>(match uY σ p (aI σ x),ji σ ps xs with
  |some (some D),some C=>some (D::C)
  |some none,some C=>some C
  |_,_=>none)
 |_,_=>none
def C2(i:Nat):Nat->aa (V×aj Nat)->aa (Nat×Nat)
 |_,[]=>[]
 |j,(_,some q)::C=>(q,60000+1000*i+j)::C2 i (j+1) C
 |j,(_,none)::C=>C2 i (j+1) C
def kO:Nat->aa Mu->aa (Nat×Nat)
 |_,[]=>[]
 |i,.ay r _ D::C=>(r,nF i)::(C2 i 0 D++kO (i+1) C)
 |i,.sl q _::C=>(q,nF i)::kO (i+1) C
def PX(ns:aa Nat):Lf->Bool
 |.own k=>!fK k ns
 |_=>true
def rW{X:Type}(σ:S)(ns:aa Nat):aa Lf->(aa V->aj X)->aj X
 |[],k=>k []
 |x::xs,k=>bif PX ns x then n8 σ x λy=>rW σ ns xs λys=>k (y.fZ::ys)else none
def qJ{X:Type}(σ:S)(ns:aa Nat)(x:A)(k:Pt->aj X):aj X:=
 match x with
 |.lf y=>rW σ ns [y] λC=>k (false,C)
 |.agg ys=>rW σ ns ys λC=>k (true,C)
 |.mO f (c::cs)=>k (false,.bool false::.int .i64 (f:Int)::c.fZ::cs.map V.fZ)
 | .fn f [(r,j)]=>bif cM r ns then none else (match σ.m r with
  | some (.ay cs)=>(match qy (cs.drop j)with
   |some (c::C)=>k (false,.bool false::.int .i64 (f:Int)::c::C)
   |_=>none)
  |_=>none)
 |_=>none
def jj{X:Type}(σ:S)(ns:aa Nat):(ps:aa PK)->aa Operand->aa Mu->(kN ps->aj X)->aj X
 |[],[],[],k=>k ()
 | .v b t :: ps,x :: xs,C,k=>qJ σ ns (aI σ x) λp=>bif p.1==b then (match dec t 0 p.2 with
  |some y=>jj σ ns ps xs C λys=>k (y,ys)
  |none=>none)else none
 | .p t g _ :: ps,_ :: xs,.ay _ _ D :: C,k=>(match (bif Nat.beq (g % 2) 0 then dec t g (D.map (·.1))else none)with
  |some y=>jj σ ns ps xs C λys=>k (y,ys)
  |none=>none)
 | .s t g :: ps,_ :: xs,.sl _ y :: C,k=>(match (bif Nat.beq (g % 2) 0 then y.eZ t (g+2)else none)with
  |some z=>jj σ ns ps xs C λys=>k (z,ys)
  |none=>none)
 |_,_,_,_=>none
def wG(w:World)(ρ:Nat->Loc)(rs:aa Nat):Nat->Loc:=λn=>
 if n<60000 then (if (n-20000) % 1000=0 then ρ (rs.getD ((n-20000) / 1000) 0)else (match ρ (rs.getD ((n-20000) / 1000) 0)with
  |.ay b off=>.dn ((w.cell? ⟨b,off+((n-20000) % 1000-1),none⟩).getD undef)
  |.dn v=>.dn v
  |.bB us=>.bB us))
 else (match ρ (rs.getD ((n-60000) / 1000) 0)with
  |.ay b off=>.dn ((w.cell? ⟨b,off+(n-60000) % 1000,none⟩).getD undef)
  |.dn v=>.dn v
  |.bB us=>.bB us)
def FT{w:World}{ρ:Nat -> Loc}{rs:aa Nat}{i r:Nat}(h:rs[i]?=some r)(hi:i<40):wG w ρ rs (nF i)=ρ r:=by
 have C:nF i<60000:=by unfold nF;omega
 have D:(nF i-20000) % 1000=0:=by unfold nF;omega
 have E:(nF i-20000) / 1000=i:=by unfold nF;omega
 have I:rs.getD i 0=r:=by rw[cW,h];rfl
 unfold wG;simp_all
def ag1{w:World}{ρ:Nat -> Loc}{rs:aa Nat}{i j r b off:Nat}{u:Value}{x:V}(h:rs[i]?=some r)(hi:i<40)(C:j<999)(D:ρ r = .ay b off)(E:w.cell? ⟨b,off+j,none⟩=some u):wG w ρ rs (nC i j x) = .dn u:=by
 have I:rs.getD i 0=r:=by rw[cW,h];rfl
 unfold wG nC;cases x.aG with
 |true =>grind
 |false =>grind
def V.JX:V->Bool
 |.sl _ o _ _=>Nat.beq (o % 2) 0
 |_=>true
section
variable {P:Program} {w w':World} {w0:Wd} {B N:Nat} {af dj az:bk} {ρ eR:Nat->Loc} {σ:S} {a:Act} {X:Type} {d:Nat} {r:X} {ns cn:aa Nat}
def RV.WV{B':Nat}{q:aa Nat}{x:V}{v:Value}(h:RV w B af q x v)(D:x.JX=true):RV w B' af q x v:=by
 induction h with
 |int=>exact .int _ _ _
 |bool=>exact .bool _ _
 |str=>exact .str _ _
 |nil=>exact .nil _
 |dX=>exact .dX _ _ _
 |fy=>exact .fy _ _ _ _ _ (by first|assumption|omega)
 |fJ=>exact .fJ _ _ _ _ _ (by first|assumption|omega)
 | aG q t o T l b off cap u U hl hb h1 Y E Z I=>
  have D:=cE D;have ho0:o=0:=by omega
  subst ho0
  refine .aG _ _ _ _ _ _ _ _ u U hl hb (by omega) Y E (λi h j x C=>I i h j x C ?_)
  have:=yu t 0 l[i] x (gv C);cases x with
  | sl t' O q' l'=>
   have:O=0:=by simpa [V.gr]using this
   subst this;rfl
  |_=>rfl
 | own q t o T l b cap cs u hl hh hs hn hm E Z I=>
  have D:=cE D
  refine .own _ _ _ _ _ _ _ cs u hl hh hs hn hm E (λi h j x C=>I i h j x C ?_)
  have:=yu t o l[i] x (gv C);cases x with
  | sl t' O q' l'=>
   have:O=o:=by simpa [V.gr]using this
   show Nat.beq _ 0=true;simp_all
  |_=>rfl
def RV.out{q I:aa Nat}{x:V}{v:Value}(h:RV w B af q x v)(Y:∀ b,af b=none -> az b=none)(Z:∀ b k,af b=some k -> k≠[]/\(fK k ns=false -> az b=none))(hq:x.aG=true \/ fK q ns=false){B':Nat}:RV w B' az I x.fZ v:=by
 induction h generalizing I with
 |int=>exact .int _ _ _
 |bool=>exact .bool _ _
 |str=>exact .str _ _
 |nil=>exact .nil _
 |dX=>exact .dX _ _ _
 |fy=>exact .fy _ _ _ _ _ (by first|assumption|omega)
 |fJ=>exact .fJ _ _ _ _ _ (by first|assumption|omega)
 | aG q t o qn l b off cap u ho hl hb V0 jH O hr E=>
  refine .aG _ _ _ _ _ _ _ _ u (by omega) (Y b hl) hb (by omega) jH (λi h j x C=>?_) (λi h j x C=>?_)
  ·obtain⟨y,D,_⟩:=vU t o l[i] j x C;simp_all
  ·obtain⟨y,D,rfl⟩:=vU t o l[i] j x C;exact E i h j y D (.inl (oR t o l[i] ho j y D))
 | own q t o qn l b cap cs u hl T hs hn hm O hr E=>
  have U:fK q ns=false:=by
   rcases hq with hq|hq
   ·simp[V.aG]at hq;omega
   ·exact hq
  obtain⟨ck,oU⟩:=Z b q hl
  refine .aG _ _ _ _ _ _ _ _ u (by omega) (oU U) (hU.1 T).1 (by omega) hn (λi h j x C=>?_) (λi h j x C=>?_)
  ·obtain⟨y,D,_⟩:=vU t o l[i] j x C;have:=O i h j y D;rw[ff,cell_of_row w b _ cs _ _ T];exact this
  ·obtain⟨y,D,rfl⟩:=vU t o l[i] j x C;exact E i h j y D (.inr (by rw[WU ck];exact U))
def ag2{x:Lf}{k:V -> aj X}(h:n8 σ x k=some r):∃ y,k y=some r /\ ∀ af ρ a w,Rl w0 N af ρ σ a w -> ∀ u,dH w w0.heap.size af ρ x u -> ∃ q,(x = .own q \/ y.aG=true)/\RV w w0.heap.size af q y u:=by
 cases x with
 |v y=>exact⟨y,h,λaf ρ a w hR u C=>⟨[],.inr C.1,C.2⟩⟩
 |dead=>cases h
 | own q=>
  obtain⟨y,D,E⟩:=rK q k h
  refine⟨y,E,λaf ρ a w hR u C=>⟨q,.inl rfl,?_⟩⟩
  obtain⟨v,I,O⟩:=D.ok hR.root;have:v=u:=by
   have T:=C.2;simp_all
  simp_all
structure AZ (ns:List Nat) (af az:bk):Prop where
 none:∀b,af b=none->az b=none
 rest:∀b k,af b=some k->k≠[]/\(fK k ns=false->az b=Option.none)
def PY:∀ (xs:aa Lf) (k:aa V -> aj X),rW σ ns xs k=some r -> ∃ C,k C=some r/\C.length=xs.length /\ ∀ af ρ a w az,Rl w0 N af ρ σ a w -> AZ ns af az -> ∀ (j:Nat) x y u,xs[j]?=some x -> C[j]?=some y -> dH w w0.heap.size af ρ x u -> RV w w.heap.size az [] y u
 |[],k,h=>⟨[],h,rfl,λ_ _ _ _ _ _ _ j x y u T=>by simp at T⟩
 | x :: xs,k,h=>by
  unfold rW at h;cases D:PX ns x with
  |false=>simp_all
  | true=>
   rw[D,aq]at h;obtain⟨y,U,Y⟩:=ag2 (w0:=w0) (N:=N) h;obtain⟨ys,Z,hl,hr⟩:=PY xs _ U
   refine⟨y.fZ::ys,Z,by simp[hl],λaf ρ a w az hR E j x' y' u I O hu=>?_⟩
   cases j with
   | zero=>
    simp at I O;subst I O;obtain⟨q,hq,jI⟩:=Y af ρ a w hR u hu;refine jI.out E.none E.rest ?_;rcases hq with rfl|hq
    ·exact .inr (by simpa [PX]using D)
    ·simp_all
   |succ j=>grind
inductive PM (w:World) (az:bk):Pt->Value->Prop
 |v (p:Pt) (u:Value) (h:PV w w.heap.size az (λ_=>[]) p u):PM w az p u
 |f (g:Nat) (c:V) (cs:List V) (u:Value) (h:RF w w.heap.size az (c::cs) u):PM w az (false,.bool false::.int .i64 (g:Int)::c::cs) (.func (.func g) #[] #[u])
def ag3{g:Nat}{c:V}{cs ys:aa V}(hl:(V.bool false :: .int .i64 (g:Int) :: c :: cs).length=ys.length)(h:∀ (j:Nat) x z,(V.bool false :: .int .i64 (g:Int) :: c :: cs)[j]?=some x -> ys[j]?=some z -> Wk x z):∃ C eM,ys = .bool false :: .int .i64 (g:Int) :: C :: eM/\kJ (c :: cs) (C :: eM):=by
 match ys,hl,h with
 | a :: b :: C :: eM,hl,h=>
  have D:=h 0 _ a rfl rfl;have E:=h 1 _ b rfl rfl;cases D;cases E;exact⟨C,eM,rfl,by simpa using hl,λj x z I O=>h (j+2) x z (by simpa using I) (by simpa using O)⟩
def RF.tH{cs C:aa V}{u:Value}(h:RF w B af cs u)(E:kJ cs C)(O:∀ (j:Nat) z,C[j]?=some z->z.aG=true):RF w B af C u:=by
 obtain⟨b,off,rfl,hb,hl,T⟩:=h
 refine⟨b,off,rfl,hb,hl,λj x D=>?_⟩
 have I:j<cs.length:=by rw[E.1];exact(dA.1 D).1
 obtain⟨_,v,U,Y⟩:=T j _ (bH I);exact⟨O j x D,v,U,Y.wk (E.2 j _ x (bH I) D)⟩
def RF.fZ{cs:aa V}{u:Value}(h:RF w B af cs u)(D:∀ b,af b=none -> az b=none)(I:∀ b k,af b=some k -> k≠[]/\(fK k ns=false -> az b=none)){B':Nat}:RF w B' az (cs.map V.fZ) u:=by
 obtain⟨b,off,rfl,hb,hl,O⟩:=h
 refine⟨b,off,rfl,hb,D b hl,λj x C=>?_⟩
 rw[dW]at C;cases E:cs[j]? with
 |none=>simp_all
 | some y=>
  rw[E]at C;injection C with C;subst C;obtain⟨T,v,U,Y⟩:=O j y E;exact⟨V.af3 y,v,U,Y.out D I (.inl T)⟩
def ag4{x:A}{k:Pt -> aj X}(h:qJ σ ns x k=some r):∃ p,k p=some r /\ ∀ af ρ a w az,Rl w0 N af ρ σ a w -> AZ ns af az -> ∀ u,RA w w0.heap.size af ρ x u -> PM w az p u:=by
 unfold qJ at h;split at h
 ·rename_i y;obtain⟨Y,O,hl,T⟩:=PY (w0:=w0) (N:=N) _ _ h
  refine⟨_,O,λaf ρ a w az hR C u D=>.v _ _ ⟨#[u],rfl,by simp[hl],λj x E=>?_⟩⟩
  have I:j=0:=by
   grind
  subst I;exact⟨u,rfl,T af ρ a w az hR C 0 y x u rfl E D⟩
 ·rename_i ys;obtain⟨Y,O,hl,T⟩:=PY (w0:=w0) (N:=N) _ _ h
  refine⟨_,O,λaf ρ a w az hR C u D=>?_⟩
  obtain⟨us,rfl,U⟩:=D
  refine .v _ _ ⟨us,rfl,by rw[hl];exact U.1,λj x E=>?_⟩
  have I:j<ys.length:=by rw[<- hl];exact(dA.1 E).1
  obtain⟨v,hv,fo⟩:=U.2 j _ (bH I);exact⟨v,hv,T af ρ a w az hR C j _ x v (bH I) E fo⟩
 ·rename_i f c cs
  refine⟨_,h,λaf ρ a w az hR C u D=>?_⟩
  obtain⟨pv,rfl,rX⟩:=D;exact .f f _ _ _ (rX.fZ C.none C.rest)
 ·rename_i f Z j;cases wI:cM Z ns with
  |true=>grind
  | false=>
   rw[wI,av]at h;split at h
   ·rename_i cs hm;split at h
    ·rename_i c Y yx;obtain⟨e,hp⟩:=Jy _ _ yx
     refine⟨_,h,λaf ρ a w az hR C u D=>?_⟩
     obtain⟨us,rfl,kf,jH⟩:=D;obtain⟨b,off,bV,og⟩:=jH 0 _ rfl;have og:us[0]?=some (.pointer (some ⟨b,off+j,none⟩)):=og;have at5:us.size=1:=kf;have ag5:us = #[.pointer (some ⟨b,off+j,none⟩)]:=by
      apply Array.ext';apply List.ext_getElem?;intro i;cases i with
      |zero=>grind
      |succ i=>grind
     subst ag5;refine .f f _ _ _ ?_;cases hR.root Z _ hm with
     | ay b' AL cells e' _ JD iK nD hh U hc=>
      rw[bV]at iK;injection iK with q1 q2;subst q1 q2
      refine⟨b,off+j,rfl,(hU.1 hh).1,(C.rest b _ nD).2 (by simpa [fK]using wI),λi x E=>?_⟩
      have WW:=hp x (gv E);have WX:(cs.drop j)[i]?=some (.v x):=by rw[e,dW,E];rfl
      rw[List.getElem?_drop]at WX;obtain⟨k1,k2⟩:=hc _ _ WX;refine⟨(by cases x<;>first|rfl|cases WW),JD (j+i),?_,k2.2.s9 WW⟩;rw[Nat.add_assoc,cell_of_row w b _ cells _ _ hh];exact k1
    ·cases h
   ·cases h
 ·cases h
def yZ(σ:S):Mu->Prop
 |.ay r cs C=>σ.m r=some (.ay cs)/\qI σ.m cs=some C/\cs.length<999
 |.sl q y=>σ.m q=some (.sl y)/\y.aG=false
def FU:aa Mu->aa In->Prop
 |[],[]=>True
 |.ay _ _ I::C,.ay xs::D=>(kJ (I.map (·.1)) xs/\∀x∈xs,x.jG=true/\x.JX=true)/\FU C D
 |.sl _ y::C,.sl E::D=>(Wk y E/\E.JX=true)/\FU C D
 |_,_=>False
def C3(w:World)(B:Nat)(af:bk)(ρ:Nat->Loc)(C:aa In):aa Ar->aa Value->Prop
 |[],[]=>True
 |x::xs,v::D=>RA w B af ρ (PC C x) v/\C3 w B af ρ C xs D
 |_,_=>False
def C3.get{D:aa In}:∀ (xs:aa Ar) (C:aa Value),C3 w B af ρ D xs C -> C.length=xs.length /\ ∀ i,RA w B af ρ ((wE D xs).t i) (C.toArray.getD i undef)
 |[],[],_=>⟨rfl,λi=>trivial⟩
 | x :: xs,v :: C,h=>by
  obtain⟨E,I⟩:=C3.get xs C h.2
  refine⟨by simp[E],λi=>?_⟩
  cases i with
  |zero=>exact h.1
  | succ i=>
   have:=I i;simp at this ⊢;exact this
def ag6{t:TC}{g:Nat}{x:T t}(D:Nat.beq (g % 2) 0=true):∀ y∈enc t g x,y.jG=true/\y.JX=true:=by
 intro y C;refine⟨OE t g x y C,?_⟩;have:=yu t g x y C;cases y with
 | sl I E O U=>
  have:E=g:=by simpa [V.gr]using this
  subst this;exact D
 |_=>rfl
def ag7(σ:S):PK->A->aj Mu->Prop
 |.v _ _,_,none=>True
 |.p _ _ off,x,some (.ay r cs C)=>x = .aH r off/\yZ σ (.ay r cs C)
 |.s _ _,x,some (.sl q y)=>x = .lf (.own [q])/\yZ σ (.sl q y)
 |_,_,_=>False
def uZ{p:PK}{x:A}{z:aj Mu}(h:uY σ p x=some z):ag7 σ p x z:=by
 cases p with
 | v b t=>
  injection h with h;subst h;trivial
 | p t g off=>
  cases x with
  | aH r j=>
   have h:(match (bif Nat.beq j off then σ.m r else none)with
    | some (.ay cs)=>(match qI σ.m cs with
     |some E=>bif Nat.blt cs.length 999 then some _ else none
     |none=>none)
    |_=>none)=some z:=h
   cases C:Nat.beq j off with
   |false=>rw[C]at h;cases h
   | true=>
    obtain rfl:=cE C;rw[C,aq]at h;split at h
    ·rename_i cs I;split at h
     ·rename_i E O;cases hl:Nat.blt cs.length 999 with
      |false=>rw[hl]at h;cases h
      | true=>
       rw[hl]at h;injection h with h;subst h;exact⟨rfl,I,O,by have:=cr hl;omega⟩
     ·cases h
    ·cases h
  |_=>cases h
 | s t g=>
  have T:(∃ q,x = .lf (.own [q])):=by
   unfold uY at h;split at h
   next e=>cases e
   next e=>cases e
   ·simp[*]
   ·cases h
  obtain⟨q,rfl⟩:=T;have h:(match σ.m q with
   |some (.sl y)=>bif y.aG then none else some _
   |_=>none)=some z:=h
  split at h
  ·rename_i y U;cases D:y.aG with
   |true=>rw[D]at h;cases h
   | false=>
    rw[D]at h;injection h with h;subst h;exact⟨rfl,U,D⟩
  ·cases h
def JY:∀ (ps:aa PK) (xs:aa Operand) (D:aa Mu),ji σ ps xs=some D -> ∀ O∈D,yZ σ O
 |[],[],D,h=>by injection h with h;subst h;simp
 | p :: ps,x :: xs,D,h=>by
  unfold ji at h;split at h
  ·rename_i O E C I;injection h with h;subst h;have T:=JY ps xs E I;have C:=uZ C;intro z hz;rcases gk.1 hz with rfl | hz
   ·cases p with
    |v=>exact C.elim
    | p=>
     cases z with
     |ay=>exact C.2
     |sl=>exact C.elim
    | s=>
     cases z with
     |ay=>exact C.elim
     |sl=>exact C.2
   ·simp_all
  next E C I=>injection h with h;subst h;exact JY ps xs E I
  ·cases h
 |[],_::_,D,h=>by cases h
 |_::_,[],D,h=>by cases h
def FV:∀ {ps:aa PK} (i C:Nat) (x:kN ps),(jM ps i x).length=(jM ps C x).length
 |[],_,_,_=>rfl
 |.v _ _::ps,i,C,x=>by simp[jM,List.length_cons];rw[FV]
 |.p _ _ _::ps,i,C,x=>by simp only[jM,List.length_cons];rw[FV (i+1) (C+1)]
 |.s _ _::ps,i,C,x=>by simp only[jM,List.length_cons];rw[FV (i+1) (C+1)]
def JZ:∀ (ps:aa PK) (xs:aa Operand) (O:aa Mu) (k:kN ps -> aj X),ji σ ps xs=some O -> jj σ ns ps xs O k=some r -> ∃ x,k x=some r/\FU O (mU ps x)/\(jM ps 0 x).length=xs.length /\
  ∀af ρ a w az ρ',Rl w0 N af ρ σ a w -> AZ ns af az -> ∀(T:aa In) (i:Nat),(∀j z,(mU ps x)[j]?=some z -> T[i+j]?=some z) -> (∀j U,O[j]?=some U -> ρ' (nF (i+j))=ρ U.root) -> C3 w w.heap.size az ρ' T (jM ps i x) (xs.map a.eval)
 | [],[],O,k,C,h=>by
  injection C with C;subst C;exact⟨(),h,trivial,rfl,λ_ _ _ _ _ _ _ _ _ _ _ _=>trivial⟩
 | .v b t :: ps,x :: xs,O,k,C,h=>by
  have rN:ji σ ps xs=some O:=by
   unfold ji at C;split at C
   next U Z D I=>exact(uZ D).elim
   next Z D I=>rw[I];exact C
   ·cases C
  unfold jj at h;obtain⟨p,I,hp⟩:=ag4 (w0:=w0) (N:=N) h;cases hb:p.1==b with
  |false=>rw[hb]at I;cases I
  | true=>
   rw[hb,aq]at I;have hb:p.1=b:=by simpa using hb
   subst hb;split at I
   ·rename_i y Y;obtain⟨ys,h3,h4,h5,h6⟩:=JZ ps xs O _ rN I
    refine⟨(y,ys),h3,h4,?_,λaf ρ a w az ρ' hR hS T i hi bV=>⟨?_,h6 af ρ a w az ρ' hR hS T i hi bV⟩⟩
    ·simp[jM,h5]
    ·have rX:=hp af ρ a w az hR hS _ (hR.aI x);have hk:=lz t 0 p.2 y Y;generalize a.eval x=ux at rX ⊢;rcases rX with ⟨_,_,us,hu,hs,hr⟩ | ⟨g,c,cs,pv,rX⟩
     case f=>
      have he:∀(j:Nat) z,(enc t 0 y)[j]?=some z -> z.aG=true:=λj z E=>oR t 0 y (by omega) j z E
      obtain⟨c',eM,e,hw⟩:=ag3 hk.1 hk.2;rw[e]at he ⊢;exact⟨pv,rfl,rX.tH hw λj z E=>he (j+2) z (by simpa using E)⟩
     have mS:∀ (j:Nat) z,(enc t 0 y)[j]?=some z -> ∃ v,us[j]?=some v/\z.aG=true/\RV w w.heap.size az [] z v:=by
      intro j z E;have hj:j<p.2.length:=by rw[hk.1];exact(dA.1 E).1
      obtain⟨v,hv,fo⟩:=hr j _ (bH hj);exact⟨v,hv,oR t 0 y (by omega) j z E,fo.wk (hk.2 j _ z (bH hj) E)⟩
     have hlen:us.size=(enc t 0 y).length:=hs.trans hk.1;obtain⟨b,vs⟩:=p;cases b with
     | true=>
      show RA _ _ _ _ (.agg ((enc t 0 y).map .v)) _
      refine⟨us,hu,by rw[eN];exact hlen,λj z E=>?_⟩
      rw[dW]at E;cases CK:(enc t 0 y)[j]? with
      |none=>rw[CK]at E;cases E
      | some z'=>
       rw[CK]at E;injection E with E;subst E;obtain⟨v,hv,g1,g2⟩:=mS j z' CK;exact⟨v,hv,g1,g2⟩
     | false=>
      have hu:us = #[ux]:=hu;subst hu;show RA _ _ _ _ (PC T (.pt (false,enc t 0 y))) _
      match he:enc t 0 y,mS,hlen with
      | [z],mS,_=>
       obtain⟨v,hv,g1,g2⟩:=mS 0 z rfl;have:ux=v:=by simpa using hv
       rw[this];exact⟨g1,g2⟩
      |[],_,_=>trivial
      |_::_::_,_,hlen=>exact absurd hlen (by simp)
   ·cases I
 | .p t g off :: ps,x :: xs,O,k,C,h=>by
  unfold ji at C;split at C
  ·rename_i U Z D I;injection C with C;subst C;have D:=uZ D;cases U with
   |sl=>exact D.elim
   | ay r cs vs=>
    have D:aI σ x = .aH r off/\yZ σ (.ay r cs vs):=D;unfold jj at h;split at h
    ·rename_i y Y;cases hg:Nat.beq (g % 2) 0 with
     |false=>rw[hg]at Y;cases Y
     | true=>
      rw[hg,aq]at Y;obtain⟨ys,h3,h4,h5,h6⟩:=JZ ps xs Z _ I h
      refine⟨(y,ys),h3,⟨⟨lz t g _ y Y,ag6 hg⟩,h4⟩,by simp[jM,FV 1 0,h5],λaf ρ a w az ρ' hR hS T i hi bV=>⟨?_,?_⟩⟩
      ·have FW:=hi 0 _ rfl;rw[Nat.add_zero]at FW;have hx:=hR.aI x;rw[D.1]at hx;obtain⟨b,o,e1,e2⟩:=hx;show RA _ _ _ _ (match T[i]? with|some (.ay _)=>.aH (nF i) off|some (.sl _)=>.lf (.own [nF i])|none=>.undef) _;rw[FW];have ij:=bV 0 _ rfl;rw[Nat.add_zero]at ij;exact⟨b,o,ij.trans e1,e2⟩
      ·refine h6 af ρ a w az ρ' hR hS T (i+1) (λj z E=>?_) (λj U jw=>?_)
       ·rw[show i+1+j=i+(j+1) by omega];exact hi _ z E
       ·rw[show i+1+j=i+(j+1) by omega];exact bV _ U jw
    ·cases h
  next Z D I=>exact(uZ D).elim
  ·cases C
 | .s t g :: ps,x :: xs,O,k,C,h=>by
  unfold ji at C;split at C
  ·rename_i U Z D I;injection C with C;subst C;have D:=uZ D;cases U with
   |ay=>exact D.elim
   | sl q y0=>
    have D:aI σ x = .lf (.own [q])/\yZ σ (.sl q y0):=D;unfold jj at h;split at h
    ·rename_i y Y;cases hg:Nat.beq (g % 2) 0 with
     |false=>rw[hg]at Y;cases Y
     | true=>
      rw[hg,aq]at Y;obtain⟨ys,h3,h4,h5,h6⟩:=JZ ps xs Z _ I h
      refine⟨(y,ys),h3,⟨⟨V.E4 Y,?_⟩,h4⟩,by simp[jM,FV 1 0,h5],λaf ρ a w az ρ' hR hS T i hi bV=>⟨?_,?_⟩⟩
      ·show Nat.beq ((g+2) % 2) 0=true;simp[*]
      ·have FW:=hi 0 _ rfl;rw[Nat.add_zero]at FW;have hx:=hR.aI x;rw[D.1]at hx;show RA _ _ _ _ (match T[i]? with|some (.ay _)=>.aH (nF i) 0|some (.sl _)=>.lf (.own [nF i])|none=>.undef) _;rw[FW];have ij:=bV 0 _ rfl;rw[Nat.add_zero]at ij;refine⟨hx.1,?_⟩;have I:=hx.2;simp only[cF]at I ⊢;rw[ij];exact I
      ·refine h6 af ρ a w az ρ' hR hS T (i+1) (λj z E=>?_) (λj U jw=>?_)
       ·rw[show i+1+j=i+(j+1) by omega];exact hi _ z E
       ·rw[show i+1+j=i+(j+1) by omega];exact bV _ U jw
    ·cases h
  next Z D I=>exact(uZ D).elim
  ·cases C
 |[],_::_,O,k,C,h=>by cases C
 |_::_,[],O,k,C,h=>by cases C
end
def l6(c0:Nat):Nat->aa (V×aj Nat)->aa Nat
 |_,[]=>[]
 |n,(_,some q)::C=>q::l6 c0 (n+1) C
 |n,(_,none)::C=>(c0+n)::l6 c0 (n+1) C
def za(c0:Nat):Nat->aa Mu->aa Nat
 |_,[]=>[]
 |pos,.ay r _ D::C=>r::(l6 c0 (pos+1) D++za c0 (pos+1+D.length) C)
 |pos,.sl q _::C=>q::za c0 (pos+1) C
def va:aa Nat->aa V->aa Nat
 |n::C,x::xs=>bif x.aG then va C xs else n::va C xs
 |_,_=>[]
def mW(c0:Nat):Nat->aa Mu->aa In->aa Nat
 |pos,.ay _ _ D::C,.ay xs::outs=>va (l6 c0 (pos+1) D) xs++mW c0 (pos+1+D.length) C outs
 |pos,.sl _ _::C,.sl _::outs=>mW c0 (pos+1) C outs
 |_,_,_=>[]
def ov(ns cn:aa Nat):aa Nat->aa Lf->aa V->aa Lf
 |n::C,l::D,x::xs=>(bif x.plain then .v x else bif x.aG then l.cX ns cn else .own [n])::ov ns cn C D xs
 |_,_,_=>[]
def tJ:aa Nat->aa V->aa (Nat×aP)
 |n::C,x::xs=>bif x.aG then tJ C xs else (n,.sl x)::tJ C xs
 |_,_=>[]
def kP(ns cn:aa Nat)(c0:Nat):Nat->aa Mu->aa In->aa (Nat×aP)
 |pos,.ay r cs D::C,.ay xs::outs=>(r,.ay (ov ns cn (l6 c0 (pos+1) D) cs xs))::(tJ (l6 c0 (pos+1) D) xs++kP ns cn c0 (pos+1+D.length) C outs)
 |pos,.sl q _::C,.sl y::outs=>bif y.jG then (q,.sl y)::kP ns cn c0 (pos+1) C outs else kP ns cn c0 (pos+1) C outs
 |_,_,_=>[]
def J0:aa Nat->Bool
 |[]=>true
 |n::l=>!cM n l&&J0 l
def WY:In->Bool
 |.ay xs=>xs.all λx=>x.aG ||x.loc
 |.sl y=>y.loc
def gP:aj Tmp->Nat
 |some d=>1000000000100000+1000*d
 |none=>90000
def oY{X:Type}(N:Nat)(σ:S)(C:aj Tmp)(D:fO)(k:S->aj X):aj X:=
 match C with
 |none=>k σ
 |some d=>bif Nat.blt d N then mT σ d D k else none
def C4(N:Nat)(C:aa Mu)(outs:aa In)(cn:aa Nat):Bool:=
 J0 cn&&(C.all λD=>!cM D.root cn)&&(cn.all λn=>Nat.blt n N ||Nat.ble 60000 n)&&outs.all WY
def C5{X:Type}(N:Nat)(σ:S)(C:aj Tmp)(D:aa Mu)(ns cn:aa Nat)(E:fO)(outs:aa In)(k:S->aj X):aj X:=
 bif C4 N D outs cn then oY N (σ.cX ns cn (kP ns cn (gP C) E.len D outs)) C E k else none
def nE{X:Type}(N:Nat)(σ:S)(D:aj Tmp)(c:mV)(args:aa Operand)(k:S->aj X):aj X:=
 match ji σ c.ps args with
 | some C=>bif once (kO 0 C)&&Nat.ble C.length 40 then
   jj σ ((kO 0 C).map (·.1)) c.ps args C λx=>(match c.F x with
    |some y=>C5 N σ D C ((kO 0 C).map (·.1)) (mW (gP D) (eJ c.ro y.1).len C (iM (dZ c.ps) y.2)) (eJ c.ro y.1) (iM (dZ c.ps) y.2) k
    |none=>none)else none
 |none=>none
section
variable {P:Program} {w w':World} {w0:Wd} {B N:Nat} {af dj az:bk} {ρ eR ρ':Nat->Loc} {σ:S} {a:Act} {X:Type} {d:Nat} {r:X} {ns cn:aa Nat} {o:Oper} {rs:aa Nat} {dQ:aa (Nat×Nat)}
def WZ{n:Nat}:∀ {l:aa (Nat×Nat)},cM n (l.map (·.1))=false -> l.lookup n=none
 |[],_=>rfl
 | p :: l,h=>by
  simp[List.map_cons,cM,nh]at h;rw[List.lookup_cons];have:(n==p.1)=false:=by
   cases hb:n==p.1 with
   |false=>rfl
   |true =>simp_all
  rw[this];exact WZ h.2
def ag8{b:Nat}{k:aa Nat}{n m:Nat}(h:af b=some k)(C:k.getLast?=some n)(D:dQ.lookup n=some m):dY af dQ id b=some (k.dropLast++[m]):=by
 simp[dY,h,C,D]
def ag9(C:∀ b k,af b=some k -> k≠[]):AZ (dQ.map (·.1)) af (dY af dQ id):=by
 refine⟨λb h=>yU h,λb k h=>⟨C b k h,λhl=>?_⟩⟩
 simp[dY,h];cases D:k.getLast? with
 |none=>rfl
 | some n=>
  simp[fK,D]at hl;simp[WZ hl]
def PZ{m:Nat -> aj aP}:∀ (cs:aa Lf) (C:aa (V×aj Nat)),qI m cs=some C -> C.length=cs.length /\ ∀ (j:Nat) l,cs[j]?=some l -> ∃ v,C[j]?=some v/\uX m l=some v
 |[],C,h=>by injection h with h;subst h;exact⟨rfl,λj l hl=>by simp at hl⟩
 | c :: cs,C,h=>by
  unfold qI at h;split at h
  ·rename_i v D I E;injection h with h;subst h;obtain⟨O,T⟩:=PZ cs D E
   grind
  ·cases h
def aha{l:Lf}{v:V}{E:aj Nat}(h:uX σ.m l=some (v,E))(hR:Rl w0 N af ρ σ a w)(D:AZ ns af az){u:Value}(I:dH w w0.heap.size af ρ l u):
  (E=none /\ ∀B' O,RV w B' az O v u) \/ (∃q,E=some q/\v.aG=false/\RV w w0.heap.size af [q] v u):=by
 unfold uX at h;split at h
 ·simp at h;obtain⟨rfl,rfl⟩:=h;exact .inl ⟨rfl,λB' O=>I.2.out D.none D.rest (.inl I.1)⟩
 ·rename_i q;split at h
  ·rename_i y Y;have T:=hR.root q _ Y;generalize C:aP.sl y=x at T;cases T with
   |ay=>cases C
   |mp=>cases C
   |gh=>cases C
   | sl Z y' bV hr=>
    injection C with C;subst C;have FL:Z=u:=by
     have h2:=I.2;simp only[cF,bV]at h2;simp_all
    subst FL;cases U:y.aG with
    | true=>
     rw[U,aq]at h;obtain⟨rfl,rfl⟩:=h;exact .inl ⟨rfl,λB' O=>hr.out D.none D.rest (.inl U)⟩
    |false =>grind
  ·cases h
 ·cases h
def W0{i:Nat}{v:V}{q:Nat}:∀ (D:aa (V×aj Nat)) (C j:Nat),D[j]?=some (v,some q) -> (q,60000+1000*i+(C+j))∈C2 i C D
 |[],C,j,h=>by simp at h
 | (I,E) :: D,C,j,h=>by
  cases j with
  | zero=>
   obtain⟨rfl,rfl⟩:=h;exact .head _
  | succ j=>
   have:=W0 (i:=i) D (C+1) j (by simpa using h);rw[show C+1+j=C+(j+1) by omega]at this;cases E with
   |none=>exact this
   |some O=>exact .tail _ this
def P0{i:Nat}:∀ (cs:aa V) (C:Nat),(yX i C cs).length=cs.length
 |[],_=>rfl
 |c::cs,C=>by simp[yX,P0 cs]
def RV.lW{q:aa Nat}{x:V}{u:Value}(h:RV w B af q x u)(C:x.plain=false)(D:x.jG=true):lW u=true:=by
 cases h<;>first|rfl|cases C|cases D
def Wk.P1{x y:V}(h:Wk x y)(C:x.aG=false):y.aG=false:=by
 cases h with
 |same=>exact C
 |nil=>cases C
 |q=>exact C
 |gr t o D E l I O=>simp[V.aG];omega
def P2(hR:Rl w0 N af ρ σ a w)(hS:AZ ns af (dY af dQ id)):∀ (I:aa Mu) (T:aa In) (i:Nat),(∀ p∈kO i I,dQ.lookup p.1=some p.2) -> (∀ j E,I[j]?=some E -> rs[i+j]?=some E.root) -> (∀ E∈I,yZ σ E) -> FU I T -> i+I.length <= 40 ->
  ou w w.heap.size (dY af dQ id) (wG w ρ rs) i T
 |[],[],_,_,_,_,_,_=>trivial
 |[],_::_,_,_,_,_,h,_=>h.elim
 |.ay _ _ _::_,[],_,_,_,_,h,_=>h.elim
 |.sl _ _::_,[],_,_,_,_,h,_=>h.elim
 |.ay _ _ _::_,.sl _::_,_,_,_,_,h,_=>h.elim
 |.sl _ _::_,.ay _::_,_,_,_,_,h,_=>h.elim
 | .ay r cs vs :: I,.ay xs :: T,i,U,gO,jw,hrel,hi=>by
  obtain⟨hm,hg,hlen⟩:=jw _ (.head _);obtain⟨⟨hw,hx⟩,A0⟩:=hrel;obtain⟨g1,g2⟩:=PZ cs vs hg;have Y:=gO 0 _ rfl;rw[Nat.add_zero]at Y;simp only[List.length_cons]at hi;have n9:xs.length=cs.length:=by rw[<- hw.1,eN,g1]
  have eI:=hR.root r _ hm;generalize C:aP.ay cs=z at eI;cases eI with
  |sl=>cases C
  |mp=>cases C
  |gh=>cases C
  | ay b off cells e eM us bV hl hh hs hc=>
   injection C with C;subst C;have mS:∀ (j:Nat) x,xs[j]?=some x -> cells[off+j]?=some (us j)/\RV w w.heap.size (dY af dQ id) [nC i j x] x (us j)/\(x.plain=false -> wG w ρ rs (nC i j x) = .dn (us j)):=by
    intro j x O;have vZ:j<cs.length:=by rw[<- n9];exact(dA.1 O).1
    obtain⟨v,hv,FX⟩:=g2 j _ (bH vZ);obtain⟨c1,Z⟩:=hc j _ (bH vZ);obtain⟨v,qo⟩:=v;have P3:Wk v x:=hw.2 j v x (by rw[dW,hv];rfl) O;obtain⟨P4,Jz⟩:=hx x (gv O)
    refine⟨c1,?_,λD=>?_⟩
    ·rcases aha FX hR hS Z with ⟨rfl,h1⟩ | ⟨q,rfl,hf,h1⟩
     ·exact(h1 _ _).wk P3
     ·have PO:=P3.P1 hf;have hq:=U _ (.tail _ (List.mem_append_left _ (W0 vs 0 j hv)));rw[ff]at hq;have h2:=(RV.dY (nm:=id) (p:=[]) h1 hq).wk P3;have e1:nC i j x=60000+1000*i+j:=by simp[nC,PO]
      rw[e1];exact h2.WV Jz
    ·exact ag1 Y (by omega) (by omega) bV (by rw[cell_of_row w b _ cells _ _ hh];exact c1)
   refine⟨.ay b off cells e _ us ((FT Y (by omega)).trans bV) ?_ hh (by rw[P0,n9];exact hs) (λj z C=>?_),λj x O D=>?_,P2 hR hS I T (i+1) (λp D=>U p (.tail _ (List.mem_append_right _ D))) (λj E A1=>?_) (λE h=>jw E (.tail _ h)) A0 (by omega)⟩
   ·exact ag8 hl rfl (U _ (.head _))
   ·have O:j<xs.length:=by rw[<- P0 (i:=i) xs 0];exact(dA.1 C).1
    have zb:=PT (i:=i) xs 0 j _ (bH O);rw[C]at zb;injection zb with zb;subst zb;rw[ff];obtain⟨c1,Z,c3⟩:=mS j _ (bH O);refine⟨c1,?_⟩;cases D:(xs[j]).plain with
    | true=>
     have e1:yW i j xs[j] = .v xs[j]:=by simp[yW,D]
     rw[e1];exact⟨V.Fg D,Z.s9 D⟩
    | false=>
     have e1:yW i j xs[j] = .own [nC i j xs[j]]:=by simp[yW,D]
     rw[e1];exact⟨Z.lW D (hx _ (dg _)).1,by simp only[cF,c3 D]⟩
   ·obtain⟨c1,Z,c3⟩:=mS j x O;exact .sl _ x (c3 D) Z
   ·have:=gO (j+1) E (by simpa using A1);rw[show i+(j+1)=i+1+j by omega]at this;exact this
 | .sl q y :: I,.sl y' :: T,i,U,gO,jw,hrel,hi=>by
  obtain⟨hm,hf⟩:=jw _ (.head _);obtain⟨⟨hw,hx⟩,A0⟩:=hrel;have Y:=gO 0 _ rfl;rw[Nat.add_zero]at Y;simp only[List.length_cons]at hi;have eI:=hR.root q _ hm;generalize C:aP.sl y=z at eI;cases eI with
  |ay=>cases C
  |mp=>cases C
  |gh=>cases C
  | sl v y0 bV hr=>
   injection C with C;subst C
   refine⟨.sl v y' ((FT Y (by omega)).trans bV) ?_,P2 hR hS I T (i+1) (λp D=>U p (.tail _ D)) (λj E A1=>?_) (λE h=>jw E (.tail _ h)) A0 (by omega)⟩
   ·exact((RV.dY (p:=[]) hr (U _ (.head _))).wk hw).WV hx
   ·have:=gO (j+1) E (by simpa using A1);rw[show i+(j+1)=i+1+j by omega]at this;exact this
end
def P5:Loc->Nat×Nat
 |.ay b off=>(b,off)
 |.dn _=>(0,0)
 |.bB _=>(0,0)
def zc(w:World)(b off:Nat):Nat->aa Nat->aa V->aa (Nat×Value)
 |j,n::C,x::xs=>bif x.aG then zc w b off (j+1) C xs else (n,(w.cell? ⟨b,off+j,none⟩).getD undef)::zc w b off (j+1) C xs
 |_,_,_=>[]
def rY(w:World)(ρ:Nat->Loc)(c0:Nat):Nat->aa Mu->aa In->aa (Nat×Value)
 |pos,.ay r _ D::C,.ay xs::outs=>zc w (P5 (ρ r)).1 (P5 (ρ r)).2 0 (l6 c0 (pos+1) D) xs++rY w ρ c0 (pos+1+D.length) C outs
 |pos,.sl _ _::C,.sl _::outs=>rY w ρ c0 (pos+1) C outs
 |_,_,_=>[]
def W2(l:aa (Nat×Value))(ρ:Nat->Loc):Nat->Loc:=λn=>match l.lookup n with
 |some v=>.dn v
 |none=>ρ n
def P6{w:World}{b off:Nat}:∀ (C:aa Nat) (xs:aa V) (j:Nat),(zc w b off j C xs).map (·.1)=va C xs
 |[],[],_=>rfl
 |[],_::_,_=>rfl
 |_::_,[],_=>rfl
 | n :: C,x :: xs,j=>by
  simp[zc,va];cases x.aG with
  |true=>exact P6 C xs _
  |false=>simp;rw[P6]
def J1{w:World}{ρ:Nat -> Loc}{c0:Nat}:∀ (C:aa Mu) (outs:aa In) (D:Nat),(rY w ρ c0 D C outs).map (·.1)=mW c0 D C outs
 | .ay r _ E :: C,.ay xs :: outs,D=>by
  simp[rY,mW,List.map_append];rw[P6,J1]
 | .sl _ _ :: C,.sl _ :: outs,D=>by
  simp only[rY,mW];exact J1 C outs _
 |[],_,_=>by simp[rY,mW]
 |.ay _ _ _::_,[],_=>rfl
 |.sl _ _::_,[],_=>rfl
 |.ay _ _ _::_,.sl _::_,_=>rfl
 |.sl _ _::_,.ay _::_,_=>rfl
def W3{n:Nat}:∀ {l:aa (Nat×Value)},cM n (l.map (·.1))=false -> l.lookup n=none
 |[],_=>rfl
 | p :: l,h=>by
  simp[List.map_cons,cM,nh]at h;rw[List.lookup_cons];cases hb:n==p.1 with
  |false=>exact W3 h.2
  |true =>simp_all
def W4:∀ {l:aa (Nat×Value)},J0 (l.map (·.1))=true -> ∀ p∈l,l.lookup p.1=some p.2
 |[],_,p,hp=>by cases hp
 | q :: l,h,p,hp=>by
  simp[List.map_cons,J0,aJ,fH]at h;rw[List.lookup_cons];rcases gk.1 hp with rfl|hp
  ·simp
  ·cases hb:p.1==q.1 with
   |false=>exact W4 h.2 p hp
   | true=>
    have e:p.1=q.1:=by simpa using hb
    exact absurd (List.mem_map_of_mem (f:=(·.1)) hp) (by rw[e];exact WT h.1)
def FY{c0:Nat}:∀ (C:aa (V×aj Nat)) (n:Nat),(l6 c0 n C).length=C.length
 |[],_=>rfl
 |(_,some _)::C,n=>by simp[l6,FY]
 |(_,none)::C,n=>by simp[l6,FY C]
def W5{ns cn:aa Nat}:∀ (D:aa Nat) (C:aa Lf) (xs:aa V),D.length=C.length -> xs.length=C.length -> (ov ns cn D C xs).length=C.length /\
  ∀(j:Nat) z,(ov ns cn D C xs)[j]?=some z -> ∃n l x,D[j]?=some n/\C[j]?=some l/\xs[j]?=some x/\z=(bif x.plain then .v x else bif x.aG then l.cX ns cn else .own [n])
 |[],[],[],_,_=>⟨rfl,λj z E=>by simp[ov]at E⟩
 | n :: D,l :: C,x :: xs,I,O=>by
  obtain⟨T,U⟩:=W5 (ns:=ns) (cn:=cn) D C xs (by simpa using I) (by simpa using O)
  refine⟨by simp[ov,T],λj z E=>?_⟩
  cases j with
  |zero=>simp[ov,List.getElem?_cons_zero,ia]at E;exact⟨n,l,x,rfl,rfl,rfl,E.symm⟩
  |succ j=>exact U j z (by simpa [ov]using E)
def W7:∀ (C:aa Nat) (xs:aa V),∀ p∈tJ C xs,∃ (j:Nat) (x:V),C[j]?=some p.1/\xs[j]?=some x/\x.aG=false/\p.2 = .sl x
 |[],[],p,hp=>by cases hp
 |[],_::_,p,hp=>by cases hp
 | n :: C,x :: xs,p,hp=>by
  simp[tJ]at hp;have rest:p∈tJ C xs -> ∃ (j:Nat) (y:V),(n :: C)[j]?=some p.1/\(x :: xs)[j]?=some y/\y.aG=false/\p.2 = .sl y:=λhp=>by
   obtain⟨j,y,E,I,O,T⟩:=W7 C xs p hp;exact⟨j+1,y,by simpa using E,by simpa using I,O,T⟩
  cases D:x.aG with
  |true=>grind
  | false=>
   rw[D]at hp;rcases gk.1 hp with rfl|hp
   ·exact⟨0,x,rfl,rfl,D,rfl⟩
   ·grind
def W8{w:World}{b off n:Nat}{x:V}:∀ (D:aa Nat) (xs:aa V) (C j:Nat),D[j]?=some n -> xs[j]?=some x -> x.aG=false -> (n,(w.cell? ⟨b,off+(C+j),none⟩).getD undef)∈zc w b off C D xs
 |[],_,_,j,h,_,_=>by simp at h
 | m :: D,y :: xs,C,j,E,I,O=>by
  cases j with
  | zero=>
   simp at E I;subst E I;simp only[zc,O];simp_all
  | succ j=>
   have:=W8 (w:=w) (b:=b) (off:=off) D xs (C+1) j (by simpa using E) (by simpa using I) O;rw[show C+1+j=C+(j+1) by omega]at this;simp[zc]
   grind
section
variable {P:Program} {w w':World} {w0:Wd} {B N:Nat} {af dj az:bk} {ρ eR ρ':Nat->Loc} {σ:S} {a:Act} {X:Type} {d:Nat} {r:X} {ns cn:aa Nat} {o:Oper} {rs:aa Nat} {dQ:aa (Nat×Nat)} {nm J2:Nat->Nat} {c0:Nat}
def ju.yT{nm:Nat -> Nat}:∀ (ps:aa Pt) (off:Nat) (C:aa Value) {B':Nat},ju w B af nm off ps C -> B' <= B -> (∀ b,B <= b -> az b=af b) -> (∀ b k,af b=some k -> az b=some k) -> (∀ n,off <= n -> n<off+(ps.map λp=>p.2.length).sum -> nm n=J2 n) -> ju w B' az J2 off ps C
 |[],_,[],_,h,_,_,_,_=>h
 | p :: ps,off,v :: C,B',h,hB,hl,I,D=>by
  obtain⟨⟨O,us,U,Y,Z⟩,uR⟩:=h;simp only[List.map_cons,List.sum_cons]at D
  refine⟨⟨O,us,U,Y,λj x E=>?_⟩,ju.yT ps _ C uR hB hl I (λn h1 h2=>D n (by omega) (by omega))⟩
  obtain⟨T,s8,fo⟩:=Z j x E;have hj:j<p.2.length:=(dA.1 E).1;refine⟨T,s8,?_⟩;show RV w B' az [J2 (off+j)] x T;rw[<- D (off+j) (by omega) (by omega)];exact fo.yT hB hl I (bN.1 O x (gv E))
def P7(hR:Rl w0 N af ρ σ a w)(hv:tF w w' af dj ρ eR ns cn)(nD:∀ b k,az b=some k -> dj b=some k)(n5:∀ b,w.heap.size <= b -> dj b=az b)(hB:w0.heap.size <= w.heap.size):
  ∀(E:aa Mu) (ins outs:aa In) (i C:Nat),(∀j D,E[j]?=some D -> rs[i+j]?=some D.root) -> (∀D∈E,yZ σ D) -> FU E ins -> i+E.length <= 40 -> FN w w' az (wG w ρ rs) nm i C ins outs ->
  (∀k n,(za c0 C E)[k]?=some n -> nm (C+k)=n) -> (∀p∈rY w' ρ c0 C E outs,eR p.1 = .dn p.2) -> (∀D∈E,cM D.root cn=false) -> outs.all WY=true -> ∀p∈kP ns cn c0 C E outs,dM w' w0.heap.size dj eR p.1 p.2
 |[],[],[],_,_,_,_,_,_,_,_,_,_,_,p,hp=>by simp[kP]at hp
 |[],[],_::_,_,_,_,_,_,_,h,_,_,_,_,_,_=>h.elim
 |[],_::_,_,_,_,_,_,h,_,_,_,_,_,_,_,_=>h.elim
 |.ay _ _ _::_,[],_,_,_,_,_,h,_,_,_,_,_,_,_,_=>h.elim
 |.sl _ _::_,[],_,_,_,_,_,h,_,_,_,_,_,_,_,_=>h.elim
 |.ay _ _ _::_,.sl _::_,_,_,_,_,_,h,_,_,_,_,_,_,_,_=>h.elim
 |.sl _ _::_,.ay _::_,_,_,_,_,_,h,_,_,_,_,_,_,_,_=>h.elim
 |.ay _ _ _::_,.ay _::_,[],_,_,_,_,_,_,h,_,_,_,_,_,_=>h.elim
 |.sl _ _::_,.sl _::_,[],_,_,_,_,_,_,h,_,_,_,_,_,_=>h.elim
 |.ay _ _ _::_,.ay _::_,.sl _::_,_,_,_,_,_,_,h,_,_,_,_,_,_=>h.elim
 |.sl _ _::_,.sl _::_,.ay _::_,_,_,_,_,_,_,h,_,_,_,_,_,_=>h.elim
 | .ay r cs I :: E,.ay xs0 :: ins,.ay xs :: outs,i,C,gO,jw,hrel,hi,hO,lF,A3,om,T,p,hp=>by
  obtain⟨hm,hg,hlen⟩:=jw _ (.head _);obtain⟨⟨hw,hx⟩,A0⟩:=hrel;obtain⟨g1,g2⟩:=PZ cs I hg;have nu:=gO 0 _ rfl;rw[Nat.add_zero]at nu;simp only[List.length_cons]at hi;have P8:xs0.length=cs.length:=by rw[<- hw.1,eN,g1]
  obtain⟨⟨b,off,cells,wF,e,e',U,h2,h3,h4,h5,h6,h7⟩,P9⟩:=hO;have eI:=hR.root r _ hm;generalize Y:aP.ay cs=z at eI;cases eI with
  |sl=>cases Y
  |mp=>cases Y
  |gh=>cases Y
  | ay b0 O W9 e0 eM us bV hl hh hs hc=>
   injection Y with Y;subst Y;rw[FT nu (by omega)]at U;have U:ρ r = .ay b off:=U;rw[bV]at U;injection U with e1 e2;subst e1 e2;have ahb:W9=cells:=by
    rw[hh]at h2;injection h2 with h2;injection h2
   subst ahb;have ij:=om _ (.head _);have C6:eR r = .ay b0 O:=(hv.eP r ij).trans bV;have tu:nm C=r:=by have:=lF 0 r rfl;rwa [Nat.add_zero]at this
   have ahc:∀ (j:Nat) n,(l6 c0 (C+1) I)[j]?=some n -> nm (C+1+j)=n:=by
    intro j n Z;have hj:j<(l6 c0 (C+1) I).length:=(dA.1 Z).1;have:=lF (j+1) n (by simp only[za,List.getElem?_cons_succ];rw[List.getElem?_append_left hj];exact Z);rw[show C+1+j=C+(j+1) by omega];exact this
   have mS:∀ (j:Nat) x,xs[j]?=some x -> ∃ u,wF[O+j]?=some u/\w'.cell? ⟨b0,O+j,none⟩=some u/\((x.plain=true /\ ∀ (w:World) (B:Nat) (af:bk) (q:aa Nat),RV w B af q x u) \/ (x.plain=false/\x.aG=true/\W9[O+j]?=some u) \/ (x.aG=false/\RV w' w.heap.size az [nm (C+1+j)] x u)):=by
    intro j x hj;obtain⟨u,hu,hd⟩:=h7 j x hj;exact⟨u,hu,by rw[cell_of_row w' b0 _ wF _ _ h3];exact hu,hd⟩
   have yH:∀ (j:Nat) n x u,(l6 c0 (C+1) I)[j]?=some n -> xs[j]?=some x -> x.aG=false -> w'.cell? ⟨b0,O+j,none⟩=some u -> eR n = .dn u:=by
    intro j n x u Z hxj hf hu;have rV:=W8 (w:=w') (b:=b0) (off:=O) _ xs 0 j Z hxj hf;rw[ff,hu]at rV;exact A3 (n,u) (by simp only[rY,bV,P5];exact List.mem_append_left _ rV)
   simp only[kP]at hp;rcases gk.1 hp with rfl|hp
   ·obtain⟨k1,k2⟩:=W5 (ns:=ns) (cn:=cn) (l6 c0 (C+1) I) cs xs (by rw[FY,g1]) (by rw[h6,P8])
    refine .ay b0 O wF e' _ (λj=>wF.getD (O+j) undef) C6 (nD _ _ (by rw[h4,tu])) h3 (by show O+(ov _ _ _ _ _).length <= _;rw[k1,<- P8,<- h6];exact h5) (λj z Y=>?_)
    obtain⟨n,l,x,n1,n2,n3,rfl⟩:=k2 j z Y;obtain⟨u,hu,J3,hd⟩:=mS j x n3;have eu:wF.getD (O+j) undef=u:=by rw[gN,hu];rfl
    rw[eu];refine⟨hu,?_⟩;rcases hd with ⟨d1,d2⟩|⟨d1,d2,d3⟩|⟨d1,d2⟩
    ·rw[d1,aq];exact⟨V.Fg d1,d2 _ _ _ _⟩
    ·rw[d1,d2,av,aq];obtain⟨c1,c2⟩:=hc j l n2;rw[c1]at d3;injection d3 with d3;rw[<- d3];exact c2.tG hv
    ·have yV:x.plain=false:=by
      cases yV:x.plain with
      |false=>rfl
      |true=>rw[V.Fg yV]at d1;cases d1
     rw[yV,d1,av,av];exact⟨d2.OF d1,by simp only[cF,yH j n x u n1 n3 d1 J3]⟩
   ·rcases kX.1 hp with hp | hp
    ·obtain⟨j,x,n1,n2,n3,n4⟩:=W7 _ _ p hp;obtain⟨u,hu,J3,hd⟩:=mS j x n2;rw[n4];refine .sl u x (yH j p.1 x u n1 n2 n3 J3) ?_;rcases hd with ⟨d1,d2⟩ | ⟨d1,d2,d3⟩ | ⟨d1,d2⟩
     ·simp[*]
     ·rw[n3]at d2;cases d2
     ·rw[ahc j _ n1]at d2;refine d2.yT hB n5 nD ?_;rw[List.all_cons,aJ]at T;have:=bN.1 T.1 x (gv n2)
      rwa [n3,Bool.false_or]at this
    ·rw[List.all_cons,aJ]at T
     refine P7 hR hv nD n5 hB E ins outs (i+1) (C+1+I.length) (λj D A1=>?_) (λD h=>jw D (.tail _ h)) A0 (by omega) ?_ (λk n Z=>?_) (λp hp=>A3 p ?_) (λD h=>om D (.tail _ h)) T.2 p hp
     ·have:=gO (j+1) D (by simpa using A1);rw[show i+(j+1)=i+1+j by omega]at this;exact this
     ·rw[g1,<- P8];exact P9
     ·have:=lF (1+I.length+k) n (by
       rw[show 1+I.length+k=(I.length+k)+1 by omega];simp only[za,List.getElem?_cons_succ];rw[List.getElem?_append_right (by rw[FY];omega),FY];rw[show I.length+k-I.length=k by omega];exact Z)
      rw[show C+1+I.length+k=C+(1+I.length+k) by omega];exact this
     ·simp only[rY];exact List.mem_append_right _ hp
 | .sl q y0 :: E,.sl y1 :: ins,.sl y :: outs,i,C,gO,jw,hrel,hi,hO,lF,A3,om,T,p,hp=>by
  obtain⟨hm,hf⟩:=jw _ (.head _);obtain⟨_,A0⟩:=hrel;have nu:=gO 0 _ rfl;rw[Nat.add_zero]at nu;simp only[List.length_cons]at hi;obtain⟨hO1,P9⟩:=hO;rw[List.all_cons,aJ]at T;have tu:nm C=q:=by have:=lF 0 q rfl;rwa [Nat.add_zero]at this
  have hp:(p=(q,.sl y)/\y.jG=true) \/ p∈kP ns cn c0 (C+1) E outs:=by
   simp only[kP]at hp;cases hy:y.jG with
   |false=>rw[hy]at hp;exact .inr hp
   | true=>
    rw[hy]at hp;rcases gk.1 hp with h|h
    ·grind
    ·simp[*]
  rcases hp with ⟨rfl,hy⟩|hp
  ·obtain⟨v,U,h2⟩:=hO1.resolve_left (by rintro rfl;cases hy);rw[FT nu (by omega)]at U;rw[tu]at h2;exact .sl v y ((hv.eP q (om _ (.head _))).trans U) (h2.yT hB n5 nD T.1)
  ·refine P7 hR hv nD n5 hB E ins outs (i+1) (C+1) (λj D A1=>?_) (λD h=>jw D (.tail _ h)) A0 (by omega) P9 (λk n Z=>?_) (λp hp=>A3 p hp) (λD h=>om D (.tail _ h)) T.2 p hp
   ·have:=gO (j+1) D (by simpa using A1);rw[show i+(j+1)=i+1+j by omega]at this;exact this
   ·have:=lF (k+1) n (by simpa [za]using Z);rw[show C+1+k=C+(k+1) by omega];exact this
end
section
variable {P:Program} {w w':World} {w0:Wd} {B N:Nat} {af dj az:bk} {ρ eR ρ':Nat->Loc} {σ:S} {a:Act} {X:Type} {d:Nat} {r:X} {ns cn:aa Nat} {o:Oper} {rs:aa Nat} {dQ:aa (Nat×Nat)} {nm J2:Nat->Nat} {c0:Nat}
def ahd{C:aj Tmp}{D:fO}{k:S -> aj X}(h:oY N σ C D k=some r):∃ Z,k Z=some r /\ ∀ af ρ a w v,Rl w0 N af ρ σ a w -> oW w w0.heap.size af (λn=>gP C+n) D v -> ∃ ρ',Rl w0 N af ρ' Z (a.put C v) w /\ ∀ r,r<gP C -> ρ' r=ρ r:=by
 unfold oY at h;cases C with
 |none=>exact⟨σ,h,λaf ρ a w v hR _=>⟨ρ,hR,λ_ _=>rfl⟩⟩
 | some d=>
  have h:(bif Nat.blt d N then (match D with
   | .one p=>(match yD (p.1,nA (1000000000100000+1000*d) p.2)with
    |some y=>k ((lZ _ σ p.2).set d y)
    |none=>none)
   |.eO ps=>k ((nB _ σ ps).set d _))else none)=some r:=h
  cases I:Nat.blt d N with
  |false=>rw[I]at h;cases h
  | true=>
   rw[I,aq]at h;have wB:d<N:=cr I;cases D with
   | one p=>
    simp only at h;split at h
    ·rename_i y hy
     refine⟨_,h,λaf ρ a w v hR O=>?_⟩
     obtain⟨ρ',T,U,_,Y⟩:=FJ [p] (1000000000100000+1000*d) 0 σ ρ [v] (by omega) hR O;have Pv:=Y 0 _ v rfl rfl;exact⟨ρ',T.set (OU hy Pv) wB,U⟩
    ·cases h
   | eO wD=>
    refine⟨_,h,λaf ρ a w v hR O=>?_⟩
    obtain⟨E,rfl,hv⟩:=O;obtain⟨ρ',T,U,hlen,Y⟩:=FJ wD (1000000000100000+1000*d) 0 σ ρ E.toList (by omega) hR hv
    refine⟨ρ',T.set ⟨E,rfl,by simpa using hlen,λj p hp=>?_⟩ wB,U⟩
    have hj:j<E.size:=by
     have:=(dA.1 hp).1
     grind
    exact⟨E[j],Array.getElem?_eq_getElem hj,Y j p _ hp (by rw[Array.getElem?_toList,Array.getElem?_eq_getElem hj])⟩
def Qa{f:Nat}{args:Array Operand}{jv:Array TypeId}{c:mV}{k:S -> aj X}(ho:o.op = .call { callee:=.value (.func f),args,argTypes:=jv })(he:enters P f)(hc:uV P f c)(h:nE N σ o.dst c args.toList k=some r):∃ cG C cn,k cG=some r/\ji σ c.ps args.toList=some C/\(∀ n,cM n cn=true -> n<N \/ 60000 <= n)/\(∀ I∈C,cM I.root cn=false) /\
  ∀a w K Q af ρ,Rl w0 N af ρ σ a w -> (∀v w' dj eR vb,Rl w0 N dj vb cG (a.put o.dst v) w' -> tF w w' af dj ρ eR ((kO 0 C).map (·.1)) cn -> iY w0 w w' -> (∀r,r<gP o.dst -> vb r=eR r) -> K (a.put o.dst v) w') -> o.wp P a w K Q:=by
 unfold nE at h;split at h
 ·rename_i C tK;generalize Xa:kO 0 C=dQ at h;cases jN:(once dQ&&Nat.ble C.length 40)with
  |false=>rw[jN]at h;cases h
  | true=>
   rw[jN,aq]at h;rw[aJ]at jN;have at6:=cr jN.2;have tC:∀ p∈kO 0 C,dQ.lookup p.1=some p.2:=by
    intro p hp;rw[Xa]at hp;have:=bN.1 jN.1 p hp;obtain⟨n,O,he⟩:=(Option.any_eq_true _ _).1 this;simp_all
   obtain⟨x,U,hrel,at7,lD⟩:=JZ (w0:=w0) (N:=N) _ _ C _ tK h;clear h;split at U
   ·rename_i y hy;unfold C5 at U;generalize om:mW (gP o.dst) (eJ c.ro y.1).len C (iM (dZ c.ps) y.2)=cn at U;generalize yz:dQ.map (·.1)=ns at U lD;cases jk:C4 N C (iM (dZ c.ps) y.2) cn with
    |false=>rw[jk]at U;cases U
    | true=>
     rw[jk,aq]at U;simp only[C4,aJ]at jk;obtain⟨⟨⟨ok1,Xb⟩,Xc⟩,ok4⟩:=jk;obtain⟨cG,h3,A4⟩:=ahd (w0:=w0) U
     refine⟨cG,C,cn,h3,tK,λn O=>?_,λI jw=>by simpa using bN.1 Xb I jw,λa w K Q af ρ hR hK=>?_⟩
     ·have:=bN.1 Xc n (tE.1 O);rw[dS]at this;rcases this with h | h
      ·exact .inl (by have:=cr h;omega)
      ·exact .inr (cr h)
     have Z:AZ ns af (dY af dQ id):=by rw[<- yz];exact ag9 (λb k hb=>(hR.cL b k hb).2.2)
     have Xd:=JY _ _ _ tK;let rs:=C.map Mu.root
     have gO:∀ j I,C[j]?=some I -> rs[0+j]?=some I.root:=by
      intro j I hj;rw[ff,dW,hj];rfl
     have hE:=P2 (rs:=rs) hR Z C (mU c.ps x) 0 tC gO Xd hrel (by omega);have hA:=lD af ρ a w (dY af dQ id) (wG w ρ rs) hR Z (mU c.ps x) 0 (λj z T=>by rw[ff];exact T) (λj I hj=>by
      have h1:=gO j I hj;rw[ff]at h1 ⊢;exact FT h1 (by have:=(dA.1 hj).1;omega))
     obtain⟨hA1,O8⟩:=C3.get _ _ hA;let nm:Nat -> Nat:=λn=>if n<(eJ c.ro y.1).len then gP o.dst+n else (za (gP o.dst) (eJ c.ro y.1).len C).getD (n-(eJ c.ro y.1).len) 0
     have qD:∀ (ps:aa PK) (i:Nat) (x:kN ps),(jM ps i x).length=ps.length:=by
      intro ps
      induction ps with
      |nil=>intro i x;rfl
      | cons p ps ih=>
       intro i x;cases p with
       |v=>exact bx (· + 1) (ih _ _)
       |p=>exact bx (· + 1) (ih _ _)
       |s=>exact bx (· + 1) (ih _ _)
     unfold Oper.wp;rw[JU w o a f args jv ho he,Oper.upon_enter];have wC:(args.map a.eval)=(args.toList.map a.eval).toArray:=by apply Array.ext';rw[Array.toList_map]
     rw[wC];have J4:∀ b k,dY af dQ id b=some k -> (∃ E,af b=some E/\fK E ns=true)/\k≠[]:=by
      intro b k hb;cases hl:af b with
      |none=>rw[Z.none b hl]at hb;cases hb
      | some E=>
       refine⟨⟨E,rfl,?_⟩,?_⟩
       ·cases hq:fK E ns with
        |true=>rfl
        |false=>rw[(Z.rest b E hl).2 hq]at hb;cases hb
       ·simp only[dY,hl]at hb;split at hb
        ·cases hb
        ·cases Xe:dQ.lookup _ with
         |none=>rw[Xe]at hb;cases hb
         |some n=>rw[Xe]at hb;injection hb with hb;subst hb;simp
     have hQ:Hd w (dY af dQ id):=w0.on hR.below (λb k hb=>by obtain⟨⟨E,hl,_⟩,_⟩:=J4 b k hb;exact(hR.cL b E hl).1)
     refine(hc x y hy nm w (dY af dQ id) (wG w ρ rs) _ hE (λb k hb=>⟨?_,(J4 b k hb).2⟩) ?_ O8 hQ).mono λe w' qC=>?_
     ·obtain⟨⟨E,hl,_⟩,_⟩:=J4 b k hb;exact(hR.cL b E hl).2.1
     ·rw[List.size_toArray,hA1,qD]
     ·obtain⟨v,D,rfl,Y,C7,jL,Qb⟩:=qC;have hB:=hR.below.size;let dj:bk:=λb=>match dY af dQ id b with
       |none=>if b<w.heap.size then af b else D b
       |some _=>D b
      have e1:∀ b k,D b=some k -> dj b=some k:=by
       intro b k hb;show (match dY af dQ id b with|none=>if b<w.heap.size then af b else D b|some _=>D b)=some k;split
       next ij=>have:=(C7 b k hb).1;have n5:=this.resolve_right (λh=>h ij);rw[aW];exact hb
       ·exact hb
      have e2:∀ b,w.heap.size <= b -> dj b=D b:=by
       intro b hb;show (match dY af dQ id b with|none=>if b<w.heap.size then af b else D b|some _=>D b)=D b;split
       ·rw[aW]
       ·rfl
      have Xf:∀ p∈rY w' ρ (gP o.dst) (eJ c.ro y.1).len C (iM (dZ c.ps) y.2),(rY w' ρ (gP o.dst) (eJ c.ro y.1).len C (iM (dZ c.ps) y.2)).lookup p.1=some p.2:=
       W4 (by rw[J1,om];exact ok1)
      generalize A3:rY w' ρ (gP o.dst) (eJ c.ro y.1).len C (iM (dZ c.ps) y.2)=hd at Xf;have ahe:hd.map (·.1)=cn:=by rw[<- A3,J1,om]
      have hv:tF w w' af dj ρ (W2 hd ρ) ns cn:=by
       refine⟨Y.size,λb hb hk=>?_,λn O=>?_,λb k hb=>(hR.cL b k hb).2⟩
       ·have ij:dY af dQ id b=none:=by
         cases hl:af b with
         |none=>exact Z.none b hl
         |some k=>exact(Z.rest b k hl).2 (hk k hl)
        refine⟨Y.block b hb ij,?_⟩;show (match dY af dQ id b with|none=>if b<w.heap.size then af b else D b|some _=>D b)=af b;rw[ij];exact aV hb
       ·show (match hd.lookup n with|some v=>Loc.dn v|none=>ρ n)=ρ n;rw[W3 (by rw[ahe];exact O)]
      have zd:∀I∈C,cM I.root cn=false:=λI jw=>by simpa using bN.1 Xb I jw
      have vc:=P7 (c0:=gP o.dst) (nm:=nm) hR hv e1 e2 hB C (mU c.ps x) (iM (dZ c.ps) y.2) 0 (eJ c.ro y.1).len gO Xd hrel (by omega) Qb (λk n O=>?_) (λp hp=>?_) zd ok4
      ·have Xg:iY w0 w w':=by
        refine⟨Y.os,Y.tape,Y.output,Y.size,λk hk hL=>Y.block k (Nat.lt_of_lt_of_le hk hB) ?_⟩
        cases hl:af k with
        |none=>exact Z.none k hl
        |some E=>exact absurd hL ((hR.cL k E hl).1.resolve_left (by omega))
       have ki:Rl w0 N dj (W2 hd ρ) (σ.cX ns cn (kP ns cn (gP o.dst) (eJ c.ro y.1).len C (iM (dZ c.ps) y.2))) a w':=by
        refine hR.tG hv Xg (λb k hb=>?_) (λn O=>?_) (λn z T=>?_)
        ·have hb:(match dY af dQ id b with | none=>if b<w.heap.size then af b else D b | some _=>D b)=some k:=hb;have Xh:D b=some k -> (w0.heap.size <= b \/ w0.L b≠none)/\b<w'.heap.size/\k≠[]:=by
          intro h1;obtain⟨g1,g2,g3⟩:=C7 b k h1;refine⟨?_,g2,g3⟩;rcases g1 with g1|g1
          ·exact .inl (Nat.le_trans hB g1)
          ·cases ij:dY af dQ id b with
           |none=>exact absurd ij g1
           | some k2=>
            obtain⟨⟨E,hl,_⟩,_⟩:=J4 b k2 ij;exact(hR.cL b E hl).1
         split at hb
         ·split at hb
          ·have:=hR.cL b k hb;exact⟨this.1,Nat.lt_of_lt_of_le this.2.1 Y.size,this.2.2⟩
          ·exact Xh hb
         ·exact Xh hb
        ·have:=bN.1 Xc n (tE.1 O);rw[dS]at this;refine hR.cD n ?_;rcases this with h | h
         ·exact .inl (by have:=cr h;omega)
         ·exact .inr (cr h)
        ·have rV:(n,z)∈kP ns cn (gP o.dst) (eJ c.ro y.1).len C (iM (dZ c.ps) y.2):=by
          clear vc;generalize kP ns cn (gP o.dst) (eJ c.ro y.1).len C (iM (dZ c.ps) y.2)=l at T
          induction l with
          |nil=>cases T
          | cons p l ih=>
           rw[List.lookup_cons]at T;cases hb:n==p.1 with
           | true=>
            rw[hb]at T;have e:n=p.1:=by simpa using hb
            injection T with T;rw[e,<- T]
            grind
           | false=>
            rw[hb]at T;exact .tail _ (ih T)
         exact vc (n,z) rV
       have ahf:oW w' w0.heap.size dj (λn=>gP o.dst+n) (eJ c.ro y.1) v:=?_
       ·obtain⟨vb,FZ,wJ⟩:=A4 dj _ a w' v ki ahf;exact hK v w' dj _ vb FZ (by rw[Xa,yz];exact hv) Xg wJ
       have Qc:∀(L:Nat),L=(eJ c.ro y.1).len -> ∀n,n<L -> nm n=gP o.dst+n:=λL hL n O=>aV
       generalize at8:eJ c.ro y.1=res at jL Qc;cases res with
       | one p=>
        have jL:ju w' w.heap.size D nm 0 [p] [v]:=jL;exact ju.yT [p] 0 [v] jL hB e2 e1 (λn _ O=>Qc _ rfl n (by simpa [fO.len]using O))
       | eO wD=>
        obtain⟨vs,e,jJ⟩:=jL;exact⟨vs,e,ju.yT wD 0 vs.toList jJ hB e2 e1 (λn _ O=>Qc _ rfl n (by simpa [fO.len]using O))⟩
      ·show (if (eJ c.ro y.1).len+k<(eJ c.ro y.1).len then gP o.dst+((eJ c.ro y.1).len+k)else (za _ (eJ c.ro y.1).len C).getD ((eJ c.ro y.1).len+k-(eJ c.ro y.1).len) 0)=n;rw[aW,show (eJ c.ro y.1).len+k-(eJ c.ro y.1).len=k by omega,cW,O];rfl
      ·rw[A3]at hp;show (match hd.lookup p.1 with|some v=>Loc.dn v|none=>ρ p.1) = .dn p.2;rw[Xf p hp]
   ·cases U
 ·cases h
def ahg{f:Nat}{args:Array Operand}{D:Array TypeId}{c:mV}{k:S -> aj X}(E:o.op = .call { callee:=.value (.func f),args,argTypes:=D })(I:enters P f)(O:uV P f c)(h:nE N σ o.dst c args.toList k=some r):∃ C,k C=some r/\kK P w0 N o σ C:=by
 obtain⟨C,Qd,cn,T,_,_,_,U⟩:=Qa E I O h
 refine⟨C,T,λa w K Q hR Y=>?_⟩
 obtain⟨af,ρ,hR⟩:=hR;exact U a w K Q af ρ hR λv w' dj eR Z dc _ _ _=>Y _ _ ⟨dj,Z,dc⟩
end
end Go.Proofs.YtgjfmljpdnnihaaGreat
