/-
  Running the program over pure contents, and that it follows (part 2). Nothing here is a claim.
-/
import Derived.Laws.StructEq
import Derived.Test.YtpigmalhjkekiaaGreatV1
set_option linter.unusedSimpArgs false
namespace Go.Proofs.YtpigmalhjkekiaaGreat
set_option linter.defProp false
open Go.RowKit
set_option linter.unusedVariables false
def ayD{X:Type}(N:Nat)(σ:S)(C:aj Tmp)(c x y:A)(k:S->aj X):aj X:=
 match c with
 |.lf (.v (.bool b))=>bif b then iI N σ C x k else iI N σ C y k
 |_=>none
def G9{X:Type}(P:Program)(s:TypeId)(x:A)(f:Nat)(k:A->aj X):aj X:=
 match GR P s f,x with
 | some C,.agg cs=>(match jF P C.type,D5 P C.type with
  |some n,some true=>if C.offset+n<=cs.length then k (.agg ((cs.drop C.offset).take n))else none
  | some _,some false=>(match cs[C.offset]? with
   |some y=>k (.lf y)
   |none=>none)
  |_,_=>none)
 |_,_=>none
def Ee{X:Type}(C:Bool)(x y:A)(k:A->aj X):aj X:=
 match x,y with
 |.lf (.v (.int D a)),.lf (.v (.int _ b))=>k (.lf (.v (.int D (bif C then (if b > a then b else a)else (if b<a then b else a)))))
 |_,_=>none
def He{X:Type}(P:Program)(t:TypeId)(x i:A)(k:A->aj X):aj X:=
 match x,i with
 | .lf (.v (.str s)),.lf (.v (.int _ iv))=>(match P.underlying t with
  |some .string=>if h:0<=iv/\iv.toNat<s.size then k (.lf (.v (.int .u8 ((s[iv.toNat]'h.2).toNat:Int))))else none
  |_=>none)
 |_,_=>none
def uY{X:Type}(x:aj A)(d:Int)(k:Int->aj X):aj X:=
 match x with
 |none=>k d
 |some (.lf (.v (.int _ n)))=>k n
 |_=>none
def yw{X:Type}(P:Program)(t:TypeId)(x:A)(lo hi:aj A)(k:A->aj X):aj X:=
 match x with
 | .lf (.v (.str s))=>(match P.underlying t with
  |some .string=>uY lo 0 λl=>uY hi (s.size:Int) λh=>if 0<=l/\l<=h/\h<=(s.size:Int)then k (.lf (.v (.str (s.extract l.toNat h.toNat))))else none
  |_=>none)
 | .lf (.v (.sl C g D l))=>(match qV P t with
  | some e=>(match jF P e with
   |some n=>if n=aC C then (bif Nat.blt g 2 then uY lo 0 λa=>uY hi (l.length:Int) λb=>if 0<=a/\a<=b/\b<=(l.length:Int)then k (.lf (.v (.sl C g false ((l.take b.toNat).drop a.toNat))))else none else none)else none
   |none=>none)
  |none=>none)
 |_=>none
def Ef(P:Program)(C D:TypeId):Bool:=
 match P.underlying C,P.underlying D with
 | some (.slice e),some .string=>(match P.underlying e with
  |some (.int .u8)=>true
  |_=>false)
 |_,_=>false
def Mj{X:Type}(P:Program)(C D:TypeId)(z:V)(k:A->aj X):aj X:=
 match z with
 |.sl .u8 _ _ l=>bif Ef P C D then k (.lf (.v (.str (strOfNums l))))else none
 |.nil=>bif Ef P C D then k (.lf (.v (.str (strOfNums []))))else none
 |_=>none
def Ag{X:Type}(P:Program)(σ:S)(C D:TypeId)(x:A)(k:A->aj X):aj X:=
 match x with
 | .lf (.v (.int _ n))=>(match P.underlying C,P.underlying D with
  |some _,some (.int E)=>k (.lf (.v (.int E (E.wrap n))))
  |_,_=>none)
 |.lf y=>qg σ y λz=>Mj P C D z k
 |_=>none
section
variable {P:Program} {w w':World} {w0:Wd} {B N:Nat} {af aA:bw} {ρ ρ':Nat->Loc} {σ:S} {a:Act} {X:Type} {d:Nat} {r:X} {o:Oper}
def ayE{α:Type}(f:α -> aa Value)(s:Nat)(C:∀ x,(f x).length=s)(l:aa α):(l.flatMap f).length=l.length*s:=by
 induction l with
 |nil=>simp
 |cons a l D=>grind
def aj0{α:Type}(f:α -> aa Value)(s:Nat)(D:∀ x,(f x).length=s):∀ (l:aa α) (k:Nat) (C:k<l.length) (j:Nat),j<s -> (l.flatMap f)[k*s+j]?=(f l[k])[j]?:=by
 intro l
 induction l with
 |nil=>simp_all
 | cons a l E=>
  intro k C j I;rw[List.flatMap_cons];cases k with
  |zero=>grind
  |succ k =>grind
def ZW(z:Array Value)(s n:Nat)(C:z.size=s)(E:0<s):(madeCells z (n*s)).toList=(List.replicate n z.toList).flatten:=by
 have e:(List.replicate n z.toList).flatten=(List.replicate n ()).flatMap (λ_=>z.toList):=by
  rw[List.flatMap_def,List.map_replicate]
 rw[e];have hl:((List.replicate n ()).flatMap (λ_=>z.toList)).length=n*s:=by
  simp_all
 apply List.ext_getElem?;intro i;rcases Nat.lt_or_ge i _ with hi|hi
 ·have I:i / s<n:=Nat.div_lt_of_lt_mul (by rw[Nat.mul_comm];exact hi);have O:i % s<s:=Nat.mod_lt _ E;have T:i=i / s*s+i % s:=by rw[Nat.mul_comm];exact(Nat.div_add_mod i s).symm
  have D:=aj0 (λ_=>z.toList) s (λ_=>by simpa using C) (List.replicate n ()) (i / s) (by simpa using I) (i % s) O;rw[<- T]at D;rw[D];have U:i % s<z.size:=by omega
  simp only[madeCells,Array.toList_map,Array.toList_range,eO,List.getElem?_range hi,Option.map_some,C];simp[U]
 ·rw[pX (by rw[mb,size_madeCells];exact hi),pX (by rw[hl];exact hi)]
def aj1{t:TypeId}{len:Nat}{parts:Array (Nat×Operand)}{k:S -> aj X}(h:Af P N σ d t len parts.toList k=some r):∃ dc,k dc=some r /\ ∀ af ρ a w,Rl w0 N af ρ σ a w ->
  ∃w' aA ρ' v,(Instr.buildSlice t len (parts.map λ(i,x)=>(i,a.eval x))).run P w = .ok v w'/\Rl w0 N aA ρ' dc (a.put (some d) v) w':=by
 unfold Af at h;split at h
 ·rename_i e tc qj;obtain⟨gD,ht,i,hi,Y,kf⟩:=Ab qj;split at h
  ·rename_i z hz;cases T:(Nat.beq (full tc) 0&&Nat.beq z.cells.size (aC tc)&&Nat.blt (len*aC tc) 16777217)with
   |false=>rw[T]at h;cases h
   | true=>
    rw[T,aq]at h;simp only[aM]at T;have hf:=cJ T.1.1;have nP:=cJ T.1.2;have hsm:len*aC tc<16777217:=by have:=cE T.2;omega
    have qk:i.zero=some z:=by unfold zeroOf at hz;simpa [hi]using hz
    split at h
    ·rename_i cs gu;split at h
     ·rename_i vs kB;split at h
      ·rename_i l hl;obtain⟨hd,h⟩:=nY h
       refine⟨_,h,λaf ρ a w hR=>?_⟩
       obtain⟨wm,yh,hU⟩:=Mi tc 0 len vs l hl;have SB:eX w w0.heap.size af ρ (List.replicate len (z.cells.toList.map oL)).flatten (madeCells z.cells (len*aC tc)):=by
        have e1:(List.replicate len (z.cells.toList.map oL)).flatten=((List.replicate len z.cells.toList).flatten).map oL:=by
         rw[List.map_flatten,List.map_replicate]
        rw[e1,<- ZW z.cells (aC tc) len nP (oH tc)]
        refine⟨by simp,λj x C=>?_⟩
        rw[eO]at C;cases E:(madeCells z.cells (len*aC tc)).toList[j]? with
        |none=>rw[E]at C;cases C
        | some v=>
         rw[E]at C;injection C with C;subst C;exact⟨v,by simpa using E,Ma v⟩
       obtain⟨I,yx,dL⟩:=Mh (w:=w) (B:=w0.heap.size) (af:=af) (ρ:=ρ) _ _ _ (parts.toList.map λp=>(p.1,a.eval p.2)) cs gu SB (by simp) (λj p q O Z=>by
        rw[eO]at O Z;cases C:parts.toList[j]? with
        |none=>rw[C]at O;cases O
        | some x=>
         rw[C]at O Z;injection O with O;injection Z with Z;subst O Z;exact⟨rfl,hR.aL x.2⟩)
       have Hf:=G8 cs vs kB;have SC:I.size=len*aC tc:=by rw[dL.1,Hf,fy,yh]
       have eR:(Instr.buildSlice t len (parts.map λ(i,x)=>(i,a.eval x))).run P w = .ok (.slice (some ⟨w.heap.size,0,none⟩) len len) (w.alloc (.cells I e)):=by
        have G7:(parts.map λ(i,x)=>(i,a.eval x)).toList=parts.toList.map λp=>(p.1,a.eval p.2):=by simp
        by_cases h0:len*aC tc=0
        ·have hm:madeCells z.cells (len*aC tc) = #[]:=by rw[h0];simp[madeCells]
         rw[hm]at yx;have SD:len*i.size=0:=by rw[Y];exact h0
         rw[<- Y]at yx;have e0:∀f:Nat -> Value,Array.map f (Array.range 0) = #[]:=λf=>by simp
         simp only[Instr.buildSlice,gA,iu gD,sizeOf,typeInfo];simp[hi,SD];rw[e0,yx];simp[newRow]
        ·exact run_buildSlice (P:=P) w t e len _ I i z gD hi qk (by rw[Y];omega) (by rw[Y];exact h0) (by rw[Y,G7];exact yx)
       refine⟨_,bJ af w.heap.size (some [d]),bJ ρ d (.dQ (.slice (some ⟨w.heap.size,0,none⟩) len len)),_,eR,(hR.Cf (hR.cS d (.inl hd)) (λr hr=>cy _ _ _ hr) (.sl _ _ (bM _ _ _) ?_)).set ⟨rfl,by simp[c9,bM]⟩ hd⟩
       have nX:∀ D (U:D<l.length) j x,(enc tc 0 l[D])[j]?=some x -> ∃ v,I[D*aC tc+j]?=some v /\ ∀ (w':World) (B':Nat) (aA:bw) (q':aa Nat),RV w' B' aA q' x v:=by
        intro D U j x C;obtain⟨y,hy,hw⟩:=hU D U j x C;obtain⟨v,E,hr⟩:=dL.2 (D*aC tc+j) (.v y) (by rw[Hf,eO,hy];rfl);exact⟨v,E,λw' B' aA q'=>(hr.2.wk hw).uO (zR tc 0 l[D] hf x (gT C))⟩
       have:=RV.own (w:=w.alloc (.cells I e)) (B:=w0.heap.size) (af:=bJ af w.heap.size (some [d])) [d] tc 0 true l w.heap.size len I (λi j=>(I[i*aC tc+j]?).getD undef)
        (bM _ _ _) (by rw[ht];exact heap_alloc_new w _) SC (by omega) ⟨by have:=Nat.le_mul_of_pos_right len (oH tc);unfold maxLen;omega,λ_=>wm.symm⟩ (λD U j x C=>?_) (λD U j x C=>?_)
       ·rw[wm]at this;exact this
       ·obtain⟨v,E,_⟩:=nX D U j x C;rw[E];rfl
       ·obtain⟨v,E,hr⟩:=nX D U j x C;rw[E];exact hr _ _ _ _
      ·cases h
     ·cases h
    ·cases h
  ·cases h
 ·cases h
def ZX{C:Bool}{x y:A}{k:A->aj X}(h:Ee C x y k=some r):∃ z,k z=some r/\∀ (w:World) (B:Nat) (af:bw) (ρ:Nat->Loc) (t ty:TypeId) (u v:Value),RA w B af ρ x u->RA w B af ρ y v->
  ∃D,((bif C then Builtin.max_ #[t,t] ty #[u,v]else Builtin.min_ #[t,t] ty #[u,v]):Sem Value).run P w = .ok D w/\RA w B af ρ z D:=by
 unfold Ee at h;split at h
 ·refine⟨_,h,λw B af ρ t ty u v E I=>?_⟩
  obtain rfl:=E.2.gY;obtain rfl:=I.2.gY;cases C with
  |true=>exact⟨_,by simp[Builtin.max_,Builtin.max2],rfl,.int _ _ _⟩
  |false=>exact⟨_,by simp[Builtin.min_,Builtin.min2],rfl,.int _ _ _⟩
 ·cases h
def aj2{t:TypeId}{x i:A}{k:A->aj X}(h:He P t x i k=some r):∃ z,k z=some r/\∀ (w:World) (B:Nat) (af:bw) (ρ:Nat->Loc) (u v:Value),RA w B af ρ x u->RA w B af ρ i v->
  ∃C,(Instr.index t u v).run P w = .ok C w/\RA w B af ρ z C:=by
 unfold He at h;split at h
 ·rename_i s O iv;split at h
  ·rename_i D;split at h
   ·rename_i hb
    refine⟨_,h,λw B af ρ u v E I=>?_⟩
    obtain rfl:=E.2.ye;obtain rfl:=I.2.gY;exact⟨_,by simp[Instr.index,asIntOf,iu D,hb.1,hb.2],rfl,.int _ _ _⟩
   ·cases h
  ·cases h
 ·cases h
def ZY{C D:TypeId}(h:Ef P C D=true):∃ e,P.underlying C=some (.slice e)/\P.underlying D=some .string/\P.underlying e=some (.int .u8):=by
 unfold Ef at h
 grind
def ZZ(l:aa Int)(i:Nat)(hi:i<l.length):l.getD i 0=l[i]:=by rw[cK,bK hi];rfl
def RV.toStr{I O e:TypeId}(Y:P.underlying I=some (.slice e))(Z:P.underlying O=some .string)(he:P.underlying e=some (.int .u8)){o:Nat}{qn:Bool}{l:aa (T .u8)}{q:aa Nat}{B:Nat}{u:Value}(h:RV w B af q (.sl .u8 o qn l) u):
  (convert I O u).run P w = .ok (.string (strOfNums l)) w:=by
 generalize C:V.sl .u8 o qn l=y at h;cases h with
 |int=>cases C
 |bool=>cases C
 |str=>cases C
 |nil=>cases C
 | eS q t o'=>
  injection C with D e2 e3 E;subst D;obtain rfl:=eq_of_heq E;rw[run_convert_bytes_nil w I e Y he 0 0 O Z];rfl
 | fU q t o' A c ho=>
  injection C with D e2 e3 E;subst D;obtain rfl:=eq_of_heq E;have hl:=run_loadCells_list (P:=P) w A [] (λj v hj=>by simp at hj);rw[run_convert_bytes_string w I O e _ 0 c Y he Z];rfl
 | gj q t o' A c ho=>
  injection C with D e2 e3 E;subst D;obtain rfl:=eq_of_heq E;have hl:(loadCells A 0).run P w = .ok (([]:aa Int).map (Value.int .u8)).toArray w:=run_loadCells_list (P:=P) w A [] (λj v hj=>by simp at hj);rw[run_convert_bytes_string w I O e _ 0 c Y he Z,run_bytesToString w A 0 c [] hl];rfl
 | aH q t o' SE l' b off cap uu ho hl hb h1 kz hc hr=>
  injection C with D e2 e3 E;subst D;obtain rfl:=eq_of_heq E
  refine run_convert_bytes_arg w I e Y he b off _ cap l rfl (λi hi=>?_) O Z
  have U:=hc i hi 0 (.int .u8 l[i]) rfl;have h3:=(hr i hi 0 (.int .u8 l[i]) rfl).gY;simp only[aC,Nat.mul_one,Nat.add_zero]at U;have hg:=ZZ (show aa Int from l) i hi;rw[U,h3];exact bB (λz=>some (Value.int .u8 z)) hg.symm
 | own q t o' SE l' b cap cs uu hl hh qe hn hm hc hr=>
  injection C with D e2 e3 E;subst D;obtain rfl:=eq_of_heq E
  refine run_convert_bytes_arg w I e Y he b 0 _ cap l rfl (λi hi=>?_) O Z
  have U:=hc i hi 0 (.int .u8 l[i]) rfl;have h3:=(hr i hi 0 (.int .u8 l[i]) rfl).gY;simp only[aC,Nat.mul_one,Nat.add_zero]at U;have hg:=ZZ (show aa Int from l) i hi;rw[h3]at U;have h4:w.cell? ⟨b,0+i,none⟩=some (.int .u8 l[i]):=by simp[World.cell?,hh,U]
  rw[h4];exact bB (λz=>some (Value.int .u8 z)) hg.symm
def aj3{E I:TypeId}{x:A}{k:A -> aj X}(h:Ag P σ E I x k=some r):∃ z,k z=some r /\ ∀ af ρ a w,Rl w0 N af ρ σ a w -> ∀ u,RA w w0.heap.size af ρ x u ->
  ∃t',(convert E I u).run P w = .ok t' w/\RA w w0.heap.size af ρ z t':=by
 unfold Ag at h;split at h
 ·rename_i kk n;split at h
  ·rename_i d1 kd hs hd
   refine⟨_,h,λaf ρ a w _ u C=>?_⟩
   obtain rfl:=C.2.gY;exact⟨_,by simp[convert,iu hs,iu hd,Conv.intToInt],rfl,.int _ _ _⟩
  ·cases h
 ·rename_i y _;have key:∃ z,(∀ af ρ a w,Rl w0 N af ρ σ a w -> ∀ u,eB w w0.heap.size af ρ y u -> ∃ q,RV w w0.heap.size af q z u)/\Mj P E I z k=some r:=by
   cases y with
   |v z=>exact⟨z,λaf ρ a w _ u C=>⟨[],C.2⟩,h⟩
   |dead=>cases h
   | own q=>
    obtain⟨z,T,h⟩:=tv q _ h
    refine⟨z,λaf ρ a w hR u C=>?_,h⟩
    obtain⟨v,hv,U⟩:=T.ok hR.root;have h3:=C.2
    grind
  obtain⟨z,T,D⟩:=key;clear h;unfold Mj at D;split at D
  ·rename_i o qn l;cases O:Ef P E I with
   |false=>simp_all
   | true=>
    rw[O]at D;obtain⟨e,Y,Z,e3⟩:=ZY O
    refine⟨_,D,λaf ρ a w hR u C=>?_⟩
    obtain⟨q,U⟩:=T af ρ a w hR u C;exact⟨_,U.toStr Y Z e3,rfl,.str _ _⟩
  ·cases O:Ef P E I with
   |false=>simp_all
   | true=>
    rw[O,aq]at D;obtain⟨e,Y,Z,e3⟩:=ZY O
    refine⟨_,D,λaf ρ a w hR u C=>?_⟩
    obtain⟨q,U⟩:=T af ρ a w hR u C;cases U;exact⟨_,by rw[run_convert_bytes_nil w E e Y e3 0 0 I Z];rfl,rfl,.str _ _⟩
  ·cases D
 ·cases h
def aj4{s:TypeId}{x:A}{f:Nat}{k:A -> aj X}(h:G9 P s x f k=some r):∃ z,k z=some r /\ ∀ (w:World) (B:Nat) (af:bw) (ρ:Nat -> Loc) (u:Value),RA w B af ρ x u ->
  ∃Y,(Instr.field s u f).run P w = .ok Y w/\RA w B af ρ z Y:=by
 unfold G9 at h;split at h
 ·rename_i E cs I;have kC:∃ fs,P.underlying s=some (.struct fs)/\fs[f]?=some E:=by
   unfold GR at I;split at I
   ·simp_all
   ·cases I
  obtain⟨fs,Z,Ah⟩:=kC;split at h
  ·rename_i n O C;split at h
   ·rename_i hle
    refine⟨_,h,λw B af ρ u D=>?_⟩
    obtain⟨us,rfl,hR⟩:=D;have T:(isAgg E.type).run P w = .ok true w:=by
     unfold D5 at C;split at C
     next fs' D=>unfold isAgg;rw[gA,iu D];rfl
     next c e D=>unfold isAgg;rw[gA,iu D];rfl
     ·cases C
     ·cases C
    unfold jF at O;cases hi:P.info? E.type with
    |none=>simp_all
    | some i=>
     have yc:i.size=n:=by simpa [hi]using O
     refine⟨.agg (us.extract E.offset (E.offset+n)),by simp[Instr.field,iu Z,Ah,asAgg,part,gA,T,sizeOf,typeInfo,hi,yc],_,rfl,?_,λj y U=>?_⟩
     ·have:=hR.1
      grind
     ·obtain⟨hj,Hg⟩:=L1 _ _ _ _ _ U;obtain⟨v,hv,hr⟩:=hR.2 _ y Hg
      grind
   ·cases h
  ·rename_i n O C;split at h
   ·rename_i y U
    refine⟨_,h,λw B af ρ u D=>?_⟩
    obtain⟨us,rfl,hR⟩:=D;obtain⟨v,hv,hr⟩:=hR.2 _ y U;have T:(isAgg E.type).run P w = .ok false w:=by
     unfold D5 at C;split at C
     ·cases C
     ·cases C
     next d hs ha D=>unfold isAgg;rw[gA,iu D];simp_all
     ·cases C
    exact⟨v,by simp[Instr.field,iu Z,Ah,asAgg,part,gA,T,hv],hr⟩
   ·cases h
  ·cases h
 ·cases h
end
def V.val:V->Value
 |.int k n=>.int k n
 |.bool b=>.bool b
 |.str s=>.string s
 |_=>undef
def Mk:TypeDesc->V->V->aj Bool
 |.int _,.int k a,.int C b=>if k=C then some (a==b)else none
 |.bool,.bool a,.bool b=>some (a==b)
 |.string,.str a,.str b=>some (a.toList==b.toList)
 |_,_,_=>none
def Hh(P:Program)(g:TypeId->aa V->aa V->aj Bool)(xs ys:aa V):aa Field->aj Bool
 |[]=>some true
 | f :: fs=>bif f.name == "_" then Hh P g xs ys fs else (match jF P f.type with
  | some n=>bif Nat.ble (f.offset+n) xs.length then (match g f.type ((xs.drop f.offset).take n) ((ys.drop f.offset).take n),Hh P g xs ys fs with
   |some a,some b=>some (a&&b)
   |_,_=>none)else none
  |none=>none)
def Ai(P:Program):Nat->TypeId->aa V->aa V->aj Bool
 |0,_,_,_=>none
 | n+1,t,xs,ys=>match P.underlying t with
  |some (.struct fs)=>bif P.stoodInHeld t ||!Nat.beq xs.length ys.length then none else Hh P (Ai P n) xs ys fs.toList
  | some d=>(match xs,ys with
   |[x],[y]=>Mk d x y
   |_,_=>none)
  |none=>none
def Ml:BinOp->aj Bool
 |.eql=>some false
 |.neq=>some true
 |_=>none
def jG{α:Type}:aa α->Bool
 |[]=>true
 |_=>false
def isStr(P:Program)(t:TypeId):Bool:=match P.underlying t with
 |some (.struct _)=>true
 |_=>false
def Aj{X:Type}(P:Program)(σ:S)(D:BinOp)(t:TypeId)(x y:A)(k:A->aj X):aj X:=
 match Ml D,x,y with
 | some C,.agg cs,.agg E=>(match r7 cs,r7 E with
  | some xs,some ys=>bif P.eqGuardType P.depth t || !isStr P t then none else (match Ai P 20 t xs ys with
   |some b=>k (.lf (.v (.bool (bif C then !b else b))))
   |none=>none)
  |_,_=>none)
 | some C,.lf l,.lf (.v .nil)=>(match qV P t with
  | some _=>qg σ l λz=>(match z with
   |.nil=>k (.lf (.v (.bool (bif C then false else true))))
   |.sl _ _ true _=>k (.lf (.v (.bool (bif C then true else false))))
   |.sl _ _ false l=>bif jG l then none else k (.lf (.v (.bool (bif C then true else false))))
   |_=>none)
  |none=>none)
 |_,_,_=>vK x λa=>vK y λb=>GO P t D a b λz=>k (.lf (.v z))
section
variable {P:Program} {w w':World} {w0:Wd} {B N:Nat} {af aA:bw} {ρ ρ':Nat->Loc} {σ:S} {a:Act} {X:Type} {d:Nat} {r:X} {o:Oper}
def aj5{D:TypeDesc}{x y:V}{b:Bool}{t:TypeId}{n:Nat}(C:P.underlying t=some D)(h:Mk D x y=some b):(Op.equalIn (n+1) t x.val y.val).run P w = .ok b w:=by
 unfold Mk at h;split at h
 ·split at h
  next I _ a k O E=>subst E;injection h with h;subst h;exact run_equalIn_int w n t _ _ _ _ C
  ·cases h
 ·injection h with h;subst h;exact run_equalIn_bool' w n t _ _ C
 ·injection h with h;subst h;exact run_equalIn_string w n t _ _ C
 ·cases h
def uZ(P:Program)(t:TypeId)(xs:aa V)(u:Value):Prop:=
 match P.underlying t with
 |some (.struct _)=>u = .agg (xs.map V.val).toArray
 |_=>∃x,xs=[x]/\u=x.val
def Z0{t:TypeId}{n off:Nat}{xs:aa V}(I:jF P t=some n)(hle:off+n <= xs.length)(O:∃ d,P.underlying t=some d/\(∀ c e,d ≠ .array c e)/\((∀ fs,d ≠ .struct fs) -> n=1)):
  ∃u,(part t (xs.map V.val).toArray off).run P w = .ok u w/\uZ P t ((xs.drop off).take n) u:=by
 obtain⟨d,C,T,U⟩:=O;unfold jF at I;cases hi:P.info? t with
 |none=>grind
 | some i=>
  have Y:i.size=n:=by simpa [hi]using I
  by_cases D:∃fs,d = .struct fs
  ·obtain⟨fs,rfl⟩:=D;have E:(isAgg t).run P w = .ok true w:=by
    unfold isAgg;rw[gA,iu C];rfl
   refine⟨.agg ((xs.map V.val).toArray.extract off (off+n)),by simp[part,gA,E,sizeOf,typeInfo,hi,Y],?_⟩;unfold uZ;rw[C];simp only;congr 1;apply Array.ext';simp[List.map_drop,List.map_take]
  ·have E:(isAgg t).run P w = .ok false w:=by
    unfold isAgg;rw[gA,iu C w];cases d<;>first|rfl|(exfalso;exact D ⟨_,rfl⟩)|(exfalso;exact T _ _ rfl)
   have Z:n=1:=U λfs e=>D ⟨fs,e⟩
   subst Z;have dK:off<xs.length:=by omega
   have nX:(xs.map V.val).toArray[off]?=some (xs[off]).val:=by simp[dK]
   refine⟨(xs[off]).val,by simp[part,gA,E,nX],?_⟩;have e1:(xs.drop off).take 1=[xs[off]]:=by
    rw[List.drop_eq_getElem_cons];rfl
   unfold uZ;rw[C];split
   ·grind
   ·grind
def aj6{n:Nat}{t:TypeId}{xs ys:aa V}{b:Bool}(h:Ai P n t xs ys=some b):∃ d,P.underlying t=some d/\(∀ c e,d ≠ .array c e)/\((∀ fs,d ≠ .struct fs) -> xs.length=1):=by
 cases n with
 |zero=>cases h
 | succ n=>
  unfold Ai at h;split at h
  ·simp_all
  ·rename_i d E C;split at h
   next x y=>exact⟨d,C,(λc e D=>by subst D;simp[Mk]at h),λ_=>rfl⟩
   ·cases h
  ·cases h
def SF{n:Nat}{xs ys:aa V}(hlen:xs.length=ys.length)(E:∀ t xs ys b,Ai P n t xs ys=some b -> ∀ u v,uZ P t xs u -> uZ P t ys v -> ∀ k,(Op.equalIn (k+n) t u v).run P w = .ok b w)(k:Nat):∀ (fs:aa Field) (b:Bool),Hh P (Ai P n) xs ys fs=some b ->
  (Op.eqFields (k+n) (xs.map V.val).toArray (ys.map V.val).toArray fs).run P w = .ok b w
 | [],b,h=>by
  injection h with h;subst h;simp[Op.eqFields]
 | f :: fs,b,h=>by
  unfold Hh at h;cases C:f.name == "_" with
  | true=>
   rw[C]at h;have:f.name = "_":=by simpa using C
   simp[Op.eqFields,this,not_true];exact SF hlen E k fs b h
  | false=>
   rw[C,av]at h;have cA:f.name ≠ "_":=by simpa using C
   split at h
   ·rename_i s I;cases D:Nat.ble (f.offset+s) xs.length with
    |false=>simp_all
    | true=>
     rw[D,aq]at h;have D:=cE D;split at h
     ·rename_i c e O h2;injection h with h;subst h;obtain⟨d1,T,U,Y⟩:=aj6 O;have Z:((xs.drop f.offset).take s).length=s:=by simp;omega
      obtain⟨u,SG,qv⟩:=Z0 (w:=w) I D ⟨d1,T,U,λh=>Z.symm.trans (Y h)⟩;obtain⟨v,Hi,yz⟩:=Z0 (w:=w) (xs:=ys) (off:=f.offset) I (by omega) ⟨d1,T,U,λh=>Z.symm.trans (Y h)⟩;have hr:=E _ _ _ c O u v qv yz k;have wo:=SF hlen E k fs e h2;simp only[Op.eqFields,cA,ne_eq,not_false_eq_true,if_true,gA,SG,Hi,hr,me];cases c
      ·simp
      ·simp_all
     ·cases h
   ·cases h
def Z1:∀ (n:Nat) (t:TypeId) (xs ys:aa V) (b:Bool),Ai P n t xs ys=some b -> ∀ u v,uZ P t xs u -> uZ P t ys v -> ∀ k,(Op.equalIn (k+n) t u v).run P w = .ok b w
 |0,t,xs,ys,b,h=>by cases h
 | n+1,t,xs,ys,b,h=>by
  intro u v C D k;unfold Ai at h;split at h
  ·rename_i fs I;cases E:(P.stoodInHeld t || !Nat.beq xs.length ys.length)with
   |true=>simp_all
   | false=>
    rw[E,av]at h;rw[nQ,Bool.not_eq_false']at E;have hlen:=cJ E.2;unfold uZ at C D;rw[I]at C D;simp only at C D;subst C D;have U:P.fieldsOf t=fs:=by simp[Program.fieldsOf,I]
    rw[<- Nat.add_assoc,run_equalIn_struct w (k+n) t _ _ (by rw[U];exact I) E.1,U];exact SF hlen (Z1 n) k fs.toList b h
  ·rename_i d Z Y;split at h
   ·rename_i x y;unfold uZ at C D;rw[Y]at C D;split at C
    ·simp_all
    ·split at D
     ·simp_all
     ·obtain⟨x',O,rfl⟩:=C;obtain⟨y',T,rfl⟩:=D;injection O with O;injection T with T;subst O T;exact aj5 Y h
   ·cases h
  ·cases h
def Z2{cs:aa Lf}{xs:aa V}(h:r7 cs=some xs){u:Value}(D:RA w B af ρ (.agg cs) u):u = .agg (xs.map V.val).toArray:=by
 obtain⟨e,E⟩:=L2 _ _ h;obtain⟨us,rfl,Y,I⟩:=D;congr 1;apply Array.ext';apply List.ext_getElem?;intro j;rw[ eO,Array.getElem?_toList];cases C:xs[j]? with
 |none =>simp_all
 | some x=>
  obtain⟨v,O,T⟩:=I j _ (by rw[e,eO,C];rfl);rw[O];have:=E x (gT C);have U:=T.2;cases U<;>first|rfl|cases this
def Eg{C:BinOp}{D:Bool}(E:Ml C=some D){t e:TypeId}(I:P.underlying t=some (.slice e))(O T:Operand)(A:aj Addr)(n c:Nat):
  (do eqGuard C t O T (.slice A n c) (.slice none 0 0);binOp C t (.slice A n c) (.slice none 0 0):Sem Value).run P w = .ok (.bool (bif D then !A.isNone else A.isNone)) w:=by
 have U:(Op.equal t (.slice A n c) (.slice none 0 0)).run P w = .ok A.isNone w:=by
  have h:∀ d,(Op.equalIn (d+1) t (.slice A n c) (.slice none 0 0)).run P w = .ok A.isNone w:=by
   intro d;cases A<;>simp[Op.equalIn,iu I]
  exact h 9999
 cases C<;>simp[Ml]at E<;>subst E<;>simp[eqGuard,binOp,U]
def aj7{op:BinOp}{t:TypeId}{x y:A}{k:A -> aj X}(h:Aj P σ op t x y k=some r):∃ z,k z=some r /\ ∀ af ρ a w,Rl w0 N af ρ σ a w -> ∀ C D u v,RA w w0.heap.size af ρ x u -> RA w w0.heap.size af ρ y v ->
  ∃t',(do eqGuard op t C D u v;binOp op t u v:Sem Value).run P w = .ok t' w/\RA w w0.heap.size af ρ z t':=by
 unfold Aj at h;split at h
 ·rename_i T cs ds O;split at h
  ·rename_i xs ys qi Ak;cases hg:(P.eqGuardType P.depth t || !isStr P t)with
   |true=>simp_all
   | false=>
    rw[hg,av]at h;rw[nQ,Bool.not_eq_false']at hg;obtain⟨hg,kC⟩:=hg;split at h
    ·rename_i b hb
     refine⟨_,h,λaf ρ a w hR C D u v E I=>?_⟩
     have E:=Z2 qi E;have I:=Z2 Ak I;subst E I;have hs:∃ fs,P.underlying t=some (.struct fs):=by
      unfold isStr at kC;split at kC
      ·simp_all
      ·cases kC
     obtain⟨fs,Ah⟩:=hs;have Y:=Z1 (w:=w) 20 t xs ys b hb (.agg (xs.map V.val).toArray) (.agg (ys.map V.val).toArray) (by unfold uZ;rw[Ah]) (by unfold uZ;rw[Ah]) 9980;refine⟨.bool (bif T then !b else b),?_,rfl,.bool _ _⟩;rw[gA,run_eqGuard_agg w op t C D _ _ hg,me];cases op<;>simp[Ml]at O<;>subst O
     ·rw[run_eql_struct,Y];rfl
     ·rw[run_neq_struct,Y];rfl
    ·cases h
  ·cases h
 ·rename_i T l O;split at h
  ·rename_i e he;have Z:P.underlying t=some (.slice e):=by
    unfold qV at he;split at he
    ·simp_all
    ·cases he
   obtain⟨z,hz,U⟩:=Sz (w0:=w0) (N:=N) h;clear h;split at U
   ·refine⟨_,U,λaf ρ a w hR C D u v E I=>?_⟩
    obtain⟨q,hq⟩:=hz af ρ a w hR u E;cases hq;cases I.2;exact⟨_,Eg O Z C D none 0 0,rfl,by cases T<;>exact .bool _ _⟩
   ·refine⟨_,U,λaf ρ a w hR C D u v E I=>?_⟩
    obtain⟨q,hq⟩:=hz af ρ a w hR u E;cases I.2;cases hq with
    |aH _ _ _ _ _ b off cap us ho hl hb h1 kz hc Y=>exact⟨_,Eg O Z C D _ _ _,rfl,by cases T<;>exact .bool _ _⟩
    |own=>exact⟨_,Eg O Z C D _ _ _,rfl,by cases T<;>exact .bool _ _⟩
    |gj=>exact⟨_,Eg O Z C D _ _ _,rfl,by cases T<;>exact .bool _ _⟩
   ·rename_i t' o' l';cases hl:jG l' with
    |true=>simp_all
    | false=>
     rw[hl,av]at U
     refine⟨_,U,λaf ρ a w hR C D u v E I=>?_⟩
     obtain⟨q,hq⟩:=hz af ρ a w hR u E;cases I.2;cases hq with
     |eS=>cases hl
     |fU=>cases hl
     |aH _ _ _ _ _ b off cap us ho Cj hb h1 kz hc Y=>exact⟨_,Eg O Z C D _ _ _,rfl,by cases T<;>exact .bool _ _⟩
     |own=>exact⟨_,Eg O Z C D _ _ _,rfl,by cases T<;>exact .bool _ _⟩
   ·cases U
  ·cases h
 ·obtain⟨u0,hx,h1⟩:=Sd h;obtain⟨v0,hy,U⟩:=Sd h1;obtain⟨z,h3,hp,hs⟩:=ajB U;subst hx hy
  refine⟨_,h3,λaf ρ a w hR C D u v E I=>?_⟩
  obtain⟨t',eR,Y⟩:=hs w _ af C D [] [] _ _ E.2 I.2;exact⟨t',eR,V.GQ hp,Y⟩
/-! Parts of slices that nobody writes. -/
def Eh{x:aj A}{C:Int}{k:Int->aj X}(h:uY x C k=some r):∃ n,k n=some r/\(∀ (E:Type) (D:Int->aj E),uY x C D=D n)/\((x=none/\n=C)\/∃ I,x=some (.lf (.v (.int I n)))):=by
 unfold uY at h;split at h
 ·exact⟨_,h,λ_ _=>rfl,.inl ⟨rfl,rfl⟩⟩
 ·exact⟨_,h,λ_ _=>rfl,.inr ⟨_,rfl⟩⟩
 ·cases h
def aj8{t:TypeId}{x:A}{lo hi:aj A}{k:A -> aj X}(h:yw P t x lo hi k=some r):∃ y,k y=some r/\(∀ (I:Type) (E:A -> aj I),yw P t x lo hi E=E y) /\
  ((∃ (s:ByteArray) (l h:Int),x = .lf (.v (.str s))/\P.underlying t=some .string/\((lo=none/\l=0) \/ ∃ C,lo=some (.lf (.v (.int C l))))/\((hi=none/\h=s.size) \/ ∃ C,hi=some (.lf (.v (.int C h))))/\0 <= l/\l <= h/\h <= (s.size:Int)/\y = .lf (.v (.str (s.extract l.toNat h.toNat)))) \/
   ∃(tc:TC) (g:Nat) (O:Bool) (xs:aa (T tc)) (e:TypeId) (l h:Int),x = .lf (.v (.sl tc g O xs))/\qV P t=some e/\jF P e=some (aC tc)/\g<2/\((lo=none/\l=0) \/ ∃C,lo=some (.lf (.v (.int C l))))/\((hi=none/\h=xs.length) \/ ∃C,hi=some (.lf (.v (.int C h))))/\0 <= l/\l <= h/\h <= (xs.length:Int)/\y = .lf (.v (.sl tc g false ((xs.take h.toNat).drop l.toNat)))):=by
 unfold yw at h;split at h
 ·rename_i s;split at h
  ·rename_i hu;obtain⟨l,U,d1,Y⟩:=Eh h;obtain⟨m,D,d2,Z⟩:=Eh U;split at D
   ·rename_i hb
    refine⟨_,D,λI E=>?_,.inl ⟨s,l,m,rfl,hu,Y,Z,hb.1,hb.2.1,hb.2.2,rfl⟩⟩
    simp[yw,hu];simp_all
   ·cases D
  ·cases h
 ·rename_i tc g O xs;split at h
  ·rename_i e he;split at h
   ·rename_i n hn;split at h
    ·rename_i Ce;subst Ce;cases hg:Nat.blt g 2 with
     |false=>simp_all
     | true=>
      rw[hg,aq]at h;obtain⟨l,U,d1,Y⟩:=Eh h;obtain⟨m,D,d2,Z⟩:=Eh U;split at D
      ·rename_i hb
       refine⟨_,D,λI E=>?_,.inr ⟨tc,g,O,xs,e,l,m,rfl,he,hn,cE hg,Y,Z,hb.1,hb.2.1,hb.2.2,rfl⟩⟩
       simp[yw,he,hn,if_true,hg,aq];simp_all
      ·cases D
    ·cases h
   ·cases h
  ·cases h
 ·cases h
def aj9{t:TypeId}{x:A}{lo hi:aj A}{k:A->aj X}(h:yw P t x lo hi k=some r):∃ y,k y=some r/\(∀ (X':Type) (k':A->aj X'),yw P t x lo hi k'=k' y)/\
  ∀ (w:World) (B:Nat) (af:bw) (ρ:Nat->Loc) (u:Value) (U C:aj Value),RA w B af ρ x u->(∀ a,lo=some a->∃ v,U=some v/\RA w B af ρ a v)->(lo=none->U=none)->(∀ a,hi=some a->∃ v,C=some v/\RA w B af ρ a v)->(hi=none->C=none)->
   ∃t',(Instr.sliceAt t u U C none).run P w = .ok t' w/\RA w B af ρ y t':=by
 obtain⟨y,h1,hd,hc⟩:=aj8 h
 refine⟨y,h1,hd,λw B af ρ u U C Z tE jv Mn Ei=>?_⟩
 have bl:∀ {o:aj A} {E:aj Value} {n Cl:Int},(∀ a,o=some a->∃ v,E=some v/\RA w B af ρ a v)->(o=none->E=none)->((o=none/\n=Cl)\/∃ I,o=some (.lf (.v (.int I n))))->(E=none/\n=Cl)\/∃ I,E=some (.int I n):=by
  intro o E n Cl g1 g2 g3;rcases g3 with ⟨e,e'⟩|⟨I,e⟩
  ·exact .inl ⟨g2 e,e'⟩
  ·obtain⟨v,C,hr⟩:=g1 _ e;exact .inr ⟨I,by rw[C,hr.2.gY]⟩
 rcases hc with ⟨s,l,m,rfl,O,e1,e2,b1,b2,b3,rfl⟩|⟨tc,g,qn,xs,e,l,m,rfl,D,hn,hg,e1,e2,b1,b2,b3,rfl⟩
 ·have h5:=bl tE jv e1;have h6:=bl Mn Ei e2;obtain rfl:=Z.2.ye;have em:(m.toNat:Int)=m:=Int.toNat_of_nonneg (by omega);refine⟨.string (s.extract l.toNat m.toNat),?_,rfl,.str _ _⟩;rw[run_sliceAt_string w t _ _ _ _ O];have Ej:0<=m:=by omega
  rcases h5 with ⟨rfl,h7⟩|⟨kl,rfl⟩<;>rcases h6 with ⟨rfl,h8⟩|⟨kh,rfl⟩
  all_goals simp_all [Instr.slice,iu O,Instr.sliceBounds,run_sliceBound]
 ·have h5:=bl tE jv e1;have h6:=bl Mn Ei e2;have O:P.underlying t=some (.slice e):=by
   unfold qV at D;split at D
   next e' wh=>injection D with D;rw[<-D];exact wh
   ·cases D
  have hU:P.elem t=e:=by simp[Program.elem,O]
  have T:P.underlying t=some (.slice (P.elem t)):=by rw[hU];exact O
  have Y:(sizeOf (P.elem t)).run P w = .ok (aC tc) w:=by
   unfold jF at hn;cases hi:P.info? e with
   |none=>simp[hi]at hn
   | some i=>
    have:i.size=aC tc:=by simpa [hi]using hn
    simp[sizeOf,typeInfo,hU,hi,this]
  have m0:∃ A n c,u = .slice A n c:=by
   cases Z.2 with
   |eS=>exact⟨_,_,_,rfl⟩
   |fU=>exact⟨_,_,_,rfl⟩
   |gj=>exact⟨_,_,_,rfl⟩
   |aH=>exact⟨_,_,_,rfl⟩
   |own=>exact⟨_,_,_,rfl⟩
  obtain⟨A,n,c,rfl⟩:=m0;obtain⟨hp,Cm,SH⟩:=Z.2.part (a:=l.toNat) (h:=m.toNat) hg (by omega) (by omega);refine⟨_,?_,by simp[V.aH,hg],hp⟩;rw[run_sliceAt_slice w t _ _ _ _ T];rcases h5 with ⟨rfl,rfl⟩|⟨kl,rfl⟩<;>rcases h6 with ⟨rfl,rfl⟩|⟨kh,rfl⟩
  ·rw[run_slice_all w t A n c T,Y,Cm];simp
  ·rw[run_slice_h w t A n c T kh m (by omega) (by omega),Y];simp
  ·rw[run_slice_l w t A n c T kl l (by omega) (by omega),Y,Cm];simp
  ·rw[run_slice_lh w t A n c T kl kh l m (by omega) (by omega) (by omega),Y];simp
/-! Parts of slices that are owned. -/
def El{X:Type}(n:Nat)(q:aa Nat)(C:aj Nat)(lo hi:aj A)(y:V)(k:A->aj X):aj X:=
 match y with
 |.sl D _ _ l=>if n=aC D then uY lo 0 λa=>uY hi ((C.getD l.length:Nat):Int) λb=>if 0<=a/\a<=b/\b<=(l.length:Int)then k (.view q n a.toNat b.toNat)else none else none
 |_=>none
def Cn{X:Type}(P:Program)(σ:S)(t:TypeId)(q:aa Nat)(C:aj Nat)(lo hi:aj A)(k:A->aj X):aj X:=
 match qV P t with
 | some e=>(match jF P e with
  |some n=>ju σ.m q λy=>El n q C lo hi y k
  |none=>none)
 |none=>none
def Al{X:Type}(P:Program)(σ:S)(t:TypeId)(x:A)(lo hi:aj A)(k:A->aj X):aj X:=
 match x with
 |.lf (.own q)=>Cn P σ t q none lo hi k
 |.view q _ 0 j=>Cn P σ t q (some j) lo hi k
 |x=>yw P t x lo hi k
def aka{n:Nat}{q:aa Nat}{C:aj Nat}{lo hi:aj A}{y:V}{k:A -> aj X}(h:El n q C lo hi y k=some r):∃ (tc:TC) (g:Nat) (D:Bool) (xs:aa (T tc)) (l h:Int),y = .sl tc g D xs/\n=aC tc /\
  ((lo=none/\l=0) \/ ∃E,lo=some (.lf (.v (.int E l))))/\((hi=none/\h=((C.getD xs.length:Nat):Int)) \/ ∃E,hi=some (.lf (.v (.int E h))))/\0 <= l/\l <= h/\h <= (xs.length:Int)/\k (.view q n l.toNat h.toNat)=some r /\
  ∀(U:Type) (I:A -> aj U),El n q C lo hi y I=I (.view q n l.toNat h.toNat):=by
 unfold El at h;split at h
 ·rename_i tc g D xs;split at h
  ·rename_i Y;obtain⟨l,Z,d1,e1⟩:=Eh h;obtain⟨m,O,d2,e2⟩:=Eh Z;split at O
   ·rename_i hb
    refine⟨tc,g,D,xs,l,m,rfl,Y,e1,e2,hb.1,hb.2.1,hb.2.2,O,λU I=>?_⟩
    simp[El,aW Y];simp_all
   ·cases O
  ·cases h
 ·cases h
def Z3{t:TypeId}{q:aa Nat}{dh:aj Nat}{lo hi:aj A}{k:A -> aj X}(h:Cn P σ t q dh lo hi k=some r):∃ y,k y=some r /\
  ∀ af ρ a w,Rl w0 N af ρ σ a w -> ∀ (D:aj Addr) (n c C:Nat) (U E:aj Value),c9 w af ρ q=some (.slice D n c) -> C=dh.getD n -> C <= n -> (∀ a,lo=some a -> ∃ v,U=some v/\RA w w0.heap.size af ρ a v) -> (lo=none -> U=none) -> (∀ a,hi=some a -> ∃ v,E=some v/\RA w w0.heap.size af ρ a v) -> (hi=none -> E=none) ->
   ∃t',(Instr.sliceAt t (.slice D C c) U E none).run P w = .ok t' w/\RA w w0.heap.size af ρ y t':=by
 unfold Cn at h;split at h
 ·rename_i e he;split at h
  ·rename_i n hn;obtain⟨y0,SI,h2⟩:=tv q _ h;obtain⟨tc,g,qn,xs,l,m,rfl,Ce,e1,e2,b1,b2,b3,h3,_⟩:=aka h2
   refine⟨_,h3,λaf ρ a w hR D n' c C U E lP SJ hle tE jv Mn Ei=>?_⟩
   have bl:∀ {o:aj A} {I:aj Value} {n Cl:Int},(∀ a,o=some a -> ∃ v,I=some v/\RA w w0.heap.size af ρ a v) -> (o=none -> I=none) -> ((o=none/\n=Cl) \/ ∃ O,o=some (.lf (.v (.int O n)))) -> (I=none/\n=Cl) \/ ∃ O,I=some (.int O n):=by
    intro o I n Cl g1 g2 g3;rcases g3 with ⟨e,e'⟩|⟨O,e⟩
    ·grind
    ·obtain⟨v,E,hr⟩:=g1 _ e;exact .inr ⟨O,by rw[E,hr.2.gY]⟩
   have h5:=bl tE jv e1;have h6:=bl Mn Ei e2;have gD:P.underlying t=some (.slice e):=by
    unfold qV at he;split at he
    ·grind
    ·cases he
   have hU:P.elem t=e:=by simp[Program.elem,gD]
   have T:P.underlying t=some (.slice (P.elem t)):=by rw[hU];exact gD
   have Y:(sizeOf (P.elem t)).run P w = .ok n w:=by
    unfold jF at hn;cases hi:P.info? e with
    |none=>grind
    | some i=>
     have:i.size=n:=by simpa [hi]using hn
     simp[sizeOf,typeInfo,hU,hi,this]
   obtain⟨v0,Z,jd⟩:=SI.ok hR.root;rw[lP]at Z;injection Z with Z;subst Z;have hf:RV w 0 (λ_=>none) [] (.sl tc 0 qn xs) (.slice D n' c):=jd.gI;obtain⟨hp,Cm,SH⟩:=hf.part (a:=l.toNat) (h:=m.toNat) (by omega) (by omega) (by omega);have akb:((dh.getD xs.length:Nat):Int)=(C:Int):=by rw[SJ,Cm]
   rw[akb]at h6;refine⟨sliced D l.toNat m.toNat c n,?_,D,n',c,lP,by omega,by omega,rfl⟩;rw[run_sliceAt_slice w t _ _ _ _ T];rcases h5 with ⟨rfl,rfl⟩|⟨kl,rfl⟩<;>rcases h6 with ⟨rfl,rfl⟩|⟨kh,rfl⟩
   ·rw[run_slice_all w t D C c T,Y];simp
   ·rw[run_slice_h w t D C c T kh m (by omega) (by omega),Y];simp
   ·rw[run_slice_l w t D C c T kl l (by omega) (by omega),Y];simp
   ·rw[run_slice_lh w t D C c T kl kh l m (by omega) (by omega) (by omega),Y];simp
  ·cases h
 ·cases h
def akc{t:TypeId}{x:A}{lo hi:aj A}{k:A -> aj X}(h:Al P σ t x lo hi k=some r):∃ y,k y=some r /\
  ∀ af ρ a w,Rl w0 N af ρ σ a w -> ∀ (u:Value) (C D:aj Value),RA w w0.heap.size af ρ x u -> (∀ a,lo=some a -> ∃ v,C=some v/\RA w w0.heap.size af ρ a v) -> (lo=none -> C=none) -> (∀ a,hi=some a -> ∃ v,D=some v/\RA w w0.heap.size af ρ a v) -> (hi=none -> D=none) ->
   ∃t',(Instr.sliceAt t u C D none).run P w = .ok t' w/\RA w w0.heap.size af ρ y t':=by
 unfold Al at h;split at h
 ·rename_i q;obtain⟨y,E,I⟩:=Z3 h
  refine⟨y,E,λaf ρ a w hR u C D O T U Y Z=>?_⟩
  have gC:∃ A n c,u = .slice A n c:=by
   have:=O.1;cases u<;>first|cases this;done|exact⟨_,_,_,rfl⟩
  obtain⟨A,n,c,rfl⟩:=gC;exact I af ρ a w hR A n c n C D O.2 rfl (dg _) T U Y Z
 ·rename_i q s j;obtain⟨y,E,I⟩:=Z3 h
  refine⟨y,E,λaf ρ a w hR u C D O T U Y Z=>?_⟩
  obtain⟨A,n,c,lP,_,a2,rfl⟩:=O;have e:sliced A 0 j c s = .slice A j c:=by cases A<;>simp[sliced,Addr.add]
  rw[e];exact I af ρ a w hR A n c j C D lP rfl a2 T U Y Z
 ·obtain⟨y,E,_,I⟩:=aj9 h;exact⟨y,E,λaf ρ a w _ u C D=>I w _ af ρ u C D⟩
end
abbrev Pt:=Bool×aa V
def PV(w:World)(B:Nat)(af:bw)(key:Nat->aa Nat)(p:Pt)(u:Value):Prop:=
 ∃us:Array Value,(match p.1 with|true=>u = .agg us|false=>us = #[u])/\us.size=p.2.length/\∀(j:Nat) x,p.2[j]?=some x->∃v,us[j]?=some v/\RV w B af (key j) x v
def Am(w:World)(cs:aa V)(u:Value):Prop:=
 ∃b off,u = .pointer (some ⟨b,off,none⟩)/\b<w.heap.size/\∀(j:Nat) x,cs[j]?=some x->∃v,w.cell? ⟨b,off+j,none⟩=some v/\RV w w.heap.size (λ_=>none) [] x v
inductive PA (w:World):Pt->Value->Prop
 |v (p:Pt) (u:Value) (h:PV w w.heap.size (λ_=>none) (λ_=>[]) p u):PA w p u
 |p (c:V) (cs:List V) (u:Value) (h:Am w (c::cs) u):PA w (false,.bool true::c::cs) u
 |f (g:Nat) (c:V) (cs:List V) (u:Value) (h:Am w (c::cs) u):PA w (false,.bool false::.int .i64 (g:Int)::c::cs) (.func (.func g) #[] #[u])
def qw(w:World)(args:aa Pt)(bH:Array Value):Prop:=
 bH.size=args.length/\∀(i:Nat) p,args[i]?=some p->∃u,bH[i]?=some u/\PA w p u
def PA.pv{w:World}{x:V}{u:Value}(h:PA w (false,[x]) u):PV w w.heap.size (λ_=>none) (λ_=>[]) (false,[x]) u:=by
 cases h with
 |v _ _ h=>exact h
def PA.Z4{w:World}{xs:aa V}{u:Value}(h:PA w (true,xs) u):PV w w.heap.size (λ_=>none) (λ_=>[]) (true,xs) u:=by
 cases h with
 |v _ _ h=>exact h
inductive gv where
 |one (p:Pt)
 |fz (ps:List Pt)
def An(t:TC):Nat->Bool
 |0=>false
 |1=>true
 |o+2=>Nat.ble (full t) o ||Nat.beq (o % 2) 1
def V.loc:V->Bool
 |.sl t o _ _=>An t o
 |_=>true
def jR(w:World)(B:Nat)(af:bw)(nm:Nat->Nat):Nat->aa Pt->aa Value->Prop
 |_,[],[]=>True
 |off,p::ps,v::C=>(p.2.all V.loc=true/\PV w B af (λj=>[nm (off+j)]) p v)/\jR w B af nm (off+p.2.length) ps C
 |_,_,_=>False
def qY(w:World)(B:Nat)(af:bw)(nm:Nat->Nat):gv->Value->Prop
 |.one p,v=>jR w B af nm 0 [p] [v]
 |.fz ps,v=>∃C:Array Value,v = .tuple C/\jR w B af nm 0 ps C.toList
structure jH where
 run:(X:Type)->List Pt->(gv->Option X)->Option X
def jl(P:Program)(f:Nat)(c:jH):Prop:=
 (∀ args,cB λX k=>c.run X args k)/\∀ args C,c.run gv args some=some C->∀ (nm:Nat->Nat) (w:World) (bH:Array Value),qw w args bH->Hd w (λ_=>none)->
  Calls P f bH w λe w'=>∃v aA,e = .returned v/\Below w.heap.size w w'/\(∀b k,aA b=some k->w.heap.size<=b/\b<w'.heap.size/\k≠[])/\qY w' w.heap.size aA nm C v
def r9{X:Type}(σ:S):aa Lf->(aa V->aj X)->aj X
 |[],k=>k []
 |x::xs,k=>qg σ x λy=>r9 σ xs λys=>k (y.gI::ys)
def oM{X:Type}(σ:S)(x:A)(k:Pt->aj X):aj X:=
 match x with
 |.lf y=>r9 σ [y] λC=>k (false,C)
 |.agg ys=>r9 σ ys λC=>k (true,C)
 |.view q s i j=>wg σ q s i j λy=>k (false,[y])
 |.js (c::cs)=>k (false,.bool true::c.gI::cs.map V.gI)
 |_=>none
def wu{X:Type}(σ:S)(x:A)(k:Pt->aj X):aj X:=
 match x with
 |.js (c::cs)=>k (false,.bool true::c.gI::cs.map V.gI)
 |.nU f (c::cs)=>k (false,.bool false::.int .i64 (f:Int)::c.gI::cs.map V.gI)
 | .aG r j=>(match σ.m r with
  | some (.az cs)=>r9 σ (cs.drop j) λC=>(match C with
   |c::cs=>k (false,.bool true::c::cs)
   |[]=>none)
  |_=>none)
 | .fn f [(r,j)]=>(match σ.m r with
  | some (.az cs)=>r9 σ (cs.drop j) λC=>(match C with
   |c::cs=>k (false,.bool false::.int .i64 (f:Int)::c::cs)
   |[]=>none)
  |_=>none)
 |x=>oM σ x k
def wz{X:Type}(f:A->(Pt->aj X)->aj X)(σ:S):aa Operand->(aa Pt->aj X)->aj X
 |[],k=>k []
 |x::xs,k=>f (aL σ x) λp=>wz f σ xs λps=>k (p::ps)
def Co{X:Type}(σ:S)(xs:aa Operand)(k:aa Pt->aj X):aj X:=wz (wu σ) σ xs k
def tH{X:Type}(σ:S)(xs:aa Operand)(k:aa Pt->aj X):aj X:=wz (oM σ) σ xs k
def oN(c:Nat):aa V->aa Lf
 |[]=>[]
 |x::xs=>(bif x.aH then .v x else .own [c])::oN (c+1) xs
def m7(c:Nat)(σ:S):aa V->S
 |[]=>σ
 |x::xs=>m7 (c+1) (bif x.aH then σ else (σ.drop c).root c (.sl x)) xs
def tJ(c:Nat):aa Pt->aa (Bool×aa Lf)
 |[]=>[]
 |p::ps=>(p.1,oN c p.2)::tJ (c+p.2.length) ps
def oO(c:Nat)(σ:S):aa Pt->S
 |[]=>σ
 |p::ps=>oO (c+p.2.length) (m7 c σ p.2) ps
def n6{X:Type}(σ:S)(d:Nat)(C:gv)(k:S->aj X):aj X:=match C with
 | .one p=>(match zZ (p.1,oN (1000000000100000+1000*d) p.2)with
  |some y=>k ((m7 (1000000000100000+1000*d) σ p.2).set d y)
  |none=>none)
 |.fz ps=>k ((oO (1000000000100000+1000*d) σ ps).set d (.fz (tJ (1000000000100000+1000*d) ps)))
def tK{X:Type}(N:Nat)(σ:S)(d:Nat)(c:jH)(ev:(aa Pt->aj X)->aj X)(k:S->aj X):aj X:=
 bif Nat.blt d N then ev λps=>c.run X ps λC=>n6 σ d C k else none
def akd{X:Type}(N:Nat)(σ:S)(d:Nat)(c:jH)(args:aa Operand)(k:S->aj X):aj X:=tK N σ d c (Co σ args) k
def ake{X:Type}(N:Nat)(σ:S)(d:Nat)(c:jH)(args:aa Operand)(k:S->aj X):aj X:=tK N σ d c (tH σ args) k
section
variable {P:Program} {w w':World} {w0:Wd} {B N:Nat} {af aA:bw} {ρ ρ':Nat->Loc} {σ:S} {a:Act} {X:Type} {d:Nat} {r:X} {o:Oper}
def Hj:∀ (xs:aa Lf) (k:aa V -> aj X),r9 σ xs k=some r -> ∃ C,k C=some r/\C.length=xs.length /\ ∀ af ρ a w,Rl w0 N af ρ σ a w -> ∀ (j:Nat) x y u,xs[j]?=some x -> C[j]?=some y -> eB w w0.heap.size af ρ x u -> RV w w.heap.size (λ_=>none) [] y u
 |[],k,h=>⟨[],h,rfl,λ_ _ _ _ _ j x y u I=>by simp at I⟩
 | x :: xs,k,h=>by
  obtain⟨y,O,T⟩:=Sz h;obtain⟨ys,U,hl,hr⟩:=Hj xs _ T
  refine⟨y.gI::ys,U,by simp[hl],λaf ρ a w hR j x' y' u D E Y=>?_⟩
  cases j with
  | zero=>
   simp at D E;subst D E;obtain⟨q,Z⟩:=O af ρ a w hR u Y;exact Z.gI
  |succ j=>grind
def Z5{D C:Nat}{cs:aa Lf}{E:aa V}(Y:σ.m D=some (.az cs))(hl:E.length=(cs.drop C).length)
  (Z:∀af ρ a w,Rl w0 N af ρ σ a w->∀(j:Nat) x y u,(cs.drop C)[j]?=some x->E[j]?=some y->eB w w0.heap.size af ρ x u->RV w w.heap.size (λ_=>none) [] y u)
  {af:bw} {ρ:Nat->Loc} {a:Act} {w:World} {u:Value} (hR:Rl w0 N af ρ σ a w) (hu:RA w w0.heap.size af ρ (.aG D C) u):Am w E u:=by
 obtain⟨b,off,e1,rfl⟩:=hu;cases hR.root D _ Y with
 | az b' Cb cells e _ us I oP O hs hc=>
  rw[e1]at I;injection I with q1 q2;subst q1 q2
  refine⟨b,off+C,rfl,(iY.1 O).1,λj x T=>?_⟩
  have hj:j<(cs.drop C).length:=by rw[<-hl];exact(dZ.1 T).1
  have U:=bK hj;have akf:cs[C+j]?=some (cs.drop C)[j]:=by rw[<-List.getElem?_drop];exact U
  obtain⟨k1,k2⟩:=hc _ _ akf;refine⟨us (C+j),?_,Z af ρ a w hR j _ x _ U T k2⟩;rw[Nat.add_assoc,cell_of_row w b _ cells _ _ O];exact k1
def SK{cs:aa V}{u:Value}(E:RF w B af cs u):Am w (cs.map V.gI) u:=by
 obtain⟨b,off,rfl,I,Y,O⟩:=E
 refine⟨b,off,rfl,I,λj x C=>?_⟩
 rw[eO]at C;cases D:cs[j]? with
 |none=>simp_all
 | some y=>
  rw[D]at C;injection C with C;subst C;obtain⟨_,v,T,U⟩:=O j y D;exact⟨v,T,U.gI⟩
def Z6{x:A}{k:Pt -> aj X}(h:oM σ x k=some r):∃ p,k p=some r /\ ∀ af ρ a w,Rl w0 N af ρ σ a w -> ∀ u,RA w w0.heap.size af ρ x u -> PA w p u:=by
 unfold oM at h;split at h
 ·rename_i y;obtain⟨U,E,hl,O⟩:=Hj (w0:=w0) (N:=N) _ _ h
  refine⟨_,E,λaf ρ a w hR u C=>.v _ _ ⟨#[u],rfl,by simp[hl],λj x D=>?_⟩⟩
  have I:j=0:=by
   grind
  subst I;exact⟨u,rfl,O af ρ a w hR 0 y x u rfl D C⟩
 ·rename_i ys;obtain⟨U,E,hl,O⟩:=Hj (w0:=w0) (N:=N) _ _ h
  refine⟨_,E,λaf ρ a w hR u C=>?_⟩
  obtain⟨us,rfl,T⟩:=C
  refine .v _ _ ⟨us,rfl,by rw[hl];exact T.1,λj x D=>?_⟩
  have I:j<ys.length:=by rw[<- hl];exact(dZ.1 D).1
  obtain⟨v,Z,fQ⟩:=T.2 j _ (bK I)
  grind
 ·obtain⟨z,E,_,Y⟩:=Zy h
  refine⟨_,E,λaf ρ a w hR u C=>.v _ _ ⟨#[u],rfl,rfl,λj x D=>?_⟩⟩
  cases j with
  | zero=>
   simp at D;subst D;exact⟨u,rfl,Y _ _ _ _ _ _ hR u C _⟩
  |succ j=>simp at D
 next c cs=>exact⟨_,h,λaf ρ a w hR u C=>.p _ _ _ (SK C)⟩
 ·cases h
def akg{x:A}{k:Pt -> aj X}(h:wu σ x k=some r):∃ p,k p=some r /\ ∀ af ρ a w,Rl w0 N af ρ σ a w -> ∀ u,RA w w0.heap.size af ρ x u -> PA w p u:=by
 unfold wu at h;split at h
 ·rename_i c cs
  refine⟨_,h,λaf ρ a w hR u C=>?_⟩
  exact .p _ _ _ (SK C)
 ·rename_i f c cs
  refine⟨_,h,λaf ρ a w hR u C=>?_⟩
  obtain⟨pv,rfl,E⟩:=C;exact .f _ _ _ _ (SK E)
 ·rename_i U T;split at h
  ·rename_i cs I;obtain⟨Y,D,hl,O⟩:=Hj (w0:=w0) (N:=N) _ _ h;split at D
   ·rename_i c fq
    refine⟨_,D,λaf ρ a w hR u C=>?_⟩
    exact .p _ _ _ (Z5 I hl O hR C)
   ·cases D
  ·cases h
 ·rename_i f U T;split at h
  ·rename_i cs I;obtain⟨Y,D,hl,O⟩:=Hj (w0:=w0) (N:=N) _ _ h;split at D
   ·rename_i c fq
    refine⟨_,D,λaf ρ a w hR u C=>?_⟩
    obtain⟨ps,rfl,hs,E⟩:=C;obtain⟨b,off,Z,e2⟩:=E 0 _ rfl;have e:ps = #[.pointer (some ⟨b,off+T,none⟩)]:=by
     grind
    subst e;exact .f _ _ _ _ (Z5 I hl O hR ⟨b,off,Z,rfl⟩)
   ·cases D
  ·cases h
 ·exact Z6 h
def SL{f:A->(Pt->aj X)->aj X}(E:∀ x k,f x k=some r->∃ p,k p=some r/\∀ af ρ a w,Rl w0 N af ρ σ a w->∀ u,RA w w0.heap.size af ρ x u->PA w p u):
  ∀(xs:aa Operand) (k:aa Pt->aj X),wz f σ xs k=some r->∃ps,k ps=some r/\∀af ρ a w,Rl w0 N af ρ σ a w->qw w ps (xs.map a.eval).toArray
 |[],k,h=>⟨[],h,λ_ _ _ _ _=>⟨rfl,λi p C=>by simp at C⟩⟩
 | x :: xs,k,h=>by
  unfold wz at h;obtain⟨p,O,C⟩:=E _ _ h;obtain⟨ps,T,I⟩:=SL E xs _ O
  refine⟨p::ps,T,λaf ρ a w hR=>⟨?_,λi q D=>?_⟩⟩
  ·have:=(I af ρ a w hR).1;simp at this;simp[this]
  ·cases i with
   | zero=>
    simp at D;subst D;exact⟨_,rfl,C af ρ a w hR _ (hR.aL x)⟩
   | succ i=>
    obtain⟨u,U,Y⟩:=(I af ρ a w hR).2 i q (by simpa using D);exact⟨u,by simpa using U,Y⟩
def akh(xs:aa Operand)(k:aa Pt->aj X)(h:Co σ xs k=some r):∃ps,k ps=some r/\∀af ρ a w,Rl w0 N af ρ σ a w->qw w ps (xs.map a.eval).toArray:=SL (λ_ _=>akg) xs k h
def Z7(xs:aa Operand)(k:aa Pt->aj X)(h:tH σ xs k=some r):∃ps,k ps=some r/\∀af ρ a w,Rl w0 N af ρ σ a w->qw w ps (xs.map a.eval).toArray:=SL (λ_ _=>Z6) xs k h
def aki{t:TC}{o:Nat}(h:An t (o+2)=true)(x:T t):∀ y∈enc t o x,y.loc=true:=by
 intro y D;have I:=zS t o x y D;cases y with
 | sl E C q l=>
  have O:C=o:=by simpa [V.gr]using I
  subst O;have U:full E+2 <= full t:=cE (LR t C x _ D);show An E C=true;simp only[An,dY]at h;rcases h with h|h
  ·have h:=cE h
   match C,h with
   |0,h=>omega
   |1,h=>rfl
   | n+2,h=>
    simp only[An,dY];left;exact ja (by omega)
  ·have h:=cJ h
   match C,h with
   |0,h=>omega
   |1,h=>rfl
   | n+2,h=>
    simp only[An,dY];simp_all
 |_=>rfl
def RV.Ao{q:aa Nat}{x:V}{v:Value}(h:RV w B af q x v){B':Nat}(hB:B' <= B)(hl:∀ b,B <= b -> aA b=af b)(Y:∀ b k,af b=some k -> aA b=some k)(O:x.loc=true):RV w B' aA q x v:=by
 induction h with
 |int=>exact .int _ _ _
 |bool=>exact .bool _ _
 |str=>exact .str _ _
 |nil=>exact .nil _
 |eS=>exact .eS _ _ _
 |fU=>exact .fU _ _ _ _ _ (by first|assumption|omega)
 |gj=>exact .gj _ _ _ _ _ (by first|assumption|omega)
 | aH q t o Z l b off cap u T D hb h1 kz E hr I=>
  have Cp:o=1:=by
   match o,T,O with
   |1,_,_=>rfl
  subst Cp;have U:=h1 rfl
  refine .aH _ _ _ _ _ _ _ _ u T ((hl b U).trans D) hb (λ_=>Nat.le_trans hB U) kz E (λi h j x C=>I i h j x C ?_)
  have:=zS t 1 l[i] x (gT C);cases x with
  | sl t' o' q' l'=>
   have:o'=1:=by simpa [V.gr]using this
   subst this;rfl
  |_=>rfl
 | own q t o Z l b cap cs u D hh hs hn hm E hr I=>
  exact .own _ _ _ _ _ _ _ cs u (Y b q D) hh hs hn hm E (λi h j x C=>I i h j x C (aki O l[i] x (gT C)))
def RV.home{q:aa Nat}{x:V}{v:Value}(h:RV w B af q x v){B':Nat}(hB:B'<=B)(hl:∀ b,B<=b->aA b=af b)(C:∀ b k,af b=some k->B<=b)(D:x.loc=true):RV w B' aA q x v:=
 h.Ao hB hl (λb k h=>(hl b (C b k h)).trans h) D
def SM:∀ (xs:aa V) (c:Nat) (σ:S) (ρ:Nat -> Loc) (us:aa Value),60000 <= c -> Rl w0 N af ρ σ a w -> us.length=xs.length -> (∀ (j:Nat) x u,xs[j]?=some x -> us[j]?=some u -> RV w w0.heap.size af [c+j] x u) ->
  ∃ρ',Rl w0 N af ρ' (m7 c σ xs) a w/\(∀r,r<c -> ρ' r=ρ r) /\ ∀(j:Nat) x u,(oN c xs)[j]?=some x -> us[j]?=some u -> eB w w0.heap.size af ρ' x u
 |[],c,σ,ρ,us,_,h,hl,E=>⟨ρ,h,λ_ _=>rfl,λj x u Z=>by simp[oN]at Z⟩
 | x :: xs,c,σ,ρ,us,hc,h,hl,E=>by
  cases us with
  |nil=>simp at hl
  | cons u us=>
   have O:=E 0 x u rfl rfl;rw[Nat.add_zero]at O;have wo:∀ (j:Nat) T U,xs[j]?=some T -> us[j]?=some U -> RV w w0.heap.size af [c+1+j] T U:=λj T U Z hu=>by
    have:=E (j+1) T U (by simpa using Z) (by simpa using hu)
    grind
   cases C:x.aH with
   | true=>
    obtain⟨ρ',dL,Y,yA⟩:=SM xs (c+1) σ ρ us (by omega) h (by simpa using hl) wo
    refine⟨ρ',?_,λr E=>Y r (by omega),λj y v D I=>?_⟩
    ·simp[m7,C];exact dL
    ·simp only[oN,C,aq]at D;cases j with
     | zero=>
      simp at D I;subst D I;exact⟨C,O.key C⟩
     |succ j=>grind
   | false=>
    have gC:=O.R4 C;obtain⟨ρ',dL,Y,yA⟩:=SM xs (c+1) _ _ us (by omega) (h.new (d:=c) (x:=.sl x) (.dQ u) (.sl u x (bM _ _ _) O) (h.cS c (.inr hc))) (by simpa using hl) wo
    refine⟨ρ',?_,λr E=>?_,λj y v D I=>?_⟩
    ·simp[m7,C];exact dL
    ·rw[Y r (by omega)];exact cy _ _ _ (by omega)
    ·simp only[oN,C,av]at D;cases j with
     | zero=>
      simp at D I;subst D I;refine⟨gC,?_⟩;have:ρ' c = .dQ u:=by rw[Y c (by omega)];exact bM _ _ _
      simp[c9,this]
     |succ j=>grind
def akj(xs:aa V):∀ c,(oN c xs).length=xs.length:=by
 induction xs with
 |nil=>intro c;rfl
 |cons x xs C=>intro c;simp[oN,C]
end
def enters(P:Program)(f:Nat):Prop:=∃fn,P.funcs[f]?=some fn/\(fn.name == "runtime.NumGoroutine")=false/\fn.body.isNone=false
/-! What a function gives back. -/
def Mo:A->aj (Bool×aa Lf)
 |.lf x=>some (false,[x])
 |.agg xs=>some (true,xs)
 |_=>none
def tL{X:Type}(P:Program)(σ:S):aa ResultVar->(aa (Bool×aa Lf)->aj X)->aj X
 |[],k=>k []
 | .tmp t :: rest,k=>(match Mo (σ.t t)with
  |some p=>tL P σ rest λps=>k (p::ps)
  |none=>none)
 | .cell p ty :: rest,k=>oJ P σ ty (σ.t p) λx=>(match Mo x with
  |some p=>tL P σ rest λps=>k (p::ps)
  |none=>none)
def SN(m:Nat->aj aS):Lf->aj (V×aj Nat)
 |.v x=>bif x.loc&&x.aH then some (x,none)else none
 | .own [r]=>match m r with
  |some (.sl y)=>bif y.loc then some (y,some r)else none
  |_=>none
 |_=>none
def Hl(m:Nat->aj aS)(off:Nat):aa Lf->aj (aa V×aa (Nat×Nat))
 |[]=>some ([],[])
 | x :: xs=>match SN m x,Hl m (off+1) xs with
  |some (y,none),some (ys,rs)=>some (y::ys,rs)
  |some (y,some r),some (ys,rs)=>some (y::ys,(r,off)::rs)
  |_,_=>none
def Em(m:Nat->aj aS)(off:Nat):aa (Bool×aa Lf)->aj (aa Pt×aa (Nat×Nat))
 |[]=>some ([],[])
 | p :: ps=>match Hl m off p.2,Em m (off+p.2.length) ps with
  |some (C,rs),some (D,E)=>some ((p.1,C)::D,rs++E)
  |_,_=>none
def once(rs:aa (Nat×Nat)):Bool:=rs.all λp=>(rs.lookup p.1).any λn=>Nat.beq n p.2
def Ho{X:Type}(P:Program)(σ:S)(fn:Array ResultVar)(k:gv->aj X):aj X:=
 tL P σ fn.toList λps=>match Em σ.m 0 ps with
  | some (qs,rs)=>bif once rs then (match qs with
   |[p]=>k (.one p)
   |qs=>k (.fz qs))else none
  |none=>none
section
variable {P:Program} {w w':World} {w0:Wd} {B N:Nat} {af aA:bw} {ρ ρ':Nat->Loc} {σ:S} {a:Act} {X:Type} {d:Nat} {r:X} {o:Oper}
def Z8:∀ (xs:aa V) (c:Nat) (j:Nat) x u,(oN c xs)[j]?=some x -> eB w B af ρ x u -> (∀ r,r<c+xs.length -> ρ' r=ρ r) -> eB w B af ρ' x u
 |[],c,j,x,u,D,_,_=>by simp[oN]at D
 | y :: ys,c,j,x,u,D,C,E=>by
  cases j with
  | zero=>
   simp[oN,List.getElem?_cons_zero,jb]at D;subst D;cases I:y.aH with
   |true=>rw[I]at C;simp;exact C
   | false=>
    rw[I]at C;refine⟨C.1,?_⟩;have:=C.2;simp[c9,E c (by simp)]at this ⊢;exact this
  | succ j=>
   exact Z8 ys _ j x u D C (λr h=>E r (by simp;omega))
def PV.cells{key:Nat -> aa Nat}{p:Pt}{u:Value}(h:PV w B af key p u):∃ us:aa Value,us.length=p.2.length/\(∀ (j:Nat) x v,p.2[j]?=some x -> us[j]?=some v -> RV w B af (key j) x v) /\
  ∀(ρ:Nat -> Loc) (C:aa Lf),C.length=p.2.length -> (∀(j:Nat) x v,C[j]?=some x -> us[j]?=some v -> eB w B af ρ x v) -> RP w B af ρ (p.1,C) u:=by
 obtain⟨us,D,E,Y⟩:=h;obtain⟨b,xs⟩:=p
 refine⟨us.toList,by simpa using E,λj x v I Z=>?_,λρ C hl U=>?_⟩
 ·grind
 ·have O:eX w B af ρ C us:=⟨by rw[E,hl],λj x I=>by
   have T:j<us.size:=by rw[E,<- hl];exact(dZ.1 I).1
   exact⟨us[j],Array.getElem?_eq_getElem T,U j x _ I (by rw[Array.getElem?_toList,Array.getElem?_eq_getElem T])⟩⟩
  cases b with
  |true=>exact⟨us,D,O⟩
  |false=>have D:=D;subst D;exact O
def Hp:∀ (ps:aa Pt) (c0 off:Nat) (σ:S) (ρ:Nat -> Loc) (C:aa Value),60000 <= c0 -> Rl w0 N af ρ σ a w -> jR w w0.heap.size af (λn=>c0+n) off ps C ->
  ∃ρ',Rl w0 N af ρ' (oO (c0+off) σ ps) a w/\(∀r,r<c0+off -> ρ' r=ρ r)/\C.length=(tJ (c0+off) ps).length /\ ∀(i:Nat) p v,(tJ (c0+off) ps)[i]?=some p -> C[i]?=some v -> RP w w0.heap.size af ρ' p v
 | [],c0,off,σ,ρ,C,_,h,D=>by
  cases C with
  |nil=>exact⟨ρ,h,λ_ _=>rfl,rfl,λi p v T=>by simp[tJ]at T⟩
  |cons v C=>exact D.elim
 | p :: ps,c0,off,σ,ρ,C,hc,h,D=>by
  cases C with
  |nil=>exact D.elim
  | cons v C=>
   obtain⟨⟨_,T⟩,D⟩:=D;obtain⟨us,hl,kA,wA⟩:=T.cells;obtain⟨En,h1,SO,yA⟩:=SM p.2 (c0+off) σ ρ us (by omega) h hl (λj x u I E=>by
    have:RV w _ af [c0+(off+j)] x u:=kA j x u I E;rw[<- Nat.add_assoc]at this;exact this)
   obtain⟨fB,Y,U,hlen,Z⟩:=Hp ps c0 (off+p.2.length) (m7 (c0+off) σ p.2) En C hc h1 D;rw[<- Nat.add_assoc]at Y U hlen Z
   refine⟨fB,Y,λr D=>(U r (by omega)).trans (SO r D),by simp[tJ,hlen],λi q u O E=>?_⟩
   cases i with
   | zero=>
    simp[tJ,List.getElem?_cons_zero,jb]at O E;subst O E
    refine wA fB _ (akj _ _) (λj x u I E=>Z8 p.2 _ j x u I (yA j x u I E) U)
   | succ i=>
    simp[ List.getElem?_cons_succ]at O E;exact Z i q u O E
def jR.home{nm:Nat -> Nat}:∀ (ps:aa Pt) (off:Nat) (C:aa Value) {B':Nat},jR w B af nm off ps C -> B' <= B -> (∀ b,B <= b -> aA b=af b) -> (∀ b k,af b=some k -> B <= b) -> jR w B' aA nm off ps C
 |[],_,[],_,h,_,_,_=>h
 | p :: ps,off,v :: C,B',h,hB,hl,D=>by
  obtain⟨⟨E,us,O,T,U⟩,Y⟩:=h
  refine⟨⟨E,us,O,T,λj x I=>?_⟩,jR.home ps _ C Y hB hl D⟩
  obtain⟨Z,uN,fQ⟩:=U j x I;exact⟨Z,uN,fQ.home hB hl D (bT.1 E x (gT I))⟩
def Mp(w:World)(o:Oper)(a:Act)(f:Nat)(args:Array Operand)(D:Array TypeId)(E:o.op = .call { callee:=.value (.func f),args,argTypes:=D })(I:enters P f):(execOp a.eval o).run P w = .ok (.enter f (args.map a.eval)) w:=by
 obtain⟨fn,O,T,C⟩:=I;have U:¬ fn.name = "runtime.NumGoroutine":=by simpa using T
 have Y:¬ fn.body=none:=by intro e;rw[e]at C;cases C
 simp[execOp,E,resolve,Act.eval,Deferred.ofValue,invoke,callFunc,Sem.run,O,U,Y]
def akk{f:Nat}{args:Array Operand}{jS:Array TypeId}{c:jH}{k:S->aj X}(ho:o.op = .call { callee:=.value (.func f),args,argTypes:=jS })(hd:o.dst=some d)(he:enters P f)(hc:jl P f c)(yB:d<N){ps:aa Pt}(mw:∀ af ρ a w,Rl w0 N af ρ σ a w->qw w ps (args.toList.map a.eval).toArray)
  (h2:(c.run X ps λD=>n6 σ d D k)=some r):∃dc,k dc=some r/\lO P w0 N o σ dc:=by
 obtain⟨D,E,SP⟩:=(hc.1 ps).mm h2;have Hq:=hc.2 ps D (SP _ _);unfold n6 at E;have step:∀ a w K Q af ρ,Rl w0 N af ρ σ a w->(∀ v w' aA,Below w.heap.size w w'->Rl w0 N aA ρ σ a w'->qY w' w0.heap.size aA (λn=>1000000000100000+1000*d+n) D v->K (a.put o.dst v) w')->o.wp P a w K Q:=by
  intro a w K Q af ρ hR T;unfold Oper.wp;rw[Mp w o a f args jS ho he,Oper.upon_enter];have yC:(args.map a.eval)=(args.toList.map a.eval).toArray:=by apply Array.ext';rw[Array.toList_map]
  rw[yC]
  refine(Hq (λn=>1000000000100000+1000*d+n) w _ (mw af ρ a w hR) (w0.on hR.below (λ_ _ h=>by cases h))).mono λe w' sg=>?_
  obtain⟨v,Eo,rfl,U,Y,I⟩:=sg;have hB:=hR.below.size;let dR:bw:=λb=>if b<w.heap.size then af b else Eo b
  have e1:∀b,b<w.heap.size->dR b=af b:=λb hb=>aW hb
  have Z:∀b,w.heap.size<=b->dR b=Eo b:=λb hb=>aX
  refine T v w' dR U (hR.grow U e1 (λb k hb O=>?_)) ?_
  ·rw[Z b hb]at O;exact(Y b k O).2
  ·cases D with
   |one p=>exact jR.home [p] 0 [v] I hB Z (λb k O=>(Y b k O).1)
   | fz yD=>
    obtain⟨C,e,hv⟩:=I;exact⟨C,e,jR.home yD 0 C.toList hv hB Z (λb k O=>(Y b k O).1)⟩
 cases D with
 | one p=>
  simp only at E;split at E
  ·rename_i y hy
   refine⟨_,E,λa w K Q hR T=>?_⟩
   obtain⟨af,ρ,hR⟩:=hR
   refine step a w K Q af ρ hR λv w' aA U dL I=>?_
   obtain⟨ρ',kZ,_,_,qZ⟩:=Hp [p] (1000000000100000+1000*d) 0 σ ρ [v] (by omega) dL I;rw[hd];have SQ:=qZ 0 _ v rfl rfl;exact T _ _ ⟨aA,ρ',kZ.set (Si hy SQ) yB⟩
  ·cases E
 | fz yD=>
  refine⟨_,E,λa w K Q hR T=>?_⟩
  obtain⟨af,ρ,hR⟩:=hR
  refine step a w K Q af ρ hR λv w' aA U dL I=>?_
  obtain⟨C,rfl,hv⟩:=I;obtain⟨ρ',kZ,_,hlen,qZ⟩:=Hp yD (1000000000100000+1000*d) 0 σ ρ C.toList (by omega) dL hv;rw[hd]
  refine T _ _ ⟨aA,ρ',kZ.set ⟨C,rfl,by simpa using hlen,λj p hp=>?_⟩ yB⟩
  have hj:j<C.size:=by
   have:=(dZ.1 hp).1;rw[Nat.add_zero]at hlen;rw[<-hlen]at this
   simpa using this
  exact⟨C[j],Array.getElem?_eq_getElem hj,qZ j p _ hp (by rw[Array.getElem?_toList,Array.getElem?_eq_getElem hj])⟩
def Z9{f:Nat}{args:Array Operand}{E:Array TypeId}{c:jH}{k:S->aj X}{ev:(aa Pt->aj X)->aj X}(I:o.op = .call { callee:=.value (.func f),args,argTypes:=E })(O:o.dst=some d)(T:enters P f)(U:jl P f c)
  (Y:∀k,ev k=some r->∃ps,k ps=some r/\∀af ρ a w,Rl w0 N af ρ σ a w->qw w ps (args.toList.map a.eval).toArray) (h:tK N σ d c ev k=some r):∃D,k D=some r/\lO P w0 N o σ D:=by
 unfold tK at h;cases C:Nat.blt d N with
 |false=>rw[C]at h;cases h
 | true=>
  rw[C,aq]at h;obtain⟨ps,Z,mw⟩:=Y _ h;exact akk I O T U (cE C) mw Z
end
def eT(af:bw)(rs:aa (Nat×Nat))(nm:Nat->Nat):bw:=λb=>
 match af b with
 |none=>none
 | some k=>match k.getLast? with
  |none=>none
  |some r=>(rs.lookup r).map λn=>k.dropLast++[nm n]
section
variable {P:Program} {w w':World} {w0:Wd} {B N:Nat} {af aA:bw} {ρ ρ':Nat->Loc} {σ:S} {a:Act} {X:Type} {d:Nat} {r:X} {rs:aa (Nat×Nat)} {nm:Nat->Nat}
def Ap{b:Nat}(h:af b=none):eT af rs nm b=none:=by simp[eT,h]
def RV.eT{p:aa Nat}{r n:Nat}{x:V}{v:Value}(h:RV w B af (p++[r]) x v)(D:rs.lookup r=some n):RV w B (eT af rs nm) (p++[nm n]) x v:=
 h.map (Q:=λq C=>∃ p,q=p++[r]/\C=p++[nm n]) (dg _) (λb _ h=>⟨rfl,Ap h⟩) (λb q C _ hl e=>by
  obtain⟨p,rfl,rfl⟩:=e;exact⟨rfl,by simp[Proofs.YtpigmalhjkekiaaGreat.eT,hl,D],λj i s=>⟨j::i::s::p,rfl,rfl⟩⟩) (.inr ⟨p,rfl,rfl⟩)
def SR{m:Nat -> aj aS}:∀ (xs:aa Lf) (off:Nat) (ys:aa V) (E:aa (Nat×Nat)),Hl m off xs=some (ys,E) -> ys.length=xs.length /\ ∀ (j:Nat) x,xs[j]?=some x -> ∃ y,ys[j]?=some y/\y.loc=true/\((x = .v y/\y.aH=true) \/ ∃ r,x = .own [r]/\m r=some (.sl y)/\(r,off+j)∈E)
 | [],off,ys,E,h=>by
  simp only[Hl,jb,Prod.mk.injEq]at h;obtain⟨rfl,rfl⟩:=h;exact⟨rfl,λj x C=>by simp at C⟩
 | x :: xs,off,ys,E,h=>by
  have Z:∀ y z,SN m x=some (y,z) -> y.loc=true/\((z=none/\x = .v y/\y.aH=true) \/ ∃ r,z=some r/\x = .own [r]/\m r=some (.sl y)):=by
   intro y z D;unfold SN at D
   grind
  unfold Hl at h;split at h
  ·rename_i y I O T U;simp only[jb,Prod.mk.injEq]at h;obtain⟨rfl,rfl⟩:=h;obtain⟨Y,h2⟩:=SR xs (off+1) I O U
   refine⟨by simp[Y],λj x' C=>?_⟩
   cases j with
   | zero=>
    simp at C;subst C;obtain⟨hl,D|⟨r,D,_⟩⟩:=Z y none T
    ·simp_all
    ·cases D
   |succ j =>grind
  ·rename_i y r I O T U;simp only[jb,Prod.mk.injEq]at h;obtain⟨rfl,rfl⟩:=h;obtain⟨Y,h2⟩:=SR xs (off+1) I O U
   refine⟨by simp[Y],λj x' C=>?_⟩
   cases j with
   | zero=>
    simp at C;subst C;obtain⟨hl,D|⟨r',D,e1,e2⟩⟩:=Z y (some r) T
    ·cases D.1
    ·simp_all
   |succ j =>grind
  ·cases h
def SS{m:Nat -> aj aS}(hm:∀ r x,m r=some x -> eH w B af ρ r x):∀ (ps:aa (Bool×aa Lf)) (off:Nat) (I:aa Pt) (O:aa (Nat×Nat)) (C:aa Value),Em m off ps=some (I,O) -> (∀ p∈O,rs.lookup p.1=some p.2) -> C.length=ps.length ->
  (∀(i:Nat) p v,ps[i]?=some p -> C[i]?=some v -> RP w B af ρ p v) -> jR w B (eT af rs nm) nm off I C
 | [],off,I,O,C,h,_,hl,_=>by
  have:C=[]:=List.eq_nil_of_length_eq_zero hl;subst this;simp only[Em,jb,Prod.mk.injEq]at h;obtain⟨rfl,rfl⟩:=h;trivial
 | p :: ps,off,I,O,C,h,gx,hl,hp=>by
  cases C with
  |nil=>simp at hl
  | cons v C=>
   unfold Em at h;split at h
   ·rename_i ys rs1 qs' Cq h1 h2;simp only[jb,Prod.mk.injEq]at h;obtain⟨rfl,rfl⟩:=h;obtain⟨hlen,LO⟩:=SR _ _ _ _ h1;have wo:=SS hm ps _ qs' Cq C h2 (λq hq=>gx q (List.mem_append_right _ hq)) (by simpa using hl) (λi q u hq hu=>hp (i+1) q u (by simpa using hq) (by simpa using hu));have Aq:=hp 0 p v rfl rfl;have key:∀ us:Array Value,eX w B af ρ p.2 us -> (us.size=ys.length /\ ∀ (j:Nat) x,ys[j]?=some x -> ∃ u,us[j]?=some u/\RV w B (eT af rs nm) [nm (off+j)] x u):=by
     intro us T
     refine⟨by rw[hlen];exact T.1,λj y U=>?_⟩
     have Y:j<p.2.length:=by rw[<- hlen];exact(dZ.1 U).1
     obtain⟨y',E,SU,hz⟩:=LO j _ (bK Y);rw[U]at E;injection E with E;subst E;obtain⟨u,hu,Z⟩:=T.2 j _ (bK Y);refine⟨u,hu,?_⟩;rcases hz with ⟨e,hf⟩|⟨r,e,hmr,tM⟩
     ·rw[e]at Z;exact(Z.2.LS hf (λb=>Ap)).key hf
     ·rw[e]at Z;have fk:=hm r _ hmr;generalize D:aS.sl y=z at fk;cases fk with
      |az=>cases D
      |mp=>cases D
      |gh=>cases D
      | sl v' y' ck kA=>
       injection D with D;subst D;have Hr:v'=u:=by
        have h4:=Z.2;simp only[c9,ck]at h4;simp_all
       subst Hr;exact RV.eT (p:=[]) kA (gx (r,off+j) (List.mem_append_left _ tM))
    refine⟨⟨?_,?_⟩,?_⟩
    ·rw[bT];intro y U;obtain⟨j,Y⟩:=List.mem_iff_getElem?.1 U;have yd:j<p.2.length:=by rw[<- hlen];exact(dZ.1 Y).1
     obtain⟨y',E,SU,_⟩:=LO j _ (bK yd);simp_all
    ·obtain⟨b,xs⟩:=p;cases b with
     | true=>
      obtain⟨us,e,T⟩:=Aq;obtain⟨k1,k2⟩:=key us T;exact⟨us,e,k1,k2⟩
     | false=>
      obtain⟨k1,k2⟩:=key #[v] Aq;exact⟨#[v],rfl,k1,k2⟩
    ·grind
   ·cases h
def akl{t:TypeId}{x:A}{k:A->aj X}(h:oJ P σ t x k=some r){u:Value}(C:RA w B af ρ x u):∃ ad,u = .pointer (some ad):=by
 unfold oJ at h;split at h
 ·cases h
 ·split at h
  ·obtain⟨b,off,_,rfl⟩:=C;exact⟨_,rfl⟩
  ·obtain⟨b,off,rfl,_⟩:=C;exact⟨_,rfl⟩
  ·obtain⟨ad,rfl,_⟩:=C;exact⟨_,rfl⟩
  ·cases h
def aaa{x:A}{p:Bool×aa Lf}(h:Mo x=some p){u:Value}(D:RA w B af ρ x u):RP w B af ρ p u:=by
 unfold Mo at h;split at h
 ·injection h with h;subst h
  refine⟨rfl,λj y C=>?_⟩
  cases j with
  |zero=>simp at C;subst C;exact⟨u,rfl,D⟩
  |succ j=>simp at C
 ·injection h with h;subst h;exact D
 ·cases h
def sj(tmps:Array Value):ResultVar->Sem Value
 |.tmp t=>pure (tmps.getD t undef)
 |.cell a t=>do loadVar t (<-asAddr (tmps.getD a undef))
def Hs:∀ (l:aa ResultVar) (k:aa (Bool×aa Lf) -> aj X),tL P σ l k=some r -> ∃ ps,k ps=some r /\ ∀ af ρ a w,Rl w0 N af ρ σ a w -> ∃ C,(l.mapM (sj a.tmps)).run P w = .ok C w/\C.length=ps.length /\ ∀ (i:Nat) p v,ps[i]?=some p -> C[i]?=some v -> RP w w0.heap.size af ρ p v
 |[],k,h=>⟨[],h,λ_ _ _ _ _=>⟨[],rfl,rfl,λi p v D=>by simp at D⟩⟩
 | .tmp t :: rest,k,h=>by
  simp only[tL]at h;split at h
  ·rename_i p D;obtain⟨ps,T,U⟩:=Hs rest _ h
   refine⟨p::ps,T,λaf ρ a w hR=>?_⟩
   obtain⟨C,Y,hl,hv⟩:=U af ρ a w hR
   refine⟨a.tmps.getD t undef::C,?_,by simp[hl],λi q u E I=>?_⟩
   ·rw[List.mapM_cons];simp[sj,Sem.run_pure,me,gA,Y]
   ·cases i with
    |zero=>simp only[List.getElem?_cons_zero,jb]at E I;subst E I;exact aaa D (hR.tmp t)
    |succ i=>grind
  ·cases h
 | .cell c ty :: rest,k,h=>by
  simp only[tL]at h;obtain⟨y,Z,hld⟩:=ZA (w0:=w0) (N:=N) h;split at Z
  ·rename_i p D;obtain⟨ps,T,U⟩:=Hs rest _ Z
   refine⟨p::ps,T,λaf ρ a w hR=>?_⟩
   obtain⟨C,Y,hl,hv⟩:=U af ρ a w hR;obtain⟨v,O,yz⟩:=hld af ρ a w hR _ (hR.tmp c);obtain⟨ad,qf⟩:=akl h (hR.tmp c);rw[qf]at O;have O:(loadVar ty ad).run P w = .ok v w:=by
    simpa [Instr.loadAt,Instr.sureAddr]using O
   refine⟨v::C,?_,by simp[hl],λi q u E I=>?_⟩
   ·rw[List.mapM_cons];simp[sj,qf,asAddr,Sem.run_pure,me,gA,Y,O]
   ·cases i with
    |zero=>simp at E I;subst E I;exact aaa D yz
    |succ i=>grind
  ·cases Z
def akm{fn:Func}{k:gv -> aj X}(h:Ho P σ fn.results k=some r):∃ Z,k Z=some r /\ ∀ af ρ a w,Rl w0 N af ρ σ a w -> ∀ nm,∃ v aA,(results fn a.tmps).run P w = .ok v w/\(∀ b k,aA b=some k -> (w0.heap.size <= b \/ w0.L b≠none)/\b<w.heap.size/\k≠[])/\qY w w0.heap.size aA nm Z v:=by
 unfold Ho at h;obtain⟨ps,I,qZ⟩:=Hs (w0:=w0) (N:=N) _ _ h;clear h;split at I
 ·rename_i T rs SV;cases ho:once rs with
  |false=>grind
  | true=>
   rw[ho,aq]at I;have gx:∀ p∈rs,rs.lookup p.1=some p.2:=by
    intro p hp;have:=bT.1 ho p hp;obtain⟨n,hn,he⟩:=(Option.any_eq_true _ _).1 this;simp_all
   have core:∀ af ρ a w,Rl w0 N af ρ σ a w -> ∀ nm:Nat -> Nat,∃ C:aa Value,(fn.results.mapM (sj a.tmps)).run P w = .ok C.toArray w/\(∀ b k,eT af rs nm b=some k -> (w0.heap.size <= b \/ w0.L b≠none)/\b<w.heap.size/\k≠[])/\jR w w0.heap.size (eT af rs nm) nm 0 T C:=by
    intro af ρ a w hR nm;obtain⟨C,O,hl,hv⟩:=qZ af ρ a w hR
    refine⟨C,?_,λb k E=>?_,SS hR.root ps 0 T rs C SV gx hl hv⟩
    ·rw[Array.mapM_eq_mapM_toList];simp[O]
    ·unfold eT at E;split at E
     ·cases E
     ·rename_i k' qq;have:=hR.dj b k' qq;split at E
      ·cases E
      ·cases va:rs.lookup _ with
       |none=>rw[va]at E;cases E
       | some n=>
        rw[va]at E;injection E with E;subst E;simp_all
   have kD:∀ (tmps:Array Value),results fn tmps=(do let C <- fn.results.mapM (sj tmps);pure (if h:C.size=1 then C[0]else .tuple C)):=λtmps=>by
    unfold results;congr 1
   split at I
   ·rename_i p
    refine⟨_,I,λaf ρ a w hR nm=>?_⟩
    obtain⟨C,O,U,D⟩:=core af ρ a w hR nm
    match C,D with
    |[v],D=>exact⟨v,_,by rw[kD,gA,O];rfl,U,D⟩
    |[],D=>exact D.elim
    |_::_::_,D=>exact D.2.elim
   ·rename_i Y
    refine⟨_,I,λaf ρ a w hR nm=>?_⟩
    obtain⟨C,O,U,D⟩:=core af ρ a w hR nm;have gM:C.toArray.size≠1:=by
     intro e
     match T,C,D,Y with
     |[q],[v],_,Y=>exact Y q rfl
     |[],[v],D,_=>exact D.elim
     |_::_::_,[v],D,_=>exact D.2.elim
    refine⟨.tuple C.toArray,_,?_,U,C.toArray,rfl,D⟩;rw[kD,gA,O,me];simp only[gM,dif_neg,not_false_eq_true,Sem.run_pure]
 ·cases I
end
inductive In where
 |az (cs:List V)
 |sl (y:V)
def nF(i:Nat):Nat:=20000+1000*i
def nC(i j:Nat)(x:V):Nat:=bif x.aH then 20001+1000*i+j else 60000+1000*i+j
def As(i j:Nat)(x:V):Lf:=bif x.plain then .v x else .own [nC i j x]
def At(i:Nat):Nat->aa V->aa Lf
 |_,[]=>[]
 |j,x::xs=>As i j x::At i (j+1) xs
def SW(i:Nat):Nat->aa V->(Nat->aj aS)->(Nat->aj aS)
 |_,[],m=>m
 |j,x::xs,m=>SW i (j+1) xs (bif x.plain then m else bJ m (nC i j x) (some (.sl x)))
def Mq:Nat->aa In->(Nat->aj aS)->(Nat->aj aS)
 |_,[],m=>m
 |i,.az cs::r,m=>Mq (i+1) r (SW i 0 cs (bJ m (nF i) (some (.az (At i 0 cs)))))
 |i,.sl y::r,m=>Mq (i+1) r (bJ m (nF i) (some (.sl y)))
inductive Ar where
 |pt (p:Pt)
 |mut (i off:Nat)
def SX(C:aa In):Ar->A
 |.pt (false,[x])=>.lf (.v x)
 |.pt (true,xs)=>.agg (xs.map .v)
 |.pt (false,.bool false::.int .i64 g::c::cs)=>.nU g.toNat (c::cs)
 |.pt _=>.undef
 | .mut i off=>match C[i]? with
  |some (.az _)=>.aG (nF i) off
  |some (.sl _)=>.lf (.own [nF i])
  |none=>.undef
def yE(C:aa In)(args:aa Ar):S:=⟨λk=>match args[k]? with
 |some x=>SX C x
 |none=>.undef,Mq 0 C (λ_=>none)⟩
def sn(w w':World)(aA:bw)(ρ:Nat->Loc)(nm:Nat->Nat):Nat->Nat->aa In->aa In->Prop
 |_,_,[],[]=>True
 | i,D,.az cs :: r,.az fq :: I=>(∃ b off cells O e U,ρ (nF i) = .az b off/\w.heap[b]?=some (.cells cells e (0,0))/\w'.heap[b]?=some (.cells O U (0,0))/\aA b=some [nm D]/\off+fq.length<=O.size/\fq.length=cs.length/\
   ∀(j:Nat) C,fq[j]?=some C->∃u,O[off+j]?=some u/\((C.plain=true/\∀(w:World) (B:Nat) (af:bw) (q:aa Nat),RV w B af q C u)\/(C = .nil/\u = .slice none 0 0/\∃E,cs[j]?=some E/\E.aH=false)\/(C.plain=false/\C.aH=true/\C.ku=true/\(∃E,cs[j]?=some E/\Wk E C)/\cells[off+j]?=some u)\/(C.aH=false/\RV w' w.heap.size aA [nm (D+1+j)] C u)))/\
   sn w w' aA ρ nm (i+1) (D+1+cs.length) r I
 |i,D,.sl y::r,.sl T::I=>(T = .nil\/∃v,ρ (nF i) = .dQ v/\RV w' w.heap.size aA [nm D] T v)/\sn w w' aA ρ nm (i+1) (D+1) r I
 |_,_,_,_=>False
def Hu(w w':World)(aA:bw)(ρ:Nat->Loc)(nm:Nat->Nat):Nat->Nat->aa In->aa In->Prop
 |_,_,[],[]=>True
 | i,D,.az cs :: r,.az fq :: E=>(∃ b off cells I e T,ρ (nF i) = .az b off/\w.heap[b]?=some (.cells cells e (0,0))/\w'.heap[b]?=some (.cells I T (0,0))/\aA b=some [nm D]/\off+fq.length<=I.size/\fq.length=cs.length/\
   ∀(j:Nat) C,fq[j]?=some C->∃u,I[off+j]?=some u/\((C.plain=true/\∀(w:World) (B:Nat) (af:bw) (q:aa Nat),RV w B af q C u)\/(C.plain=false/\C.aH=true/\cells[off+j]?=some u)\/(C.aH=false/\RV w' w.heap.size aA [nm (D+1+j)] C u)))/\
   Hu w w' aA ρ nm (i+1) (D+1+cs.length) r E
 |i,D,.sl y::r,.sl O::E=>(O = .nil\/∃v,ρ (nF i) = .dQ v/\RV w' w.heap.size aA [nm D] O v)/\Hu w w' aA ρ nm (i+1) (D+1) r E
 |_,_,_,_=>False
def gv.len:gv->Nat
 |.one p=>p.2.length
 |.fz ps=>(ps.map λp=>p.2.length).sum
def qx(w:World)(B:Nat)(af:bw)(ρ:Nat->Loc):Nat->aa In->Prop
 |_,[]=>True
 |i,.az cs::r=>eH w B af ρ (nF i) (.az (At i 0 cs))/\(∀(j:Nat) x,cs[j]?=some x->x.plain=false->eH w B af ρ (nC i j x) (.sl x))/\qx w B af ρ (i+1) r
 |i,.sl y::r=>eH w B af ρ (nF i) (.sl y)/\qx w B af ρ (i+1) r
/-! The end: what is given back,and what the written parameters hold. -/
def SY(m:Nat->aj aS)(i j:Nat)(C:V):Lf->aj (V×aj Nat)
 |.v x=>bif x.plain then some (x,none)else (bif !x.ku && !C.aH then some (.nil,none)else none)
 | .own [r]=>match m r with
  |some (.sl y)=>bif y.aH then (bif !C.plain&&(C.aH&&C.ku)&&Nat.beq r (20001+1000*i+j)&&Nat.blt r 60000 then some (C,none)else none)else (bif y.loc then some (y,some r)else none)
  |_=>none
 |_=>none
def Cr(m:Nat->aj aS)(i C:Nat):Nat->aa V->aa Lf->aj (aa V×aa (Nat×Nat))
 |_,[],[]=>some ([],[])
 | j,D :: xs,l :: E=>match SY m i j D l,Cr m i C (j+1) xs E with
  |some (y,none),some (ys,rs)=>some (y::ys,rs)
  |some (y,some r),some (ys,rs)=>some (y::ys,(r,C+1+j)::rs)
  |_,_=>none
 |_,_,_=>none
def V.gone:V->Bool
 |.sl _ o _ _=>Nat.ble 1000000 o
 |_=>false
def Au(m:Nat->aj aS):Nat->Nat->aa In->aj (aa In×aa (Nat×Nat))
 |_,_,[]=>some ([],[])
 | i,C,.az cs :: r=>match bif Nat.blt (nF i) 60000 then m (nF i)else none with
  | some (.az I)=>match Cr m i C 0 cs I,Au m (i+1) (C+1+cs.length) r with
   |some (fq,rs),some (os,D)=>some (.az fq::os,(nF i,C)::(rs++D))
   |_,_=>none
  |_=>none
 | i,C,.sl O :: r=>bif O.gone then (match Au m (i+1) (C+1) r with
   |some (os,D)=>some (.sl .nil::os,D)
   |none=>none)else match bif Nat.blt (nF i) 60000 then m (nF i)else none with
  | some (.sl E)=>bif E.loc && !E.aH then (match Au m (i+1) (C+1) r with
   |some (os,D)=>some (.sl E::os,(nF i,C)::D)
   |none=>none)else none
  |_=>none
def Hv{X:Type}(P:Program)(σ:S)(fn:Array ResultVar)(C:aa In)(k:aa In->gv->aj X):aj X:=
 tL P σ fn.toList λps=>match Em σ.m 0 ps with
  | some (qs,rs)=>match Au σ.m 0 (qs.map λp=>p.2.length).sum C with
   | some (os,D)=>bif once (rs++D)then (match qs with
    |[p]=>k os (.one p)
    |qs=>k os (.fz qs))else none
   |none=>none
  |none=>none
/-! Types of parameters and results. -/
def je:aa (Bool×TC×Nat)->Type
 |[]=>ah
 |[(_,t,_)]=>T t
 |(_,t,_)::r=>T t×je r
def vb:(l:aa (Bool×TC×Nat))->je l->aa Pt
 |[],_=>[]
 |[(b,t,g)],x=>[(b,enc t g x)]
 |(b,t,g)::q::r,x=>(b,enc t g x.1)::vb (q::r) x.2
def q5:(l:aa (Bool×TC×Nat))->aa Pt->aj (je l)
 |[],[]=>some ()
 |[(b,t,g)],[(C,D)]=>bif b==C then dec t g D else none
 | (b,t,g) :: q :: r,(C,D) :: ps=>bif b==C then (match dec t g D,q5 (q :: r) ps with
  |some x,some xs=>some (x,xs)
  |_,_=>none)else none
 |_,_=>none
def mz(l:aa (Bool×TC×Nat)):gv->aj (je l)
 |.one p=>q5 l [p]
 |.fz ps=>bif Nat.beq ps.length 1 then none else q5 l ps
def fm(l:aa (Bool×TC×Nat))(x:je l):gv:=
 match vb l x with
 |[p]=>.one p
 |ps=>.fz ps
inductive PK where
 |v (b:Bool) (t:TC)
 |p (t:TC) (g off:Nat)
 |s (t:TC) (g:Nat)
def lQ:aa PK->Type
 |[]=>ah
 |.v _ t::r=>T t×lQ r
 |.p t _ _::r=>T t×lQ r
 |.s t _::r=>aa (T t)×lQ r
def sr:aa (Bool×TC×Nat)->Type
 |[]=>ah
 |(true,t,_)::r=>T t×sr r
 |(false,t,_)::r=>aa (T t)×sr r
def jm:(l:aa (Bool×TC×Nat))->sr l->aa In
 |[],_=>[]
 |(true,t,g)::r,x=>.az (enc t g x.1)::jm r x.2
 |(false,t,g)::r,x=>.sl (bif Nat.ble 1000000 g then .nil else .sl t (g+2) false x.1)::jm r x.2
def eU:aa PK->aa (Bool×TC×Nat)
 |[]=>[]
 |.v _ _::r=>eU r
 |.p t g _::r=>(true,t,g)::eU r
 |.s t g::r=>(false,t,g)::eU r
def n7:(l:aa PK)->lQ l->aa In
 |[],_=>[]
 |.v _ _::r,x=>n7 r x.2
 |.p t g _::r,x=>.az (enc t g x.1)::n7 r x.2
 |.s t g::r,x=>.sl (.sl t (g+2) false x.1)::n7 r x.2
def kE:(l:aa PK)->Nat->lQ l->aa Ar
 |[],_,_=>[]
 |.v b t::r,i,x=>.pt (b,enc t 0 x.1)::kE r i x.2
 |.p _ _ off::r,i,x=>.mut i off::kE r (i+1) x.2
 |.s _ _::r,i,x=>.mut i 0::kE r (i+1) x.2
structure n8 where
 ps:List PK
 ro:List (Bool×TC×Nat)
 F:lQ ps->Option (je ro×sr (eU ps))
def wB(P:Program)(f:Nat)(c:n8):Prop:=
 ∀ x y,c.F x=some y->∀ (nm:Nat->Nat) (w:World) (af:bw) (ρ:Nat->Loc) (bH:Array Value),qx w w.heap.size af ρ 0 (n7 c.ps x)->(∀ b k,af b=some k->b<w.heap.size/\k≠[])->
     bH.size=c.ps.length->(∀i,RA w w.heap.size af ρ ((yE (n7 c.ps x) (kE c.ps 0 x)).t i) (bH.getD i undef))->∀C:Hd w af,
     Calls P f bH w λe w'=>∃v aA,e = .returned v/\jt ⟨w,af,λ_=>none,C,λ_ _=>rfl⟩ w w'/\(∀b k,aA b=some k->(w.heap.size<=b\/af b≠none)/\b<w'.heap.size/\k≠[])/\qY w' w.heap.size aA nm (fm c.ro y.1) v/\Hu w w' aA ρ nm 0 (fm c.ro y.1).len (n7 c.ps x) (jm (eU c.ps) y.2)
def Hw(w:World)(ρ:Nat->Loc):Nat->aa In->Prop
 |_,[]=>True
 |i,.az cs::r=>(∃b off cells e,ρ (nF i) = .az b off/\w.heap[b]?=some (.cells cells e (0,0))/\∀(j:Nat) x,cs[j]?=some x->x.plain=false->x.aH=true->∃u,cells[off+j]?=some u/\ρ (20001+1000*i+j) = .dQ u)/\Hw w ρ (i+1) r
 |i,.sl y::r=>(∃v,ρ (nF i) = .dQ v)/\Hw w ρ (i+1) r
section
variable {P:Program} {w w':World} {w0:Wd} {B N:Nat} {af aA:bw} {ρ ρ':Nat->Loc} {σ:S} {a:Act} {X:Type} {d:Nat} {r:X} {rs:aa (Nat×Nat)} {nm:Nat->Nat}
def SZ{m:Nat -> aj aS}{i pos:Nat}:∀ (xs:aa V) (T:aa Lf) (D:Nat) (ys:aa V) (U:aa (Nat×Nat)),Cr m i pos D xs T=some (ys,U) -> ys.length=xs.length/\T.length=xs.length /\
  ∀(j:Nat) y,ys[j]?=some y -> ∃l x0,T[j]?=some l/\xs[j]?=some x0/\((l = .v y/\y.plain=true) \/ (l = .v .nil/\y = .nil/\x0.aH=false) \/ (l = .own [20001+1000*i+(D+j)]/\y=x0/\y.plain=false/\(y.aH&&y.ku)=true/\20001+1000*i+(D+j)<60000) \/ (∃q,l = .own [q]/\m q=some (.sl y)/\y.aH=false/\(q,pos+1+(D+j))∈U))
 | [],[],D,ys,U,h=>by
  simp only[Cr,jb,Prod.mk.injEq]at h;obtain⟨rfl,rfl⟩:=h;exact⟨rfl,rfl,λj y Z=>by simp at Z⟩
 |[],_::_,D,ys,U,h=>by simp[Cr]at h
 |_::_,[],D,ys,U,h=>by simp[Cr]at h
 | x0 :: xs,l :: T,D,ys,U,h=>by
  have hc:∀ y z,SY m i D x0 l=some (y,z) -> (z=none/\l = .v y/\y.plain=true) \/ (z=none/\l = .v .nil/\y = .nil/\x0.aH=false) \/ (z=none/\l = .own [20001+1000*i+D]/\y=x0/\y.plain=false/\(y.aH&&y.ku)=true/\20001+1000*i+D<60000) \/ (∃ q,z=some q/\l = .own [q]/\m q=some (.sl y)/\y.aH=false):=by
   intro y z C;unfold SY at C;split at C
   ·rename_i x;cases hp:x.plain with
    | false=>
     rw[hp,av]at C;cases hb:(!x.ku && !x0.aH)with
     |false=>rw[hb]at C;cases C
     | true=>
      rw[hb,aq]at C;simp only[jb,Prod.mk.injEq]at C;obtain⟨rfl,rfl⟩:=C;rw[aM,gd,gd]at hb;have hx:x = .nil:=by
       cases x<;>first|rfl|(exact absurd hb.1 (by simp[V.ku]))
      subst hx;exact .inr (.inl ⟨rfl,rfl,rfl,hb.2⟩)
    |true =>grind
   ·rename_i q;split at C
    ·rename_i y1 hy1;cases hf:y1.aH with
     | true=>
      rw[hf,aq]at C;cases hb:(!x0.plain&&(x0.aH&&x0.ku)&&Nat.beq q (20001+1000*i+D)&&Nat.blt q 60000)with
      |false=>rw[hb]at C;cases C
      | true=>
       rw[hb,aq]at C;simp only[jb,Prod.mk.injEq]at C;obtain⟨rfl,rfl⟩:=C;rw[aM,aM,aM,gd]at hb;obtain⟨⟨⟨b1,b2⟩,b3⟩,b4⟩:=hb;obtain rfl:=cJ b3;exact .inr (.inr (.inl ⟨rfl,rfl,rfl,b1,b2,by have:=cE b4;omega⟩))
     | false=>
      rw[hf,av]at C;cases hl:y1.loc with
      |false=>rw[hl]at C;cases C
      |true =>grind
    ·cases C
   ·cases C
  unfold Cr at h;split at h
  ·rename_i y S0 S1 Z Ak;simp only[jb,Prod.mk.injEq]at h;obtain⟨rfl,rfl⟩:=h;obtain⟨h1,h2,h3⟩:=SZ xs T (D+1) S0 S1 Ak
   refine⟨by simp[h1],by simp[h2],λj y' E=>?_⟩
   cases j with
   | zero=>
    simp at E;subst E;refine⟨l,x0,rfl,rfl,?_⟩;rcases hc y none Z with ⟨_,I,O⟩|⟨_,I,O,Y⟩|⟨_,I,O,Y,e4,e5⟩|⟨q,hq,_⟩
    ·simp[*]
    ·simp[*]
    ·exact .inr (.inr (.inl ⟨I,O,Y,e4,e5⟩))
    ·cases hq
   | succ j=>
    obtain⟨l',x',g1,g2,g3⟩:=h3 j y' (by simpa using E);rw[show D+1+j=D+(j+1) by omega]at g3;exact⟨l',x',by simpa using g1,by simpa using g2,g3⟩
  ·rename_i y q S0 S1 Z Ak;simp only[jb,Prod.mk.injEq]at h;obtain⟨rfl,rfl⟩:=h;obtain⟨h1,h2,h3⟩:=SZ xs T (D+1) S0 S1 Ak
   refine⟨by simp[h1],by simp[h2],λj y' E=>?_⟩
   cases j with
   | zero=>
    simp at E;subst E;refine⟨l,x0,rfl,rfl,?_⟩;rcases hc y (some q) Z with ⟨e0,_⟩|⟨e0,_⟩|⟨e0,_⟩|⟨q',hq,I,O,Y⟩
    ·cases e0
    ·cases e0
    ·cases e0
    ·injection hq with hq;subst hq;exact .inr (.inr (.inr ⟨q,I,O,Y,.head _⟩))
   | succ j=>
    obtain⟨l',x',g1,g2,g3⟩:=h3 j y' (by simpa using E);rw[show D+1+j=D+(j+1) by omega]at g3;exact⟨l',x',by simpa using g1,by simpa using g2,g3.imp id (λg=>g.imp id (λg=>g.imp id λ⟨q',I,O,Y,e4⟩=>⟨q',I,O,Y,.tail _ e4⟩))⟩
  ·cases h
def Mr{w1:World}{S2:Nat -> Loc}{m:Nat -> aj aS}(T:∀ r,20000 <= r -> r<60000 -> ρ r=S2 r)(U:∀ r x,m r=some x -> eH w w1.heap.size af ρ r x):
  ∀(ins:aa In) (i Z:Nat) (outs:aa In) (Hx:aa (Nat×Nat)),Au m i Z ins=some (outs,Hx) -> (∀p∈Hx,rs.lookup p.1=some p.2) -> Hw w1 S2 i ins -> sn w1 w (eT af rs nm) S2 nm i Z ins outs
 | [],i,Z,outs,Hx,h,I,he=>by
  simp only[Au,jb,Prod.mk.injEq]at h;obtain⟨rfl,rfl⟩:=h;trivial
 | .az cs :: r,i,Z,outs,Hx,h,I,he=>by
  unfold Au at h;cases hi:Nat.blt (nF i) 60000 with
  |false=>grind
  | true=>
   rw[hi,aq]at h;have hi:=cE hi;split at h
   ·rename_i ls S3;split at h
    ·rename_i fq rs1 os Cq h1 h2;simp only[jb,Prod.mk.injEq]at h;obtain⟨rfl,rfl⟩:=h;obtain⟨⟨b,off,cells,e,aab,SJ,su⟩,Hy⟩:=he;obtain⟨k1,k2,k3⟩:=SZ _ _ _ _ _ h1
     refine⟨?_,Mr T U r (i+1) _ os Cq h2 (λp D=>I p (.tail _ (List.mem_append_right _ D))) Hy⟩
     have O:=U _ _ S3;have S4:=T (nF i) (by unfold nF;omega) (by omega);generalize C:aS.az ls=x at O;cases O with
     |sl=>cases C
     |mp=>cases C
     |gh=>cases C
     | az b' Cb yF e' ls' us E hl hh hs hc=>
      injection C with C;subst C;rw[S4,aab]at E;injection E with e1 e2;subst e1 e2
      refine⟨b,off,cells,yF,e,e',aab,SJ,hh,?_,by rw[k1,<- k2];exact hs,k1,λj y hy=>?_⟩
      ·have:=I _ (List.Mem.head _);simp[eT,hl,this]
      ·obtain⟨l,x0,g1,g2,g3⟩:=k3 j y hy;obtain⟨c1,c2⟩:=hc j l g1;refine⟨_,c1,?_⟩;rw[fO]at g3;rcases g3 with ⟨rfl,D⟩ | ⟨rfl,rfl,Mg⟩ | ⟨rfl,rfl,D,Ah,dK⟩ | ⟨q,rfl,hq,hf,tM⟩
       ·exact .inl ⟨D,λ_ _ _ _=>c2.2.uO D⟩
       ·exact .inr (.inl ⟨rfl,by have h9:=c2.2;generalize us j=u9 at h9 ⊢;cases h9;rfl,x0,g2,Mg⟩)
       ·rw[aM]at Ah;obtain⟨hf,S5⟩:=Ah;obtain⟨u,hu,akn⟩:=su j y g2 D hf;refine .inr (.inr (.inl ⟨D,hf,S5,⟨y,g2,.same _⟩,?_⟩));have Y:=c2.2;have S6:=T (20001+1000*i+j) (by omega) dK;simp only[c9,S6,akn]at Y;simp_all
       ·refine .inr (.inr (.inr ⟨hf,?_⟩));have O:=U _ _ hq;generalize C:aS.sl y=x at O;cases O with
        |az=>cases C
        |mp=>cases C
        |gh=>cases C
        | sl v y' E hr=>
         injection C with C;subst C;have Y:=c2.2;simp only[c9,E]at Y;injection Y with Y;rw[<- Y];exact RV.eT (p:=[]) hr (I _ (.tail _ (List.mem_append_left _ tM)))
    ·cases h
   ·cases h
 | .sl y :: r,i,Z,outs,Hx,h,I,he=>by
  unfold Au at h;cases hg:y.gone with
  | true=>
   rw[hg,aq]at h;split at h
   next os Cq h2=>simp at h;obtain⟨rfl,rfl⟩:=h;exact⟨.inl rfl,Mr T U r _ _ os Cq h2 I he.2⟩
   ·cases h
  |false=>
  rw[hg,av]at h;cases hi:Nat.blt (nF i) 60000 with
  |false=>grind
  | true=>
   rw[hi,aq]at h;have hi:=cE hi;split at h
   ·rename_i y' Hg;cases hl:(y'.loc && !y'.aH)with
    |false=>grind
    | true=>
     rw[hl,aq]at h;split at h
     ·rename_i os Cq h2;simp only[jb,Prod.mk.injEq]at h;obtain⟨rfl,rfl⟩:=h;obtain⟨⟨v,hv⟩,Hy⟩:=he
      refine⟨.inr ⟨v,hv,?_⟩,Mr T U r (i+1) _ os Cq h2 (λp D=>I p (.tail _ D)) Hy⟩
      have S4:=T (nF i) (by unfold nF;omega) (by omega);have O:=U _ _ Hg;generalize C:aS.sl y'=x at O;cases O with
      |az=>cases C
      |mp=>cases C
      |gh=>cases C
      | sl v' y'' E hr=>
       injection C with C;subst C;rw[S4,hv]at E;injection E with E;subst E;exact RV.eT (p:=[]) hr (I _ (.head _))
     ·cases h
   ·cases h
def ako{w1:World}{U:Nat -> Loc}{fn:Func}{O:aa In}{k:aa In -> gv -> aj X}(hw:w0.w=w1)(hF:∀ r,20000 <= r -> r<60000 -> w0.F r=some (U r))(he:Hw w1 U 0 O)(h:Hv P σ fn.results O k=some r):
  ∃outs res,k outs res=some r /\ ∀af ρ a w,Rl w0 N af ρ σ a w -> ∀nm,∃v aA,(results fn a.tmps).run P w = .ok v w/\(∀b k,aA b=some k -> (w0.heap.size <= b \/ w0.L b≠none)/\b<w.heap.size/\k≠[])/\qY w w0.heap.size aA nm res v/\sn w1 w aA U nm 0 res.len O outs:=by
 unfold Hv at h;obtain⟨ps,E,qZ⟩:=Hs (w0:=w0) (N:=N) _ _ h;clear h;split at E
 ·rename_i qs S7 SV;split at E
  ·rename_i os S8 hos;cases ho:once (S7++S8)with
   |false=>rw[ho]at E;cases E
   | true=>
    rw[ho,aq]at E;generalize aac:S7++S8=rs at ho;have gx:∀ p∈rs,rs.lookup p.1=some p.2:=by
     intro p Y;have:=bT.1 ho p Y;obtain⟨n,hn,he⟩:=(Option.any_eq_true _ _).1 this;simp_all
    have core:∀ af ρ a w,Rl w0 N af ρ σ a w -> ∀ nm:Nat -> Nat,∃ C:aa Value,(fn.results.mapM (sj a.tmps)).run P w = .ok C.toArray w/\(∀ b k,eT af rs nm b=some k -> (w0.heap.size <= b \/ w0.L b≠none)/\b<w.heap.size/\k≠[])/\jR w w0.heap.size (eT af rs nm) nm 0 qs C /\
      sn w1 w (eT af rs nm) U nm 0 (qs.map λp=>p.2.length).sum O os:=by
     intro af ρ a w hR nm;obtain⟨C,Z,hl,hv⟩:=qZ af ρ a w hR
     refine⟨C,?_,λb k I=>?_,SS hR.root ps 0 qs S7 C SV (λp Y=>gx p (by rw[<- aac];exact List.mem_append_left _ Y)) hl hv,
      Mr (λr h1 E=>hR.fix r _ (hF r h1 E)) (by rw[<- hw];exact hR.root) O 0 _ os S8 hos (λp Y=>gx p (by rw[<- aac];exact List.mem_append_right _ Y)) he⟩
     ·rw[Array.mapM_eq_mapM_toList];simp[Z]
     ·unfold eT at I;split at I
      ·cases I
      ·rename_i k' qq;have:=hR.dj b k' qq;split at I
       ·cases I
       ·cases va:rs.lookup _ with
        |none=>rw[va]at I;cases I
        | some n=>
         rw[va]at I;injection I with I;subst I;simp_all
    have kD:∀ (tmps:Array Value),results fn tmps=(do let C <- fn.results.mapM (sj tmps);pure (if h:C.size=1 then C[0]else .tuple C)):=λtmps=>by
     unfold results;congr 1
    split at E
    ·rename_i p
     refine⟨_,_,E,λaf ρ a w hR nm=>?_⟩
     obtain⟨C,Z,oP,D,T⟩:=core af ρ a w hR nm;have T:sn w1 w (eT af rs nm) U nm 0 (gv.one p).len O os:=by simpa [gv.len]using T
     match C,D with
     |[v],D=>exact⟨v,_,by rw[kD,gA,Z];rfl,oP,D,T⟩
     |[],D=>exact D.elim
     |_::_::_,D=>exact D.2.elim
    ·rename_i cA
     refine⟨_,_,E,λaf ρ a w hR nm=>?_⟩
     obtain⟨C,Z,oP,D,T⟩:=core af ρ a w hR nm;have gM:C.toArray.size≠1:=by
      intro e;clear T;have e:C.length=1:=by simpa using e
      match qs,C,D,cA,e with
      |[q],[v],_,cA,_=>exact cA q rfl
      |[],[v],D,_,_=>exact D.elim
      |_::_::_,[v],D,_,_=>exact D.2.elim
     refine⟨.tuple C.toArray,_,?_,oP,⟨C.toArray,rfl,D⟩,T⟩;rw[kD,gA,Z,me];simp only[gM,dif_neg,not_false_eq_true,Sem.run_pure]
  ·cases E
 ·cases E
def aad{i:Nat}:∀ (cs:aa V) (D:Nat) (m:Nat -> aj aS) (r:Nat) (x:aS),SW i D cs m r=some x -> m r=some x \/ ∃ j y,cs[j]?=some y/\y.plain=false/\r=nC i (D+j) y/\x = .sl y
 |[],D,m,r,x,h=>.inl h
 | c :: cs,D,m,r,x,h=>by
  rcases aad cs _ _ r x h with C|⟨j,y,C,O,T,U⟩
  ·cases E:c.plain with
   |true=>simp_all
   | false=>
    rw[E,av]at C;by_cases I:r=nC i D c
    ·subst I;rw[bM]at C;injection C with C;exact .inr ⟨0,c,rfl,E,rfl,C.symm⟩
    ·rw[cy _ _ _ I]at C;simp_all
  ·exact .inr ⟨j+1,y,by simpa using C,O,by rw[T];congr 1;omega,U⟩
def qx.roots:∀ (C:aa In) (i:Nat) (m:Nat -> aj aS),qx w B af ρ i C -> (∀ r x,m r=some x -> eH w B af ρ r x) -> ∀ r x,Mq i C m r=some x -> eH w B af ρ r x
 |[],i,m,_,I,r,x,h=>I r x h
 | .az cs :: C,i,m,O,I,r,x,h=>by
  obtain⟨Y,Z,T⟩:=O
  refine qx.roots C _ _ T (λr x E=>?_) r x h
  rcases aad cs 0 _ r x E with U|⟨j,y,g1,g2,g3,g4⟩
  ·by_cases D:r=nF i
   ·subst D;rw[bM]at U;simp_all
   ·rw[cy _ _ _ D]at U;simp_all
  ·simp_all
 | .sl y :: C,i,m,O,I,r,x,h=>by
  obtain⟨Y,T⟩:=O
  refine qx.roots C _ _ T (λr x E=>?_) r x h
  by_cases D:r=nF i
  ·subst D;rw[bM]at E;simp_all
  ·rw[cy _ _ _ D]at E;simp_all
def S9{i:Nat}:∀ (cs:aa V) (C j:Nat) x,cs[j]?=some x->(At i C cs)[j]?=some (As i (C+j) x)
 |[],C,j,x,h=>by simp at h
 |c::cs,C,0,x,h=>by simp at h;subst h;rfl
 | c :: cs,C,j+1,x,h=>by
  simp only[At,List.getElem?_cons_succ];rw[S9 cs (C+1) j x (by simpa using h)];congr 2;omega
def qx.Ta:∀ (C:aa In) (i:Nat),qx w B af ρ i C -> Hw w ρ i C
 |[],_,_=>trivial
 | .az cs :: C,i,I=>by
  obtain⟨E,_,O⟩:=I;refine⟨?_,qx.Ta C (i+1) O⟩;generalize D:aS.az (At i 0 cs)=x at E;cases E with
  |sl=>cases D
  |mp=>cases D
  |gh=>cases D
  | az b off cells e ls us Y hl Z hs hc=>
   injection D with D;subst D
   refine⟨b,off,cells,e,Y,Z,λj x hj hp hf=>?_⟩
   obtain⟨c1,T⟩:=hc j _ (S9 cs 0 j x hj);rw[fO]at T;refine⟨_,c1,?_⟩;have e1:As i j x = .own [20001+1000*i+j]:=by simp[As,hp,nC,hf]
   rw[e1]at T;have U:=T.2;simp only[c9]at U;split at U
   ·simp_all
   ·cases U
 | .sl y :: C,i,I=>by
  obtain⟨E,O⟩:=I;refine⟨?_,qx.Ta C (i+1) O⟩;cases E with
  |sl v y' Y hr=>simp_all
end
def dm(n:Nat):aa Nat->Bool
 |[]=>false
 |m::l=>Nat.beq n m ||dm n l
def vc{n:Nat}:∀ {l:aa Nat},dm n l=true ↔ n∈l
 |[]=>by simp[dm]
 | m :: l=>by
  simp only[dm,dY,gU,vc];simp_all
def aae{n:Nat}{l:aa Nat}(h:dm n l=false):n ∉ l:=λk=>by rw[vc.2 k]at h;cases h
def gk(k l:aa Nat):Bool:=match k.getLast? with
 |some r=>dm r l
 |none=>false
def wC(ns cn:aa Nat):nW:=⟨λk=>gk k cn ||(gk k ns && !(Nat.beq k.length 1)),λk=>gk k cn ||gk k ns,λr=>dm r cn⟩
def Lf.dA(ns cn:aa Nat):Lf->Lf:=Lf.cx (wC ns cn).l
def A.dA(ns cn:aa Nat):A->A:=A.cx (wC ns cn)
def aS.dA(ns cn:aa Nat):aS->aS:=aS.cx (wC ns cn)
def S.dA(σ:S)(ns cn:aa Nat)(nr:aa (Nat×aS)):S:=⟨λk=>(σ.t k).dA ns cn,λr=>match nr.lookup r with
 |some x=>some x
 |none=>bif dm r ns ||dm r cn then none else (σ.m r).map (aS.dA ns cn)⟩
structure ve (w w':World) (af dR:bw) (ρ fB:Nat->Loc) (ns cn:List Nat):Prop where
 size:w.heap.size<=w'.heap.size
 same:∀b,b<w.heap.size->(∀k,af b=some k->gk k ns=false)->w'.heap[b]?=w.heap[b]?/\dR b=af b
 fA:∀r,dm r cn=false->fB r=ρ r
 af:∀b k,af b=some k->b<w.heap.size/\k≠[]
section
variable {P:Program} {w w':World} {w0:Wd} {B N:Nat} {af dR aA:bw} {ρ fB:Nat->Loc} {σ:S} {a:Act} {X:Type} {d:Nat} {r:X} {ns cn:aa Nat}
def aaf{j i s:Nat}{q l:aa Nat}(h:q≠[]):gk (j :: i :: s :: q) l=gk q l:=by
 cases q with
 |nil=>simp_all
 |cons x q=>simp[gk]
def ve.tr(C:ve w w' af dR ρ fB ns cn):Tr w w' af dR ρ fB (λk=>gk k ns) (λr=>dm r cn):=
 ⟨C.size,λb hb hl=>let e:=C.same b hb (λk D=>by rw[hl]at D;cases D);⟨e.1,e.2.trans hl⟩,λb k hl D=>let e:=C.same b (C.af b k hl).1 (λI E=>by rw[hl]at E;injection E with E;subst E;exact D);⟨e.1,e.2.trans hl⟩,C.fA,λj i s x q=>aaf (by simp),λb hb=>absurd rfl (C.af b [] hb).2⟩
def Tb:(wC ns cn).OK (λk=>gk k ns) (λr=>dm r cn):=by
 refine⟨λk D=>?_,λk D=>?_,λ_ h=>h⟩
 ·obtain⟨E,C⟩:=nQ.1 D;refine⟨?_,E⟩;cases I:gk k ns with
  |false=>exact .inr rfl
  | true=>
   rw[I,cw,Bool.not_eq_false']at C;exact .inl (cJ C)
 ·obtain⟨E,C⟩:=nQ.1 D;exact⟨C,E⟩
def RV.vf(C:ve w w' af dR ρ fB ns cn){q:aa Nat}{x:V}{v:Value}(h:RV w B af q x v)(D:gk q ns=false\/x.aH=true):RV w' B dR q x v:=h.tr C.tr D.symm
def RA.vf(C:ve w w' af dR ρ fB ns cn){x:A}{u:Value}(h:RA w B af ρ x u):RA w' B dR fB (x.dA ns cn) u:=h.tr C.tr Tb
def eB.vf(C:ve w w' af dR ρ fB ns cn){x:Lf}{u:Value}(h:eB w B af ρ x u):eB w' B dR fB (x.dA ns cn) u:=h.tr C.tr Tb
def eH.vf(C:ve w w' af dR ρ fB ns cn){n:Nat}{x:aS}(h:eH w B af ρ n x)(D:dm n ns=false)(E:dm n cn=false):eH w' B dR fB n (x.dA ns cn):=h.tr C.tr Tb D E
def Rl.vf(h:Rl w0 N af ρ σ a w)(D:ve w w' af dR ρ fB ns cn)(hb:jt w0 w w')(hl:∀ b k,dR b=some k -> (w0.heap.size <= b \/ w0.L b≠none)/\b<w'.heap.size/\k≠[])(T:∀ r,dm r cn=true -> w0.F r=none){nr:aa (Nat×aS)}
  (U:∀r x,nr.lookup r=some x -> eH w' w0.heap.size dR fB r x):Rl w0 N dR fB (σ.dA ns cn nr) a w':=by
 refine⟨h.below.trans hb,hl,λr x C=>?_,λk=>(h.tmp k).vf D,h.size,h.defers,λr l I=>?_,h.cS⟩
 ·simp only[S.dA]at C;split at C
  ·simp_all
  ·cases hm:(dm r ns || dm r cn)with
   |true=>simp_all
   | false=>
    rw[hm]at C;rw[nQ]at hm;cases E:σ.m r with
    |none=>simp_all
    | some y=>
     rw[E]at C;injection C with C;subst C;exact(h.root r y E).vf D hm.1 hm.2
 ·have O:dm r cn=false:=by
   grind
  exact(D.fA r O).trans (h.fix r l I)
end
inductive Mu where
 |az (r:Nat) (cs:List Lf) (vs:List (V×Option Nat))
 |sl (q:Nat) (y:V)
def Mu.root:Mu->Nat
 |.az r _ _=>r
 |.sl q _=>q
def wD(m:Nat->aj aS):Lf->aj (V×aj Nat)
 |.v x=>some (x.gI,none)
 | .own [q]=>match m q with
  |some (.sl y)=>bif y.aH then some (y.gI,none)else some (y,some q)
  |_=>none
 |_=>none
def sv(m:Nat->aj aS):aa Lf->aj (aa (V×aj Nat))
 |[]=>some []
 | l :: C=>match wD m l,sv m C with
  |some v,some D=>some (v::D)
  |_,_=>none
def wE(σ:S):PK->A->aj (aj Mu)
 |.v _ _,_=>some none
 | .p _ _ off,.aG r j=>(match (bif Nat.beq j off then σ.m r else none)with
  | some (.az cs)=>(match sv σ.m cs with
   |some C=>bif Nat.blt cs.length 999 then some (some (.az r cs C))else none
   |none=>none)
  |_=>none)
 | .s _ _,.lf (.own [q])=>(match σ.m q with
  |some (.sl y)=>bif y.aH then none else some (some (.sl q y))
  |_=>none)
 |_,_=>none
def jI(σ:S):aa PK->aa Operand->aj (aa Mu)
 |[],[]=>some []
 | p :: ps,x :: xs=>(match wE σ p (aL σ x),jI σ ps xs with
  |some (some D),some C=>some (D::C)
  |some none,some C=>some C
  |_,_=>none)
 |_,_=>none
def Ep(i:Nat):Nat->aa (V×aj Nat)->aa (Nat×Nat)
 |_,[]=>[]
 |j,(_,some q)::C=>(q,60000+1000*i+j)::Ep i (j+1) C
 |j,(_,none)::C=>Ep i (j+1) C
def lR:Nat->aa Mu->aa (Nat×Nat)
 |_,[]=>[]
 |i,.az r _ D::C=>(r,nF i)::(Ep i 0 D++lR (i+1) C)
 |i,.sl q _::C=>(q,nF i)::lR (i+1) C
def Tc(ns:aa Nat):Lf->Bool
 |.own k=>!gk k ns
 |_=>true
def tN{X:Type}(σ:S)(ns:aa Nat):aa Lf->(aa V->aj X)->aj X
 |[],k=>k []
 |x::xs,k=>bif Tc ns x then qg σ x λy=>tN σ ns xs λys=>k (y.gI::ys)else none
def sx{X:Type}(σ:S)(ns:aa Nat)(x:A)(k:Pt->aj X):aj X:=
 match x with
 |.lf y=>tN σ ns [y] λC=>k (false,C)
 |.agg ys=>tN σ ns ys λC=>k (true,C)
 |.nU f (c::cs)=>k (false,.bool false::.int .i64 (f:Int)::c.gI::cs.map V.gI)
 | .fn f [(r,j)]=>bif dm r ns then none else (match σ.m r with
  | some (.az cs)=>(match r7 (cs.drop j)with
   |some (c::C)=>k (false,.bool false::.int .i64 (f:Int)::c::C)
   |_=>none)
  |_=>none)
 |_=>none
def jJ{X:Type}(σ:S)(ns:aa Nat):(ps:aa PK)->aa Operand->aa Mu->(lQ ps->aj X)->aj X
 |[],[],[],k=>k ()
 | .v b t :: ps,x :: xs,C,k=>sx σ ns (aL σ x) λp=>bif p.1==b then (match dec t 0 p.2 with
  |some y=>jJ σ ns ps xs C λys=>k (y,ys)
  |none=>none)else none
 | .p t g _ :: ps,_ :: xs,.az _ _ D :: C,k=>(match (bif Nat.beq (g % 2) 0 then dec t g (D.map (·.1))else none)with
  |some y=>jJ σ ns ps xs C λys=>k (y,ys)
  |none=>none)
 | .s t g :: ps,_ :: xs,.sl _ y :: C,k=>(match (bif Nat.beq (g % 2) 0 then y.fK t (g+2)else none)with
  |some z=>jJ σ ns ps xs C λys=>k (z,ys)
  |none=>none)
 |_,_,_,_=>none
def yG(w:World)(ρ:Nat->Loc)(rs:aa Nat):Nat->Loc:=λn=>
 if n<60000 then (if (n-20000) % 1000=0 then ρ (rs.getD ((n-20000) / 1000) 0)else (match ρ (rs.getD ((n-20000) / 1000) 0)with
  |.az b off=>.dQ ((w.cell? ⟨b,off+((n-20000) % 1000-1),none⟩).getD undef)
  |.dQ v=>.dQ v
  |.bH us=>.bH us))
 else (match ρ (rs.getD ((n-60000) / 1000) 0)with
  |.az b off=>.dQ ((w.cell? ⟨b,off+(n-60000) % 1000,none⟩).getD undef)
  |.dQ v=>.dQ v
  |.bH us=>.bH us)
def Hz{w:World}{ρ:Nat -> Loc}{rs:aa Nat}{i r:Nat}(h:rs[i]?=some r)(hi:i<40):yG w ρ rs (nF i)=ρ r:=by
 have C:nF i<60000:=by unfold nF;omega
 have D:(nF i-20000) % 1000=0:=by unfold nF;omega
 have E:(nF i-20000) / 1000=i:=by unfold nF;omega
 have I:rs.getD i 0=r:=by rw[cK,h];rfl
 unfold yG;simp_all
def akp{w:World}{ρ:Nat -> Loc}{rs:aa Nat}{i j r b off:Nat}{u:Value}{x:V}(h:rs[i]?=some r)(hi:i<40)(C:j<999)(D:ρ r = .az b off)(E:w.cell? ⟨b,off+j,none⟩=some u):yG w ρ rs (nC i j x) = .dQ u:=by
 have I:rs.getD i 0=r:=by rw[cK,h];rfl
 unfold yG nC;cases x.aH with
 |true =>grind
 |false =>grind
def V.Ms:V->Bool
 |.sl _ o _ _=>Nat.beq (o % 2) 0
 |_=>true
section
variable {P:Program} {w w':World} {w0:Wd} {B N:Nat} {af dR aA:bw} {ρ fB:Nat->Loc} {σ:S} {a:Act} {X:Type} {d:Nat} {r:X} {ns cn:aa Nat}
def RV.reB{B':Nat}{q:aa Nat}{x:V}{v:Value}(h:RV w B af q x v)(D:x.Ms=true):RV w B' af q x v:=by
 induction h with
 |int=>exact .int _ _ _
 |bool=>exact .bool _ _
 |str=>exact .str _ _
 |nil=>exact .nil _
 |eS=>exact .eS _ _ _
 |fU=>exact .fU _ _ _ _ _ (by first|assumption|omega)
 |gj=>exact .gj _ _ _ _ _ (by first|assumption|omega)
 | aH q t o T l b off cap u U hl hb h1 Y E Z I=>
  have D:=cJ D;have ho0:o=0:=by omega
  subst ho0
  refine .aH _ _ _ _ _ _ _ _ u U hl hb (by omega) Y E (λi h j x C=>I i h j x C ?_)
  have:=zS t 0 l[i] x (gT C);cases x with
  | sl t' O q' l'=>
   have:O=0:=by simpa [V.gr]using this
   subst this;rfl
  |_=>rfl
 | own q t o T l b cap cs u hl hh hs hn hm E Z I=>
  have D:=cJ D
  refine .own _ _ _ _ _ _ _ cs u hl hh hs hn hm E (λi h j x C=>I i h j x C ?_)
  have:=zS t o l[i] x (gT C);cases x with
  | sl t' O q' l'=>
   have:O=o:=by simpa [V.gr]using this
   show Nat.beq _ 0=true;simp_all
  |_=>rfl
def RV.out{q I:aa Nat}{x:V}{v:Value}(h:RV w B af q x v)(Y:∀ b,af b=none -> aA b=none)(Z:∀ b k,af b=some k -> k≠[]/\(gk k ns=false -> aA b=none))(hq:x.aH=true \/ gk q ns=false){B':Nat}:RV w B' aA I x.gI v:=by
 induction h generalizing I with
 |int=>exact .int _ _ _
 |bool=>exact .bool _ _
 |str=>exact .str _ _
 |nil=>exact .nil _
 |eS=>exact .eS _ _ _
 |fU=>exact .fU _ _ _ _ _ (by first|assumption|omega)
 |gj=>exact .gj _ _ _ _ _ (by first|assumption|omega)
 | aH q t o qn l b off cap u ho hl hb Zq kz O hr E=>
  refine .aH _ _ _ _ _ _ _ _ u (by omega) (Y b hl) hb (by omega) kz (λi h j x C=>?_) (λi h j x C=>?_)
  ·obtain⟨y,D,_⟩:=xX t o l[i] j x C;simp_all
  ·obtain⟨y,D,rfl⟩:=xX t o l[i] j x C;exact E i h j y D (.inl (qU t o l[i] ho j y D))
 | own q t o qn l b cap cs u hl T hs hn hm O hr E=>
  have U:gk q ns=false:=by
   rcases hq with hq|hq
   ·simp[V.aH]at hq;omega
   ·exact hq
  obtain⟨cA,qh⟩:=Z b q hl
  refine .aH _ _ _ _ _ _ _ _ u (by omega) (qh U) (iY.1 T).1 (by omega) hn (λi h j x C=>?_) (λi h j x C=>?_)
  ·obtain⟨y,D,_⟩:=xX t o l[i] j x C;have:=O i h j y D;rw[fO,cell_of_row w b _ cs _ _ T];exact this
  ·obtain⟨y,D,rfl⟩:=xX t o l[i] j x C;exact E i h j y D (.inr (by rw[aaf cA];exact U))
def akq{x:Lf}{k:V -> aj X}(h:qg σ x k=some r):∃ y,k y=some r /\ ∀ af ρ a w,Rl w0 N af ρ σ a w -> ∀ u,eB w w0.heap.size af ρ x u -> ∃ q,(x = .own q \/ y.aH=true)/\RV w w0.heap.size af q y u:=by
 cases x with
 |v y=>exact⟨y,h,λaf ρ a w hR u C=>⟨[],.inr C.1,C.2⟩⟩
 |dead=>cases h
 | own q=>
  obtain⟨y,D,E⟩:=tv q k h
  refine⟨y,E,λaf ρ a w hR u C=>⟨q,.inl rfl,?_⟩⟩
  obtain⟨v,I,O⟩:=D.ok hR.root;have:v=u:=by
   have T:=C.2;simp_all
  simp_all
structure Cs (ns:List Nat) (af aA:bw):Prop where
 none:∀b,af b=none->aA b=none
 rest:∀b k,af b=some k->k≠[]/\(gk k ns=false->aA b=Option.none)
def Td:∀ (xs:aa Lf) (k:aa V -> aj X),tN σ ns xs k=some r -> ∃ C,k C=some r/\C.length=xs.length /\ ∀ af ρ a w aA,Rl w0 N af ρ σ a w -> Cs ns af aA -> ∀ (j:Nat) x y u,xs[j]?=some x -> C[j]?=some y -> eB w w0.heap.size af ρ x u -> RV w w.heap.size aA [] y u
 |[],k,h=>⟨[],h,rfl,λ_ _ _ _ _ _ _ j x y u T=>by simp at T⟩
 | x :: xs,k,h=>by
  unfold tN at h;cases D:Tc ns x with
  |false=>simp_all
  | true=>
   rw[D,aq]at h;obtain⟨y,U,Y⟩:=akq (w0:=w0) (N:=N) h;obtain⟨ys,Z,hl,hr⟩:=Td xs _ U
   refine⟨y.gI::ys,Z,by simp[hl],λaf ρ a w aA hR E j x' y' u I O hu=>?_⟩
   cases j with
   | zero=>
    simp at I O;subst I O;obtain⟨q,hq,kA⟩:=Y af ρ a w hR u hu;refine kA.out E.none E.rest ?_;rcases hq with rfl|hq
    ·exact .inr (by simpa [Tc]using D)
    ·simp_all
   |succ j=>grind
inductive PM (w:World) (aA:bw):Pt->Value->Prop
 |v (p:Pt) (u:Value) (h:PV w w.heap.size aA (λ_=>[]) p u):PM w aA p u
 |f (g:Nat) (c:V) (cs:List V) (u:Value) (h:RF w w.heap.size aA (c::cs) u):PM w aA (false,.bool false::.int .i64 (g:Int)::c::cs) (.func (.func g) #[] #[u])
def akr{g:Nat}{c:V}{cs ys:aa V}(hl:(V.bool false :: .int .i64 (g:Int) :: c :: cs).length=ys.length)(h:∀ (j:Nat) x z,(V.bool false :: .int .i64 (g:Int) :: c :: cs)[j]?=some x -> ys[j]?=some z -> Wk x z):∃ C fq,ys = .bool false :: .int .i64 (g:Int) :: C :: fq/\lN (c :: cs) (C :: fq):=by
 match ys,hl,h with
 | a :: b :: C :: fq,hl,h=>
  have D:=h 0 _ a rfl rfl;have E:=h 1 _ b rfl rfl;cases D;cases E;exact⟨C,fq,rfl,by simpa using hl,λj x z I O=>h (j+2) x z (by simpa using I) (by simpa using O)⟩
def RF.vg{cs C:aa V}{u:Value}(h:RF w B af cs u)(E:lN cs C)(O:∀ (j:Nat) z,C[j]?=some z->z.aH=true):RF w B af C u:=by
 obtain⟨b,off,rfl,hb,hl,T⟩:=h
 refine⟨b,off,rfl,hb,hl,λj x D=>?_⟩
 have I:j<cs.length:=by rw[E.1];exact(dZ.1 D).1
 obtain⟨_,v,U,Y⟩:=T j _ (bK I);exact⟨O j x D,v,U,Y.wk (E.2 j _ x (bK I) D)⟩
def RF.gI{cs:aa V}{u:Value}(h:RF w B af cs u)(D:∀ b,af b=none -> aA b=none)(I:∀ b k,af b=some k -> k≠[]/\(gk k ns=false -> aA b=none)){B':Nat}:RF w B' aA (cs.map V.gI) u:=by
 obtain⟨b,off,rfl,hb,hl,O⟩:=h
 refine⟨b,off,rfl,hb,D b hl,λj x C=>?_⟩
 rw[eO]at C;cases E:cs[j]? with
 |none=>simp_all
 | some y=>
  rw[E]at C;injection C with C;subst C;obtain⟨T,v,U,Y⟩:=O j y E;exact⟨V.aju y,v,U,Y.out D I (.inl T)⟩
def aks{x:A}{k:Pt -> aj X}(h:sx σ ns x k=some r):∃ p,k p=some r /\ ∀ af ρ a w aA,Rl w0 N af ρ σ a w -> Cs ns af aA -> ∀ u,RA w w0.heap.size af ρ x u -> PM w aA p u:=by
 unfold sx at h;split at h
 ·rename_i y;obtain⟨Y,O,hl,T⟩:=Td (w0:=w0) (N:=N) _ _ h
  refine⟨_,O,λaf ρ a w aA hR C u D=>.v _ _ ⟨#[u],rfl,by simp[hl],λj x E=>?_⟩⟩
  have I:j=0:=by
   grind
  subst I;exact⟨u,rfl,T af ρ a w aA hR C 0 y x u rfl E D⟩
 ·rename_i ys;obtain⟨Y,O,hl,T⟩:=Td (w0:=w0) (N:=N) _ _ h
  refine⟨_,O,λaf ρ a w aA hR C u D=>?_⟩
  obtain⟨us,rfl,U⟩:=D
  refine .v _ _ ⟨us,rfl,by rw[hl];exact U.1,λj x E=>?_⟩
  have I:j<ys.length:=by rw[<- hl];exact(dZ.1 E).1
  obtain⟨v,hv,fQ⟩:=U.2 j _ (bK I);exact⟨v,hv,T af ρ a w aA hR C j _ x v (bK I) E fQ⟩
 ·rename_i f c cs
  refine⟨_,h,λaf ρ a w aA hR C u D=>?_⟩
  obtain⟨pv,rfl,tO⟩:=D;exact .f f _ _ _ (tO.gI C.none C.rest)
 ·rename_i f Z j;cases yH:dm Z ns with
  |true=>grind
  | false=>
   rw[yH,av]at h;split at h
   ·rename_i cs hm;split at h
    ·rename_i c Y zV;obtain⟨e,hp⟩:=L2 _ _ zV
     refine⟨_,h,λaf ρ a w aA hR C u D=>?_⟩
     obtain⟨us,rfl,m0,kz⟩:=D;obtain⟨b,off,ck,qp⟩:=kz 0 _ rfl;have qp:us[0]?=some (.pointer (some ⟨b,off+j,none⟩)):=qp;have ayF:us.size=1:=m0;have akt:us = #[.pointer (some ⟨b,off+j,none⟩)]:=by
      apply Array.ext';apply List.ext_getElem?;intro i;cases i with
      |zero=>grind
      |succ i=>grind
     subst akt;refine .f f _ _ _ ?_;cases hR.root Z _ hm with
     | az b' Cb cells e' _ L7 jk oP hh U hc=>
      rw[ck]at jk;injection jk with q1 q2;subst q1 q2
      refine⟨b,off+j,rfl,(iY.1 hh).1,(C.rest b _ oP).2 (by simpa [gk]using yH),λi x E=>?_⟩
      have hpx:=hp x (gT E);have hcd:(cs.drop j)[i]?=some (.v x):=by rw[e,eO,E];rfl
      rw[List.getElem?_drop]at hcd;obtain⟨k1,k2⟩:=hc _ _ hcd;refine⟨(by cases x<;>first|rfl|cases hpx),L7 (j+i),?_,k2.2.uO hpx⟩;rw[Nat.add_assoc,cell_of_row w b _ cells _ _ hh];exact k1
    ·cases h
   ·cases h
 ·cases h
def Av(σ:S):Mu->Prop
 |.az r cs C=>σ.m r=some (.az cs)/\sv σ.m cs=some C/\cs.length<999
 |.sl q y=>σ.m q=some (.sl y)/\y.aH=false
def HA:aa Mu->aa In->Prop
 |[],[]=>True
 |.az _ _ I::C,.az xs::D=>(lN (I.map (·.1)) xs/\∀x∈xs,x.ku=true/\x.Ms=true)/\HA C D
 |.sl _ y::C,.sl E::D=>(Wk y E/\E.Ms=true)/\HA C D
 |_,_=>False
def Er(w:World)(B:Nat)(af:bw)(ρ:Nat->Loc)(C:aa In):aa Ar->aa Value->Prop
 |[],[]=>True
 |x::xs,v::D=>RA w B af ρ (SX C x) v/\Er w B af ρ C xs D
 |_,_=>False
def Er.get{D:aa In}:∀ (xs:aa Ar) (C:aa Value),Er w B af ρ D xs C -> C.length=xs.length /\ ∀ i,RA w B af ρ ((yE D xs).t i) (C.toArray.getD i undef)
 |[],[],_=>⟨rfl,λi=>trivial⟩
 | x :: xs,v :: C,h=>by
  obtain⟨E,I⟩:=Er.get xs C h.2
  refine⟨by simp[E],λi=>?_⟩
  cases i with
  |zero=>exact h.1
  | succ i=>
   have:=I i;simp at this ⊢;exact this
def aku{t:TC}{g:Nat}{x:T t}(D:Nat.beq (g % 2) 0=true):∀ y∈enc t g x,y.ku=true/\y.Ms=true:=by
 intro y C;refine⟨R3 t g x y C,?_⟩;have:=zS t g x y C;cases y with
 | sl I E O U=>
  have:E=g:=by simpa [V.gr]using this
  subst this;exact D
 |_=>rfl
def akv(σ:S):PK->A->aj Mu->Prop
 |.v _ _,_,none=>True
 |.p _ _ off,x,some (.az r cs C)=>x = .aG r off/\Av σ (.az r cs C)
 |.s _ _,x,some (.sl q y)=>x = .lf (.own [q])/\Av σ (.sl q y)
 |_,_,_=>False
def wF{p:PK}{x:A}{z:aj Mu}(h:wE σ p x=some z):akv σ p x z:=by
 cases p with
 | v b t=>
  injection h with h;subst h;trivial
 | p t g off=>
  cases x with
  | aG r j=>
   have h:(match (bif Nat.beq j off then σ.m r else none)with
    | some (.az cs)=>(match sv σ.m cs with
     |some E=>bif Nat.blt cs.length 999 then some _ else none
     |none=>none)
    |_=>none)=some z:=h
   cases C:Nat.beq j off with
   |false=>rw[C]at h;cases h
   | true=>
    obtain rfl:=cJ C;rw[C,aq]at h;split at h
    ·rename_i cs I;split at h
     ·rename_i E O;cases hl:Nat.blt cs.length 999 with
      |false=>rw[hl]at h;cases h
      | true=>
       rw[hl]at h;injection h with h;subst h;exact⟨rfl,I,O,by have:=cE hl;omega⟩
     ·cases h
    ·cases h
  |_=>cases h
 | s t g=>
  have T:(∃ q,x = .lf (.own [q])):=by
   unfold wE at h;split at h
   next e=>cases e
   next e=>cases e
   ·simp[*]
   ·cases h
  obtain⟨q,rfl⟩:=T;have h:(match σ.m q with
   |some (.sl y)=>bif y.aH then none else some _
   |_=>none)=some z:=h
  split at h
  ·rename_i y U;cases D:y.aH with
   |true=>rw[D]at h;cases h
   | false=>
    rw[D]at h;injection h with h;subst h;exact⟨rfl,U,D⟩
  ·cases h
def Mt:∀ (ps:aa PK) (xs:aa Operand) (D:aa Mu),jI σ ps xs=some D -> ∀ O∈D,Av σ O
 |[],[],D,h=>by injection h with h;subst h;simp
 | p :: ps,x :: xs,D,h=>by
  unfold jI at h;split at h
  ·rename_i O E C I;injection h with h;subst h;have T:=Mt ps xs E I;have C:=wF C;intro z hz;rcases gU.1 hz with rfl | hz
   ·cases p with
    |v=>exact C.elim
    | p=>
     cases z with
     |az=>exact C.2
     |sl=>exact C.elim
    | s=>
     cases z with
     |az=>exact C.elim
     |sl=>exact C.2
   ·simp_all
  next E C I=>injection h with h;subst h;exact Mt ps xs E I
  ·cases h
 |[],_::_,D,h=>by cases h
 |_::_,[],D,h=>by cases h
def HB:∀ {ps:aa PK} (i C:Nat) (x:lQ ps),(kE ps i x).length=(kE ps C x).length
 |[],_,_,_=>rfl
 |.v _ _::ps,i,C,x=>by simp[kE,List.length_cons];rw[HB]
 |.p _ _ _::ps,i,C,x=>by simp only[kE,List.length_cons];rw[HB (i+1) (C+1)]
 |.s _ _::ps,i,C,x=>by simp only[kE,List.length_cons];rw[HB (i+1) (C+1)]
def Mv:∀ (ps:aa PK) (xs:aa Operand) (O:aa Mu) (k:lQ ps -> aj X),jI σ ps xs=some O -> jJ σ ns ps xs O k=some r -> ∃ x,k x=some r/\HA O (n7 ps x)/\(kE ps 0 x).length=xs.length /\
  ∀af ρ a w aA ρ',Rl w0 N af ρ σ a w -> Cs ns af aA -> ∀(T:aa In) (i:Nat),(∀j z,(n7 ps x)[j]?=some z -> T[i+j]?=some z) -> (∀j U,O[j]?=some U -> ρ' (nF (i+j))=ρ U.root) -> Er w w.heap.size aA ρ' T (kE ps i x) (xs.map a.eval)
 | [],[],O,k,C,h=>by
  injection C with C;subst C;exact⟨(),h,trivial,rfl,λ_ _ _ _ _ _ _ _ _ _ _ _=>trivial⟩
 | .v b t :: ps,x :: xs,O,k,C,h=>by
  have tC:jI σ ps xs=some O:=by
   unfold jI at C;split at C
   next U Z D I=>exact(wF D).elim
   next Z D I=>rw[I];exact C
   ·cases C
  unfold jJ at h;obtain⟨p,I,hp⟩:=aks (w0:=w0) (N:=N) h;cases hb:p.1==b with
  |false=>rw[hb]at I;cases I
  | true=>
   rw[hb,aq]at I;have hb:p.1=b:=by simpa using hb
   subst hb;split at I
   ·rename_i y Y;obtain⟨ys,h3,h4,h5,h6⟩:=Mv ps xs O _ tC I
    refine⟨(y,ys),h3,h4,?_,λaf ρ a w aA ρ' hR hS T i hi ck=>⟨?_,h6 af ρ a w aA ρ' hR hS T i hi ck⟩⟩
    ·simp[kE,h5]
    ·have tO:=hp af ρ a w aA hR hS _ (hR.aL x);have hk:=mj t 0 p.2 y Y;generalize a.eval x=ux at tO ⊢;rcases tO with ⟨_,_,us,hu,hs,hr⟩ | ⟨g,c,cs,pv,tO⟩
     case f=>
      have he:∀(j:Nat) z,(enc t 0 y)[j]?=some z -> z.aH=true:=λj z E=>qU t 0 y (by omega) j z E
      obtain⟨c',fq,e,hw⟩:=akr hk.1 hk.2;rw[e]at he ⊢;exact⟨pv,rfl,tO.vg hw λj z E=>he (j+2) z (by simpa using E)⟩
     have n5:∀ (j:Nat) z,(enc t 0 y)[j]?=some z -> ∃ v,us[j]?=some v/\z.aH=true/\RV w w.heap.size aA [] z v:=by
      intro j z E;have hj:j<p.2.length:=by rw[hk.1];exact(dZ.1 E).1
      obtain⟨v,hv,fQ⟩:=hr j _ (bK hj);exact⟨v,hv,qU t 0 y (by omega) j z E,fQ.wk (hk.2 j _ z (bK hj) E)⟩
     have hlen:us.size=(enc t 0 y).length:=hs.trans hk.1;obtain⟨b,vs⟩:=p;cases b with
     | true=>
      show RA _ _ _ _ (.agg ((enc t 0 y).map .v)) _
      refine⟨us,hu,by rw[fy];exact hlen,λj z E=>?_⟩
      rw[eO]at E;cases D6:(enc t 0 y)[j]? with
      |none=>rw[D6]at E;cases E
      | some z'=>
       rw[D6]at E;injection E with E;subst E;obtain⟨v,hv,g1,g2⟩:=n5 j z' D6;exact⟨v,hv,g1,g2⟩
     | false=>
      have hu:us = #[ux]:=hu;subst hu;show RA _ _ _ _ (SX T (.pt (false,enc t 0 y))) _
      match he:enc t 0 y,n5,hlen with
      | [z],n5,_=>
       obtain⟨v,hv,g1,g2⟩:=n5 0 z rfl;have:ux=v:=by simpa using hv
       rw[this];exact⟨g1,g2⟩
      |[],_,_=>trivial
      |_::_::_,_,hlen=>exact absurd hlen (by simp)
   ·cases I
 | .p t g off :: ps,x :: xs,O,k,C,h=>by
  unfold jI at C;split at C
  ·rename_i U Z D I;injection C with C;subst C;have D:=wF D;cases U with
   |sl=>exact D.elim
   | az r cs vs=>
    have D:aL σ x = .aG r off/\Av σ (.az r cs vs):=D;unfold jJ at h;split at h
    ·rename_i y Y;cases hg:Nat.beq (g % 2) 0 with
     |false=>rw[hg]at Y;cases Y
     | true=>
      rw[hg,aq]at Y;obtain⟨ys,h3,h4,h5,h6⟩:=Mv ps xs Z _ I h
      refine⟨(y,ys),h3,⟨⟨mj t g _ y Y,aku hg⟩,h4⟩,by simp[kE,HB 1 0,h5],λaf ρ a w aA ρ' hR hS T i hi ck=>⟨?_,?_⟩⟩
      ·have HC:=hi 0 _ rfl;rw[Nat.add_zero]at HC;have hx:=hR.aL x;rw[D.1]at hx;obtain⟨b,o,e1,e2⟩:=hx;show RA _ _ _ _ (match T[i]? with|some (.az _)=>.aG (nF i) off|some (.sl _)=>.lf (.own [nF i])|none=>.undef) _;rw[HC];have jd:=ck 0 _ rfl;rw[Nat.add_zero]at jd;exact⟨b,o,jd.trans e1,e2⟩
      ·refine h6 af ρ a w aA ρ' hR hS T (i+1) (λj z E=>?_) (λj U jT=>?_)
       ·rw[show i+1+j=i+(j+1) by omega];exact hi _ z E
       ·rw[show i+1+j=i+(j+1) by omega];exact ck _ U jT
    ·cases h
  next Z D I=>exact(wF D).elim
  ·cases C
 | .s t g :: ps,x :: xs,O,k,C,h=>by
  unfold jI at C;split at C
  ·rename_i U Z D I;injection C with C;subst C;have D:=wF D;cases U with
   |az=>exact D.elim
   | sl q y0=>
    have D:aL σ x = .lf (.own [q])/\Av σ (.sl q y0):=D;unfold jJ at h;split at h
    ·rename_i y Y;cases hg:Nat.beq (g % 2) 0 with
     |false=>rw[hg]at Y;cases Y
     | true=>
      rw[hg,aq]at Y;obtain⟨ys,h3,h4,h5,h6⟩:=Mv ps xs Z _ I h
      refine⟨(y,ys),h3,⟨⟨V.GF Y,?_⟩,h4⟩,by simp[kE,HB 1 0,h5],λaf ρ a w aA ρ' hR hS T i hi ck=>⟨?_,?_⟩⟩
      ·show Nat.beq ((g+2) % 2) 0=true;simp[*]
      ·have HC:=hi 0 _ rfl;rw[Nat.add_zero]at HC;have hx:=hR.aL x;rw[D.1]at hx;show RA _ _ _ _ (match T[i]? with|some (.az _)=>.aG (nF i) 0|some (.sl _)=>.lf (.own [nF i])|none=>.undef) _;rw[HC];have jd:=ck 0 _ rfl;rw[Nat.add_zero]at jd;refine⟨hx.1,?_⟩;have I:=hx.2;simp only[c9]at I ⊢;rw[jd];exact I
      ·refine h6 af ρ a w aA ρ' hR hS T (i+1) (λj z E=>?_) (λj U jT=>?_)
       ·rw[show i+1+j=i+(j+1) by omega];exact hi _ z E
       ·rw[show i+1+j=i+(j+1) by omega];exact ck _ U jT
    ·cases h
  next Z D I=>exact(wF D).elim
  ·cases C
 |[],_::_,O,k,C,h=>by cases C
 |_::_,[],O,k,C,h=>by cases C
end
def m8(c0:Nat):Nat->aa (V×aj Nat)->aa Nat
 |_,[]=>[]
 |n,(_,some q)::C=>q::m8 c0 (n+1) C
 |n,(_,none)::C=>(c0+n)::m8 c0 (n+1) C
def Aw(c0:Nat):Nat->aa Mu->aa Nat
 |_,[]=>[]
 |pos,.az r _ D::C=>r::(m8 c0 (pos+1) D++Aw c0 (pos+1+D.length) C)
 |pos,.sl q _::C=>q::Aw c0 (pos+1) C
def wG:aa Nat->aa V->aa Nat
 |n::C,x::xs=>bif x.aH then wG C xs else n::wG C xs
 |_,_=>[]
def n9(c0:Nat):Nat->aa Mu->aa In->aa Nat
 |pos,.az _ _ D::C,.az xs::outs=>wG (m8 c0 (pos+1) D) xs++n9 c0 (pos+1+D.length) C outs
 |pos,.sl _ _::C,.sl _::outs=>n9 c0 (pos+1) C outs
 |_,_,_=>[]
def qy(ns cn:aa Nat):aa Nat->aa Lf->aa V->aa Lf
 |n::C,l::D,x::xs=>(bif x.plain then .v x else bif x.aH then l.dA ns cn else .own [n])::qy ns cn C D xs
 |_,_,_=>[]
def vh:aa Nat->aa V->aa (Nat×aS)
 |n::C,x::xs=>bif x.aH then vh C xs else (n,.sl x)::vh C xs
 |_,_=>[]
def lS(ns cn:aa Nat)(c0:Nat):Nat->aa Mu->aa In->aa (Nat×aS)
 |pos,.az r cs D::C,.az xs::outs=>(r,.az (qy ns cn (m8 c0 (pos+1) D) cs xs))::(vh (m8 c0 (pos+1) D) xs++lS ns cn c0 (pos+1+D.length) C outs)
 |pos,.sl q _::C,.sl y::outs=>bif y.ku then (q,.sl y)::lS ns cn c0 (pos+1) C outs else lS ns cn c0 (pos+1) C outs
 |_,_,_=>[]
def Mw:aa Nat->Bool
 |[]=>true
 |n::l=>!dm n l&&Mw l
def aag:In->Bool
 |.az xs=>xs.all λx=>x.aH ||x.loc
 |.sl y=>y.loc
def iR:aj Tmp->Nat
 |some d=>1000000000100000+1000*d
 |none=>90000
def q6{X:Type}(N:Nat)(σ:S)(C:aj Tmp)(D:gv)(k:S->aj X):aj X:=
 match C with
 |none=>k σ
 |some d=>bif Nat.blt d N then n6 σ d D k else none
def Es(N:Nat)(C:aa Mu)(outs:aa In)(cn:aa Nat):Bool:=
 Mw cn&&(C.all λD=>!dm D.root cn)&&(cn.all λn=>Nat.blt n N ||Nat.ble 60000 n)&&outs.all aag
def Et{X:Type}(N:Nat)(σ:S)(C:aj Tmp)(D:aa Mu)(ns cn:aa Nat)(E:gv)(outs:aa In)(k:S->aj X):aj X:=
 bif Es N D outs cn then q6 N (σ.dA ns cn (lS ns cn (iR C) E.len D outs)) C E k else none
def oQ{X:Type}(N:Nat)(σ:S)(D:aj Tmp)(c:n8)(args:aa Operand)(k:S->aj X):aj X:=
 match jI σ c.ps args with
 | some C=>bif once (lR 0 C)&&Nat.ble C.length 40 then
   jJ σ ((lR 0 C).map (·.1)) c.ps args C λx=>(match c.F x with
    |some y=>Et N σ D C ((lR 0 C).map (·.1)) (n9 (iR D) (fm c.ro y.1).len C (jm (eU c.ps) y.2)) (fm c.ro y.1) (jm (eU c.ps) y.2) k
    |none=>none)else none
 |none=>none
section
variable {P:Program} {w w':World} {w0:Wd} {B N:Nat} {af dR aA:bw} {ρ fB ρ':Nat->Loc} {σ:S} {a:Act} {X:Type} {d:Nat} {r:X} {ns cn:aa Nat} {o:Oper} {rs:aa Nat} {eM:aa (Nat×Nat)}
def aah{n:Nat}:∀ {l:aa (Nat×Nat)},dm n (l.map (·.1))=false -> l.lookup n=none
 |[],_=>rfl
 | p :: l,h=>by
  simp[List.map_cons,dm,nQ]at h;rw[List.lookup_cons];have:(n==p.1)=false:=by
   cases hb:n==p.1 with
   |false=>rfl
   |true =>simp_all
  rw[this];exact aah h.2
def akw{b:Nat}{k:aa Nat}{n m:Nat}(h:af b=some k)(C:k.getLast?=some n)(D:eM.lookup n=some m):eT af eM id b=some (k.dropLast++[m]):=by
 simp[eT,h,C,D]
def akx(C:∀ b k,af b=some k -> k≠[]):Cs (eM.map (·.1)) af (eT af eM id):=by
 refine⟨λb h=>Ap h,λb k h=>⟨C b k h,λhl=>?_⟩⟩
 simp[eT,h];cases D:k.getLast? with
 |none=>rfl
 | some n=>
  simp[gk,D]at hl;simp[aah hl]
def Te{m:Nat -> aj aS}:∀ (cs:aa Lf) (C:aa (V×aj Nat)),sv m cs=some C -> C.length=cs.length /\ ∀ (j:Nat) l,cs[j]?=some l -> ∃ v,C[j]?=some v/\wD m l=some v
 |[],C,h=>by injection h with h;subst h;exact⟨rfl,λj l hl=>by simp at hl⟩
 | c :: cs,C,h=>by
  unfold sv at h;split at h
  ·rename_i v D I E;injection h with h;subst h;obtain⟨O,T⟩:=Te cs D E
   grind
  ·cases h
def aky{l:Lf}{v:V}{E:aj Nat}(h:wD σ.m l=some (v,E))(hR:Rl w0 N af ρ σ a w)(D:Cs ns af aA){u:Value}(I:eB w w0.heap.size af ρ l u):
  (E=none /\ ∀B' O,RV w B' aA O v u) \/ (∃q,E=some q/\v.aH=false/\RV w w0.heap.size af [q] v u):=by
 unfold wD at h;split at h
 ·simp at h;obtain⟨rfl,rfl⟩:=h;exact .inl ⟨rfl,λB' O=>I.2.out D.none D.rest (.inl I.1)⟩
 ·rename_i q;split at h
  ·rename_i y Y;have T:=hR.root q _ Y;generalize C:aS.sl y=x at T;cases T with
   |az=>cases C
   |mp=>cases C
   |gh=>cases C
   | sl Z y' ck hr=>
    injection C with C;subst C;have Hr:Z=u:=by
     have h2:=I.2;simp only[c9,ck]at h2;simp_all
    subst Hr;cases U:y.aH with
    | true=>
     rw[U,aq]at h;obtain⟨rfl,rfl⟩:=h;exact .inl ⟨rfl,λB' O=>hr.out D.none D.rest (.inl U)⟩
    |false =>grind
  ·cases h
 ·cases h
def aai{i:Nat}{v:V}{q:Nat}:∀ (D:aa (V×aj Nat)) (C j:Nat),D[j]?=some (v,some q) -> (q,60000+1000*i+(C+j))∈Ep i C D
 |[],C,j,h=>by simp at h
 | (I,E) :: D,C,j,h=>by
  cases j with
  | zero=>
   obtain⟨rfl,rfl⟩:=h;exact .head _
  | succ j=>
   have:=aai (i:=i) D (C+1) j (by simpa using h);rw[show C+1+j=C+(j+1) by omega]at this;cases E with
   |none=>exact this
   |some O=>exact .tail _ this
def Tf{i:Nat}:∀ (cs:aa V) (C:Nat),(At i C cs).length=cs.length
 |[],_=>rfl
 |c::cs,C=>by simp[At,Tf cs]
def RV.mX{q:aa Nat}{x:V}{u:Value}(h:RV w B af q x u)(C:x.plain=false)(D:x.ku=true):mX u=true:=by
 cases h<;>first|rfl|cases C|cases D
def Wk.Tg{x y:V}(h:Wk x y)(C:x.aH=false):y.aH=false:=by
 cases h with
 |same=>exact C
 |nil=>cases C
 |q=>exact C
 |gr t o D E l I O=>simp[V.aH];omega
def Th(hR:Rl w0 N af ρ σ a w)(hS:Cs ns af (eT af eM id)):∀ (I:aa Mu) (T:aa In) (i:Nat),(∀ p∈lR i I,eM.lookup p.1=some p.2) -> (∀ j E,I[j]?=some E -> rs[i+j]?=some E.root) -> (∀ E∈I,Av σ E) -> HA I T -> i+I.length <= 40 ->
  qx w w.heap.size (eT af eM id) (yG w ρ rs) i T
 |[],[],_,_,_,_,_,_=>trivial
 |[],_::_,_,_,_,_,h,_=>h.elim
 |.az _ _ _::_,[],_,_,_,_,h,_=>h.elim
 |.sl _ _::_,[],_,_,_,_,h,_=>h.elim
 |.az _ _ _::_,.sl _::_,_,_,_,_,h,_=>h.elim
 |.sl _ _::_,.az _::_,_,_,_,_,h,_=>h.elim
 | .az r cs vs :: I,.az xs :: T,i,U,gx,jT,hrel,hi=>by
  obtain⟨hm,hg,hlen⟩:=jT _ (.head _);obtain⟨⟨hw,hx⟩,Ct⟩:=hrel;obtain⟨g1,g2⟩:=Te cs vs hg;have Y:=gx 0 _ rfl;rw[Nat.add_zero]at Y;simp only[List.length_cons]at hi;have qi:xs.length=cs.length:=by rw[<- hw.1,fy,g1]
  have fk:=hR.root r _ hm;generalize C:aS.az cs=z at fk;cases fk with
  |sl=>cases C
  |mp=>cases C
  |gh=>cases C
  | az b off cells e fq us ck hl hh hs hc=>
   injection C with C;subst C;have n5:∀ (j:Nat) x,xs[j]?=some x -> cells[off+j]?=some (us j)/\RV w w.heap.size (eT af eM id) [nC i j x] x (us j)/\(x.plain=false -> yG w ρ rs (nC i j x) = .dQ (us j)):=by
    intro j x O;have yd:j<cs.length:=by rw[<- qi];exact(dZ.1 O).1
    obtain⟨v,hv,HD⟩:=g2 j _ (bK yd);obtain⟨c1,Z⟩:=hc j _ (bK yd);obtain⟨v,qo⟩:=v;have Eu:Wk v x:=hw.2 j v x (by rw[eO,hv];rfl) O;obtain⟨HE,L3⟩:=hx x (gT O)
    refine⟨c1,?_,λD=>?_⟩
    ·rcases aky HD hR hS Z with ⟨rfl,h1⟩ | ⟨q,rfl,hf,h1⟩
     ·exact(h1 _ _).wk Eu
     ·have S6:=Eu.Tg hf;have hq:=U _ (.tail _ (List.mem_append_left _ (aai vs 0 j hv)));rw[fO]at hq;have h2:=(RV.eT (nm:=id) (p:=[]) h1 hq).wk Eu;have e1:nC i j x=60000+1000*i+j:=by simp[nC,S6]
      rw[e1];exact h2.reB L3
    ·exact akp Y (by omega) (by omega) ck (by rw[cell_of_row w b _ cells _ _ hh];exact c1)
   refine⟨.az b off cells e _ us ((Hz Y (by omega)).trans ck) ?_ hh (by rw[Tf,qi];exact hs) (λj z C=>?_),λj x O D=>?_,Th hR hS I T (i+1) (λp D=>U p (.tail _ (List.mem_append_right _ D))) (λj E Cu=>?_) (λE h=>jT E (.tail _ h)) Ct (by omega)⟩
   ·exact akw hl rfl (U _ (.head _))
   ·have O:j<xs.length:=by rw[<- Tf (i:=i) xs 0];exact(dZ.1 C).1
    have Ax:=S9 (i:=i) xs 0 j _ (bK O);rw[C]at Ax;injection Ax with Ax;subst Ax;rw[fO];obtain⟨c1,Z,c3⟩:=n5 j _ (bK O);refine⟨c1,?_⟩;cases D:(xs[j]).plain with
    | true=>
     have e1:As i j xs[j] = .v xs[j]:=by simp[As,D]
     rw[e1];exact⟨V.GQ D,Z.uO D⟩
    | false=>
     have e1:As i j xs[j] = .own [nC i j xs[j]]:=by simp[As,D]
     rw[e1];exact⟨Z.mX D (hx _ (cX _)).1,by simp only[c9,c3 D]⟩
   ·obtain⟨c1,Z,c3⟩:=n5 j x O;exact .sl _ x (c3 D) Z
   ·have:=gx (j+1) E (by simpa using Cu);rw[show i+(j+1)=i+1+j by omega]at this;exact this
 | .sl q y :: I,.sl y' :: T,i,U,gx,jT,hrel,hi=>by
  obtain⟨hm,hf⟩:=jT _ (.head _);obtain⟨⟨hw,hx⟩,Ct⟩:=hrel;have Y:=gx 0 _ rfl;rw[Nat.add_zero]at Y;simp only[List.length_cons]at hi;have fk:=hR.root q _ hm;generalize C:aS.sl y=z at fk;cases fk with
  |az=>cases C
  |mp=>cases C
  |gh=>cases C
  | sl v y0 ck hr=>
   injection C with C;subst C
   refine⟨.sl v y' ((Hz Y (by omega)).trans ck) ?_,Th hR hS I T (i+1) (λp D=>U p (.tail _ D)) (λj E Cu=>?_) (λE h=>jT E (.tail _ h)) Ct (by omega)⟩
   ·exact((RV.eT (p:=[]) hr (U _ (.head _))).wk hw).reB hx
   ·have:=gx (j+1) E (by simpa using Cu);rw[show i+(j+1)=i+1+j by omega]at this;exact this
end
def Ti:Loc->Nat×Nat
 |.az b off=>(b,off)
 |.dQ _=>(0,0)
 |.bH _=>(0,0)
def Ay(w:World)(b off:Nat):Nat->aa Nat->aa V->aa (Nat×Value)
 |j,n::C,x::xs=>bif x.aH then Ay w b off (j+1) C xs else (n,(w.cell? ⟨b,off+j,none⟩).getD undef)::Ay w b off (j+1) C xs
 |_,_,_=>[]
def tP(w:World)(ρ:Nat->Loc)(c0:Nat):Nat->aa Mu->aa In->aa (Nat×Value)
 |pos,.az r _ D::C,.az xs::outs=>Ay w (Ti (ρ r)).1 (Ti (ρ r)).2 0 (m8 c0 (pos+1) D) xs++tP w ρ c0 (pos+1+D.length) C outs
 |pos,.sl _ _::C,.sl _::outs=>tP w ρ c0 (pos+1) C outs
 |_,_,_=>[]
def aaj(l:aa (Nat×Value))(ρ:Nat->Loc):Nat->Loc:=λn=>match l.lookup n with
 |some v=>.dQ v
 |none=>ρ n
def Tj{w:World}{b off:Nat}:∀ (C:aa Nat) (xs:aa V) (j:Nat),(Ay w b off j C xs).map (·.1)=wG C xs
 |[],[],_=>rfl
 |[],_::_,_=>rfl
 |_::_,[],_=>rfl
 | n :: C,x :: xs,j=>by
  simp[Ay,wG];cases x.aH with
  |true=>exact Tj C xs _
  |false=>simp;rw[Tj]
def Mx{w:World}{ρ:Nat -> Loc}{c0:Nat}:∀ (C:aa Mu) (outs:aa In) (D:Nat),(tP w ρ c0 D C outs).map (·.1)=n9 c0 D C outs
 | .az r _ E :: C,.az xs :: outs,D=>by
  simp[tP,n9,List.map_append];rw[Tj,Mx]
 | .sl _ _ :: C,.sl _ :: outs,D=>by
  simp only[tP,n9];exact Mx C outs _
 |[],_,_=>by simp[tP,n9]
 |.az _ _ _::_,[],_=>rfl
 |.sl _ _::_,[],_=>rfl
 |.az _ _ _::_,.sl _::_,_=>rfl
 |.sl _ _::_,.az _::_,_=>rfl
def aak{n:Nat}:∀ {l:aa (Nat×Value)},dm n (l.map (·.1))=false -> l.lookup n=none
 |[],_=>rfl
 | p :: l,h=>by
  simp[List.map_cons,dm,nQ]at h;rw[List.lookup_cons];cases hb:n==p.1 with
  |false=>exact aak h.2
  |true =>simp_all
def aal:∀ {l:aa (Nat×Value)},Mw (l.map (·.1))=true -> ∀ p∈l,l.lookup p.1=some p.2
 |[],_,p,hp=>by cases hp
 | q :: l,h,p,hp=>by
  simp[List.map_cons,Mw,aM,gd]at h;rw[List.lookup_cons];rcases gU.1 hp with rfl|hp
  ·simp
  ·cases hb:p.1==q.1 with
   |false=>exact aal h.2 p hp
   | true=>
    have e:p.1=q.1:=by simpa using hb
    exact absurd (List.mem_map_of_mem (f:=(·.1)) hp) (by rw[e];exact aae h.1)
def HF{c0:Nat}:∀ (C:aa (V×aj Nat)) (n:Nat),(m8 c0 n C).length=C.length
 |[],_=>rfl
 |(_,some _)::C,n=>by simp[m8,HF]
 |(_,none)::C,n=>by simp[m8,HF C]
def aam{ns cn:aa Nat}:∀ (D:aa Nat) (C:aa Lf) (xs:aa V),D.length=C.length -> xs.length=C.length -> (qy ns cn D C xs).length=C.length /\
  ∀(j:Nat) z,(qy ns cn D C xs)[j]?=some z -> ∃n l x,D[j]?=some n/\C[j]?=some l/\xs[j]?=some x/\z=(bif x.plain then .v x else bif x.aH then l.dA ns cn else .own [n])
 |[],[],[],_,_=>⟨rfl,λj z E=>by simp[qy]at E⟩
 | n :: D,l :: C,x :: xs,I,O=>by
  obtain⟨T,U⟩:=aam (ns:=ns) (cn:=cn) D C xs (by simpa using I) (by simpa using O)
  refine⟨by simp[qy,T],λj z E=>?_⟩
  cases j with
  |zero=>simp[qy,List.getElem?_cons_zero,jb]at E;exact⟨n,l,x,rfl,rfl,rfl,E.symm⟩
  |succ j=>exact U j z (by simpa [qy]using E)
def aan:∀ (C:aa Nat) (xs:aa V),∀ p∈vh C xs,∃ (j:Nat) (x:V),C[j]?=some p.1/\xs[j]?=some x/\x.aH=false/\p.2 = .sl x
 |[],[],p,hp=>by cases hp
 |[],_::_,p,hp=>by cases hp
 | n :: C,x :: xs,p,hp=>by
  simp[vh]at hp;have rest:p∈vh C xs -> ∃ (j:Nat) (y:V),(n :: C)[j]?=some p.1/\(x :: xs)[j]?=some y/\y.aH=false/\p.2 = .sl y:=λhp=>by
   obtain⟨j,y,E,I,O,T⟩:=aan C xs p hp;exact⟨j+1,y,by simpa using E,by simpa using I,O,T⟩
  cases D:x.aH with
  |true=>grind
  | false=>
   rw[D]at hp;rcases gU.1 hp with rfl|hp
   ·exact⟨0,x,rfl,rfl,D,rfl⟩
   ·grind
def aao{w:World}{b off n:Nat}{x:V}:∀ (D:aa Nat) (xs:aa V) (C j:Nat),D[j]?=some n -> xs[j]?=some x -> x.aH=false -> (n,(w.cell? ⟨b,off+(C+j),none⟩).getD undef)∈Ay w b off C D xs
 |[],_,_,j,h,_,_=>by simp at h
 | m :: D,y :: xs,C,j,E,I,O=>by
  cases j with
  | zero=>
   simp at E I;subst E I;simp only[Ay,O];simp_all
  | succ j=>
   have:=aao (w:=w) (b:=b) (off:=off) D xs (C+1) j (by simpa using E) (by simpa using I) O;rw[show C+1+j=C+(j+1) by omega]at this;simp[Ay]
   grind
section
variable {P:Program} {w w':World} {w0:Wd} {B N:Nat} {af dR aA:bw} {ρ fB ρ':Nat->Loc} {σ:S} {a:Act} {X:Type} {d:Nat} {r:X} {ns cn:aa Nat} {o:Oper} {rs:aa Nat} {eM:aa (Nat×Nat)} {nm My:Nat->Nat} {c0:Nat}
def jR.Ao{nm:Nat -> Nat}:∀ (ps:aa Pt) (off:Nat) (C:aa Value) {B':Nat},jR w B af nm off ps C -> B' <= B -> (∀ b,B <= b -> aA b=af b) -> (∀ b k,af b=some k -> aA b=some k) -> (∀ n,off <= n -> n<off+(ps.map λp=>p.2.length).sum -> nm n=My n) -> jR w B' aA My off ps C
 |[],_,[],_,h,_,_,_,_=>h
 | p :: ps,off,v :: C,B',h,hB,hl,I,D=>by
  obtain⟨⟨O,us,U,Y,Z⟩,wo⟩:=h;simp only[List.map_cons,List.sum_cons]at D
  refine⟨⟨O,us,U,Y,λj x E=>?_⟩,jR.Ao ps _ C wo hB hl I (λn h1 h2=>D n (by omega) (by omega))⟩
  obtain⟨T,uN,fQ⟩:=Z j x E;have hj:j<p.2.length:=(dZ.1 E).1;refine⟨T,uN,?_⟩;show RV w B' aA [My (off+j)] x T;rw[<- D (off+j) (by omega) (by omega)];exact fQ.Ao hB hl I (bT.1 O x (gT E))
def Tl(hR:Rl w0 N af ρ σ a w)(hv:ve w w' af dR ρ fB ns cn)(oP:∀ b k,aA b=some k -> dR b=some k)(qd:∀ b,w.heap.size <= b -> dR b=aA b)(hB:w0.heap.size <= w.heap.size):
  ∀(E:aa Mu) (ins outs:aa In) (i C:Nat),(∀j D,E[j]?=some D -> rs[i+j]?=some D.root) -> (∀D∈E,Av σ D) -> HA E ins -> i+E.length <= 40 -> Hu w w' aA (yG w ρ rs) nm i C ins outs ->
  (∀k n,(Aw c0 C E)[k]?=some n -> nm (C+k)=n) -> (∀p∈tP w' ρ c0 C E outs,fB p.1 = .dQ p.2) -> (∀D∈E,dm D.root cn=false) -> outs.all aag=true -> ∀p∈lS ns cn c0 C E outs,eH w' w0.heap.size dR fB p.1 p.2
 |[],[],[],_,_,_,_,_,_,_,_,_,_,_,p,hp=>by simp[lS]at hp
 |[],[],_::_,_,_,_,_,_,_,h,_,_,_,_,_,_=>h.elim
 |[],_::_,_,_,_,_,_,h,_,_,_,_,_,_,_,_=>h.elim
 |.az _ _ _::_,[],_,_,_,_,_,h,_,_,_,_,_,_,_,_=>h.elim
 |.sl _ _::_,[],_,_,_,_,_,h,_,_,_,_,_,_,_,_=>h.elim
 |.az _ _ _::_,.sl _::_,_,_,_,_,_,h,_,_,_,_,_,_,_,_=>h.elim
 |.sl _ _::_,.az _::_,_,_,_,_,_,h,_,_,_,_,_,_,_,_=>h.elim
 |.az _ _ _::_,.az _::_,[],_,_,_,_,_,_,h,_,_,_,_,_,_=>h.elim
 |.sl _ _::_,.sl _::_,[],_,_,_,_,_,_,h,_,_,_,_,_,_=>h.elim
 |.az _ _ _::_,.az _::_,.sl _::_,_,_,_,_,_,_,h,_,_,_,_,_,_=>h.elim
 |.sl _ _::_,.sl _::_,.az _::_,_,_,_,_,_,_,h,_,_,_,_,_,_=>h.elim
 | .az r cs I :: E,.az xs0 :: ins,.az xs :: outs,i,C,gx,jT,hrel,hi,hO,mA,Cv,qt,T,p,hp=>by
  obtain⟨hm,hg,hlen⟩:=jT _ (.head _);obtain⟨⟨hw,hx⟩,Ct⟩:=hrel;obtain⟨g1,g2⟩:=Te cs I hg;have oK:=gx 0 _ rfl;rw[Nat.add_zero]at oK;simp only[List.length_cons]at hi;have Tn:xs0.length=cs.length:=by rw[<- hw.1,fy,g1]
  obtain⟨⟨b,off,cells,yF,e,e',U,h2,h3,h4,h5,h6,h7⟩,To⟩:=hO;have fk:=hR.root r _ hm;generalize Y:aS.az cs=z at fk;cases fk with
  |sl=>cases Y
  |mp=>cases Y
  |gh=>cases Y
  | az b0 O aap e0 fq us ck hl hh hs hc=>
   injection Y with Y;subst Y;rw[Hz oK (by omega)]at U;have U:ρ r = .az b off:=U;rw[ck]at U;injection U with e1 e2;subst e1 e2;have akz:aap=cells:=by
    rw[hh]at h2;injection h2 with h2;injection h2
   subst akz;have jd:=qt _ (.head _);have Ev:fB r = .az b0 O:=(hv.fA r jd).trans ck;have uU:nm C=r:=by have:=mA 0 r rfl;rwa [Nat.add_zero]at this
   have akA:∀ (j:Nat) n,(m8 c0 (C+1) I)[j]?=some n -> nm (C+1+j)=n:=by
    intro j n Z;have hj:j<(m8 c0 (C+1) I).length:=(dZ.1 Z).1;have:=mA (j+1) n (by simp only[Aw,List.getElem?_cons_succ];rw[List.getElem?_append_left hj];exact Z);rw[show C+1+j=C+(j+1) by omega];exact this
   have n5:∀ (j:Nat) x,xs[j]?=some x -> ∃ u,yF[O+j]?=some u/\w'.cell? ⟨b0,O+j,none⟩=some u/\((x.plain=true /\ ∀ (w:World) (B:Nat) (af:bw) (q:aa Nat),RV w B af q x u) \/ (x.plain=false/\x.aH=true/\aap[O+j]?=some u) \/ (x.aH=false/\RV w' w.heap.size aA [nm (C+1+j)] x u)):=by
    intro j x hj;obtain⟨u,hu,hd⟩:=h7 j x hj;exact⟨u,hu,by rw[cell_of_row w' b0 _ yF _ _ h3];exact hu,hd⟩
   have Ac:∀ (j:Nat) n x u,(m8 c0 (C+1) I)[j]?=some n -> xs[j]?=some x -> x.aH=false -> w'.cell? ⟨b0,O+j,none⟩=some u -> fB n = .dQ u:=by
    intro j n x u Z hxj hf hu;have tM:=aao (w:=w') (b:=b0) (off:=O) _ xs 0 j Z hxj hf;rw[fO,hu]at tM;exact Cv (n,u) (by simp only[tP,ck,Ti];exact List.mem_append_left _ tM)
   simp only[lS]at hp;rcases gU.1 hp with rfl|hp
   ·obtain⟨k1,k2⟩:=aam (ns:=ns) (cn:=cn) (m8 c0 (C+1) I) cs xs (by rw[HF,g1]) (by rw[h6,Tn])
    refine .az b0 O yF e' _ (λj=>yF.getD (O+j) undef) Ev (oP _ _ (by rw[h4,uU])) h3 (by show O+(qy _ _ _ _ _).length <= _;rw[k1,<- Tn,<- h6];exact h5) (λj z Y=>?_)
    obtain⟨n,l,x,n1,n2,n3,rfl⟩:=k2 j z Y;obtain⟨u,hu,Mz,hd⟩:=n5 j x n3;have eu:yF.getD (O+j) undef=u:=by rw[iO,hu];rfl
    rw[eu];refine⟨hu,?_⟩;rcases hd with ⟨d1,d2⟩|⟨d1,d2,d3⟩|⟨d1,d2⟩
    ·rw[d1,aq];exact⟨V.GQ d1,d2 _ _ _ _⟩
    ·rw[d1,d2,av,aq];obtain⟨c1,c2⟩:=hc j l n2;rw[c1]at d3;injection d3 with d3;rw[<- d3];exact c2.vf hv
    ·have Aq:x.plain=false:=by
      cases Aq:x.plain with
      |false=>rfl
      |true=>rw[V.GQ Aq]at d1;cases d1
     rw[Aq,d1,av,av];exact⟨d2.R4 d1,by simp only[c9,Ac j n x u n1 n3 d1 Mz]⟩
   ·rcases List.mem_append.1 hp with hp | hp
    ·obtain⟨j,x,n1,n2,n3,n4⟩:=aan _ _ p hp;obtain⟨u,hu,Mz,hd⟩:=n5 j x n2;rw[n4];refine .sl u x (Ac j p.1 x u n1 n2 n3 Mz) ?_;rcases hd with ⟨d1,d2⟩ | ⟨d1,d2,d3⟩ | ⟨d1,d2⟩
     ·simp[*]
     ·rw[n3]at d2;cases d2
     ·rw[akA j _ n1]at d2;refine d2.Ao hB qd oP ?_;rw[List.all_cons,aM]at T;have:=bT.1 T.1 x (gT n2)
      rwa [n3,Bool.false_or]at this
    ·rw[List.all_cons,aM]at T
     refine Tl hR hv oP qd hB E ins outs (i+1) (C+1+I.length) (λj D Cu=>?_) (λD h=>jT D (.tail _ h)) Ct (by omega) ?_ (λk n Z=>?_) (λp hp=>Cv p ?_) (λD h=>qt D (.tail _ h)) T.2 p hp
     ·have:=gx (j+1) D (by simpa using Cu);rw[show i+(j+1)=i+1+j by omega]at this;exact this
     ·rw[g1,<- Tn];exact To
     ·have:=mA (1+I.length+k) n (by
       rw[show 1+I.length+k=(I.length+k)+1 by omega];simp only[Aw,List.getElem?_cons_succ];rw[List.getElem?_append_right (by rw[HF];omega),HF];rw[show I.length+k-I.length=k by omega];exact Z)
      rw[show C+1+I.length+k=C+(1+I.length+k) by omega];exact this
     ·simp only[tP];exact List.mem_append_right _ hp
 | .sl q y0 :: E,.sl y1 :: ins,.sl y :: outs,i,C,gx,jT,hrel,hi,hO,mA,Cv,qt,T,p,hp=>by
  obtain⟨hm,hf⟩:=jT _ (.head _);obtain⟨_,Ct⟩:=hrel;have oK:=gx 0 _ rfl;rw[Nat.add_zero]at oK;simp only[List.length_cons]at hi;obtain⟨hO1,To⟩:=hO;rw[List.all_cons,aM]at T;have uU:nm C=q:=by have:=mA 0 q rfl;rwa [Nat.add_zero]at this
  have hp:(p=(q,.sl y)/\y.ku=true) \/ p∈lS ns cn c0 (C+1) E outs:=by
   simp only[lS]at hp;cases hy:y.ku with
   |false=>rw[hy]at hp;exact .inr hp
   | true=>
    rw[hy]at hp;rcases gU.1 hp with h|h
    ·grind
    ·simp[*]
  rcases hp with ⟨rfl,hy⟩|hp
  ·obtain⟨v,U,h2⟩:=hO1.resolve_left (by rintro rfl;cases hy);rw[Hz oK (by omega)]at U;rw[uU]at h2;exact .sl v y ((hv.fA q (qt _ (.head _))).trans U) (h2.Ao hB qd oP T.1)
  ·refine Tl hR hv oP qd hB E ins outs (i+1) (C+1) (λj D Cu=>?_) (λD h=>jT D (.tail _ h)) Ct (by omega) To (λk n Z=>?_) (λp hp=>Cv p hp) (λD h=>qt D (.tail _ h)) T.2 p hp
   ·have:=gx (j+1) D (by simpa using Cu);rw[show i+(j+1)=i+1+j by omega]at this;exact this
   ·have:=mA (k+1) n (by simpa [Aw]using Z);rw[show C+1+k=C+(k+1) by omega];exact this
end
section
variable {P:Program} {w w':World} {w0:Wd} {B N:Nat} {af dR aA:bw} {ρ fB ρ':Nat->Loc} {σ:S} {a:Act} {X:Type} {d:Nat} {r:X} {ns cn:aa Nat} {o:Oper} {rs:aa Nat} {eM:aa (Nat×Nat)} {nm My:Nat->Nat} {c0:Nat}
def akB{C:aj Tmp}{D:gv}{k:S -> aj X}(h:q6 N σ C D k=some r):∃ Z,k Z=some r /\ ∀ af ρ a w v,Rl w0 N af ρ σ a w -> qY w w0.heap.size af (λn=>iR C+n) D v -> ∃ ρ',Rl w0 N af ρ' Z (a.put C v) w /\ ∀ r,r<iR C -> ρ' r=ρ r:=by
 unfold q6 at h;cases C with
 |none=>exact⟨σ,h,λaf ρ a w v hR _=>⟨ρ,hR,λ_ _=>rfl⟩⟩
 | some d=>
  have h:(bif Nat.blt d N then (match D with
   | .one p=>(match zZ (p.1,oN (1000000000100000+1000*d) p.2)with
    |some y=>k ((m7 _ σ p.2).set d y)
    |none=>none)
   |.fz ps=>k ((oO _ σ ps).set d _))else none)=some r:=h
  cases I:Nat.blt d N with
  |false=>rw[I]at h;cases h
  | true=>
   rw[I,aq]at h;have yB:d<N:=cE I;cases D with
   | one p=>
    simp only at h;split at h
    ·rename_i y hy
     refine⟨_,h,λaf ρ a w v hR O=>?_⟩
     obtain⟨ρ',T,U,_,Y⟩:=Hp [p] (1000000000100000+1000*d) 0 σ ρ [v] (by omega) hR O;have SQ:=Y 0 _ v rfl rfl;exact⟨ρ',T.set (Si hy SQ) yB,U⟩
    ·cases h
   | fz yD=>
    refine⟨_,h,λaf ρ a w v hR O=>?_⟩
    obtain⟨E,rfl,hv⟩:=O;obtain⟨ρ',T,U,hlen,Y⟩:=Hp yD (1000000000100000+1000*d) 0 σ ρ E.toList (by omega) hR hv
    refine⟨ρ',T.set ⟨E,rfl,by simpa using hlen,λj p hp=>?_⟩ yB,U⟩
    have hj:j<E.size:=by
     have:=(dZ.1 hp).1
     grind
    exact⟨E[j],Array.getElem?_eq_getElem hj,Y j p _ hp (by rw[Array.getElem?_toList,Array.getElem?_eq_getElem hj])⟩
def Tp{f:Nat}{args:Array Operand}{jS:Array TypeId}{c:n8}{k:S -> aj X}(ho:o.op = .call { callee:=.value (.func f),args,argTypes:=jS })(he:enters P f)(hc:wB P f c)(h:oQ N σ o.dst c args.toList k=some r):∃ dc C cn,k dc=some r/\jI σ c.ps args.toList=some C/\(∀ n,dm n cn=true -> n<N \/ 60000 <= n)/\(∀ I∈C,dm I.root cn=false) /\
  ∀a w K Q af ρ,Rl w0 N af ρ σ a w -> (∀v w' dR fB wI,Rl w0 N dR wI dc (a.put o.dst v) w' -> ve w w' af dR ρ fB ((lR 0 C).map (·.1)) cn -> jt w0 w w' -> (∀r,r<iR o.dst -> wI r=fB r) -> K (a.put o.dst v) w') -> o.wp P a w K Q:=by
 unfold oQ at h;split at h
 ·rename_i C vi;generalize aaq:lR 0 C=eM at h;cases kF:(once eM&&Nat.ble C.length 40)with
  |false=>rw[kF]at h;cases h
  | true=>
   rw[kF,aq]at h;rw[aM]at kF;have ayG:=cE kF.2;have va:∀ p∈lR 0 C,eM.lookup p.1=some p.2:=by
    intro p hp;rw[aaq]at hp;have:=bT.1 kF.1 p hp;obtain⟨n,O,he⟩:=(Option.any_eq_true _ _).1 this;simp_all
   obtain⟨x,U,hrel,ayH,mw⟩:=Mv (w0:=w0) (N:=N) _ _ C _ vi h;clear h;split at U
   ·rename_i y hy;unfold Et at U;generalize qt:n9 (iR o.dst) (fm c.ro y.1).len C (jm (eU c.ps) y.2)=cn at U;generalize Ca:eM.map (·.1)=ns at U mw;cases jK:Es N C (jm (eU c.ps) y.2) cn with
    |false=>rw[jK]at U;cases U
    | true=>
     rw[jK,aq]at U;simp only[Es,aM]at jK;obtain⟨⟨⟨ok1,ok2⟩,ok3⟩,ok4⟩:=jK;obtain⟨dc,h3,Cw⟩:=akB (w0:=w0) U
     refine⟨dc,C,cn,h3,vi,λn O=>?_,λI jT=>by simpa using bT.1 ok2 I jT,λa w K Q af ρ hR hK=>?_⟩
     ·have:=bT.1 ok3 n (vc.1 O);rw[dY]at this;rcases this with h | h
      ·exact .inl (by have:=cE h;omega)
      ·exact .inr (cE h)
     have Z:Cs ns af (eT af eM id):=by rw[<- Ca];exact akx (λb k hb=>(hR.dj b k hb).2.2)
     have aar:=Mt _ _ _ vi;let rs:=C.map Mu.root
     have gx:∀ j I,C[j]?=some I -> rs[0+j]?=some I.root:=by
      intro j I hj;rw[fO,eO,hj];rfl
     have hE:=Th (rs:=rs) hR Z C (n7 c.ps x) 0 va gx aar hrel (by omega);have hA:=mw af ρ a w (eT af eM id) (yG w ρ rs) hR Z (n7 c.ps x) 0 (λj z T=>by rw[fO];exact T) (λj I hj=>by
      have h1:=gx j I hj;rw[fO]at h1 ⊢;exact Hz h1 (by have:=(dZ.1 hj).1;omega))
     obtain⟨hA1,Ec⟩:=Er.get _ _ hA;let nm:Nat -> Nat:=λn=>if n<(fm c.ro y.1).len then iR o.dst+n else (Aw (iR o.dst) (fm c.ro y.1).len C).getD (n-(fm c.ro y.1).len) 0
     have qZ:∀ (ps:aa PK) (i:Nat) (x:lQ ps),(kE ps i x).length=ps.length:=by
      intro ps
      induction ps with
      |nil=>intro i x;rfl
      | cons p ps ih=>
       intro i x;cases p with
       |v=>exact bB (· + 1) (ih _ _)
       |p=>exact bB (· + 1) (ih _ _)
       |s=>exact bB (· + 1) (ih _ _)
     unfold Oper.wp;rw[Mp w o a f args jS ho he,Oper.upon_enter];have yC:(args.map a.eval)=(args.toList.map a.eval).toArray:=by apply Array.ext';rw[Array.toList_map]
     rw[yC];have MA:∀ b k,eT af eM id b=some k -> (∃ E,af b=some E/\gk E ns=true)/\k≠[]:=by
      intro b k hb;cases hl:af b with
      |none=>rw[Z.none b hl]at hb;cases hb
      | some E=>
       refine⟨⟨E,rfl,?_⟩,?_⟩
       ·cases hq:gk E ns with
        |true=>rfl
        |false=>rw[(Z.rest b E hl).2 hq]at hb;cases hb
       ·simp only[eT,hl]at hb;split at hb
        ·cases hb
        ·cases aas:eM.lookup _ with
         |none=>rw[aas]at hb;cases hb
         |some n=>rw[aas]at hb;injection hb with hb;subst hb;simp
     have hQ:Hd w (eT af eM id):=w0.on hR.below (λb k hb=>by obtain⟨⟨E,hl,_⟩,_⟩:=MA b k hb;exact(hR.dj b E hl).1)
     refine(hc x y hy nm w (eT af eM id) (yG w ρ rs) _ hE (λb k hb=>⟨?_,(MA b k hb).2⟩) ?_ Ec hQ).mono λe w' sg=>?_
     ·obtain⟨⟨E,hl,_⟩,_⟩:=MA b k hb;exact(hR.dj b E hl).2.1
     ·rw[List.size_toArray,hA1,qZ]
     ·obtain⟨v,D,rfl,Y,Ew,kD,Ts⟩:=sg;have hB:=hR.below.size;let dR:bw:=λb=>match eT af eM id b with
       |none=>if b<w.heap.size then af b else D b
       |some _=>D b
      have e1:∀ b k,D b=some k -> dR b=some k:=by
       intro b k hb;show (match eT af eM id b with|none=>if b<w.heap.size then af b else D b|some _=>D b)=some k;split
       next jd=>have:=(Ew b k hb).1;have qd:=this.resolve_right (λh=>h jd);rw[aX];exact hb
       ·exact hb
      have e2:∀ b,w.heap.size <= b -> dR b=D b:=by
       intro b hb;show (match eT af eM id b with|none=>if b<w.heap.size then af b else D b|some _=>D b)=D b;split
       ·rw[aX]
       ·rfl
      have aat:∀ p∈tP w' ρ (iR o.dst) (fm c.ro y.1).len C (jm (eU c.ps) y.2),(tP w' ρ (iR o.dst) (fm c.ro y.1).len C (jm (eU c.ps) y.2)).lookup p.1=some p.2:=
       aal (by rw[Mx,qt];exact ok1)
      generalize Cv:tP w' ρ (iR o.dst) (fm c.ro y.1).len C (jm (eU c.ps) y.2)=hd at aat;have akC:hd.map (·.1)=cn:=by rw[<- Cv,Mx,qt]
      have hv:ve w w' af dR ρ (aaj hd ρ) ns cn:=by
       refine⟨Y.size,λb hb hk=>?_,λn O=>?_,λb k hb=>(hR.dj b k hb).2⟩
       ·have jd:eT af eM id b=none:=by
         cases hl:af b with
         |none=>exact Z.none b hl
         |some k=>exact(Z.rest b k hl).2 (hk k hl)
        refine⟨Y.block b hb jd,?_⟩;show (match eT af eM id b with|none=>if b<w.heap.size then af b else D b|some _=>D b)=af b;rw[jd];exact aW hb
       ·show (match hd.lookup n with|some v=>Loc.dQ v|none=>ρ n)=ρ n;rw[aak (by rw[akC];exact O)]
      have Az:∀I∈C,dm I.root cn=false:=λI jT=>by simpa using bT.1 ok2 I jT
      have wJ:=Tl (c0:=iR o.dst) (nm:=nm) hR hv e1 e2 hB C (n7 c.ps x) (jm (eU c.ps) y.2) 0 (fm c.ro y.1).len gx aar hrel (by omega) Ts (λk n O=>?_) (λp hp=>?_) Az ok4
      ·have aau:jt w0 w w':=by
        refine⟨Y.os,Y.tape,Y.output,Y.size,λk hk hL=>Y.block k (Nat.lt_of_lt_of_le hk hB) ?_⟩
        cases hl:af k with
        |none=>exact Z.none k hl
        |some E=>exact absurd hL ((hR.dj k E hl).1.resolve_left (by omega))
       have kZ:Rl w0 N dR (aaj hd ρ) (σ.dA ns cn (lS ns cn (iR o.dst) (fm c.ro y.1).len C (jm (eU c.ps) y.2))) a w':=by
        refine hR.vf hv aau (λb k hb=>?_) (λn O=>?_) (λn z T=>?_)
        ·have hb:(match eT af eM id b with | none=>if b<w.heap.size then af b else D b | some _=>D b)=some k:=hb;have aav:D b=some k -> (w0.heap.size <= b \/ w0.L b≠none)/\b<w'.heap.size/\k≠[]:=by
          intro h1;obtain⟨g1,g2,g3⟩:=Ew b k h1;refine⟨?_,g2,g3⟩;rcases g1 with g1|g1
          ·exact .inl (Nat.le_trans hB g1)
          ·cases jd:eT af eM id b with
           |none=>exact absurd jd g1
           | some k2=>
            obtain⟨⟨E,hl,_⟩,_⟩:=MA b k2 jd;exact(hR.dj b E hl).1
         split at hb
         ·split at hb
          ·have:=hR.dj b k hb;exact⟨this.1,Nat.lt_of_lt_of_le this.2.1 Y.size,this.2.2⟩
          ·exact aav hb
         ·exact aav hb
        ·have:=bT.1 ok3 n (vc.1 O);rw[dY]at this;refine hR.cS n ?_;rcases this with h | h
         ·exact .inl (by have:=cE h;omega)
         ·exact .inr (cE h)
        ·have tM:(n,z)∈lS ns cn (iR o.dst) (fm c.ro y.1).len C (jm (eU c.ps) y.2):=by
          clear wJ;generalize lS ns cn (iR o.dst) (fm c.ro y.1).len C (jm (eU c.ps) y.2)=l at T
          induction l with
          |nil=>cases T
          | cons p l ih=>
           rw[List.lookup_cons]at T;cases hb:n==p.1 with
           | true=>
            rw[hb]at T;have e:n=p.1:=by simpa using hb
            injection T with T;rw[e,<- T]
            grind
           | false=>
            rw[hb]at T;exact .tail _ (ih T)
         exact wJ (n,z) tM
       have akD:qY w' w0.heap.size dR (λn=>iR o.dst+n) (fm c.ro y.1) v:=?_
       ·obtain⟨wI,HG,yI⟩:=Cw dR _ a w' v kZ akD;exact hK v w' dR _ wI HG (by rw[aaq,Ca];exact hv) aau yI
       have Tt:∀(L:Nat),L=(fm c.ro y.1).len -> ∀n,n<L -> nm n=iR o.dst+n:=λL hL n O=>aW
       generalize ayI:fm c.ro y.1=res at kD Tt;cases res with
       | one p=>
        have kD:jR w' w.heap.size D nm 0 [p] [v]:=kD;exact jR.Ao [p] 0 [v] kD hB e2 e1 (λn _ O=>Tt _ rfl n (by simpa [gv.len]using O))
       | fz yD=>
        obtain⟨vs,e,kB⟩:=kD;exact⟨vs,e,jR.Ao yD 0 vs.toList kB hB e2 e1 (λn _ O=>Tt _ rfl n (by simpa [gv.len]using O))⟩
      ·show (if (fm c.ro y.1).len+k<(fm c.ro y.1).len then iR o.dst+((fm c.ro y.1).len+k)else (Aw _ (fm c.ro y.1).len C).getD ((fm c.ro y.1).len+k-(fm c.ro y.1).len) 0)=n;rw[aX,show (fm c.ro y.1).len+k-(fm c.ro y.1).len=k by omega,cK,O];rfl
      ·rw[Cv]at hp;show (match hd.lookup p.1 with|some v=>Loc.dQ v|none=>ρ p.1) = .dQ p.2;rw[aat p hp]
   ·cases U
 ·cases h
def akE{f:Nat}{args:Array Operand}{D:Array TypeId}{c:n8}{k:S -> aj X}(E:o.op = .call { callee:=.value (.func f),args,argTypes:=D })(I:enters P f)(O:wB P f c)(h:oQ N σ o.dst c args.toList k=some r):∃ C,k C=some r/\lO P w0 N o σ C:=by
 obtain⟨C,Tu,cn,T,_,_,_,U⟩:=Tp E I O h
 refine⟨C,T,λa w K Q hR Y=>?_⟩
 obtain⟨af,ρ,hR⟩:=hR;exact U a w K Q af ρ hR λv w' dR fB Z dL _ _ _=>Y _ _ ⟨dR,Z,dL⟩
end
end Go.Proofs.YtpigmalhjkekiaaGreat
