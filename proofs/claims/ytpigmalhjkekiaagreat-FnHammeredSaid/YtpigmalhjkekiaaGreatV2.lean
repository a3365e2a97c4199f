/-
  Running the program over pure contents, and that it follows (part 2). Nothing here is a claim.
-/
import Derived.Laws.StructEq
import Derived.Test.YtpigmalhjkekiaaGreatV1
set_option linter.unusedSimpArgs false
namespace Go.Proofs.YtpigmalhjkekiaaGreat
set_option linter.defProp false
open Go.RowKit
set_option linter.unusedVariables false
def auQ{X:Type}(N:Nat)(σ:S)(C:aj Tmp)(c x y:A)(k:S->aj X):aj X:=
 match c with
 |.lf (.v (.bool b))=>bif b then gW N σ C x k else gW N σ C y k
 |_=>none
def F0{X:Type}(P:Program)(s:TypeId)(x:A)(f:Nat)(k:A->aj X):aj X:=
 match FG P s f,x with
 | some C,.agg cs=>(match jl P C.type,Da P C.type with
  |some n,some true=>if C.offset+n<=cs.length then k (.agg ((cs.drop C.offset).take n))else none
  | some _,some false=>(match cs[C.offset]? with
   |some y=>k (.lf y)
   |none=>none)
  |_,_=>none)
 |_,_=>none
def Dl{X:Type}(C:Bool)(x y:A)(k:A->aj X):aj X:=
 match x,y with
 |.lf (.v (.int D a)),.lf (.v (.int _ b))=>k (.lf (.v (.int D (bif C then (if b > a then b else a)else (if b<a then b else a)))))
 |_,_=>none
def F1{X:Type}(P:Program)(t:TypeId)(x i:A)(k:A->aj X):aj X:=
 match x,i with
 | .lf (.v (.str s)),.lf (.v (.int _ iv))=>(match P.underlying t with
  |some .string=>if h:0<=iv/\iv.toNat<s.size then k (.lf (.v (.int .u8 ((s[iv.toNat]'h.2).toNat:Int))))else none
  |_=>none)
 |_,_=>none
def tX{X:Type}(x:aj A)(d:Int)(k:Int->aj X):aj X:=
 match x with
 |none=>k d
 |some (.lf (.v (.int _ n)))=>k n
 |_=>none
def xl{X:Type}(P:Program)(t:TypeId)(x:A)(lo hi:aj A)(k:A->aj X):aj X:=
 match x with
 | .lf (.v (.str s))=>(match P.underlying t with
  |some .string=>tX lo 0 λl=>tX hi (s.size:Int) λh=>if 0<=l/\l<=h/\h<=(s.size:Int)then k (.lf (.v (.str (s.extract l.toNat h.toNat))))else none
  |_=>none)
 | .lf (.v (.sl C g D l))=>(match pZ P t with
  | some e=>(match jl P e with
   |some n=>if n=aD C then (bif Nat.blt g 2 then tX lo 0 λa=>tX hi (l.length:Int) λb=>if 0<=a/\a<=b/\b<=(l.length:Int)then k (.lf (.v (.sl C g false ((l.take b.toNat).drop a.toNat))))else none else none)else none
   |none=>none)
  |none=>none)
 |_=>none
def Dm(P:Program)(C D:TypeId):Bool:=
 match P.underlying C,P.underlying D with
 | some (.slice e),some .string=>(match P.underlying e with
  |some (.int .u8)=>true
  |_=>false)
 |_,_=>false
def Kx{X:Type}(P:Program)(C D:TypeId)(z:V)(k:A->aj X):aj X:=
 match z with
 |.sl .u8 _ _ l=>bif Dm P C D then k (.lf (.v (.str (strOfNums l))))else none
 |.nil=>bif Dm P C D then k (.lf (.v (.str (strOfNums []))))else none
 |_=>none
def zc{X:Type}(P:Program)(σ:S)(C D:TypeId)(x:A)(k:A->aj X):aj X:=
 match x with
 | .lf (.v (.int _ n))=>(match P.underlying C,P.underlying D with
  |some _,some (.int E)=>k (.lf (.v (.int E (E.wrap n))))
  |_,_=>none)
 |.lf y=>oK σ y λz=>Kx P C D z k
 |_=>none
section
variable {P:Program} {w w':World} {w0:Wd} {B N:Nat} {af aA:bk} {ρ ρ':Nat->Loc} {σ:S} {a:Act} {X:Type} {d:Nat} {r:X} {o:Oper}
def auR{α:Type}(f:α -> aa Value)(s:Nat)(C:∀ x,(f x).length=s)(l:aa α):(l.flatMap f).length=l.length*s:=by
 induction l with
 |nil=>simp
 |cons a l D=>grind
def ahh{α:Type}(f:α -> aa Value)(s:Nat)(D:∀ x,(f x).length=s):∀ (l:aa α) (k:Nat) (C:k<l.length) (j:Nat),j<s -> (l.flatMap f)[k*s+j]?=(f l[k])[j]?:=by
 intro l
 induction l with
 |nil=>simp_all
 | cons a l E=>
  intro k C j I;rw[List.flatMap_cons];cases k with
  |zero=>grind
  |succ k =>grind
def Xe(z:Array Value)(s n:Nat)(C:z.size=s)(E:0<s):(madeCells z (n*s)).toList=(List.replicate n z.toList).flatten:=by
 have e:(List.replicate n z.toList).flatten=(List.replicate n ()).flatMap (λ_=>z.toList):=by
  rw[List.flatMap_def,List.map_replicate]
 rw[e];have hl:((List.replicate n ()).flatMap (λ_=>z.toList)).length=n*s:=by
  simp_all
 apply List.ext_getElem?;intro i;rcases Nat.lt_or_ge i _ with hi|hi
 ·have I:i / s<n:=Nat.div_lt_of_lt_mul (by rw[Nat.mul_comm];exact hi);have O:i % s<s:=Nat.mod_lt _ E;have T:i=i / s*s+i % s:=by rw[Nat.mul_comm];exact(Nat.div_add_mod i s).symm
  have D:=ahh (λ_=>z.toList) s (λ_=>by simpa using C) (List.replicate n ()) (i / s) (by simpa using I) (i % s) O;rw[<- T]at D;rw[D];have U:i % s<z.size:=by omega
  simp only[madeCells,Array.toList_map,Array.toList_range,ez,List.getElem?_range hi,Option.map_some,C];simp[U]
 ·rw[qO (by rw[lG,size_madeCells];exact hi),qO (by rw[hl];exact hi)]
def ahi{t:TypeId}{len:Nat}{parts:Array (Nat×Operand)}{k:S -> aj X}(h:zb P N σ d t len parts.toList k=some r):∃ c8,k c8=some r /\ ∀ af ρ a w,Rl w0 N af ρ σ a w ->
  ∃w' aA ρ' v,(Instr.buildSlice t len (parts.map λ(i,x)=>(i,a.eval x))).run P w = .ok v w'/\Rl w0 N aA ρ' c8 (a.put (some d) v) w':=by
 unfold zb at h;split at h
 ·rename_i e tc oN;obtain⟨gE,ht,i,hi,T,jW⟩:=yY oN;split at h
  ·rename_i z hz;cases I:(Nat.beq (full tc) 0&&Nat.beq z.cells.size (aD tc)&&Nat.blt (len*aD tc) 16777217)with
   |false=>rw[I]at h;cases h
   | true=>
    rw[I,au]at h;simp only[aJ]at I;have hf:=cN I.1.1;have mT:=cN I.1.2;have hsm:len*aD tc<16777217:=by have:=cz I.2;omega
    have oO:i.zero=some z:=by unfold zeroOf at hz;simpa [hi]using hz
    split at h
    ·rename_i cs lN;split at h
     ·rename_i vs lP;split at h
      ·rename_i l hl;obtain⟨hd,h⟩:=oM h
       refine⟨_,h,λaf ρ a w Z=>?_⟩
       obtain⟨Ky,Bb,iF⟩:=P5 tc 0 len vs l hl;have P6:eI w w0.heap.size af ρ (List.replicate len (z.cells.toList.map nT)).flatten (madeCells z.cells (len*aD tc)):=by
        have e1:(List.replicate len (z.cells.toList.map nT)).flatten=((List.replicate len z.cells.toList).flatten).map nT:=by
         rw[List.map_flatten,List.map_replicate]
        rw[e1,<- Xe z.cells (aD tc) len mT (oE tc)]
        refine⟨by simp,λj x C=>?_⟩
        rw[ez]at C;cases hv:(madeCells z.cells (len*aD tc)).toList[j]? with
        |none=>rw[hv]at C;cases C
        | some v=>
         rw[hv]at C;injection C with C;subst C;exact⟨v,by simpa using hv,Kq v⟩
       obtain⟨E,Y,dU⟩:=Kv (w:=w) (B:=w0.heap.size) (af:=af) (ρ:=ρ) _ _ _ (parts.toList.map λp=>(p.1,a.eval p.2)) cs lN P6 (by simp) (λj p q hp hq=>by
        rw[ez]at hp hq;cases C:parts.toList[j]? with
        |none=>rw[C]at hp;cases hp
        | some x=>
         rw[C]at hp hq;injection hp with hp;injection hq with hq;subst hp hq;exact⟨rfl,Z.aK x.2⟩)
       have Xf:=Kw cs vs lP;have ahj:E.size=len*aD tc:=by rw[dU.1,Xf,eS,Bb]
       have eU:(Instr.buildSlice t len (parts.map λ(i,x)=>(i,a.eval x))).run P w = .ok (.slice (some ⟨w.heap.size,0,none⟩) len len) (w.alloc (.cells E e)):=by
        have FY:(parts.map λ(i,x)=>(i,a.eval x)).toList=parts.toList.map λp=>(p.1,a.eval p.2):=by simp
        by_cases h0:len*aD tc=0
        ·have hm:madeCells z.cells (len*aD tc) = #[]:=by rw[h0];simp[madeCells]
         rw[hm]at Y;have P7:len*i.size=0:=by rw[T];exact h0
         rw[<- T]at Y;have e0:∀f:Nat -> Value,Array.map f (Array.range 0) = #[]:=λf=>by simp
         simp only[Instr.buildSlice,gd,gN gE,sizeOf,typeInfo];simp[hi,P7];rw[e0,Y];simp[newRow]
        ·exact run_buildSlice (P:=P) w t e len _ E i z gE hi oO (by rw[T];omega) (by rw[T];exact h0) (by rw[T,FY];exact Y)
       refine⟨_,bG af w.heap.size (some [d]),bG ρ d (.dG (.slice (some ⟨w.heap.size,0,none⟩) len len)),_,eU,(Z.Df (Z.cL d (.inl hd)) (λr U=>cr _ _ _ U) (.sl _ _ (bK _ _ _) ?_)).set ⟨rfl,by simp[cQ,bK]⟩ hd⟩
       have sA:∀ D (O:D<l.length) j x,(enc tc 0 l[D])[j]?=some x -> ∃ v,E[D*aD tc+j]?=some v /\ ∀ (w':World) (B':Nat) (aA:bk) (q':aa Nat),RV w' B' aA q' x v:=by
        intro D O j x C;obtain⟨y,hy,hw⟩:=iF D O j x C;obtain⟨v,hv,U⟩:=dU.2 (D*aD tc+j) (.v y) (by rw[Xf,ez,hy];rfl);exact⟨v,hv,λw' B' aA q'=>(U.2.wk hw).tR (yO tc 0 l[D] hf x (gC C))⟩
       have:=RV.own (w:=w.alloc (.cells E e)) (B:=w0.heap.size) (af:=bG af w.heap.size (some [d])) [d] tc 0 true l w.heap.size len E (λi j=>(E[i*aD tc+j]?).getD undef)
        (bK _ _ _) (by rw[ht];exact heap_alloc_new w _) ahj (by omega) ⟨by have:=Nat.le_mul_of_pos_right len (oE tc);unfold maxLen;omega,λ_=>Ky.symm⟩ (λD O j x C=>?_) (λD O j x C=>?_)
       ·rw[Ky]at this;exact this
       ·obtain⟨v,hv,_⟩:=sA D O j x C;rw[hv];rfl
       ·obtain⟨v,hv,U⟩:=sA D O j x C;rw[hv];exact U _ _ _ _
      ·cases h
     ·cases h
    ·cases h
  ·cases h
 ·cases h
def Xg{C:Bool}{x y:A}{k:A->aj X}(h:Dl C x y k=some r):∃ z,k z=some r/\∀ (w:World) (B:Nat) (af:bk) (ρ:Nat->Loc) (t ty:TypeId) (u v:Value),RA w B af ρ x u->RA w B af ρ y v->
  ∃D,((bif C then Builtin.max_ #[t,t] ty #[u,v]else Builtin.min_ #[t,t] ty #[u,v]):Sem Value).run P w = .ok D w/\RA w B af ρ z D:=by
 unfold Dl at h;split at h
 ·refine⟨_,h,λw B af ρ t ty u v E hv=>?_⟩
  obtain rfl:=E.2.gK;obtain rfl:=hv.2.gK;cases C with
  |true=>exact⟨_,by simp[Builtin.max_,Builtin.max2],rfl,.int _ _ _⟩
  |false=>exact⟨_,by simp[Builtin.min_,Builtin.min2],rfl,.int _ _ _⟩
 ·cases h
def ahk{t:TypeId}{x i:A}{k:A->aj X}(h:F1 P t x i k=some r):∃ z,k z=some r/\∀ (w:World) (B:Nat) (af:bk) (ρ:Nat->Loc) (u v:Value),RA w B af ρ x u->RA w B af ρ i v->
  ∃C,(Instr.index t u v).run P w = .ok C w/\RA w B af ρ z C:=by
 unfold F1 at h;split at h
 ·rename_i s I iv;split at h
  ·rename_i D;split at h
   ·rename_i hb
    refine⟨_,h,λw B af ρ u v E hv=>?_⟩
    obtain rfl:=E.2.w7;obtain rfl:=hv.2.gK;exact⟨_,by simp[Instr.index,asIntOf,gN D,hb.1,hb.2],rfl,.int _ _ _⟩
   ·cases h
  ·cases h
 ·cases h
def Xh{C D:TypeId}(h:Dm P C D=true):∃ e,P.underlying C=some (.slice e)/\P.underlying D=some .string/\P.underlying e=some (.int .u8):=by
 unfold Dm at h
 grind
def Xi(l:aa Int)(i:Nat)(hi:i<l.length):l.getD i 0=l[i]:=by rw[cS,bJ hi];rfl
def RV.toStr{I O e:TypeId}(Y:P.underlying I=some (.slice e))(hd:P.underlying O=some .string)(Z:P.underlying e=some (.int .u8)){o:Nat}{qn:Bool}{l:aa (T .u8)}{q:aa Nat}{B:Nat}{u:Value}(h:RV w B af q (.sl .u8 o qn l) u):
  (convert I O u).run P w = .ok (.string (strOfNums l)) w:=by
 generalize C:V.sl .u8 o qn l=y at h;cases h with
 |int=>cases C
 |bool=>cases C
 |str=>cases C
 |nil=>cases C
 | eD q t o'=>
  injection C with D e2 e3 E;subst D;obtain rfl:=eq_of_heq E;rw[run_convert_bytes_nil w I e Y Z 0 0 O hd];rfl
 | fF q t o' A c ho=>
  injection C with D e2 e3 E;subst D;obtain rfl:=eq_of_heq E;have hl:=run_loadCells_list (P:=P) w A [] (λj v hj=>by simp at hj);rw[run_convert_bytes_string w I O e _ 0 c Y Z hd];rfl
 | fP q t o' A c ho=>
  injection C with D e2 e3 E;subst D;obtain rfl:=eq_of_heq E;have hl:(loadCells A 0).run P w = .ok (([]:aa Int).map (Value.int .u8)).toArray w:=run_loadCells_list (P:=P) w A [] (λj v hj=>by simp at hj);rw[run_convert_bytes_string w I O e _ 0 c Y Z hd,run_bytesToString w A 0 c [] hl];rfl
 | aG q t o' P8 l' b off cap uu ho hl hb h1 lK hc hr=>
  injection C with D e2 e3 E;subst D;obtain rfl:=eq_of_heq E
  refine run_convert_bytes_arg w I e Y Z b off _ cap l rfl (λi hi=>?_) O hd
  have U:=hc i hi 0 (.int .u8 l[i]) rfl;have h3:=(hr i hi 0 (.int .u8 l[i]) rfl).gK;simp only[aD,Nat.mul_one,Nat.add_zero]at U;have hg:=Xi (show aa Int from l) i hi;rw[U,h3];exact bz (λz=>some (Value.int .u8 z)) hg.symm
 | own q t o' P8 l' b cap cs uu hl hh oJ hn hm hc hr=>
  injection C with D e2 e3 E;subst D;obtain rfl:=eq_of_heq E
  refine run_convert_bytes_arg w I e Y Z b 0 _ cap l rfl (λi hi=>?_) O hd
  have U:=hc i hi 0 (.int .u8 l[i]) rfl;have h3:=(hr i hi 0 (.int .u8 l[i]) rfl).gK;simp only[aD,Nat.mul_one,Nat.add_zero]at U;have hg:=Xi (show aa Int from l) i hi;rw[h3]at U;have h4:w.cell? ⟨b,0+i,none⟩=some (.int .u8 l[i]):=by simp[World.cell?,hh,U]
  rw[h4];exact bz (λz=>some (Value.int .u8 z)) hg.symm
def ahl{E I:TypeId}{x:A}{k:A -> aj X}(h:zc P σ E I x k=some r):∃ z,k z=some r /\ ∀ af ρ a w,Rl w0 N af ρ σ a w -> ∀ u,RA w w0.heap.size af ρ x u ->
  ∃t',(convert E I u).run P w = .ok t' w/\RA w w0.heap.size af ρ z t':=by
 unfold zc at h;split at h
 ·rename_i kk n;split at h
  ·rename_i d1 kd hs hd
   refine⟨_,h,λaf ρ a w _ u C=>?_⟩
   obtain rfl:=C.2.gK;exact⟨_,by simp[convert,gN hs,gN hd,Conv.intToInt],rfl,.int _ _ _⟩
  ·cases h
 ·rename_i y _;have key:∃ z,(∀ af ρ a w,Rl w0 N af ρ σ a w -> ∀ u,dM w w0.heap.size af ρ y u -> ∃ q,RV w w0.heap.size af q z u)/\Kx P E I z k=some r:=by
   cases y with
   |v z=>exact⟨z,λaf ρ a w _ u C=>⟨[],C.2⟩,h⟩
   |dead=>cases h
   | own q=>
    obtain⟨z,U,h⟩:=sx q _ h
    refine⟨z,λaf ρ a w O u C=>?_,h⟩
    obtain⟨v,hv,Y⟩:=U.ok O.root;have h3:=C.2
    grind
  obtain⟨z,U,D⟩:=key;clear h;unfold Kx at D;split at D
  ·rename_i o qn l;cases T:Dm P E I with
   |false=>simp_all
   | true=>
    rw[T]at D;obtain⟨e,Z,e2,e3⟩:=Xh T
    refine⟨_,D,λaf ρ a w O u C=>?_⟩
    obtain⟨q,Y⟩:=U af ρ a w O u C;exact⟨_,Y.toStr Z e2 e3,rfl,.str _ _⟩
  ·cases T:Dm P E I with
   |false=>simp_all
   | true=>
    rw[T,au]at D;obtain⟨e,Z,e2,e3⟩:=Xh T
    refine⟨_,D,λaf ρ a w O u C=>?_⟩
    obtain⟨q,Y⟩:=U af ρ a w O u C;cases Y;exact⟨_,by rw[run_convert_bytes_nil w E e Z e3 0 0 I e2];rfl,rfl,.str _ _⟩
  ·cases D
 ·cases h
def ahm{s:TypeId}{x:A}{f:Nat}{k:A -> aj X}(h:F0 P s x f k=some r):∃ z,k z=some r /\ ∀ (w:World) (B:Nat) (af:bk) (ρ:Nat -> Loc) (u:Value),RA w B af ρ x u ->
  ∃Z,(Instr.field s u f).run P w = .ok Z w/\RA w B af ρ z Z:=by
 unfold F0 at h;split at h
 ·rename_i E cs O;have jm:∃ T,P.underlying s=some (.struct T)/\T[f]?=some E:=by
   unfold FG at O;split at O
   ·simp_all
   ·cases O
  obtain⟨T,kH,zd⟩:=jm;split at h
  ·rename_i n hn C;split at h
   ·rename_i hle
    refine⟨_,h,λw B af ρ u D=>?_⟩
    obtain⟨us,rfl,I⟩:=D;have U:(isAgg E.type).run P w = .ok true w:=by
     unfold Da at C;split at C
     next fs' D=>unfold isAgg;rw[gd,gN D];rfl
     next c e D=>unfold isAgg;rw[gd,gN D];rfl
     ·cases C
     ·cases C
    unfold jl at hn;cases hi:P.info? E.type with
    |none=>simp_all
    | some i=>
     have wY:i.size=n:=by simpa [hi]using hn
     refine⟨.agg (us.extract E.offset (E.offset+n)),by simp[Instr.field,gN kH,zd,asAgg,part,gd,U,sizeOf,typeInfo,hi,wY],_,rfl,?_,λj y Y=>?_⟩
     ·have:=I.1
      grind
     ·obtain⟨hj,F2⟩:=Ki _ _ _ _ _ Y;obtain⟨v,hv,hr⟩:=I.2 _ y F2
      grind
   ·cases h
  ·rename_i n hn C;split at h
   ·rename_i y Y
    refine⟨_,h,λw B af ρ u D=>?_⟩
    obtain⟨us,rfl,I⟩:=D;obtain⟨v,hv,hr⟩:=I.2 _ y Y;have U:(isAgg E.type).run P w = .ok false w:=by
     unfold Da at C;split at C
     ·cases C
     ·cases C
     next d hs ha D=>unfold isAgg;rw[gd,gN D];simp_all
     ·cases C
    exact⟨v,by simp[Instr.field,gN kH,zd,asAgg,part,gd,U,hv],hr⟩
   ·cases h
  ·cases h
 ·cases h
end
def V.val:V->Value
 |.int k n=>.int k n
 |.bool b=>.bool b
 |.str s=>.string s
 |_=>undef
def Kz:TypeDesc->V->V->aj Bool
 |.int _,.int k a,.int C b=>if k=C then some (a==b)else none
 |.bool,.bool a,.bool b=>some (a==b)
 |.string,.str a,.str b=>some (a.toList==b.toList)
 |_,_,_=>none
def F3(P:Program)(g:TypeId->aa V->aa V->aj Bool)(xs ys:aa V):aa Field->aj Bool
 |[]=>some true
 | f :: C=>bif f.name == "_" then F3 P g xs ys C else (match jl P f.type with
  | some n=>bif Nat.ble (f.offset+n) xs.length then (match g f.type ((xs.drop f.offset).take n) ((ys.drop f.offset).take n),F3 P g xs ys C with
   |some a,some b=>some (a&&b)
   |_,_=>none)else none
  |none=>none)
def ze(P:Program):Nat->TypeId->aa V->aa V->aj Bool
 |0,_,_,_=>none
 | n+1,t,xs,ys=>match P.underlying t with
  |some (.struct C)=>bif P.stoodInHeld t ||!Nat.beq xs.length ys.length then none else F3 P (ze P n) xs ys C.toList
  | some d=>(match xs,ys with
   |[x],[y]=>Kz d x y
   |_,_=>none)
  |none=>none
def KA:BinOp->aj Bool
 |.eql=>some false
 |.neq=>some true
 |_=>none
def jH{α:Type}:aa α->Bool
 |[]=>true
 |_=>false
def isStr(P:Program)(t:TypeId):Bool:=match P.underlying t with
 |some (.struct _)=>true
 |_=>false
def zf{X:Type}(P:Program)(σ:S)(D:BinOp)(t:TypeId)(x y:A)(k:A->aj X):aj X:=
 match KA D,x,y with
 | some C,.agg cs,.agg E=>(match qW cs,qW E with
  | some xs,some ys=>bif P.eqGuardType P.depth t || !isStr P t then none else (match ze P 20 t xs ys with
   |some b=>k (.lf (.v (.bool (bif C then !b else b))))
   |none=>none)
  |_,_=>none)
 | some C,.lf l,.lf (.v .nil)=>(match pZ P t with
  | some _=>oK σ l λz=>(match z with
   |.nil=>k (.lf (.v (.bool (bif C then false else true))))
   |.sl _ _ true _=>k (.lf (.v (.bool (bif C then true else false))))
   |.sl _ _ false l=>bif jH l then none else k (.lf (.v (.bool (bif C then true else false))))
   |_=>none)
  |none=>none)
 |_,_,_=>vK x λa=>vK y λb=>FD P t D a b λz=>k (.lf (.v z))
section
variable {P:Program} {w w':World} {w0:Wd} {B N:Nat} {af aA:bk} {ρ ρ':Nat->Loc} {σ:S} {a:Act} {X:Type} {d:Nat} {r:X} {o:Oper}
def ahn{D:TypeDesc}{x y:V}{b:Bool}{t:TypeId}{n:Nat}(C:P.underlying t=some D)(h:Kz D x y=some b):(Op.equalIn (n+1) t x.val y.val).run P w = .ok b w:=by
 unfold Kz at h;split at h
 ·split at h
  next I _ a k O E=>subst E;injection h with h;subst h;exact run_equalIn_int w n t _ _ _ _ C
  ·cases h
 ·injection h with h;subst h;exact run_equalIn_bool' w n t _ _ C
 ·injection h with h;subst h;exact run_equalIn_string w n t _ _ C
 ·cases h
def tY(P:Program)(t:TypeId)(xs:aa V)(u:Value):Prop:=
 match P.underlying t with
 |some (.struct _)=>u = .agg (xs.map V.val).toArray
 |_=>∃x,xs=[x]/\u=x.val
def Xj{t:TypeId}{n off:Nat}{xs:aa V}(hn:jl P t=some n)(hle:off+n <= xs.length)(I:∃ d,P.underlying t=some d/\(∀ c e,d ≠ .array c e)/\((∀ C,d ≠ .struct C) -> n=1)):
  ∃u,(part t (xs.map V.val).toArray off).run P w = .ok u w/\tY P t ((xs.drop off).take n) u:=by
 obtain⟨d,hd,O,T⟩:=I;unfold jl at hn;cases hi:P.info? t with
 |none=>grind
 | some i=>
  have U:i.size=n:=by simpa [hi]using hn
  by_cases D:∃C,d = .struct C
  ·obtain⟨C,rfl⟩:=D;have E:(isAgg t).run P w = .ok true w:=by
    unfold isAgg;rw[gd,gN hd];rfl
   refine⟨.agg ((xs.map V.val).toArray.extract off (off+n)),by simp[part,gd,E,sizeOf,typeInfo,hi,U],?_⟩;unfold tY;rw[hd];simp only;congr 1;apply Array.ext';simp[List.map_drop,List.map_take]
  ·have E:(isAgg t).run P w = .ok false w:=by
    unfold isAgg;rw[gd,gN hd w];cases d<;>first|rfl|(exfalso;exact D ⟨_,rfl⟩)|(exfalso;exact O _ _ rfl)
   have Y:n=1:=T λC e=>D ⟨C,e⟩
   subst Y;have Z:off<xs.length:=by omega
   have sA:(xs.map V.val).toArray[off]?=some (xs[off]).val:=by simp[Z]
   refine⟨(xs[off]).val,by simp[part,gd,E,sA],?_⟩;have e1:(xs.drop off).take 1=[xs[off]]:=by
    rw[List.drop_eq_getElem_cons];rfl
   unfold tY;rw[hd];split
   ·grind
   ·grind
def aho{n:Nat}{t:TypeId}{xs ys:aa V}{b:Bool}(h:ze P n t xs ys=some b):∃ d,P.underlying t=some d/\(∀ c e,d ≠ .array c e)/\((∀ C,d ≠ .struct C) -> xs.length=1):=by
 cases n with
 |zero=>cases h
 | succ n=>
  unfold ze at h;split at h
  ·simp_all
  ·rename_i d E hd;split at h
   next x y=>exact⟨d,hd,(λc e D=>by subst D;simp[Kz]at h),λ_=>rfl⟩
   ·cases h
  ·cases h
def P9{n:Nat}{xs ys:aa V}(hlen:xs.length=ys.length)(I:∀ t xs ys b,ze P n t xs ys=some b -> ∀ u v,tY P t xs u -> tY P t ys v -> ∀ k,(Op.equalIn (k+n) t u v).run P w = .ok b w)(k:Nat):∀ (C:aa Field) (b:Bool),F3 P (ze P n) xs ys C=some b ->
  (Op.eqFields (k+n) (xs.map V.val).toArray (ys.map V.val).toArray C).run P w = .ok b w
 | [],b,h=>by
  injection h with h;subst h;simp[Op.eqFields]
 | f :: C,b,h=>by
  unfold F3 at h;cases D:f.name == "_" with
  | true=>
   rw[D]at h;have:f.name = "_":=by simpa using D
   simp[Op.eqFields,this,not_true];exact P9 hlen I k C b h
  | false=>
   rw[D,ax]at h;have bY:f.name ≠ "_":=by simpa using D
   split at h
   ·rename_i s O;cases E:Nat.ble (f.offset+s) xs.length with
    |false=>simp_all
    | true=>
     rw[E,au]at h;have E:=cz E;split at h
     ·rename_i c e T h2;injection h with h;subst h;obtain⟨d1,U,Y,Z⟩:=aho T;have qZ:((xs.drop f.offset).take s).length=s:=by simp;omega
      obtain⟨u,Qa,F4⟩:=Xj (w:=w) O E ⟨d1,U,Y,λh=>qZ.symm.trans (Z h)⟩;obtain⟨v,Dn,xm⟩:=Xj (w:=w) (xs:=ys) (off:=f.offset) O (by omega) ⟨d1,U,Y,λh=>qZ.symm.trans (Z h)⟩;have hr:=I _ _ _ c T u v F4 xm k;have zg:=P9 hlen I k C e h2;simp only[Op.eqFields,bY,ne_eq,not_false_eq_true,if_true,gd,Qa,Dn,hr,l8];cases c
      ·simp
      ·simp_all
     ·cases h
   ·cases h
def Xk:∀ (n:Nat) (t:TypeId) (xs ys:aa V) (b:Bool),ze P n t xs ys=some b -> ∀ u v,tY P t xs u -> tY P t ys v -> ∀ k,(Op.equalIn (k+n) t u v).run P w = .ok b w
 |0,t,xs,ys,b,h=>by cases h
 | n+1,t,xs,ys,b,h=>by
  intro u v C hv k;unfold ze at h;split at h
  ·rename_i T E;cases D:(P.stoodInHeld t || !Nat.beq xs.length ys.length)with
   |true=>simp_all
   | false=>
    rw[D,ax]at h;rw[mU,Bool.not_eq_false']at D;have hlen:=cN D.2;unfold tY at C hv;rw[E]at C hv;simp only at C hv;subst C hv;have U:P.fieldsOf t=T:=by simp[Program.fieldsOf,E]
    rw[<- Nat.add_assoc,run_equalIn_struct w (k+n) t _ _ (by rw[U];exact E) D.1,U];exact P9 hlen (Xk n) k T.toList b h
  ·rename_i d Y hd;split at h
   ·rename_i x y;unfold tY at C hv;rw[hd]at C hv;split at C
    ·simp_all
    ·split at hv
     ·simp_all
     ·obtain⟨Z,I,rfl⟩:=C;obtain⟨y',O,rfl⟩:=hv;injection I with I;injection O with O;subst I O;exact ahn hd h
   ·cases h
  ·cases h
def Xl{cs:aa Lf}{xs:aa V}(h:qW cs=some xs){u:Value}(D:RA w B af ρ (.agg cs) u):u = .agg (xs.map V.val).toArray:=by
 obtain⟨e,hp⟩:=Kj _ _ h;obtain⟨us,rfl,T,E⟩:=D;congr 1;apply Array.ext';apply List.ext_getElem?;intro j;rw[ ez,Array.getElem?_toList];cases C:xs[j]? with
 |none =>simp_all
 | some x=>
  obtain⟨v,hv,I⟩:=E j _ (by rw[e,ez,C];rfl);rw[hv];have:=hp x (gC C);have O:=I.2;cases O<;>first|rfl|cases this
def Dp{C:BinOp}{D:Bool}(E:KA C=some D){t e:TypeId}(I:P.underlying t=some (.slice e))(O T:Operand)(A:aj Addr)(n c:Nat):
  (do eqGuard C t O T (.slice A n c) (.slice none 0 0);binOp C t (.slice A n c) (.slice none 0 0):Sem Value).run P w = .ok (.bool (bif D then !A.isNone else A.isNone)) w:=by
 have U:(Op.equal t (.slice A n c) (.slice none 0 0)).run P w = .ok A.isNone w:=by
  have h:∀ d,(Op.equalIn (d+1) t (.slice A n c) (.slice none 0 0)).run P w = .ok A.isNone w:=by
   intro d;cases A<;>simp[Op.equalIn,gN I]
  exact h 9999
 cases C<;>simp[KA]at E<;>subst E<;>simp[eqGuard,binOp,U]
def ahp{op:BinOp}{t:TypeId}{x y:A}{k:A -> aj X}(h:zf P σ op t x y k=some r):∃ z,k z=some r /\ ∀ af ρ a w,Rl w0 N af ρ σ a w -> ∀ C D u v,RA w w0.heap.size af ρ x u -> RA w w0.heap.size af ρ y v ->
  ∃t',(do eqGuard op t C D u v;binOp op t u v:Sem Value).run P w = .ok t' w/\RA w w0.heap.size af ρ z t':=by
 unfold zf at h;split at h
 ·rename_i O cs ds I;split at h
  ·rename_i xs ys oL F5;cases hg:(P.eqGuardType P.depth t || !isStr P t)with
   |true=>simp_all
   | false=>
    rw[hg,ax]at h;rw[mU,Bool.not_eq_false']at hg;obtain⟨hg,jm⟩:=hg;split at h
    ·rename_i b hb
     refine⟨_,h,λaf ρ a w U C D u v E hv=>?_⟩
     have E:=Xl oL E;have hv:=Xl F5 hv;subst E hv;have hs:∃ fs,P.underlying t=some (.struct fs):=by
      unfold isStr at jm;split at jm
      ·simp_all
      ·cases jm
     obtain⟨fs,zd⟩:=hs;have Y:=Xk (w:=w) 20 t xs ys b hb (.agg (xs.map V.val).toArray) (.agg (ys.map V.val).toArray) (by unfold tY;rw[zd]) (by unfold tY;rw[zd]) 9980;refine⟨.bool (bif O then !b else b),?_,rfl,.bool _ _⟩;rw[gd,run_eqGuard_agg w op t C D _ _ hg,l8];cases op<;>simp[KA]at I<;>subst I
     ·rw[run_eql_struct,Y];rfl
     ·rw[run_neq_struct,Y];rfl
    ·cases h
  ·cases h
 ·rename_i O l I;split at h
  ·rename_i e he;have Z:P.underlying t=some (.slice e):=by
    unfold pZ at he;split at he
    ·simp_all
    ·cases he
   obtain⟨z,hz,T⟩:=P3 (w0:=w0) (N:=N) h;clear h;split at T
   ·refine⟨_,T,λaf ρ a w U C D u v E hv=>?_⟩
    obtain⟨q,hq⟩:=hz af ρ a w U u E;cases hq;cases hv.2;exact⟨_,Dp I Z C D none 0 0,rfl,by cases O<;>exact .bool _ _⟩
   ·refine⟨_,T,λaf ρ a w U C D u v E hv=>?_⟩
    obtain⟨q,hq⟩:=hz af ρ a w U u E;cases hv.2;cases hq with
    |aG _ _ _ _ _ b off cap us ho hl hb h1 lK hc Y=>exact⟨_,Dp I Z C D _ _ _,rfl,by cases O<;>exact .bool _ _⟩
    |own=>exact⟨_,Dp I Z C D _ _ _,rfl,by cases O<;>exact .bool _ _⟩
    |fP=>exact⟨_,Dp I Z C D _ _ _,rfl,by cases O<;>exact .bool _ _⟩
   ·rename_i t' o' l';cases hl:jH l' with
    |true=>simp_all
    | false=>
     rw[hl,ax]at T
     refine⟨_,T,λaf ρ a w U C D u v E hv=>?_⟩
     obtain⟨q,hq⟩:=hz af ρ a w U u E;cases hv.2;cases hq with
     |eD=>cases hl
     |fF=>cases hl
     |aG _ _ _ _ _ b off cap us ho FZ hb h1 lK hc Y=>exact⟨_,Dp I Z C D _ _ _,rfl,by cases O<;>exact .bool _ _⟩
     |own=>exact⟨_,Dp I Z C D _ _ _,rfl,by cases O<;>exact .bool _ _⟩
   ·cases T
  ·cases h
 ·obtain⟨u0,hx,h1⟩:=PG h;obtain⟨v0,hy,T⟩:=PG h1;obtain⟨z,h3,hp,hs⟩:=agS T;subst hx hy
  refine⟨_,h3,λaf ρ a w U C D u v E hv=>?_⟩
  obtain⟨t',eU,Y⟩:=hs w _ af C D [] [] _ _ E.2 hv.2;exact⟨t',eU,V.FF hp,Y⟩
/-! Parts of slices that nobody writes. -/
def Dq{x:aj A}{C:Int}{k:Int->aj X}(h:tX x C k=some r):∃ n,k n=some r/\(∀ (E:Type) (D:Int->aj E),tX x C D=D n)/\((x=none/\n=C)\/∃ I,x=some (.lf (.v (.int I n)))):=by
 unfold tX at h;split at h
 ·exact⟨_,h,λ_ _=>rfl,.inl ⟨rfl,rfl⟩⟩
 ·exact⟨_,h,λ_ _=>rfl,.inr ⟨_,rfl⟩⟩
 ·cases h
def ahq{t:TypeId}{x:A}{lo hi:aj A}{k:A -> aj X}(h:xl P t x lo hi k=some r):∃ y,k y=some r/\(∀ (I:Type) (E:A -> aj I),xl P t x lo hi E=E y) /\
  ((∃ (s:ByteArray) (l h:Int),x = .lf (.v (.str s))/\P.underlying t=some .string/\((lo=none/\l=0) \/ ∃ C,lo=some (.lf (.v (.int C l))))/\((hi=none/\h=s.size) \/ ∃ C,hi=some (.lf (.v (.int C h))))/\0 <= l/\l <= h/\h <= (s.size:Int)/\y = .lf (.v (.str (s.extract l.toNat h.toNat)))) \/
   ∃(tc:TC) (g:Nat) (O:Bool) (xs:aa (T tc)) (e:TypeId) (l h:Int),x = .lf (.v (.sl tc g O xs))/\pZ P t=some e/\jl P e=some (aD tc)/\g<2/\((lo=none/\l=0) \/ ∃C,lo=some (.lf (.v (.int C l))))/\((hi=none/\h=xs.length) \/ ∃C,hi=some (.lf (.v (.int C h))))/\0 <= l/\l <= h/\h <= (xs.length:Int)/\y = .lf (.v (.sl tc g false ((xs.take h.toNat).drop l.toNat)))):=by
 unfold xl at h;split at h
 ·rename_i s;split at h
  ·rename_i hu;obtain⟨l,U,d1,Y⟩:=Dq h;obtain⟨m,D,d2,Z⟩:=Dq U;split at D
   ·rename_i hb
    refine⟨_,D,λI E=>?_,.inl ⟨s,l,m,rfl,hu,Y,Z,hb.1,hb.2.1,hb.2.2,rfl⟩⟩
    simp[xl,hu];simp_all
   ·cases D
  ·cases h
 ·rename_i tc g O xs;split at h
  ·rename_i e he;split at h
   ·rename_i n hn;split at h
    ·rename_i Be;subst Be;cases hg:Nat.blt g 2 with
     |false=>simp_all
     | true=>
      rw[hg,au]at h;obtain⟨l,U,d1,Y⟩:=Dq h;obtain⟨m,D,d2,Z⟩:=Dq U;split at D
      ·rename_i hb
       refine⟨_,D,λI E=>?_,.inr ⟨tc,g,O,xs,e,l,m,rfl,he,hn,cz hg,Y,Z,hb.1,hb.2.1,hb.2.2,rfl⟩⟩
       simp[xl,he,hn,if_true,hg,au];simp_all
      ·cases D
    ·cases h
   ·cases h
  ·cases h
 ·cases h
def ahr{t:TypeId}{x:A}{lo hi:aj A}{k:A->aj X}(h:xl P t x lo hi k=some r):∃ y,k y=some r/\(∀ (X':Type) (k':A->aj X'),xl P t x lo hi k'=k' y)/\
  ∀ (w:World) (B:Nat) (af:bk) (ρ:Nat->Loc) (u:Value) (T hv:aj Value),RA w B af ρ x u->(∀ a,lo=some a->∃ v,T=some v/\RA w B af ρ a v)->(lo=none->T=none)->(∀ a,hi=some a->∃ v,hv=some v/\RA w B af ρ a v)->(hi=none->hv=none)->
   ∃t',(Instr.sliceAt t u T hv none).run P w = .ok t' w/\RA w B af ρ y t':=by
 obtain⟨y,h1,hd,hc⟩:=ahq h
 refine⟨y,h1,hd,λw B af ρ u T hv Y qZ m9 KB Ds=>?_⟩
 have bl:∀ {o:aj A} {D:aj Value} {n Z:Int},(∀ a,o=some a->∃ v,D=some v/\RA w B af ρ a v)->(o=none->D=none)->((o=none/\n=Z)\/∃ E,o=some (.lf (.v (.int E n))))->(D=none/\n=Z)\/∃ E,D=some (.int E n):=by
  intro o D n Z g1 g2 g3;rcases g3 with ⟨e,e'⟩|⟨E,e⟩
  ·exact .inl ⟨g2 e,e'⟩
  ·obtain⟨v,hv,hr⟩:=g1 _ e;exact .inr ⟨E,by rw[hv,hr.2.gK]⟩
 rcases hc with ⟨s,l,m,rfl,I,e1,e2,b1,b2,b3,rfl⟩|⟨tc,g,qn,xs,e,l,m,rfl,C,hn,hg,e1,e2,b1,b2,b3,rfl⟩
 ·have h5:=bl qZ m9 e1;have h6:=bl KB Ds e2;obtain rfl:=Y.2.w7;have em:(m.toNat:Int)=m:=Int.toNat_of_nonneg (by omega);refine⟨.string (s.extract l.toNat m.toNat),?_,rfl,.str _ _⟩;rw[run_sliceAt_string w t _ _ _ _ I];have KD:0<=m:=by omega
  rcases h5 with ⟨rfl,h7⟩|⟨kl,rfl⟩<;>rcases h6 with ⟨rfl,h8⟩|⟨kh,rfl⟩
  all_goals simp_all [Instr.slice,gN I,Instr.sliceBounds,run_sliceBound]
 ·have h5:=bl qZ m9 e1;have h6:=bl KB Ds e2;have I:P.underlying t=some (.slice e):=by
   unfold pZ at C;split at C
   next e' vk=>injection C with C;rw[<-C];exact vk
   ·cases C
  have iF:P.elem t=e:=by simp[Program.elem,I]
  have O:P.underlying t=some (.slice (P.elem t)):=by rw[iF];exact I
  have U:(sizeOf (P.elem t)).run P w = .ok (aD tc) w:=by
   unfold jl at hn;cases hi:P.info? e with
   |none=>simp[hi]at hn
   | some i=>
    have:i.size=aD tc:=by simpa [hi]using hn
    simp[sizeOf,typeInfo,iF,hi,this]
  have kH:∃ A n c,u = .slice A n c:=by
   cases Y.2 with
   |eD=>exact⟨_,_,_,rfl⟩
   |fF=>exact⟨_,_,_,rfl⟩
   |fP=>exact⟨_,_,_,rfl⟩
   |aG=>exact⟨_,_,_,rfl⟩
   |own=>exact⟨_,_,_,rfl⟩
  obtain⟨A,n,c,rfl⟩:=kH;obtain⟨hp,Dt,Qb⟩:=Y.2.part (a:=l.toNat) (h:=m.toNat) hg (by omega) (by omega);refine⟨_,?_,by simp[V.aG,hg],hp⟩;rw[run_sliceAt_slice w t _ _ _ _ O];rcases h5 with ⟨rfl,rfl⟩|⟨kl,rfl⟩<;>rcases h6 with ⟨rfl,rfl⟩|⟨kh,rfl⟩
  ·rw[run_slice_all w t A n c O,U,Dt];simp
  ·rw[run_slice_h w t A n c O kh m (by omega) (by omega),U];simp
  ·rw[run_slice_l w t A n c O kl l (by omega) (by omega),U,Dt];simp
  ·rw[run_slice_lh w t A n c O kl kh l m (by omega) (by omega) (by omega),U];simp
/-! Parts of slices that are owned. -/
def Dv{X:Type}(n:Nat)(q:aa Nat)(C:aj Nat)(lo hi:aj A)(y:V)(k:A->aj X):aj X:=
 match y with
 |.sl D _ _ l=>if n=aD D then tX lo 0 λa=>tX hi ((C.getD l.length:Nat):Int) λb=>if 0<=a/\a<=b/\b<=(l.length:Int)then k (.view q n a.toNat b.toNat)else none else none
 |_=>none
def Bj{X:Type}(P:Program)(σ:S)(t:TypeId)(q:aa Nat)(C:aj Nat)(lo hi:aj A)(k:A->aj X):aj X:=
 match pZ P t with
 | some e=>(match jl P e with
  |some n=>iY σ.m q λy=>Dv n q C lo hi y k
  |none=>none)
 |none=>none
def zh{X:Type}(P:Program)(σ:S)(t:TypeId)(x:A)(lo hi:aj A)(k:A->aj X):aj X:=
 match x with
 |.lf (.own q)=>Bj P σ t q none lo hi k
 |.view q _ 0 j=>Bj P σ t q (some j) lo hi k
 |x=>xl P t x lo hi k
def ahs{n:Nat}{q:aa Nat}{C:aj Nat}{lo hi:aj A}{y:V}{k:A -> aj X}(h:Dv n q C lo hi y k=some r):∃ (tc:TC) (g:Nat) (D:Bool) (xs:aa (T tc)) (l h:Int),y = .sl tc g D xs/\n=aD tc /\
  ((lo=none/\l=0) \/ ∃E,lo=some (.lf (.v (.int E l))))/\((hi=none/\h=((C.getD xs.length:Nat):Int)) \/ ∃E,hi=some (.lf (.v (.int E h))))/\0 <= l/\l <= h/\h <= (xs.length:Int)/\k (.view q n l.toNat h.toNat)=some r /\
  ∀(U:Type) (I:A -> aj U),Dv n q C lo hi y I=I (.view q n l.toNat h.toNat):=by
 unfold Dv at h;split at h
 ·rename_i tc g D xs;split at h
  ·rename_i Y;obtain⟨l,Z,d1,e1⟩:=Dq h;obtain⟨m,O,d2,e2⟩:=Dq Z;split at O
   ·rename_i hb
    refine⟨tc,g,D,xs,l,m,rfl,Y,e1,e2,hb.1,hb.2.1,hb.2.2,O,λU I=>?_⟩
    simp[Dv,aV Y];simp_all
   ·cases O
  ·cases h
 ·cases h
def Xm{t:TypeId}{q:aa Nat}{Z:aj Nat}{lo hi:aj A}{k:A -> aj X}(h:Bj P σ t q Z lo hi k=some r):∃ y,k y=some r /\
  ∀ af ρ a w,Rl w0 N af ρ σ a w -> ∀ (D:aj Addr) (n c C:Nat) (T hv:aj Value),cQ w af ρ q=some (.slice D n c) -> C=Z.getD n -> C <= n -> (∀ a,lo=some a -> ∃ v,T=some v/\RA w w0.heap.size af ρ a v) -> (lo=none -> T=none) -> (∀ a,hi=some a -> ∃ v,hv=some v/\RA w w0.heap.size af ρ a v) -> (hi=none -> hv=none) ->
   ∃t',(Instr.sliceAt t (.slice D C c) T hv none).run P w = .ok t' w/\RA w w0.heap.size af ρ y t':=by
 unfold Bj at h;split at h
 ·rename_i e he;split at h
  ·rename_i n hn;obtain⟨y0,Qc,h2⟩:=sx q _ h;obtain⟨tc,g,qn,xs,l,m,rfl,Be,e1,e2,b1,b2,b3,h3,_⟩:=ahs h2
   refine⟨_,h3,λaf ρ a w hR D n' c C T hv kX Qd hle qZ m9 KB Ds=>?_⟩
   have bl:∀ {o:aj A} {E:aj Value} {n Qe:Int},(∀ a,o=some a -> ∃ v,E=some v/\RA w w0.heap.size af ρ a v) -> (o=none -> E=none) -> ((o=none/\n=Qe) \/ ∃ I,o=some (.lf (.v (.int I n)))) -> (E=none/\n=Qe) \/ ∃ I,E=some (.int I n):=by
    intro o E n Qe g1 g2 g3;rcases g3 with ⟨e,e'⟩|⟨I,e⟩
    ·grind
    ·obtain⟨v,hv,hr⟩:=g1 _ e;exact .inr ⟨I,by rw[hv,hr.2.gK]⟩
   have h5:=bl qZ m9 e1;have h6:=bl KB Ds e2;have gE:P.underlying t=some (.slice e):=by
    unfold pZ at he;split at he
    ·grind
    ·cases he
   have iF:P.elem t=e:=by simp[Program.elem,gE]
   have O:P.underlying t=some (.slice (P.elem t)):=by rw[iF];exact gE
   have U:(sizeOf (P.elem t)).run P w = .ok n w:=by
    unfold jl at hn;cases hi:P.info? e with
    |none=>grind
    | some i=>
     have:i.size=n:=by simpa [hi]using hn
     simp[sizeOf,typeInfo,iF,hi,this]
   obtain⟨v0,Y,iG⟩:=Qc.ok hR.root;rw[kX]at Y;injection Y with Y;subst Y;have hf:RV w 0 (λ_=>none) [] (.sl tc 0 qn xs) (.slice D n' c):=iG.gn;obtain⟨hp,Dt,Qb⟩:=hf.part (a:=l.toNat) (h:=m.toNat) (by omega) (by omega) (by omega);have aht:((Z.getD xs.length:Nat):Int)=(C:Int):=by rw[Qd,Dt]
   rw[aht]at h6;refine⟨sliced D l.toNat m.toNat c n,?_,D,n',c,kX,by omega,by omega,rfl⟩;rw[run_sliceAt_slice w t _ _ _ _ O];rcases h5 with ⟨rfl,rfl⟩|⟨kl,rfl⟩<;>rcases h6 with ⟨rfl,rfl⟩|⟨kh,rfl⟩
   ·rw[run_slice_all w t D C c O,U];simp
   ·rw[run_slice_h w t D C c O kh m (by omega) (by omega),U];simp
   ·rw[run_slice_l w t D C c O kl l (by omega) (by omega),U];simp
   ·rw[run_slice_lh w t D C c O kl kh l m (by omega) (by omega) (by omega),U];simp
  ·cases h
 ·cases h
def ahu{t:TypeId}{x:A}{lo hi:aj A}{k:A -> aj X}(h:zh P σ t x lo hi k=some r):∃ y,k y=some r /\
  ∀ af ρ a w,Rl w0 N af ρ σ a w -> ∀ (u:Value) (C hv:aj Value),RA w w0.heap.size af ρ x u -> (∀ a,lo=some a -> ∃ v,C=some v/\RA w w0.heap.size af ρ a v) -> (lo=none -> C=none) -> (∀ a,hi=some a -> ∃ v,hv=some v/\RA w w0.heap.size af ρ a v) -> (hi=none -> hv=none) ->
   ∃t',(Instr.sliceAt t u C hv none).run P w = .ok t' w/\RA w w0.heap.size af ρ y t':=by
 unfold zh at h;split at h
 ·rename_i q;obtain⟨y,D,E⟩:=Xm h
  refine⟨y,D,λaf ρ a w O u C hv I T U Y Z=>?_⟩
  have fq:∃ A n c,u = .slice A n c:=by
   have:=I.1;cases u<;>first|cases this;done|exact⟨_,_,_,rfl⟩
  obtain⟨A,n,c,rfl⟩:=fq;exact E af ρ a w O A n c n C hv I.2 rfl (dB _) T U Y Z
 ·rename_i q s j;obtain⟨y,D,E⟩:=Xm h
  refine⟨y,D,λaf ρ a w O u C hv I T U Y Z=>?_⟩
  obtain⟨A,n,c,kX,_,a2,rfl⟩:=I;have e:sliced A 0 j c s = .slice A j c:=by cases A<;>simp[sliced,Addr.add]
  rw[e];exact E af ρ a w O A n c j C hv kX rfl a2 T U Y Z
 ·obtain⟨y,D,_,E⟩:=ahr h;exact⟨y,D,λaf ρ a w _ u C hv=>E w _ af ρ u C hv⟩
end
abbrev Pt:=Bool×aa V
def PV(w:World)(B:Nat)(af:bk)(key:Nat->aa Nat)(p:Pt)(u:Value):Prop:=
 ∃us:Array Value,(match p.1 with|true=>u = .agg us|false=>us = #[u])/\us.size=p.2.length/\∀(j:Nat) x,p.2[j]?=some x->∃v,us[j]?=some v/\RV w B af (key j) x v
def zi(w:World)(cs:aa V)(u:Value):Prop:=
 ∃b off,u = .pointer (some ⟨b,off,none⟩)/\b<w.heap.size/\∀(j:Nat) x,cs[j]?=some x->∃v,w.cell? ⟨b,off+j,none⟩=some v/\RV w w.heap.size (λ_=>none) [] x v
inductive PA (w:World):Pt->Value->Prop
 |v (p:Pt) (u:Value) (h:PV w w.heap.size (λ_=>none) (λ_=>[]) p u):PA w p u
 |p (c:V) (cs:List V) (u:Value) (h:zi w (c::cs) u):PA w (false,.bool true::c::cs) u
 |f (g:Nat) (c:V) (cs:List V) (u:Value) (h:zi w (c::cs) u):PA w (false,.bool false::.int .i64 (g:Int)::c::cs) (.func (.func g) #[] #[u])
def oR(w:World)(args:aa Pt)(bC:Array Value):Prop:=
 bC.size=args.length/\∀(i:Nat) p,args[i]?=some p->∃u,bC[i]?=some u/\PA w p u
def PA.pv{w:World}{x:V}{u:Value}(h:PA w (false,[x]) u):PV w w.heap.size (λ_=>none) (λ_=>[]) (false,[x]) u:=by
 cases h with
 |v _ _ h=>exact h
def PA.Xn{w:World}{xs:aa V}{u:Value}(h:PA w (true,xs) u):PV w w.heap.size (λ_=>none) (λ_=>[]) (true,xs) u:=by
 cases h with
 |v _ _ h=>exact h
inductive fV where
 |one (p:Pt)
 |eY (ps:List Pt)
def zj(t:TC):Nat->Bool
 |0=>false
 |1=>true
 |o+2=>Nat.ble (full t) o ||Nat.beq (o % 2) 1
def V.loc:V->Bool
 |.sl t o _ _=>zj t o
 |_=>true
def jI(w:World)(B:Nat)(af:bk)(nm:Nat->Nat):Nat->aa Pt->aa Value->Prop
 |_,[],[]=>True
 |off,p::ps,v::C=>(p.2.all V.loc=true/\PV w B af (λj=>[nm (off+j)]) p v)/\jI w B af nm (off+p.2.length) ps C
 |_,_,_=>False
def p7(w:World)(B:Nat)(af:bk)(nm:Nat->Nat):fV->Value->Prop
 |.one p,v=>jI w B af nm 0 [p] [v]
 |.eY ps,v=>∃C:Array Value,v = .tuple C/\jI w B af nm 0 ps C.toList
structure jn where
 run:(X:Type)->List Pt->(fV->Option X)->Option X
def iO(P:Program)(f:Nat)(c:jn):Prop:=
 (∀ args,cw λX k=>c.run X args k)/\∀ args C,c.run fV args some=some C->∀ (nm:Nat->Nat) (w:World) (bC:Array Value),oR w args bC->Hd w (λ_=>none)->
  Calls P f bC w λe w'=>∃v aA,e = .returned v/\Below w.heap.size w w'/\(∀b k,aA b=some k->w.heap.size<=b/\b<w'.heap.size/\k≠[])/\p7 w' w.heap.size aA nm C v
def q8{X:Type}(σ:S):aa Lf->(aa V->aj X)->aj X
 |[],k=>k []
 |x::xs,k=>oK σ x λy=>q8 σ xs λys=>k (y.gn::ys)
def nU{X:Type}(σ:S)(x:A)(k:Pt->aj X):aj X:=
 match x with
 |.lf y=>q8 σ [y] λC=>k (false,C)
 |.agg ys=>q8 σ ys λC=>k (true,C)
 |.view q s i j=>vj σ q s i j λy=>k (false,[y])
 |.iW (c::cs)=>k (false,.bool true::c.gn::cs.map V.gn)
 |_=>none
def vo{X:Type}(σ:S)(x:A)(k:Pt->aj X):aj X:=
 match x with
 |.iW (c::cs)=>k (false,.bool true::c.gn::cs.map V.gn)
 |.m7 f (c::cs)=>k (false,.bool false::.int .i64 (f:Int)::c.gn::cs.map V.gn)
 | .aL r j=>(match σ.m r with
  | some (.aB cs)=>q8 σ (cs.drop j) λC=>(match C with
   |c::cs=>k (false,.bool true::c::cs)
   |[]=>none)
  |_=>none)
 | .fn f [(r,j)]=>(match σ.m r with
  | some (.aB cs)=>q8 σ (cs.drop j) λC=>(match C with
   |c::cs=>k (false,.bool false::.int .i64 (f:Int)::c::cs)
   |[]=>none)
  |_=>none)
 |x=>nU σ x k
def vp{X:Type}(f:A->(Pt->aj X)->aj X)(σ:S):aa Operand->(aa Pt->aj X)->aj X
 |[],k=>k []
 |x::xs,k=>f (aK σ x) λp=>vp f σ xs λps=>k (p::ps)
def Bk{X:Type}(σ:S)(xs:aa Operand)(k:aa Pt->aj X):aj X:=vp (vo σ) σ xs k
def sG{X:Type}(σ:S)(xs:aa Operand)(k:aa Pt->aj X):aj X:=vp (nU σ) σ xs k
def nW(c:Nat):aa V->aa Lf
 |[]=>[]
 |x::xs=>(bif x.aG then .v x else .own [c])::nW (c+1) xs
def mh(c:Nat)(σ:S):aa V->S
 |[]=>σ
 |x::xs=>mh (c+1) (bif x.aG then σ else (σ.drop c).root c (.sl x)) xs
def sH(c:Nat):aa Pt->aa (Bool×aa Lf)
 |[]=>[]
 |p::ps=>(p.1,nW c p.2)::sH (c+p.2.length) ps
def nX(c:Nat)(σ:S):aa Pt->S
 |[]=>σ
 |p::ps=>nX (c+p.2.length) (mh c σ p.2) ps
def ni{X:Type}(σ:S)(d:Nat)(C:fV)(k:S->aj X):aj X:=match C with
 | .one p=>(match yV (p.1,nW (1000000000100000+1000*d) p.2)with
  |some y=>k ((mh (1000000000100000+1000*d) σ p.2).set d y)
  |none=>none)
 |.eY ps=>k ((nX (1000000000100000+1000*d) σ ps).set d (.eY (sH (1000000000100000+1000*d) ps)))
def sI{X:Type}(N:Nat)(σ:S)(d:Nat)(c:jn)(ev:(aa Pt->aj X)->aj X)(k:S->aj X):aj X:=
 bif Nat.blt d N then ev λps=>c.run X ps λC=>ni σ d C k else none
def ahv{X:Type}(N:Nat)(σ:S)(d:Nat)(c:jn)(args:aa Operand)(k:S->aj X):aj X:=sI N σ d c (Bk σ args) k
def ahw{X:Type}(N:Nat)(σ:S)(d:Nat)(c:jn)(args:aa Operand)(k:S->aj X):aj X:=sI N σ d c (sG σ args) k
section
variable {P:Program} {w w':World} {w0:Wd} {B N:Nat} {af aA:bk} {ρ ρ':Nat->Loc} {σ:S} {a:Act} {X:Type} {d:Nat} {r:X} {o:Oper}
def F6:∀ (xs:aa Lf) (k:aa V -> aj X),q8 σ xs k=some r -> ∃ C,k C=some r/\C.length=xs.length /\ ∀ af ρ a w,Rl w0 N af ρ σ a w -> ∀ (j:Nat) x y u,xs[j]?=some x -> C[j]?=some y -> dM w w0.heap.size af ρ x u -> RV w w.heap.size (λ_=>none) [] y u
 |[],k,h=>⟨[],h,rfl,λ_ _ _ _ _ j x y u I=>by simp at I⟩
 | x :: xs,k,h=>by
  obtain⟨y,O,T⟩:=P3 h;obtain⟨ys,U,hl,hr⟩:=F6 xs _ T
  refine⟨y.gn::ys,U,by simp[hl],λaf ρ a w Y j x' y' u D E Z=>?_⟩
  cases j with
  | zero=>
   simp at D E;subst D E;obtain⟨q,hq⟩:=O af ρ a w Y u Z;exact hq.gn
  |succ j=>grind
def Xo{D C:Nat}{cs:aa Lf}{E:aa V}(Y:σ.m D=some (.aB cs))(hl:E.length=(cs.drop C).length)
  (Z:∀af ρ a w,Rl w0 N af ρ σ a w->∀(j:Nat) x y u,(cs.drop C)[j]?=some x->E[j]?=some y->dM w w0.heap.size af ρ x u->RV w w.heap.size (λ_=>none) [] y u)
  {af:bk} {ρ:Nat->Loc} {a:Act} {w:World} {u:Value} (I:Rl w0 N af ρ σ a w) (hu:RA w w0.heap.size af ρ (.aL D C) u):zi w E u:=by
 obtain⟨b,off,e1,rfl⟩:=hu;cases I.root D _ Y with
 | aB b' Ba cells e _ us O nY hh hs hc=>
  rw[e1]at O;injection O with q1 q2;subst q1 q2
  refine⟨b,off+C,rfl,(iz.1 hh).1,λj x T=>?_⟩
  have hj:j<(cs.drop C).length:=by rw[<-hl];exact(dK.1 T).1
  have U:=bJ hj;have ahx:cs[C+j]?=some (cs.drop C)[j]:=by rw[<-List.getElem?_drop];exact U
  obtain⟨k1,k2⟩:=hc _ _ ahx;refine⟨us (C+j),?_,Z af ρ a w I j _ x _ U T k2⟩;rw[Nat.add_assoc,cell_of_row w b _ cells _ _ hh];exact k1
def Qf{cs:aa V}{u:Value}(E:RF w B af cs u):zi w (cs.map V.gn) u:=by
 obtain⟨b,off,rfl,I,Y,O⟩:=E
 refine⟨b,off,rfl,I,λj x C=>?_⟩
 rw[ez]at C;cases D:cs[j]? with
 |none=>simp_all
 | some y=>
  rw[D]at C;injection C with C;subst C;obtain⟨_,v,T,U⟩:=O j y D;exact⟨v,T,U.gn⟩
def Xp{x:A}{k:Pt -> aj X}(h:nU σ x k=some r):∃ p,k p=some r /\ ∀ af ρ a w,Rl w0 N af ρ σ a w -> ∀ u,RA w w0.heap.size af ρ x u -> PA w p u:=by
 unfold nU at h;split at h
 ·rename_i y;obtain⟨Y,E,hl,T⟩:=F6 (w0:=w0) (N:=N) _ _ h
  refine⟨_,E,λaf ρ a w I u C=>.v _ _ ⟨#[u],rfl,by simp[hl],λj x D=>?_⟩⟩
  have O:j=0:=by
   grind
  subst O;exact⟨u,rfl,T af ρ a w I 0 y x u rfl D C⟩
 ·rename_i ys;obtain⟨Y,E,hl,T⟩:=F6 (w0:=w0) (N:=N) _ _ h
  refine⟨_,E,λaf ρ a w I u C=>?_⟩
  obtain⟨us,rfl,U⟩:=C
  refine .v _ _ ⟨us,rfl,by rw[hl];exact U.1,λj x D=>?_⟩
  have O:j<ys.length:=by rw[<- hl];exact(dK.1 D).1
  obtain⟨v,hv,fJ⟩:=U.2 j _ (bJ O)
  grind
 ·obtain⟨z,E,_,Z⟩:=WN h
  refine⟨_,E,λaf ρ a w I u C=>.v _ _ ⟨#[u],rfl,rfl,λj x D=>?_⟩⟩
  cases j with
  | zero=>
   simp at D;subst D;exact⟨u,rfl,Z _ _ _ _ _ _ I u C _⟩
  |succ j=>simp at D
 next c cs=>exact⟨_,h,λaf ρ a w I u C=>.p _ _ _ (Qf C)⟩
 ·cases h
def ahy{x:A}{k:Pt -> aj X}(h:vo σ x k=some r):∃ p,k p=some r /\ ∀ af ρ a w,Rl w0 N af ρ σ a w -> ∀ u,RA w w0.heap.size af ρ x u -> PA w p u:=by
 unfold vo at h;split at h
 ·rename_i c cs
  refine⟨_,h,λaf ρ a w E u C=>?_⟩
  exact .p _ _ _ (Qf C)
 ·rename_i f c cs
  refine⟨_,h,λaf ρ a w E u C=>?_⟩
  obtain⟨pv,rfl,hp⟩:=C;exact .f _ _ _ _ (Qf hp)
 ·rename_i U T;split at h
  ·rename_i cs I;obtain⟨Y,D,hl,O⟩:=F6 (w0:=w0) (N:=N) _ _ h;split at D
   ·rename_i c eV
    refine⟨_,D,λaf ρ a w E u C=>?_⟩
    exact .p _ _ _ (Xo I hl O E C)
   ·cases D
  ·cases h
 ·rename_i f U T;split at h
  ·rename_i cs I;obtain⟨Y,D,hl,O⟩:=F6 (w0:=w0) (N:=N) _ _ h;split at D
   ·rename_i c eV
    refine⟨_,D,λaf ρ a w E u C=>?_⟩
    obtain⟨ps,rfl,hs,hp⟩:=C;obtain⟨b,off,Z,e2⟩:=hp 0 _ rfl;have e:ps = #[.pointer (some ⟨b,off+T,none⟩)]:=by
     grind
    subst e;exact .f _ _ _ _ (Xo I hl O E ⟨b,off,Z,rfl⟩)
   ·cases D
  ·cases h
 ·exact Xp h
def Qg{f:A->(Pt->aj X)->aj X}(D:∀ x k,f x k=some r->∃ p,k p=some r/\∀ af ρ a w,Rl w0 N af ρ σ a w->∀ u,RA w w0.heap.size af ρ x u->PA w p u):
  ∀(xs:aa Operand) (k:aa Pt->aj X),vp f σ xs k=some r->∃ps,k ps=some r/\∀af ρ a w,Rl w0 N af ρ σ a w->oR w ps (xs.map a.eval).toArray
 |[],k,h=>⟨[],h,λ_ _ _ _ _=>⟨rfl,λi p hp=>by simp at hp⟩⟩
 | x :: xs,k,h=>by
  unfold vp at h;obtain⟨p,I,hp⟩:=D _ _ h;obtain⟨ps,O,E⟩:=Qg D xs _ I
  refine⟨p::ps,O,λaf ρ a w C=>⟨?_,λi q hq=>?_⟩⟩
  ·have:=(E af ρ a w C).1;simp at this;simp[this]
  ·cases i with
   | zero=>
    simp at hq;subst hq;exact⟨_,rfl,hp af ρ a w C _ (C.aK x)⟩
   | succ i=>
    obtain⟨u,T,U⟩:=(E af ρ a w C).2 i q (by simpa using hq);exact⟨u,by simpa using T,U⟩
def ahz(xs:aa Operand)(k:aa Pt->aj X)(h:Bk σ xs k=some r):∃ps,k ps=some r/\∀af ρ a w,Rl w0 N af ρ σ a w->oR w ps (xs.map a.eval).toArray:=Qg (λ_ _=>ahy) xs k h
def Xq(xs:aa Operand)(k:aa Pt->aj X)(h:sG σ xs k=some r):∃ps,k ps=some r/\∀af ρ a w,Rl w0 N af ρ σ a w->oR w ps (xs.map a.eval).toArray:=Qg (λ_ _=>Xp) xs k h
def ahA{t:TC}{o:Nat}(h:zj t (o+2)=true)(x:T t):∀ y∈enc t o x,y.loc=true:=by
 intro y D;have hg:=yP t o x y D;cases y with
 | sl E C q l=>
  have I:C=o:=by simpa [V.gr]using hg
  subst I;have O:full E+2 <= full t:=cz (J7 t C x _ D);show zj E C=true;simp only[zj,dQ]at h;rcases h with h|h
  ·have h:=cz h
   match C,h with
   |0,h=>omega
   |1,h=>rfl
   | n+2,h=>
    simp only[zj,dQ];left;exact jj (by omega)
  ·have h:=cN h
   match C,h with
   |0,h=>omega
   |1,h=>rfl
   | n+2,h=>
    simp only[zj,dQ];simp_all
 |_=>rfl
def RV.zk{q:aa Nat}{x:V}{v:Value}(h:RV w B af q x v){B':Nat}(hB:B' <= B)(hl:∀ b,B <= b -> aA b=af b)(hg:∀ b k,af b=some k -> aA b=some k)(O:x.loc=true):RV w B' aA q x v:=by
 induction h with
 |int=>exact .int _ _ _
 |bool=>exact .bool _ _
 |str=>exact .str _ _
 |nil=>exact .nil _
 |eD=>exact .eD _ _ _
 |fF=>exact .fF _ _ _ _ _ (by first|assumption|omega)
 |fP=>exact .fP _ _ _ _ _ (by first|assumption|omega)
 | aG q t o Y l b off cap u T D hb Z lK E hr I=>
  have Bl:o=1:=by
   match o,T,O with
   |1,_,_=>rfl
  subst Bl;have U:=Z rfl
  refine .aG _ _ _ _ _ _ _ _ u T ((hl b U).trans D) hb (λ_=>Nat.le_trans hB U) lK E (λi h j x C=>I i h j x C ?_)
  have:=yP t 1 l[i] x (gC C);cases x with
  | sl t' o' q' l'=>
   have:o'=1:=by simpa [V.gr]using this
   subst this;rfl
  |_=>rfl
 | own q t o Y l b cap cs u D hh hs hn hm E hr I=>
  exact .own _ _ _ _ _ _ _ cs u (hg b q D) hh hs hn hm E (λi h j x C=>I i h j x C (ahA O l[i] x (gC C)))
def RV.home{q:aa Nat}{x:V}{v:Value}(h:RV w B af q x v){B':Nat}(hB:B'<=B)(hl:∀ b,B<=b->aA b=af b)(hg:∀ b k,af b=some k->B<=b)(C:x.loc=true):RV w B' aA q x v:=
 h.zk hB hl (λb k h=>(hl b (hg b k h)).trans h) C
def Qh:∀ (xs:aa V) (c:Nat) (σ:S) (ρ:Nat -> Loc) (us:aa Value),60000 <= c -> Rl w0 N af ρ σ a w -> us.length=xs.length -> (∀ (j:Nat) x u,xs[j]?=some x -> us[j]?=some u -> RV w w0.heap.size af [c+j] x u) ->
  ∃ρ',Rl w0 N af ρ' (mh c σ xs) a w/\(∀r,r<c -> ρ' r=ρ r) /\ ∀(j:Nat) x u,(nW c xs)[j]?=some x -> us[j]?=some u -> dM w w0.heap.size af ρ' x u
 |[],c,σ,ρ,us,_,h,hl,E=>⟨ρ,h,λ_ _=>rfl,λj x u Y=>by simp[nW]at Y⟩
 | x :: xs,c,σ,ρ,us,hc,h,hl,E=>by
  cases us with
  |nil=>simp at hl
  | cons u us=>
   have I:=E 0 x u rfl rfl;rw[Nat.add_zero]at I;have zg:∀ (j:Nat) O T,xs[j]?=some O -> us[j]?=some T -> RV w w0.heap.size af [c+1+j] O T:=λj O T Y hu=>by
    have:=E (j+1) O T (by simpa using Y) (by simpa using hu)
    grind
   cases C:x.aG with
   | true=>
    obtain⟨ρ',Z,U,xo⟩:=Qh xs (c+1) σ ρ us (by omega) h (by simpa using hl) zg
    refine⟨ρ',?_,λr E=>U r (by omega),λj y v D hv=>?_⟩
    ·simp[mh,C];exact Z
    ·simp only[nW,C,au]at D;cases j with
     | zero=>
      simp at D hv;subst D hv;exact⟨C,I.key C⟩
     |succ j=>grind
   | false=>
    have fq:=I.Pw C;obtain⟨ρ',Z,U,xo⟩:=Qh xs (c+1) _ _ us (by omega) (h.new (d:=c) (x:=.sl x) (.dG u) (.sl u x (bK _ _ _) I) (h.cL c (.inr hc))) (by simpa using hl) zg
    refine⟨ρ',?_,λr E=>?_,λj y v D hv=>?_⟩
    ·simp[mh,C];exact Z
    ·rw[U r (by omega)];exact cr _ _ _ (by omega)
    ·simp only[nW,C,ax]at D;cases j with
     | zero=>
      simp at D hv;subst D hv;refine⟨fq,?_⟩;have:ρ' c = .dG u:=by rw[U c (by omega)];exact bK _ _ _
      simp[cQ,this]
     |succ j=>grind
def ahB(xs:aa V):∀ c,(nW c xs).length=xs.length:=by
 induction xs with
 |nil=>intro c;rfl
 |cons x xs C=>intro c;simp[nW,C]
end
def enters(P:Program)(f:Nat):Prop:=∃fn,P.funcs[f]?=some fn/\(fn.name == "runtime.NumGoroutine")=false/\fn.body.isNone=false
/-! What a function gives back. -/
def KE:A->aj (Bool×aa Lf)
 |.lf x=>some (false,[x])
 |.agg xs=>some (true,xs)
 |_=>none
def sJ{X:Type}(P:Program)(σ:S):aa ResultVar->(aa (Bool×aa Lf)->aj X)->aj X
 |[],k=>k []
 | .tmp t :: rest,k=>(match KE (σ.t t)with
  |some p=>sJ P σ rest λps=>k (p::ps)
  |none=>none)
 | .cell p ty :: rest,k=>nQ P σ ty (σ.t p) λx=>(match KE x with
  |some p=>sJ P σ rest λps=>k (p::ps)
  |none=>none)
def Qi(m:Nat->aj aS):Lf->aj (V×aj Nat)
 |.v x=>bif x.loc&&x.aG then some (x,none)else none
 | .own [r]=>match m r with
  |some (.sl y)=>bif y.loc then some (y,some r)else none
  |_=>none
 |_=>none
def F7(m:Nat->aj aS)(off:Nat):aa Lf->aj (aa V×aa (Nat×Nat))
 |[]=>some ([],[])
 | x :: xs=>match Qi m x,F7 m (off+1) xs with
  |some (y,none),some (ys,rs)=>some (y::ys,rs)
  |some (y,some r),some (ys,rs)=>some (y::ys,(r,off)::rs)
  |_,_=>none
def Dw(m:Nat->aj aS)(off:Nat):aa (Bool×aa Lf)->aj (aa Pt×aa (Nat×Nat))
 |[]=>some ([],[])
 | p :: ps=>match F7 m off p.2,Dw m (off+p.2.length) ps with
  |some (C,rs),some (D,E)=>some ((p.1,C)::D,rs++E)
  |_,_=>none
def once(rs:aa (Nat×Nat)):Bool:=rs.all λp=>(rs.lookup p.1).any λn=>Nat.beq n p.2
def F8{X:Type}(P:Program)(σ:S)(fn:Array ResultVar)(k:fV->aj X):aj X:=
 sJ P σ fn.toList λps=>match Dw σ.m 0 ps with
  | some (qs,rs)=>bif once rs then (match qs with
   |[p]=>k (.one p)
   |qs=>k (.eY qs))else none
  |none=>none
section
variable {P:Program} {w w':World} {w0:Wd} {B N:Nat} {af aA:bk} {ρ ρ':Nat->Loc} {σ:S} {a:Act} {X:Type} {d:Nat} {r:X} {o:Oper}
def Xr:∀ (xs:aa V) (c:Nat) (j:Nat) x u,(nW c xs)[j]?=some x -> dM w B af ρ x u -> (∀ r,r<c+xs.length -> ρ' r=ρ r) -> dM w B af ρ' x u
 |[],c,j,x,u,D,_,_=>by simp[nW]at D
 | y :: ys,c,j,x,u,D,C,E=>by
  cases j with
  | zero=>
   simp[nW,List.getElem?_cons_zero,iB]at D;subst D;cases I:y.aG with
   |true=>rw[I]at C;simp;exact C
   | false=>
    rw[I]at C;refine⟨C.1,?_⟩;have:=C.2;simp[cQ,E c (by simp)]at this ⊢;exact this
  | succ j=>
   exact Xr ys _ j x u D C (λr h=>E r (by simp;omega))
def PV.cells{key:Nat -> aa Nat}{p:Pt}{u:Value}(h:PV w B af key p u):∃ us:aa Value,us.length=p.2.length/\(∀ (j:Nat) x v,p.2[j]?=some x -> us[j]?=some v -> RV w B af (key j) x v) /\
  ∀(ρ:Nat -> Loc) (C:aa Lf),C.length=p.2.length -> (∀(j:Nat) x v,C[j]?=some x -> us[j]?=some v -> dM w B af ρ x v) -> RP w B af ρ (p.1,C) u:=by
 obtain⟨us,D,E,Y⟩:=h;obtain⟨b,xs⟩:=p
 refine⟨us.toList,by simpa using E,λj x v I hv=>?_,λρ C hl U=>?_⟩
 ·grind
 ·have O:eI w B af ρ C us:=⟨by rw[E,hl],λj x I=>by
   have T:j<us.size:=by rw[E,<- hl];exact(dK.1 I).1
   exact⟨us[j],Array.getElem?_eq_getElem T,U j x _ I (by rw[Array.getElem?_toList,Array.getElem?_eq_getElem T])⟩⟩
  cases b with
  |true=>exact⟨us,D,O⟩
  |false=>have D:=D;subst D;exact O
def F9:∀ (ps:aa Pt) (c0 off:Nat) (σ:S) (ρ:Nat -> Loc) (C:aa Value),60000 <= c0 -> Rl w0 N af ρ σ a w -> jI w w0.heap.size af (λn=>c0+n) off ps C ->
  ∃ρ',Rl w0 N af ρ' (nX (c0+off) σ ps) a w/\(∀r,r<c0+off -> ρ' r=ρ r)/\C.length=(sH (c0+off) ps).length /\ ∀(i:Nat) p v,(sH (c0+off) ps)[i]?=some p -> C[i]?=some v -> RP w w0.heap.size af ρ' p v
 | [],c0,off,σ,ρ,C,_,h,D=>by
  cases C with
  |nil=>exact⟨ρ,h,λ_ _=>rfl,rfl,λi p v hp=>by simp[sH]at hp⟩
  |cons v C=>exact D.elim
 | p :: ps,c0,off,σ,ρ,C,Y,h,D=>by
  cases C with
  |nil=>exact D.elim
  | cons v C=>
   obtain⟨⟨_,hp⟩,D⟩:=D;obtain⟨us,hl,Z,vr⟩:=hp.cells;obtain⟨Dy,h1,Qj,xo⟩:=Qh p.2 (c0+off) σ ρ us (by omega) h hl (λj x u I E=>by
    have:RV w _ af [c0+(off+j)] x u:=Z j x u I E;rw[<- Nat.add_assoc]at this;exact this)
   obtain⟨fe,T,O,hlen,U⟩:=F9 ps c0 (off+p.2.length) (mh (c0+off) σ p.2) Dy C Y h1 D;rw[<- Nat.add_assoc]at T O hlen U
   refine⟨fe,T,λr D=>(O r (by omega)).trans (Qj r D),by simp[sH,hlen],λi q u hq E=>?_⟩
   cases i with
   | zero=>
    simp[sH,List.getElem?_cons_zero,iB]at hq E;subst hq E
    refine vr fe _ (ahB _ _) (λj x u I E=>Xr p.2 _ j x u I (xo j x u I E) O)
   | succ i=>
    simp[ List.getElem?_cons_succ]at hq E;exact U i q u hq E
def jI.home{nm:Nat -> Nat}:∀ (ps:aa Pt) (off:Nat) (C:aa Value) {B':Nat},jI w B af nm off ps C -> B' <= B -> (∀ b,B <= b -> aA b=af b) -> (∀ b k,af b=some k -> B <= b) -> jI w B' aA nm off ps C
 |[],_,[],_,h,_,_,_=>h
 | p :: ps,off,v :: C,B',h,hB,hl,hg=>by
  obtain⟨⟨D,us,I,O,T⟩,U⟩:=h
  refine⟨⟨D,us,I,O,λj x E=>?_⟩,jI.home ps _ C U hB hl hg⟩
  obtain⟨Y,Z,fJ⟩:=T j x E;exact⟨Y,Z,fJ.home hB hl hg (bT.1 D x (gC E))⟩
def KF(w:World)(o:Oper)(a:Act)(f:Nat)(args:Array Operand)(D:Array TypeId)(E:o.op = .call { callee:=.value (.func f),args,argTypes:=D })(I:enters P f):(execOp a.eval o).run P w = .ok (.enter f (args.map a.eval)) w:=by
 obtain⟨fn,O,T,C⟩:=I;have U:¬ fn.name = "runtime.NumGoroutine":=by simpa using T
 have Y:¬ fn.body=none:=by intro e;rw[e]at C;cases C
 simp[execOp,E,resolve,Act.eval,Deferred.ofValue,invoke,callFunc,Sem.run,O,U,Y]
def ahC{f:Nat}{args:Array Operand}{jJ:Array TypeId}{c:jn}{k:S->aj X}(ho:o.op = .call { callee:=.value (.func f),args,argTypes:=jJ })(hd:o.dst=some d)(he:enters P f)(hc:iO P f c)(xq:d<N){ps:aa Pt}(tZ:∀ af ρ a w,Rl w0 N af ρ σ a w->oR w ps (args.toList.map a.eval).toArray)
  (h2:(c.run X ps λE=>ni σ d E k)=some r):∃c8,k c8=some r/\kW P w0 N o σ c8:=by
 obtain⟨E,I,KG⟩:=(hc.1 ps).lM h2;have Ga:=hc.2 ps E (KG _ _);unfold ni at I;have step:∀ a w K Q af ρ,Rl w0 N af ρ σ a w->(∀ v w' aA,Below w.heap.size w w'->Rl w0 N aA ρ σ a w'->p7 w' w0.heap.size aA (λn=>1000000000100000+1000*d+n) E v->K (a.put o.dst v) w')->o.wp P a w K Q:=by
  intro a w K Q af ρ C U;unfold Oper.wp;rw[KF w o a f args jJ ho he,Oper.upon_enter];have xu:(args.map a.eval)=(args.toList.map a.eval).toArray:=by apply Array.ext';rw[Array.toList_map]
  rw[xu]
  refine(Ga (λn=>1000000000100000+1000*d+n) w _ (tZ af ρ a w C) (w0.on C.below (λ_ _ h=>by cases h))).mono λe w' q9=>?_
  obtain⟨v,Dz,rfl,Y,Z,O⟩:=q9;have hB:=C.below.size;let dz:bk:=λb=>if b<w.heap.size then af b else Dz b
  have e1:∀b,b<w.heap.size->dz b=af b:=λb hb=>aV hb
  have e2:∀b,w.heap.size<=b->dz b=Dz b:=λb hb=>aW
  refine U v w' dz Y (C.grow Y e1 (λb k hb T=>?_)) ?_
  ·rw[e2 b hb]at T;exact(Z b k T).2
  ·cases E with
   |one p=>exact jI.home [p] 0 [v] O hB e2 (λb k T=>(Z b k T).1)
   | eY xw=>
    obtain⟨D,e,hv⟩:=O;exact⟨D,e,jI.home xw 0 D.toList hv hB e2 (λb k T=>(Z b k T).1)⟩
 cases E with
 | one p=>
  simp only at I;split at I
  ·rename_i y hy
   refine⟨_,I,λa w K Q C U=>?_⟩
   obtain⟨af,ρ,C⟩:=C
   refine step a w K Q af ρ C λv w' aA Y dU O=>?_
   obtain⟨ρ',nj,_,_,p9⟩:=F9 [p] (1000000000100000+1000*d) 0 σ ρ [v] (by omega) dU O;rw[hd];have Ql:=p9 0 _ v rfl rfl;exact U _ _ ⟨aA,ρ',nj.set (PO hy Ql) xq⟩
  ·cases I
 | eY xw=>
  refine⟨_,I,λa w K Q C U=>?_⟩
  obtain⟨af,ρ,C⟩:=C
  refine step a w K Q af ρ C λv w' aA Y dU O=>?_
  obtain⟨D,rfl,hv⟩:=O;obtain⟨ρ',nj,_,hlen,p9⟩:=F9 xw (1000000000100000+1000*d) 0 σ ρ D.toList (by omega) dU hv;rw[hd]
  refine U _ _ ⟨aA,ρ',nj.set ⟨D,rfl,by simpa using hlen,λj p hp=>?_⟩ xq⟩
  have hj:j<D.size:=by
   have:=(dK.1 hp).1;rw[Nat.add_zero]at hlen;rw[<-hlen]at this
   simpa using this
  exact⟨D[j],Array.getElem?_eq_getElem hj,p9 j p _ hp (by rw[Array.getElem?_toList,Array.getElem?_eq_getElem hj])⟩
def Xs{f:Nat}{args:Array Operand}{D:Array TypeId}{c:jn}{k:S->aj X}{ev:(aa Pt->aj X)->aj X}(E:o.op = .call { callee:=.value (.func f),args,argTypes:=D })(hd:o.dst=some d)(I:enters P f)(O:iO P f c)
  (T:∀k,ev k=some r->∃ps,k ps=some r/\∀af ρ a w,Rl w0 N af ρ σ a w->oR w ps (args.toList.map a.eval).toArray) (h:sI N σ d c ev k=some r):∃C,k C=some r/\kW P w0 N o σ C:=by
 unfold sI at h;cases hN:Nat.blt d N with
 |false=>rw[hN]at h;cases h
 | true=>
  rw[hN,au]at h;obtain⟨ps,U,Y⟩:=T _ h;exact ahC E hd I O (cz hN) Y U
end
def eE(af:bk)(rs:aa (Nat×Nat))(nm:Nat->Nat):bk:=λb=>
 match af b with
 |none=>none
 | some k=>match k.getLast? with
  |none=>none
  |some r=>(rs.lookup r).map λn=>k.dropLast++[nm n]
section
variable {P:Program} {w w':World} {w0:Wd} {B N:Nat} {af aA:bk} {ρ ρ':Nat->Loc} {σ:S} {a:Act} {X:Type} {d:Nat} {r:X} {rs:aa (Nat×Nat)} {nm:Nat->Nat}
def zl{b:Nat}(h:af b=none):eE af rs nm b=none:=by simp[eE,h]
def RV.eE{p:aa Nat}{r n:Nat}{x:V}{v:Value}(h:RV w B af (p++[r]) x v)(D:rs.lookup r=some n):RV w B (eE af rs nm) (p++[nm n]) x v:=
 h.map (Q:=λq C=>∃ p,q=p++[r]/\C=p++[nm n]) (dB _) (λb _ h=>⟨rfl,zl h⟩) (λb q C _ hl e=>by
  obtain⟨p,rfl,rfl⟩:=e;exact⟨rfl,by simp[Proofs.YtpigmalhjkekiaaGreat.eE,hl,D],λj i s=>⟨j::i::s::p,rfl,rfl⟩⟩) (.inr ⟨p,rfl,rfl⟩)
def Qm{m:Nat -> aj aS}:∀ (xs:aa Lf) (off:Nat) (ys:aa V) (E:aa (Nat×Nat)),F7 m off xs=some (ys,E) -> ys.length=xs.length /\ ∀ (j:Nat) x,xs[j]?=some x -> ∃ y,ys[j]?=some y/\y.loc=true/\((x = .v y/\y.aG=true) \/ ∃ r,x = .own [r]/\m r=some (.sl y)/\(r,off+j)∈E)
 | [],off,ys,E,h=>by
  simp only[F7,iB,Prod.mk.injEq]at h;obtain⟨rfl,rfl⟩:=h;exact⟨rfl,λj x C=>by simp at C⟩
 | x :: xs,off,ys,E,h=>by
  have Z:∀ y z,Qi m x=some (y,z) -> y.loc=true/\((z=none/\x = .v y/\y.aG=true) \/ ∃ r,z=some r/\x = .own [r]/\m r=some (.sl y)):=by
   intro y z D;unfold Qi at D
   grind
  unfold F7 at h;split at h
  ·rename_i y I O T U;simp only[iB,Prod.mk.injEq]at h;obtain⟨rfl,rfl⟩:=h;obtain⟨Y,h2⟩:=Qm xs (off+1) I O U
   refine⟨by simp[Y],λj x' C=>?_⟩
   cases j with
   | zero=>
    simp at C;subst C;obtain⟨hl,D|⟨r,D,_⟩⟩:=Z y none T
    ·simp_all
    ·cases D
   |succ j =>grind
  ·rename_i y r I O T U;simp only[iB,Prod.mk.injEq]at h;obtain⟨rfl,rfl⟩:=h;obtain⟨Y,h2⟩:=Qm xs (off+1) I O U
   refine⟨by simp[Y],λj x' C=>?_⟩
   cases j with
   | zero=>
    simp at C;subst C;obtain⟨hl,D|⟨r',D,e1,e2⟩⟩:=Z y (some r) T
    ·cases D.1
    ·simp_all
   |succ j =>grind
  ·cases h
def Qn{m:Nat -> aj aS}(hm:∀ r x,m r=some x -> dW w B af ρ r x):∀ (ps:aa (Bool×aa Lf)) (off:Nat) (I:aa Pt) (O:aa (Nat×Nat)) (C:aa Value),Dw m off ps=some (I,O) -> (∀ p∈O,rs.lookup p.1=some p.2) -> C.length=ps.length ->
  (∀(i:Nat) p v,ps[i]?=some p -> C[i]?=some v -> RP w B af ρ p v) -> jI w B (eE af rs nm) nm off I C
 | [],off,I,O,C,h,_,hl,_=>by
  have:C=[]:=vb hl;subst this;simp only[Dw,iB,Prod.mk.injEq]at h;obtain⟨rfl,rfl⟩:=h;trivial
 | p :: ps,off,I,O,C,h,jK,hl,hp=>by
  cases C with
  |nil=>simp at hl
  | cons v C=>
   unfold Dw at h;split at h
   ·rename_i ys rs1 qs' Bm h1 h2;simp only[iB,Prod.mk.injEq]at h;obtain⟨rfl,rfl⟩:=h;obtain⟨hlen,J3⟩:=Qm _ _ _ _ h1;have zg:=Qn hm ps _ qs' Bm C h2 (λq hq=>jK q (List.mem_append_right _ hq)) (by simpa using hl) (λi q u hq hu=>hp (i+1) q u (by simpa using hq) (by simpa using hu));have mj:=hp 0 p v rfl rfl;have key:∀ us:Array Value,eI w B af ρ p.2 us -> (us.size=ys.length /\ ∀ (j:Nat) x,ys[j]?=some x -> ∃ u,us[j]?=some u/\RV w B (eE af rs nm) [nm (off+j)] x u):=by
     intro us T
     refine⟨by rw[hlen];exact T.1,λj y U=>?_⟩
     have Y:j<p.2.length:=by rw[<- hlen];exact(dK.1 U).1
     obtain⟨y',E,Qo,hz⟩:=J3 j _ (bJ Y);rw[U]at E;injection E with E;subst E;obtain⟨u,hu,Z⟩:=T.2 j _ (bJ Y);refine⟨u,hu,?_⟩;rcases hz with ⟨e,hf⟩|⟨r,e,hmr,vt⟩
     ·rw[e]at Z;exact(Z.2.J8 hf (λb=>zl)).key hf
     ·rw[e]at Z;have fl:=hm r _ hmr;generalize D:aS.sl y=z at fl;cases fl with
      |aB=>cases D
      |mp=>cases D
      |gh=>cases D
      | sl v' y' cm kY=>
       injection D with D;subst D;have Gb:v'=u:=by
        have h4:=Z.2;simp only[cQ,cm]at h4;simp_all
       subst Gb;exact RV.eE (p:=[]) kY (jK (r,off+j) (List.mem_append_left _ vt))
    refine⟨⟨?_,?_⟩,?_⟩
    ·rw[bT];intro y U;obtain⟨j,Y⟩:=List.mem_iff_getElem?.1 U;have wZ:j<p.2.length:=by rw[<- hlen];exact(dK.1 Y).1
     obtain⟨y',E,Qo,_⟩:=J3 j _ (bJ wZ);simp_all
    ·obtain⟨b,xs⟩:=p;cases b with
     | true=>
      obtain⟨us,e,T⟩:=mj;obtain⟨k1,k2⟩:=key us T;exact⟨us,e,k1,k2⟩
     | false=>
      obtain⟨k1,k2⟩:=key #[v] mj;exact⟨#[v],rfl,k1,k2⟩
    ·grind
   ·cases h
def ahD{t:TypeId}{x:A}{k:A->aj X}(h:nQ P σ t x k=some r){u:Value}(C:RA w B af ρ x u):∃ ad,u = .pointer (some ad):=by
 unfold nQ at h;split at h
 ·cases h
 ·split at h
  ·obtain⟨b,off,_,rfl⟩:=C;exact⟨_,rfl⟩
  ·obtain⟨b,off,rfl,_⟩:=C;exact⟨_,rfl⟩
  ·obtain⟨ad,rfl,_⟩:=C;exact⟨_,rfl⟩
  ·cases h
def Xt{x:A}{p:Bool×aa Lf}(h:KE x=some p){u:Value}(D:RA w B af ρ x u):RP w B af ρ p u:=by
 unfold KE at h;split at h
 ·injection h with h;subst h
  refine⟨rfl,λj y C=>?_⟩
  cases j with
  |zero=>simp at C;subst C;exact⟨u,rfl,D⟩
  |succ j=>simp at C
 ·injection h with h;subst h;exact D
 ·cases h
def ri(tmps:Array Value):ResultVar->Sem Value
 |.tmp t=>pure (tmps.getD t undef)
 |.cell a t=>do loadVar t (<-asAddr (tmps.getD a undef))
def Gc:∀ (l:aa ResultVar) (k:aa (Bool×aa Lf) -> aj X),sJ P σ l k=some r -> ∃ ps,k ps=some r /\ ∀ af ρ a w,Rl w0 N af ρ σ a w -> ∃ C,(l.mapM (ri a.tmps)).run P w = .ok C w/\C.length=ps.length /\ ∀ (i:Nat) p v,ps[i]?=some p -> C[i]?=some v -> RP w w0.heap.size af ρ p v
 |[],k,h=>⟨[],h,λ_ _ _ _ _=>⟨[],rfl,rfl,λi p v hp=>by simp at hp⟩⟩
 | .tmp t :: rest,k,h=>by
  simp only[sJ]at h;split at h
  ·rename_i p hp;obtain⟨ps,O,T⟩:=Gc rest _ h
   refine⟨p::ps,O,λaf ρ a w D=>?_⟩
   obtain⟨C,U,hl,hv⟩:=T af ρ a w D
   refine⟨a.tmps.getD t undef::C,?_,by simp[hl],λi q u hq E=>?_⟩
   ·rw[List.mapM_cons];simp[ri,Sem.run_pure,l8,gd,U]
   ·cases i with
    |zero=>simp only[List.getElem?_cons_zero,iB]at hq E;subst hq E;exact Xt hp (D.tmp t)
    |succ i=>grind
  ·cases h
 | .cell c ty :: rest,k,h=>by
  simp only[sJ]at h;obtain⟨y,Y,hld⟩:=WQ (w0:=w0) (N:=N) h;split at Y
  ·rename_i p hp;obtain⟨ps,O,T⟩:=Gc rest _ Y
   refine⟨p::ps,O,λaf ρ a w D=>?_⟩
   obtain⟨C,U,hl,hv⟩:=T af ρ a w D;obtain⟨v,I,xm⟩:=hld af ρ a w D _ (D.tmp c);obtain⟨ad,Z⟩:=ahD h (D.tmp c);rw[Z]at I;have I:(loadVar ty ad).run P w = .ok v w:=by
    simpa [Instr.loadAt,Instr.sureAddr]using I
   refine⟨v::C,?_,by simp[hl],λi q u hq E=>?_⟩
   ·rw[List.mapM_cons];simp[ri,Z,asAddr,Sem.run_pure,l8,gd,U,I]
   ·cases i with
    |zero=>simp at hq E;subst hq E;exact Xt hp xm
    |succ i=>grind
  ·cases Y
def ahE{fn:Func}{k:fV -> aj X}(h:F8 P σ fn.results k=some r):∃ res,k res=some r /\ ∀ af ρ a w,Rl w0 N af ρ σ a w -> ∀ nm,∃ v aA,(results fn a.tmps).run P w = .ok v w/\(∀ b k,aA b=some k -> (w0.heap.size <= b \/ w0.L b≠none)/\b<w.heap.size/\k≠[])/\p7 w w0.heap.size aA nm res v:=by
 unfold F8 at h;obtain⟨ps,O,p9⟩:=Gc (w0:=w0) (N:=N) _ _ h;clear h;split at O
 ·rename_i U rs Qp;cases ho:once rs with
  |false=>grind
  | true=>
   rw[ho,au]at O;have jK:∀ p∈rs,rs.lookup p.1=some p.2:=by
    intro p hp;have:=bT.1 ho p hp;obtain⟨n,hn,he⟩:=(Option.any_eq_true _ _).1 this;simp_all
   have core:∀ af ρ a w,Rl w0 N af ρ σ a w -> ∀ nm:Nat -> Nat,∃ C:aa Value,(fn.results.mapM (ri a.tmps)).run P w = .ok C.toArray w/\(∀ b k,eE af rs nm b=some k -> (w0.heap.size <= b \/ w0.L b≠none)/\b<w.heap.size/\k≠[])/\jI w w0.heap.size (eE af rs nm) nm 0 U C:=by
    intro af ρ a w I nm;obtain⟨C,T,hl,hv⟩:=p9 af ρ a w I
    refine⟨C,?_,λb k E=>?_,Qn I.root ps 0 U rs C Qp jK hl hv⟩
    ·rw[Array.mapM_eq_mapM_toList];simp[T]
    ·unfold eE at E;split at E
     ·cases E
     ·rename_i k' kJ;have:=I.cV b k' kJ;split at E
      ·cases E
      ·cases ua:rs.lookup _ with
       |none=>rw[ua]at E;cases E
       | some n=>
        rw[ua]at E;injection E with E;subst E;simp_all
   have ki:∀ (tmps:Array Value),results fn tmps=(do let C <- fn.results.mapM (ri tmps);pure (if h:C.size=1 then C[0]else .tuple C)):=λtmps=>by
    unfold results;congr 1
   split at O
   ·rename_i p
    refine⟨_,O,λaf ρ a w I nm=>?_⟩
    obtain⟨C,T,Y,D⟩:=core af ρ a w I nm
    match C,D with
    |[v],D=>exact⟨v,_,by rw[ki,gd,T];rfl,Y,D⟩
    |[],D=>exact D.elim
    |_::_::_,D=>exact D.2.elim
   ·rename_i Z
    refine⟨_,O,λaf ρ a w I nm=>?_⟩
    obtain⟨C,T,Y,D⟩:=core af ρ a w I nm;have iy:C.toArray.size≠1:=by
     intro e
     match U,C,D,Z with
     |[q],[v],_,Z=>exact Z q rfl
     |[],[v],D,_=>exact D.elim
     |_::_::_,[v],D,_=>exact D.2.elim
    refine⟨.tuple C.toArray,_,?_,Y,C.toArray,rfl,D⟩;rw[ki,gd,T,l8];simp only[iy,dif_neg,not_false_eq_true,Sem.run_pure]
 ·cases O
end
inductive In where
 |aB (cs:List V)
 |sl (y:V)
def nF(i:Nat):Nat:=20000+1000*i
def nC(i j:Nat)(x:V):Nat:=bif x.aG then 20001+1000*i+j else 60000+1000*i+j
def zm(i j:Nat)(x:V):Lf:=bif x.plain then .v x else .own [nC i j x]
def zn(i:Nat):Nat->aa V->aa Lf
 |_,[]=>[]
 |j,x::xs=>zm i j x::zn i (j+1) xs
def Qq(i:Nat):Nat->aa V->(Nat->aj aS)->(Nat->aj aS)
 |_,[],m=>m
 |j,x::xs,m=>Qq i (j+1) xs (bif x.plain then m else bG m (nC i j x) (some (.sl x)))
def KH:Nat->aa In->(Nat->aj aS)->(Nat->aj aS)
 |_,[],m=>m
 |i,.aB cs::r,m=>KH (i+1) r (Qq i 0 cs (bG m (nF i) (some (.aB (zn i 0 cs)))))
 |i,.sl y::r,m=>KH (i+1) r (bG m (nF i) (some (.sl y)))
inductive Ar where
 |pt (p:Pt)
 |mut (i off:Nat)
def Qr(C:aa In):Ar->A
 |.pt (false,[x])=>.lf (.v x)
 |.pt (true,xs)=>.agg (xs.map .v)
 |.pt (false,.bool false::.int .i64 g::c::cs)=>.m7 g.toNat (c::cs)
 |.pt _=>.undef
 | .mut i off=>match C[i]? with
  |some (.aB _)=>.aL (nF i) off
  |some (.sl _)=>.lf (.own [nF i])
  |none=>.undef
def xx(C:aa In)(args:aa Ar):S:=⟨λk=>match args[k]? with
 |some x=>Qr C x
 |none=>.undef,KH 0 C (λ_=>none)⟩
def rj(w w':World)(aA:bk)(ρ:Nat->Loc)(nm:Nat->Nat):Nat->Nat->aa In->aa In->Prop
 |_,_,[],[]=>True
 | i,D,.aB cs :: r,.aB eV :: I=>(∃ b off cells O e U,ρ (nF i) = .aB b off/\w.heap[b]?=some (.cells cells e (0,0))/\w'.heap[b]?=some (.cells O U (0,0))/\aA b=some [nm D]/\off+eV.length<=O.size/\eV.length=cs.length/\
   ∀(j:Nat) C,eV[j]?=some C->∃u,O[off+j]?=some u/\((C.plain=true/\∀(w:World) (B:Nat) (af:bk) (q:aa Nat),RV w B af q C u)\/(C = .nil/\u = .slice none 0 0/\∃E,cs[j]?=some E/\E.aG=false)\/(C.plain=false/\C.aG=true/\C.kf=true/\(∃E,cs[j]?=some E/\Wk E C)/\cells[off+j]?=some u)\/(C.aG=false/\RV w' w.heap.size aA [nm (D+1+j)] C u)))/\
   rj w w' aA ρ nm (i+1) (D+1+cs.length) r I
 |i,D,.sl y::r,.sl T::I=>(T = .nil\/∃v,ρ (nF i) = .dG v/\RV w' w.heap.size aA [nm D] T v)/\rj w w' aA ρ nm (i+1) (D+1) r I
 |_,_,_,_=>False
def Gd(w w':World)(aA:bk)(ρ:Nat->Loc)(nm:Nat->Nat):Nat->Nat->aa In->aa In->Prop
 |_,_,[],[]=>True
 | i,D,.aB cs :: r,.aB eV :: E=>(∃ b off cells I e T,ρ (nF i) = .aB b off/\w.heap[b]?=some (.cells cells e (0,0))/\w'.heap[b]?=some (.cells I T (0,0))/\aA b=some [nm D]/\off+eV.length<=I.size/\eV.length=cs.length/\
   ∀(j:Nat) C,eV[j]?=some C->∃u,I[off+j]?=some u/\((C.plain=true/\∀(w:World) (B:Nat) (af:bk) (q:aa Nat),RV w B af q C u)\/(C.plain=false/\C.aG=true/\cells[off+j]?=some u)\/(C.aG=false/\RV w' w.heap.size aA [nm (D+1+j)] C u)))/\
   Gd w w' aA ρ nm (i+1) (D+1+cs.length) r E
 |i,D,.sl y::r,.sl O::E=>(O = .nil\/∃v,ρ (nF i) = .dG v/\RV w' w.heap.size aA [nm D] O v)/\Gd w w' aA ρ nm (i+1) (D+1) r E
 |_,_,_,_=>False
def fV.len:fV->Nat
 |.one p=>p.2.length
 |.eY ps=>(ps.map λp=>p.2.length).sum
def oS(w:World)(B:Nat)(af:bk)(ρ:Nat->Loc):Nat->aa In->Prop
 |_,[]=>True
 |i,.aB cs::r=>dW w B af ρ (nF i) (.aB (zn i 0 cs))/\(∀(j:Nat) x,cs[j]?=some x->x.plain=false->dW w B af ρ (nC i j x) (.sl x))/\oS w B af ρ (i+1) r
 |i,.sl y::r=>dW w B af ρ (nF i) (.sl y)/\oS w B af ρ (i+1) r
/-! The end: what is given back,and what the written parameters hold. -/
def Qt(m:Nat->aj aS)(i j:Nat)(C:V):Lf->aj (V×aj Nat)
 |.v x=>bif x.plain then some (x,none)else (bif !x.kf && !C.aG then some (.nil,none)else none)
 | .own [r]=>match m r with
  |some (.sl y)=>bif y.aG then (bif !C.plain&&(C.aG&&C.kf)&&Nat.beq r (20001+1000*i+j)&&Nat.blt r 60000 then some (C,none)else none)else (bif y.loc then some (y,some r)else none)
  |_=>none
 |_=>none
def Bn(m:Nat->aj aS)(i C:Nat):Nat->aa V->aa Lf->aj (aa V×aa (Nat×Nat))
 |_,[],[]=>some ([],[])
 | j,D :: xs,l :: E=>match Qt m i j D l,Bn m i C (j+1) xs E with
  |some (y,none),some (ys,rs)=>some (y::ys,rs)
  |some (y,some r),some (ys,rs)=>some (y::ys,(r,C+1+j)::rs)
  |_,_=>none
 |_,_,_=>none
def V.gone:V->Bool
 |.sl _ o _ _=>Nat.ble 1000000 o
 |_=>false
def zo(m:Nat->aj aS):Nat->Nat->aa In->aj (aa In×aa (Nat×Nat))
 |_,_,[]=>some ([],[])
 | i,C,.aB cs :: r=>match bif Nat.blt (nF i) 60000 then m (nF i)else none with
  | some (.aB I)=>match Bn m i C 0 cs I,zo m (i+1) (C+1+cs.length) r with
   |some (eV,rs),some (os,D)=>some (.aB eV::os,(nF i,C)::(rs++D))
   |_,_=>none
  |_=>none
 | i,C,.sl O :: r=>bif O.gone then (match zo m (i+1) (C+1) r with
   |some (os,D)=>some (.sl .nil::os,D)
   |none=>none)else match bif Nat.blt (nF i) 60000 then m (nF i)else none with
  | some (.sl E)=>bif E.loc && !E.aG then (match zo m (i+1) (C+1) r with
   |some (os,D)=>some (.sl E::os,(nF i,C)::D)
   |none=>none)else none
  |_=>none
def Ge{X:Type}(P:Program)(σ:S)(fn:Array ResultVar)(C:aa In)(k:aa In->fV->aj X):aj X:=
 sJ P σ fn.toList λps=>match Dw σ.m 0 ps with
  | some (qs,rs)=>match zo σ.m 0 (qs.map λp=>p.2.length).sum C with
   | some (os,D)=>bif once (rs++D)then (match qs with
    |[p]=>k os (.one p)
    |qs=>k os (.eY qs))else none
   |none=>none
  |none=>none
/-! Types of parameters and results. -/
def iI:aa (Bool×TC×Nat)->Type
 |[]=>ah
 |[(_,t,_)]=>T t
 |(_,t,_)::r=>T t×iI r
def uc:(l:aa (Bool×TC×Nat))->iI l->aa Pt
 |[],_=>[]
 |[(b,t,g)],x=>[(b,enc t g x)]
 |(b,t,g)::q::r,x=>(b,enc t g x.1)::uc (q::r) x.2
def qa:(l:aa (Bool×TC×Nat))->aa Pt->aj (iI l)
 |[],[]=>some ()
 |[(b,t,g)],[(C,D)]=>bif b==C then dec t g D else none
 | (b,t,g) :: q :: r,(C,D) :: ps=>bif b==C then (match dec t g D,qa (q :: r) ps with
  |some x,some xs=>some (x,xs)
  |_,_=>none)else none
 |_,_=>none
def lQ(l:aa (Bool×TC×Nat)):fV->aj (iI l)
 |.one p=>qa l [p]
 |.eY ps=>bif Nat.beq ps.length 1 then none else qa l ps
def eT(l:aa (Bool×TC×Nat))(x:iI l):fV:=
 match uc l x with
 |[p]=>.one p
 |ps=>.eY ps
inductive PK where
 |v (b:Bool) (t:TC)
 |p (t:TC) (g off:Nat)
 |s (t:TC) (g:Nat)
def kZ:aa PK->Type
 |[]=>ah
 |.v _ t::r=>T t×kZ r
 |.p t _ _::r=>T t×kZ r
 |.s t _::r=>aa (T t)×kZ r
def rm:aa (Bool×TC×Nat)->Type
 |[]=>ah
 |(true,t,_)::r=>T t×rm r
 |(false,t,_)::r=>aa (T t)×rm r
def iP:(l:aa (Bool×TC×Nat))->rm l->aa In
 |[],_=>[]
 |(true,t,g)::r,x=>.aB (enc t g x.1)::iP r x.2
 |(false,t,g)::r,x=>.sl (bif Nat.ble 1000000 g then .nil else .sl t (g+2) false x.1)::iP r x.2
def eF:aa PK->aa (Bool×TC×Nat)
 |[]=>[]
 |.v _ _::r=>eF r
 |.p t g _::r=>(true,t,g)::eF r
 |.s t g::r=>(false,t,g)::eF r
def nq:(l:aa PK)->kZ l->aa In
 |[],_=>[]
 |.v _ _::r,x=>nq r x.2
 |.p t g _::r,x=>.aB (enc t g x.1)::nq r x.2
 |.s t g::r,x=>.sl (.sl t (g+2) false x.1)::nq r x.2
def kj:(l:aa PK)->Nat->kZ l->aa Ar
 |[],_,_=>[]
 |.v b t::r,i,x=>.pt (b,enc t 0 x.1)::kj r i x.2
 |.p _ _ off::r,i,x=>.mut i off::kj r (i+1) x.2
 |.s _ _::r,i,x=>.mut i 0::kj r (i+1) x.2
structure nt where
 ps:List PK
 ro:List (Bool×TC×Nat)
 F:kZ ps->Option (iI ro×rm (eF ps))
def vu(P:Program)(f:Nat)(c:nt):Prop:=
 ∀ x y,c.F x=some y->∀ (nm:Nat->Nat) (w:World) (af:bk) (ρ:Nat->Loc) (bC:Array Value),oS w w.heap.size af ρ 0 (nq c.ps x)->(∀ b k,af b=some k->b<w.heap.size/\k≠[])->
     bC.size=c.ps.length->(∀i,RA w w.heap.size af ρ ((xx (nq c.ps x) (kj c.ps 0 x)).t i) (bC.getD i undef))->∀C:Hd w af,
     Calls P f bC w λe w'=>∃v aA,e = .returned v/\iX ⟨w,af,λ_=>none,C,λ_ _=>rfl⟩ w w'/\(∀b k,aA b=some k->(w.heap.size<=b\/af b≠none)/\b<w'.heap.size/\k≠[])/\p7 w' w.heap.size aA nm (eT c.ro y.1) v/\Gd w w' aA ρ nm 0 (eT c.ro y.1).len (nq c.ps x) (iP (eF c.ps) y.2)
def Gf(w:World)(ρ:Nat->Loc):Nat->aa In->Prop
 |_,[]=>True
 |i,.aB cs::r=>(∃b off cells e,ρ (nF i) = .aB b off/\w.heap[b]?=some (.cells cells e (0,0))/\∀(j:Nat) x,cs[j]?=some x->x.plain=false->x.aG=true->∃u,cells[off+j]?=some u/\ρ (20001+1000*i+j) = .dG u)/\Gf w ρ (i+1) r
 |i,.sl y::r=>(∃v,ρ (nF i) = .dG v)/\Gf w ρ (i+1) r
section
variable {P:Program} {w w':World} {w0:Wd} {B N:Nat} {af aA:bk} {ρ ρ':Nat->Loc} {σ:S} {a:Act} {X:Type} {d:Nat} {r:X} {rs:aa (Nat×Nat)} {nm:Nat->Nat}
def Qu{m:Nat -> aj aS}{i pos:Nat}:∀ (xs:aa V) (T:aa Lf) (D:Nat) (ys:aa V) (U:aa (Nat×Nat)),Bn m i pos D xs T=some (ys,U) -> ys.length=xs.length/\T.length=xs.length /\
  ∀(j:Nat) y,ys[j]?=some y -> ∃l x0,T[j]?=some l/\xs[j]?=some x0/\((l = .v y/\y.plain=true) \/ (l = .v .nil/\y = .nil/\x0.aG=false) \/ (l = .own [20001+1000*i+(D+j)]/\y=x0/\y.plain=false/\(y.aG&&y.kf)=true/\20001+1000*i+(D+j)<60000) \/ (∃q,l = .own [q]/\m q=some (.sl y)/\y.aG=false/\(q,pos+1+(D+j))∈U))
 | [],[],D,ys,U,h=>by
  simp only[Bn,iB,Prod.mk.injEq]at h;obtain⟨rfl,rfl⟩:=h;exact⟨rfl,rfl,λj y Z=>by simp at Z⟩
 |[],_::_,D,ys,U,h=>by simp[Bn]at h
 |_::_,[],D,ys,U,h=>by simp[Bn]at h
 | x0 :: xs,l :: T,D,ys,U,h=>by
  have hc:∀ y z,Qt m i D x0 l=some (y,z) -> (z=none/\l = .v y/\y.plain=true) \/ (z=none/\l = .v .nil/\y = .nil/\x0.aG=false) \/ (z=none/\l = .own [20001+1000*i+D]/\y=x0/\y.plain=false/\(y.aG&&y.kf)=true/\20001+1000*i+D<60000) \/ (∃ q,z=some q/\l = .own [q]/\m q=some (.sl y)/\y.aG=false):=by
   intro y z C;unfold Qt at C;split at C
   ·rename_i x;cases hp:x.plain with
    | false=>
     rw[hp,ax]at C;cases hb:(!x.kf && !x0.aG)with
     |false=>rw[hb]at C;cases C
     | true=>
      rw[hb,au]at C;simp only[iB,Prod.mk.injEq]at C;obtain⟨rfl,rfl⟩:=C;rw[aJ,fB,fB]at hb;have hx:x = .nil:=by
       cases x<;>first|rfl|(exact absurd hb.1 (by simp[V.kf]))
      subst hx;exact .inr (.inl ⟨rfl,rfl,rfl,hb.2⟩)
    |true =>grind
   ·rename_i q;split at C
    ·rename_i y1 hy1;cases hf:y1.aG with
     | true=>
      rw[hf,au]at C;cases hb:(!x0.plain&&(x0.aG&&x0.kf)&&Nat.beq q (20001+1000*i+D)&&Nat.blt q 60000)with
      |false=>rw[hb]at C;cases C
      | true=>
       rw[hb,au]at C;simp only[iB,Prod.mk.injEq]at C;obtain⟨rfl,rfl⟩:=C;rw[aJ,aJ,aJ,fB]at hb;obtain⟨⟨⟨b1,b2⟩,b3⟩,b4⟩:=hb;obtain rfl:=cN b3;exact .inr (.inr (.inl ⟨rfl,rfl,rfl,b1,b2,by have:=cz b4;omega⟩))
     | false=>
      rw[hf,ax]at C;cases hl:y1.loc with
      |false=>rw[hl]at C;cases C
      |true =>grind
    ·cases C
   ·cases C
  unfold Bn at h;split at h
  ·rename_i y Qv Qx Z F5;simp only[iB,Prod.mk.injEq]at h;obtain⟨rfl,rfl⟩:=h;obtain⟨h1,h2,h3⟩:=Qu xs T (D+1) Qv Qx F5
   refine⟨by simp[h1],by simp[h2],λj y' E=>?_⟩
   cases j with
   | zero=>
    simp at E;subst E;refine⟨l,x0,rfl,rfl,?_⟩;rcases hc y none Z with ⟨_,I,O⟩|⟨_,I,O,Y⟩|⟨_,I,O,Y,e4,e5⟩|⟨q,hq,_⟩
    ·simp[*]
    ·simp[*]
    ·exact .inr (.inr (.inl ⟨I,O,Y,e4,e5⟩))
    ·cases hq
   | succ j=>
    obtain⟨l',x',g1,g2,g3⟩:=h3 j y' (by simpa using E);rw[show D+1+j=D+(j+1) by omega]at g3;exact⟨l',x',by simpa using g1,by simpa using g2,g3⟩
  ·rename_i y q Qv Qx Z F5;simp only[iB,Prod.mk.injEq]at h;obtain⟨rfl,rfl⟩:=h;obtain⟨h1,h2,h3⟩:=Qu xs T (D+1) Qv Qx F5
   refine⟨by simp[h1],by simp[h2],λj y' E=>?_⟩
   cases j with
   | zero=>
    simp at E;subst E;refine⟨l,x0,rfl,rfl,?_⟩;rcases hc y (some q) Z with ⟨e0,_⟩|⟨e0,_⟩|⟨e0,_⟩|⟨q',hq,I,O,Y⟩
    ·cases e0
    ·cases e0
    ·cases e0
    ·injection hq with hq;subst hq;exact .inr (.inr (.inr ⟨q,I,O,Y,.head _⟩))
   | succ j=>
    obtain⟨l',x',g1,g2,g3⟩:=h3 j y' (by simpa using E);rw[show D+1+j=D+(j+1) by omega]at g3;exact⟨l',x',by simpa using g1,by simpa using g2,g3.imp id (λg=>g.imp id (λg=>g.imp id λ⟨q',I,O,Y,e4⟩=>⟨q',I,O,Y,.tail _ e4⟩))⟩
  ·cases h
def KI{w1:World}{Qy:Nat -> Loc}{m:Nat -> aj aS}(O:∀ r,20000 <= r -> r<60000 -> ρ r=Qy r)(T:∀ r x,m r=some x -> dW w w1.heap.size af ρ r x):
  ∀(ins:aa In) (i Y:Nat) (outs:aa In) (Z:aa (Nat×Nat)),zo m i Y ins=some (outs,Z) -> (∀p∈Z,rs.lookup p.1=some p.2) -> Gf w1 Qy i ins -> rj w1 w (eE af rs nm) Qy nm i Y ins outs
 | [],i,Y,outs,Z,h,E,he=>by
  simp only[zo,iB,Prod.mk.injEq]at h;obtain⟨rfl,rfl⟩:=h;trivial
 | .aB cs :: r,i,Y,outs,Z,h,E,he=>by
  unfold zo at h;cases hi:Nat.blt (nF i) 60000 with
  |false=>grind
  | true=>
   rw[hi,au]at h;have hi:=cz hi;split at h
   ·rename_i ls Qz;split at h
    ·rename_i eV rs1 os Bm h1 h2;simp only[iB,Prod.mk.injEq]at h;obtain⟨rfl,rfl⟩:=h;obtain⟨⟨b,off,cells,e,Xu,Qd,rq⟩,Gg⟩:=he;obtain⟨k1,k2,k3⟩:=Qu _ _ _ _ _ h1
     refine⟨?_,KI O T r (i+1) _ os Bm h2 (λp hp=>E p (.tail _ (List.mem_append_right _ hp))) Gg⟩
     have I:=T _ _ Qz;have QA:=O (nF i) (by unfold nF;omega) (by omega);generalize C:aS.aB ls=x at I;cases I with
     |sl=>cases C
     |mp=>cases C
     |gh=>cases C
     | aB b' Ba xy e' ls' us D hl hh hs hc=>
      injection C with C;subst C;rw[QA,Xu]at D;injection D with e1 e2;subst e1 e2
      refine⟨b,off,cells,xy,e,e',Xu,Qd,hh,?_,by rw[k1,<- k2];exact hs,k1,λj y hy=>?_⟩
      ·have:=E _ (List.Mem.head _);simp[eE,hl,this]
      ·obtain⟨l,x0,g1,g2,g3⟩:=k3 j y hy;obtain⟨c1,c2⟩:=hc j l g1;refine⟨_,c1,?_⟩;rw[eW]at g3;rcases g3 with ⟨rfl,hp⟩ | ⟨rfl,rfl,Ku⟩ | ⟨rfl,rfl,hp,zd,dI⟩ | ⟨q,rfl,hq,hf,vt⟩
       ·exact .inl ⟨hp,λ_ _ _ _=>c2.2.tR hp⟩
       ·exact .inr (.inl ⟨rfl,by have h9:=c2.2;generalize us j=u9 at h9 ⊢;cases h9;rfl,x0,g2,Ku⟩)
       ·rw[aJ]at zd;obtain⟨hf,hs0⟩:=zd;obtain⟨u,hu,ahF⟩:=rq j y g2 hp hf;refine .inr (.inr (.inl ⟨hp,hf,hs0,⟨y,g2,.same _⟩,?_⟩));have U:=c2.2;have QB:=O (20001+1000*i+j) (by omega) dI;simp only[cQ,QB,ahF]at U;simp_all
       ·refine .inr (.inr (.inr ⟨hf,?_⟩));have I:=T _ _ hq;generalize C:aS.sl y=x at I;cases I with
        |aB=>cases C
        |mp=>cases C
        |gh=>cases C
        | sl v y' D hr=>
         injection C with C;subst C;have U:=c2.2;simp only[cQ,D]at U;injection U with U;rw[<- U];exact RV.eE (p:=[]) hr (E _ (.tail _ (List.mem_append_left _ vt)))
    ·cases h
   ·cases h
 | .sl y :: r,i,Y,outs,Z,h,E,he=>by
  unfold zo at h;cases hg:y.gone with
  | true=>
   rw[hg,au]at h;split at h
   next os Bm h2=>simp at h;obtain⟨rfl,rfl⟩:=h;exact⟨.inl rfl,KI O T r _ _ os Bm h2 E he.2⟩
   ·cases h
  |false=>
  rw[hg,ax]at h;cases hi:Nat.blt (nF i) 60000 with
  |false=>grind
  | true=>
   rw[hi,au]at h;have hi:=cz hi;split at h
   ·rename_i y' F2;cases hl:(y'.loc && !y'.aG)with
    |false=>grind
    | true=>
     rw[hl,au]at h;split at h
     ·rename_i os Bm h2;simp only[iB,Prod.mk.injEq]at h;obtain⟨rfl,rfl⟩:=h;obtain⟨⟨v,hv⟩,Gg⟩:=he
      refine⟨.inr ⟨v,hv,?_⟩,KI O T r (i+1) _ os Bm h2 (λp hp=>E p (.tail _ hp)) Gg⟩
      have QA:=O (nF i) (by unfold nF;omega) (by omega);have I:=T _ _ F2;generalize C:aS.sl y'=x at I;cases I with
      |aB=>cases C
      |mp=>cases C
      |gh=>cases C
      | sl v' y'' D hr=>
       injection C with C;subst C;rw[QA,hv]at D;injection D with D;subst D;exact RV.eE (p:=[]) hr (E _ (.head _))
     ·cases h
   ·cases h
def ahG{w1:World}{Y:Nat -> Loc}{fn:Func}{T:aa In}{k:aa In -> fV -> aj X}(hw:w0.w=w1)(hF:∀ r,20000 <= r -> r<60000 -> w0.F r=some (Y r))(he:Gf w1 Y 0 T)(h:Ge P σ fn.results T k=some r):
  ∃outs res,k outs res=some r /\ ∀af ρ a w,Rl w0 N af ρ σ a w -> ∀nm,∃v aA,(results fn a.tmps).run P w = .ok v w/\(∀b k,aA b=some k -> (w0.heap.size <= b \/ w0.L b≠none)/\b<w.heap.size/\k≠[])/\p7 w w0.heap.size aA nm res v/\rj w1 w aA Y nm 0 res.len T outs:=by
 unfold Ge at h;obtain⟨ps,E,p9⟩:=Gc (w0:=w0) (N:=N) _ _ h;clear h;split at E
 ·rename_i qs QC Qp;split at E
  ·rename_i os QD hos;cases ho:once (QC++QD)with
   |false=>rw[ho]at E;cases E
   | true=>
    rw[ho,au]at E;generalize Xv:QC++QD=rs at ho;have jK:∀ p∈rs,rs.lookup p.1=some p.2:=by
     intro p hp;have:=bT.1 ho p hp;obtain⟨n,hn,he⟩:=(Option.any_eq_true _ _).1 this;simp_all
    have core:∀ af ρ a w,Rl w0 N af ρ σ a w -> ∀ nm:Nat -> Nat,∃ C:aa Value,(fn.results.mapM (ri a.tmps)).run P w = .ok C.toArray w/\(∀ b k,eE af rs nm b=some k -> (w0.heap.size <= b \/ w0.L b≠none)/\b<w.heap.size/\k≠[])/\jI w w0.heap.size (eE af rs nm) nm 0 qs C /\
      rj w1 w (eE af rs nm) Y nm 0 (qs.map λp=>p.2.length).sum T os:=by
     intro af ρ a w O nm;obtain⟨C,Z,hl,hv⟩:=p9 af ρ a w O
     refine⟨C,?_,λb k I=>?_,Qn O.root ps 0 qs QC C Qp (λp hp=>jK p (by rw[<- Xv];exact List.mem_append_left _ hp)) hl hv,
      KI (λr h1 E=>O.fix r _ (hF r h1 E)) (by rw[<- hw];exact O.root) T 0 _ os QD hos (λp hp=>jK p (by rw[<- Xv];exact List.mem_append_right _ hp)) he⟩
     ·rw[Array.mapM_eq_mapM_toList];simp[Z]
     ·unfold eE at I;split at I
      ·cases I
      ·rename_i k' kJ;have:=O.cV b k' kJ;split at I
       ·cases I
       ·cases ua:rs.lookup _ with
        |none=>rw[ua]at I;cases I
        | some n=>
         rw[ua]at I;injection I with I;subst I;simp_all
    have ki:∀ (tmps:Array Value),results fn tmps=(do let C <- fn.results.mapM (ri tmps);pure (if h:C.size=1 then C[0]else .tuple C)):=λtmps=>by
     unfold results;congr 1
    split at E
    ·rename_i p
     refine⟨_,_,E,λaf ρ a w O nm=>?_⟩
     obtain⟨C,Z,nY,D,U⟩:=core af ρ a w O nm;have U:rj w1 w (eE af rs nm) Y nm 0 (fV.one p).len T os:=by simpa [fV.len]using U
     match C,D with
     |[v],D=>exact⟨v,_,by rw[ki,gd,Z];rfl,nY,D,U⟩
     |[],D=>exact D.elim
     |_::_::_,D=>exact D.2.elim
    ·rename_i bY
     refine⟨_,_,E,λaf ρ a w O nm=>?_⟩
     obtain⟨C,Z,nY,D,U⟩:=core af ρ a w O nm;have iy:C.toArray.size≠1:=by
      intro e;clear U;have e:C.length=1:=by simpa using e
      match qs,C,D,bY,e with
      |[q],[v],_,bY,_=>exact bY q rfl
      |[],[v],D,_,_=>exact D.elim
      |_::_::_,[v],D,_,_=>exact D.2.elim
     refine⟨.tuple C.toArray,_,?_,nY,⟨C.toArray,rfl,D⟩,U⟩;rw[ki,gd,Z,l8];simp only[iy,dif_neg,not_false_eq_true,Sem.run_pure]
  ·cases E
 ·cases E
def Xw{i:Nat}:∀ (cs:aa V) (D:Nat) (m:Nat -> aj aS) (r:Nat) (x:aS),Qq i D cs m r=some x -> m r=some x \/ ∃ j y,cs[j]?=some y/\y.plain=false/\r=nC i (D+j) y/\x = .sl y
 |[],D,m,r,x,h=>.inl h
 | c :: cs,D,m,r,x,h=>by
  rcases Xw cs _ _ r x h with C|⟨j,y,C,I,O,T⟩
  ·cases hp:c.plain with
   |true=>simp_all
   | false=>
    rw[hp,ax]at C;by_cases E:r=nC i D c
    ·subst E;rw[bK]at C;injection C with C;exact .inr ⟨0,c,rfl,hp,rfl,C.symm⟩
    ·rw[cr _ _ _ E]at C;simp_all
  ·exact .inr ⟨j+1,y,by simpa using C,I,by rw[O];congr 1;omega,T⟩
def oS.roots:∀ (C:aa In) (i:Nat) (m:Nat -> aj aS),oS w B af ρ i C -> (∀ r x,m r=some x -> dW w B af ρ r x) -> ∀ r x,KH i C m r=some x -> dW w B af ρ r x
 |[],i,m,_,I,r,x,h=>I r x h
 | .aB cs :: C,i,m,O,I,r,x,h=>by
  obtain⟨Y,Z,T⟩:=O
  refine oS.roots C _ _ T (λr x E=>?_) r x h
  rcases Xw cs 0 _ r x E with U|⟨j,y,g1,g2,g3,g4⟩
  ·by_cases D:r=nF i
   ·subst D;rw[bK]at U;simp_all
   ·rw[cr _ _ _ D]at U;simp_all
  ·simp_all
 | .sl y :: C,i,m,O,I,r,x,h=>by
  obtain⟨Y,T⟩:=O
  refine oS.roots C _ _ T (λr x E=>?_) r x h
  by_cases D:r=nF i
  ·subst D;rw[bK]at E;simp_all
  ·rw[cr _ _ _ D]at E;simp_all
def QE{i:Nat}:∀ (cs:aa V) (C j:Nat) x,cs[j]?=some x->(zn i C cs)[j]?=some (zm i (C+j) x)
 |[],C,j,x,h=>by simp at h
 |c::cs,C,0,x,h=>by simp at h;subst h;rfl
 | c :: cs,C,j+1,x,h=>by
  simp only[zn,List.getElem?_cons_succ];rw[QE cs (C+1) j x (by simpa using h)];congr 2;omega
def oS.QF:∀ (C:aa In) (i:Nat),oS w B af ρ i C -> Gf w ρ i C
 |[],_,_=>trivial
 | .aB cs :: C,i,I=>by
  obtain⟨E,_,O⟩:=I;refine⟨?_,oS.QF C (i+1) O⟩;generalize D:aS.aB (zn i 0 cs)=x at E;cases E with
  |sl=>cases D
  |mp=>cases D
  |gh=>cases D
  | aB b off cells e ls us Y hl hh hs Z=>
   injection D with D;subst D
   refine⟨b,off,cells,e,Y,hh,λj x hj hp hf=>?_⟩
   obtain⟨c1,T⟩:=Z j _ (QE cs 0 j x hj);rw[eW]at T;refine⟨_,c1,?_⟩;have e1:zm i j x = .own [20001+1000*i+j]:=by simp[zm,hp,nC,hf]
   rw[e1]at T;have U:=T.2;simp only[cQ]at U;split at U
   ·simp_all
   ·cases U
 | .sl y :: C,i,I=>by
  obtain⟨E,O⟩:=I;refine⟨?_,oS.QF C (i+1) O⟩;cases E with
  |sl v y' Y hr=>simp_all
end
def cW(n:Nat):aa Nat->Bool
 |[]=>false
 |m::l=>Nat.beq n m ||cW n l
def ud{n:Nat}:∀ {l:aa Nat},cW n l=true ↔ n∈l
 |[]=>by simp[cW]
 | m :: l=>by
  simp only[cW,dQ,gv,ud];simp_all
def Xx{n:Nat}{l:aa Nat}(h:cW n l=false):n ∉ l:=λk=>by rw[ud.2 k]at h;cases h
def fQ(k l:aa Nat):Bool:=match k.getLast? with
 |some r=>cW r l
 |none=>false
def vw(ns cn:aa Nat):m8:=⟨λk=>fQ k cn ||(fQ k ns && !(Nat.beq k.length 1)),λk=>fQ k cn ||fQ k ns,λr=>cW r cn⟩
def Lf.de(ns cn:aa Nat):Lf->Lf:=Lf.cq (vw ns cn).l
def A.de(ns cn:aa Nat):A->A:=A.cq (vw ns cn)
def aS.de(ns cn:aa Nat):aS->aS:=aS.cq (vw ns cn)
def S.de(σ:S)(ns cn:aa Nat)(nr:aa (Nat×aS)):S:=⟨λk=>(σ.t k).de ns cn,λr=>match nr.lookup r with
 |some x=>some x
 |none=>bif cW r ns ||cW r cn then none else (σ.m r).map (aS.de ns cn)⟩
structure ue (w w':World) (af dz:bk) (ρ fe:Nat->Loc) (ns cn:List Nat):Prop where
 size:w.heap.size<=w'.heap.size
 same:∀b,b<w.heap.size->(∀k,af b=some k->fQ k ns=false)->w'.heap[b]?=w.heap[b]?/\dz b=af b
 eZ:∀r,cW r cn=false->fe r=ρ r
 af:∀b k,af b=some k->b<w.heap.size/\k≠[]
section
variable {P:Program} {w w':World} {w0:Wd} {B N:Nat} {af dz aA:bk} {ρ fe:Nat->Loc} {σ:S} {a:Act} {X:Type} {d:Nat} {r:X} {ns cn:aa Nat}
def Xy{j i s:Nat}{q l:aa Nat}(h:q≠[]):fQ (j :: i :: s :: q) l=fQ q l:=by
 cases q with
 |nil=>simp_all
 |cons x q=>simp[fQ]
def ue.tr(hv:ue w w' af dz ρ fe ns cn):Tr w w' af dz ρ fe (λk=>fQ k ns) (λr=>cW r cn):=
 ⟨hv.size,λb hb hl=>let e:=hv.same b hb (λk C=>by rw[hl]at C;cases C);⟨e.1,e.2.trans hl⟩,λb k hl C=>let e:=hv.same b (hv.af b k hl).1 (λE D=>by rw[hl]at D;injection D with D;subst D;exact C);⟨e.1,e.2.trans hl⟩,hv.eZ,λj i s x q=>Xy (by simp),λb hb=>absurd rfl (hv.af b [] hb).2⟩
def QG:(vw ns cn).OK (λk=>fQ k ns) (λr=>cW r cn):=by
 refine⟨λk D=>?_,λk D=>?_,λ_ h=>h⟩
 ·obtain⟨E,C⟩:=mU.1 D;refine⟨?_,E⟩;cases hn:fQ k ns with
  |false=>exact .inr rfl
  | true=>
   rw[hn,cJ,Bool.not_eq_false']at C;exact .inl (cN C)
 ·obtain⟨E,C⟩:=mU.1 D;exact⟨C,E⟩
def RV.uf(hv:ue w w' af dz ρ fe ns cn){q:aa Nat}{x:V}{v:Value}(h:RV w B af q x v)(hq:fQ q ns=false\/x.aG=true):RV w' B dz q x v:=h.tr hv.tr hq.symm
def RA.uf(hv:ue w w' af dz ρ fe ns cn){x:A}{u:Value}(h:RA w B af ρ x u):RA w' B dz fe (x.de ns cn) u:=h.tr hv.tr QG
def dM.uf(hv:ue w w' af dz ρ fe ns cn){x:Lf}{u:Value}(h:dM w B af ρ x u):dM w' B dz fe (x.de ns cn) u:=h.tr hv.tr QG
def dW.uf(hv:ue w w' af dz ρ fe ns cn){n:Nat}{x:aS}(h:dW w B af ρ n x)(C:cW n ns=false)(D:cW n cn=false):dW w' B dz fe n (x.de ns cn):=h.tr hv.tr QG C D
def Rl.uf(h:Rl w0 N af ρ σ a w)(hv:ue w w' af dz ρ fe ns cn)(hb:iX w0 w w')(hl:∀ b k,dz b=some k -> (w0.heap.size <= b \/ w0.L b≠none)/\b<w'.heap.size/\k≠[])(hF:∀ r,cW r cn=true -> w0.F r=none){nr:aa (Nat×aS)}
  (O:∀r x,nr.lookup r=some x -> dW w' w0.heap.size dz fe r x):Rl w0 N dz fe (σ.de ns cn nr) a w':=by
 refine⟨h.below.trans hb,hl,λr x C=>?_,λk=>(h.tmp k).uf hv,h.size,h.defers,λr l E=>?_,h.cL⟩
 ·simp only[S.de]at C;split at C
  ·simp_all
  ·cases hm:(cW r ns || cW r cn)with
   |true=>simp_all
   | false=>
    rw[hm]at C;rw[mU]at hm;cases D:σ.m r with
    |none=>simp_all
    | some y=>
     rw[D]at C;injection C with C;subst C;exact(h.root r y D).uf hv hm.1 hm.2
 ·have I:cW r cn=false:=by
   grind
  exact(hv.eZ r I).trans (h.fix r l E)
end
inductive Mu where
 |aB (r:Nat) (cs:List Lf) (vs:List (V×Option Nat))
 |sl (q:Nat) (y:V)
def Mu.root:Mu->Nat
 |.aB r _ _=>r
 |.sl q _=>q
def vz(m:Nat->aj aS):Lf->aj (V×aj Nat)
 |.v x=>some (x.gn,none)
 | .own [q]=>match m q with
  |some (.sl y)=>bif y.aG then some (y.gn,none)else some (y,some q)
  |_=>none
 |_=>none
def ru(m:Nat->aj aS):aa Lf->aj (aa (V×aj Nat))
 |[]=>some []
 | l :: C=>match vz m l,ru m C with
  |some v,some D=>some (v::D)
  |_,_=>none
def vA(σ:S):PK->A->aj (aj Mu)
 |.v _ _,_=>some none
 | .p _ _ off,.aL r j=>(match (bif Nat.beq j off then σ.m r else none)with
  | some (.aB cs)=>(match ru σ.m cs with
   |some C=>bif Nat.blt cs.length 999 then some (some (.aB r cs C))else none
   |none=>none)
  |_=>none)
 | .s _ _,.lf (.own [q])=>(match σ.m q with
  |some (.sl y)=>bif y.aG then none else some (some (.sl q y))
  |_=>none)
 |_,_=>none
def jq(σ:S):aa PK->aa Operand->aj (aa Mu)
 |[],[]=>some []
 | p :: ps,x :: xs=>(match vA σ p (aK σ x),jq σ ps xs with
  |some (some D),some C=>some (D::C)
  |some none,some C=>some C
  |_,_=>none)
 |_,_=>none
def DA(i:Nat):Nat->aa (V×aj Nat)->aa (Nat×Nat)
 |_,[]=>[]
 |j,(_,some q)::C=>(q,60000+1000*i+j)::DA i (j+1) C
 |j,(_,none)::C=>DA i (j+1) C
def ld:Nat->aa Mu->aa (Nat×Nat)
 |_,[]=>[]
 |i,.aB r _ D::C=>(r,nF i)::(DA i 0 D++ld (i+1) C)
 |i,.sl q _::C=>(q,nF i)::ld (i+1) C
def QH(ns:aa Nat):Lf->Bool
 |.own k=>!fQ k ns
 |_=>true
def sK{X:Type}(σ:S)(ns:aa Nat):aa Lf->(aa V->aj X)->aj X
 |[],k=>k []
 |x::xs,k=>bif QH ns x then oK σ x λy=>sK σ ns xs λys=>k (y.gn::ys)else none
def rz{X:Type}(σ:S)(ns:aa Nat)(x:A)(k:Pt->aj X):aj X:=
 match x with
 |.lf y=>sK σ ns [y] λC=>k (false,C)
 |.agg ys=>sK σ ns ys λC=>k (true,C)
 |.m7 f (c::cs)=>k (false,.bool false::.int .i64 (f:Int)::c.gn::cs.map V.gn)
 | .fn f [(r,j)]=>bif cW r ns then none else (match σ.m r with
  | some (.aB cs)=>(match qW (cs.drop j)with
   |some (c::C)=>k (false,.bool false::.int .i64 (f:Int)::c::C)
   |_=>none)
  |_=>none)
 |_=>none
def jr{X:Type}(σ:S)(ns:aa Nat):(ps:aa PK)->aa Operand->aa Mu->(kZ ps->aj X)->aj X
 |[],[],[],k=>k ()
 | .v b t :: ps,x :: xs,C,k=>rz σ ns (aK σ x) λp=>bif p.1==b then (match dec t 0 p.2 with
  |some y=>jr σ ns ps xs C λys=>k (y,ys)
  |none=>none)else none
 | .p t g _ :: ps,_ :: xs,.aB _ _ D :: C,k=>(match (bif Nat.beq (g % 2) 0 then dec t g (D.map (·.1))else none)with
  |some y=>jr σ ns ps xs C λys=>k (y,ys)
  |none=>none)
 | .s t g :: ps,_ :: xs,.sl _ y :: C,k=>(match (bif Nat.beq (g % 2) 0 then y.fk t (g+2)else none)with
  |some z=>jr σ ns ps xs C λys=>k (z,ys)
  |none=>none)
 |_,_,_,_=>none
def xz(w:World)(ρ:Nat->Loc)(rs:aa Nat):Nat->Loc:=λn=>
 if n<60000 then (if (n-20000) % 1000=0 then ρ (rs.getD ((n-20000) / 1000) 0)else (match ρ (rs.getD ((n-20000) / 1000) 0)with
  |.aB b off=>.dG ((w.cell? ⟨b,off+((n-20000) % 1000-1),none⟩).getD undef)
  |.dG v=>.dG v
  |.bC us=>.bC us))
 else (match ρ (rs.getD ((n-60000) / 1000) 0)with
  |.aB b off=>.dG ((w.cell? ⟨b,off+(n-60000) % 1000,none⟩).getD undef)
  |.dG v=>.dG v
  |.bC us=>.bC us)
def Gh{w:World}{ρ:Nat -> Loc}{rs:aa Nat}{i r:Nat}(h:rs[i]?=some r)(hi:i<40):xz w ρ rs (nF i)=ρ r:=by
 have C:nF i<60000:=by unfold nF;omega
 have D:(nF i-20000) % 1000=0:=by unfold nF;omega
 have E:(nF i-20000) / 1000=i:=by unfold nF;omega
 have I:rs.getD i 0=r:=by rw[cS,h];rfl
 unfold xz;simp_all
def ahH{w:World}{ρ:Nat -> Loc}{rs:aa Nat}{i j r b off:Nat}{u:Value}{x:V}(h:rs[i]?=some r)(hi:i<40)(C:j<999)(D:ρ r = .aB b off)(E:w.cell? ⟨b,off+j,none⟩=some u):xz w ρ rs (nC i j x) = .dG u:=by
 have I:rs.getD i 0=r:=by rw[cS,h];rfl
 unfold xz nC;cases x.aG with
 |true =>grind
 |false =>grind
def V.KJ:V->Bool
 |.sl _ o _ _=>Nat.beq (o % 2) 0
 |_=>true
section
variable {P:Program} {w w':World} {w0:Wd} {B N:Nat} {af dz aA:bk} {ρ fe:Nat->Loc} {σ:S} {a:Act} {X:Type} {d:Nat} {r:X} {ns cn:aa Nat}
def RV.Xz{B':Nat}{q:aa Nat}{x:V}{v:Value}(h:RV w B af q x v)(D:x.KJ=true):RV w B' af q x v:=by
 induction h with
 |int=>exact .int _ _ _
 |bool=>exact .bool _ _
 |str=>exact .str _ _
 |nil=>exact .nil _
 |eD=>exact .eD _ _ _
 |fF=>exact .fF _ _ _ _ _ (by first|assumption|omega)
 |fP=>exact .fP _ _ _ _ _ (by first|assumption|omega)
 | aG q t o T l b off cap u U hl hb h1 Y E Z I=>
  have D:=cN D;have ho0:o=0:=by omega
  subst ho0
  refine .aG _ _ _ _ _ _ _ _ u U hl hb (by omega) Y E (λi h j x C=>I i h j x C ?_)
  have:=yP t 0 l[i] x (gC C);cases x with
  | sl t' O q' l'=>
   have:O=0:=by simpa [V.gr]using this
   subst this;rfl
  |_=>rfl
 | own q t o T l b cap cs u hl hh hs hn hm E Z I=>
  have D:=cN D
  refine .own _ _ _ _ _ _ _ cs u hl hh hs hn hm E (λi h j x C=>I i h j x C ?_)
  have:=yP t o l[i] x (gC C);cases x with
  | sl t' O q' l'=>
   have:O=o:=by simpa [V.gr]using this
   show Nat.beq _ 0=true;simp_all
  |_=>rfl
def RV.out{q I:aa Nat}{x:V}{v:Value}(h:RV w B af q x v)(U:∀ b,af b=none -> aA b=none)(Y:∀ b k,af b=some k -> k≠[]/\(fQ k ns=false -> aA b=none))(hq:x.aG=true \/ fQ q ns=false){B':Nat}:RV w B' aA I x.gn v:=by
 induction h generalizing I with
 |int=>exact .int _ _ _
 |bool=>exact .bool _ _
 |str=>exact .str _ _
 |nil=>exact .nil _
 |eD=>exact .eD _ _ _
 |fF=>exact .fF _ _ _ _ _ (by first|assumption|omega)
 |fP=>exact .fP _ _ _ _ _ (by first|assumption|omega)
 | aG q t o Z l b off cap u ho hl hb WE lK O hr E=>
  refine .aG _ _ _ _ _ _ _ _ u (by omega) (U b hl) hb (by omega) lK (λi h j x C=>?_) (λi h j x C=>?_)
  ·obtain⟨y,D,_⟩:=wU t o l[i] j x C;simp_all
  ·obtain⟨y,D,rfl⟩:=wU t o l[i] j x C;exact E i h j y D (.inl (pW t o l[i] ho j y D))
 | own q t o Z l b cap cs u hl hh hs hn hm O hr E=>
  have T:fQ q ns=false:=by
   rcases hq with hq|hq
   ·simp[V.aG]at hq;omega
   ·exact hq
  obtain⟨bY,nR⟩:=Y b q hl
  refine .aG _ _ _ _ _ _ _ _ u (by omega) (nR T) (iz.1 hh).1 (by omega) hn (λi h j x C=>?_) (λi h j x C=>?_)
  ·obtain⟨y,D,_⟩:=wU t o l[i] j x C;have:=O i h j y D;rw[eW,cell_of_row w b _ cs _ _ hh];exact this
  ·obtain⟨y,D,rfl⟩:=wU t o l[i] j x C;exact E i h j y D (.inr (by rw[Xy bY];exact T))
def ahI{x:Lf}{k:V -> aj X}(h:oK σ x k=some r):∃ y,k y=some r /\ ∀ af ρ a w,Rl w0 N af ρ σ a w -> ∀ u,dM w w0.heap.size af ρ x u -> ∃ q,(x = .own q \/ y.aG=true)/\RV w w0.heap.size af q y u:=by
 cases x with
 |v y=>exact⟨y,h,λaf ρ a w D u C=>⟨[],.inr C.1,C.2⟩⟩
 |dead=>cases h
 | own q=>
  obtain⟨y,E,I⟩:=sx q k h
  refine⟨y,I,λaf ρ a w D u C=>⟨q,.inl rfl,?_⟩⟩
  obtain⟨v,hv,O⟩:=E.ok D.root;have:v=u:=by
   have T:=C.2;simp_all
  simp_all
structure Bo (ns:List Nat) (af aA:bk):Prop where
 none:∀b,af b=none->aA b=none
 rest:∀b k,af b=some k->k≠[]/\(fQ k ns=false->aA b=Option.none)
def QI:∀ (xs:aa Lf) (k:aa V -> aj X),sK σ ns xs k=some r -> ∃ C,k C=some r/\C.length=xs.length /\ ∀ af ρ a w aA,Rl w0 N af ρ σ a w -> Bo ns af aA -> ∀ (j:Nat) x y u,xs[j]?=some x -> C[j]?=some y -> dM w w0.heap.size af ρ x u -> RV w w.heap.size aA [] y u
 |[],k,h=>⟨[],h,rfl,λ_ _ _ _ _ _ _ j x y u T=>by simp at T⟩
 | x :: xs,k,h=>by
  unfold sK at h;cases D:QH ns x with
  |false=>simp_all
  | true=>
   rw[D,au]at h;obtain⟨y,U,Y⟩:=ahI (w0:=w0) (N:=N) h;obtain⟨ys,Z,hl,hr⟩:=QI xs _ U
   refine⟨y.gn::ys,Z,by simp[hl],λaf ρ a w aA hR E j x' y' u I O hu=>?_⟩
   cases j with
   | zero=>
    simp at I O;subst I O;obtain⟨q,hq,kY⟩:=Y af ρ a w hR u hu;refine kY.out E.none E.rest ?_;rcases hq with rfl|hq
    ·exact .inr (by simpa [QH]using D)
    ·simp_all
   |succ j=>grind
inductive PM (w:World) (aA:bk):Pt->Value->Prop
 |v (p:Pt) (u:Value) (h:PV w w.heap.size aA (λ_=>[]) p u):PM w aA p u
 |f (g:Nat) (c:V) (cs:List V) (u:Value) (h:RF w w.heap.size aA (c::cs) u):PM w aA (false,.bool false::.int .i64 (g:Int)::c::cs) (.func (.func g) #[] #[u])
def ahJ{g:Nat}{c:V}{cs ys:aa V}(hl:(V.bool false :: .int .i64 (g:Int) :: c :: cs).length=ys.length)(h:∀ (j:Nat) x z,(V.bool false :: .int .i64 (g:Int) :: c :: cs)[j]?=some x -> ys[j]?=some z -> Wk x z):∃ C eV,ys = .bool false :: .int .i64 (g:Int) :: C :: eV/\kV (c :: cs) (C :: eV):=by
 match ys,hl,h with
 | a :: b :: C :: eV,hl,h=>
  have D:=h 0 _ a rfl rfl;have E:=h 1 _ b rfl rfl;cases D;cases E;exact⟨C,eV,rfl,by simpa using hl,λj x z I O=>h (j+2) x z (by simpa using I) (by simpa using O)⟩
def RF.ug{cs C:aa V}{u:Value}(h:RF w B af cs u)(hw:kV cs C)(I:∀ (j:Nat) z,C[j]?=some z->z.aG=true):RF w B af C u:=by
 obtain⟨b,off,rfl,hb,hl,O⟩:=h
 refine⟨b,off,rfl,hb,hl,λj x D=>?_⟩
 have E:j<cs.length:=by rw[hw.1];exact(dK.1 D).1
 obtain⟨_,v,T,U⟩:=O j _ (bJ E);exact⟨I j x D,v,T,U.wk (hw.2 j _ x (bJ E) D)⟩
def RF.gn{cs:aa V}{u:Value}(h:RF w B af cs u)(D:∀ b,af b=none -> aA b=none)(I:∀ b k,af b=some k -> k≠[]/\(fQ k ns=false -> aA b=none)){B':Nat}:RF w B' aA (cs.map V.gn) u:=by
 obtain⟨b,off,rfl,hb,hl,O⟩:=h
 refine⟨b,off,rfl,hb,D b hl,λj x C=>?_⟩
 rw[ez]at C;cases E:cs[j]? with
 |none=>simp_all
 | some y=>
  rw[E]at C;injection C with C;subst C;obtain⟨T,v,U,Y⟩:=O j y E;exact⟨V.agL y,v,U,Y.out D I (.inl T)⟩
def ahK{x:A}{k:Pt -> aj X}(h:rz σ ns x k=some r):∃ p,k p=some r /\ ∀ af ρ a w aA,Rl w0 N af ρ σ a w -> Bo ns af aA -> ∀ u,RA w w0.heap.size af ρ x u -> PM w aA p u:=by
 unfold rz at h;split at h
 ·rename_i y;obtain⟨Z,T,hl,U⟩:=QI (w0:=w0) (N:=N) _ _ h
  refine⟨_,T,λaf ρ a w aA I C u D=>.v _ _ ⟨#[u],rfl,by simp[hl],λj x E=>?_⟩⟩
  have O:j=0:=by
   grind
  subst O;exact⟨u,rfl,U af ρ a w aA I C 0 y x u rfl E D⟩
 ·rename_i ys;obtain⟨Z,T,hl,U⟩:=QI (w0:=w0) (N:=N) _ _ h
  refine⟨_,T,λaf ρ a w aA I C u D=>?_⟩
  obtain⟨us,rfl,Y⟩:=D
  refine .v _ _ ⟨us,rfl,by rw[hl];exact Y.1,λj x E=>?_⟩
  have O:j<ys.length:=by rw[<- hl];exact(dK.1 E).1
  obtain⟨v,hv,fJ⟩:=Y.2 j _ (bJ O);exact⟨v,hv,U af ρ a w aA I C j _ x v (bJ O) E fJ⟩
 ·rename_i f c cs
  refine⟨_,h,λaf ρ a w aA I C u D=>?_⟩
  obtain⟨pv,rfl,vC⟩:=D;exact .f f _ _ _ (vC.gn C.none C.rest)
 ·rename_i f r' j;cases xB:cW r' ns with
  |true=>grind
  | false=>
   rw[xB,ax]at h;split at h
   ·rename_i cs hm;split at h
    ·rename_i c Z yR;obtain⟨e,hp⟩:=Kj _ _ yR
     refine⟨_,h,λaf ρ a w aA I C u D=>?_⟩
     obtain⟨us,rfl,kH,lK⟩:=D;obtain⟨b,off,cm,qX⟩:=lK 0 _ rfl;have qX:us[0]?=some (.pointer (some ⟨b,off+j,none⟩)):=qX;have auS:us.size=1:=kH;have ahL:us = #[.pointer (some ⟨b,off+j,none⟩)]:=by
      apply Array.ext';apply List.ext_getElem?;intro i;cases i with
      |zero=>grind
      |succ i=>grind
     subst ahL;refine .f f _ _ _ ?_;cases I.root r' _ hm with
     | aB b' Ba cells e' _ Kn kI nY hh Y hc=>
      rw[cm]at kI;injection kI with q1 q2;subst q1 q2
      refine⟨b,off+j,rfl,(iz.1 hh).1,(C.rest b _ nY).2 (by simpa [fQ]using xB),λi x E=>?_⟩
      have XA:=hp x (gC E);have XB:(cs.drop j)[i]?=some (.v x):=by rw[e,ez,E];rfl
      rw[List.getElem?_drop]at XB;obtain⟨k1,k2⟩:=hc _ _ XB;refine⟨(by cases x<;>first|rfl|cases XA),Kn (j+i),?_,k2.2.tR XA⟩;rw[Nat.add_assoc,cell_of_row w b _ cells _ _ hh];exact k1
    ·cases h
   ·cases h
 ·cases h
def zp(σ:S):Mu->Prop
 |.aB r cs C=>σ.m r=some (.aB cs)/\ru σ.m cs=some C/\cs.length<999
 |.sl q y=>σ.m q=some (.sl y)/\y.aG=false
def Gi:aa Mu->aa In->Prop
 |[],[]=>True
 |.aB _ _ I::C,.aB xs::D=>(kV (I.map (·.1)) xs/\∀x∈xs,x.kf=true/\x.KJ=true)/\Gi C D
 |.sl _ y::C,.sl E::D=>(Wk y E/\E.KJ=true)/\Gi C D
 |_,_=>False
def DB(w:World)(B:Nat)(af:bk)(ρ:Nat->Loc)(C:aa In):aa Ar->aa Value->Prop
 |[],[]=>True
 |x::xs,v::D=>RA w B af ρ (Qr C x) v/\DB w B af ρ C xs D
 |_,_=>False
def DB.get{D:aa In}:∀ (xs:aa Ar) (C:aa Value),DB w B af ρ D xs C -> C.length=xs.length /\ ∀ i,RA w B af ρ ((xx D xs).t i) (C.toArray.getD i undef)
 |[],[],_=>⟨rfl,λi=>trivial⟩
 | x :: xs,v :: C,h=>by
  obtain⟨E,I⟩:=DB.get xs C h.2
  refine⟨by simp[E],λi=>?_⟩
  cases i with
  |zero=>exact h.1
  | succ i=>
   have:=I i;simp at this ⊢;exact this
def ahM{t:TC}{g:Nat}{x:T t}(hg:Nat.beq (g % 2) 0=true):∀ y∈enc t g x,y.kf=true/\y.KJ=true:=by
 intro y C;refine⟨Pv t g x y C,?_⟩;have:=yP t g x y C;cases y with
 | sl E D I O=>
  have:D=g:=by simpa [V.gr]using this
  subst this;exact hg
 |_=>rfl
def ahN(σ:S):PK->A->aj Mu->Prop
 |.v _ _,_,none=>True
 |.p _ _ off,x,some (.aB r cs C)=>x = .aL r off/\zp σ (.aB r cs C)
 |.s _ _,x,some (.sl q y)=>x = .lf (.own [q])/\zp σ (.sl q y)
 |_,_,_=>False
def vD{p:PK}{x:A}{z:aj Mu}(h:vA σ p x=some z):ahN σ p x z:=by
 cases p with
 | v b t=>
  injection h with h;subst h;trivial
 | p t g off=>
  cases x with
  | aL r j=>
   have h:(match (bif Nat.beq j off then σ.m r else none)with
    | some (.aB cs)=>(match ru σ.m cs with
     |some E=>bif Nat.blt cs.length 999 then some _ else none
     |none=>none)
    |_=>none)=some z:=h
   cases C:Nat.beq j off with
   |false=>rw[C]at h;cases h
   | true=>
    obtain rfl:=cN C;rw[C,au]at h;split at h
    ·rename_i cs I;split at h
     ·rename_i E O;cases hl:Nat.blt cs.length 999 with
      |false=>rw[hl]at h;cases h
      | true=>
       rw[hl]at h;injection h with h;subst h;exact⟨rfl,I,O,by have:=cz hl;omega⟩
     ·cases h
    ·cases h
  |_=>cases h
 | s t g=>
  have T:(∃ q,x = .lf (.own [q])):=by
   unfold vA at h;split at h
   next e=>cases e
   next e=>cases e
   ·simp[*]
   ·cases h
  obtain⟨q,rfl⟩:=T;have h:(match σ.m q with
   |some (.sl y)=>bif y.aG then none else some _
   |_=>none)=some z:=h
  split at h
  ·rename_i y U;cases D:y.aG with
   |true=>rw[D]at h;cases h
   | false=>
    rw[D]at h;injection h with h;subst h;exact⟨rfl,U,D⟩
  ·cases h
def KM:∀ (ps:aa PK) (xs:aa Operand) (D:aa Mu),jq σ ps xs=some D -> ∀ O∈D,zp σ O
 |[],[],D,h=>by injection h with h;subst h;simp
 | p :: ps,x :: xs,D,h=>by
  unfold jq at h;split at h
  ·rename_i O E C I;injection h with h;subst h;have T:=KM ps xs E I;have C:=vD C;intro z hz;rcases gv.1 hz with rfl | hz
   ·cases p with
    |v=>exact C.elim
    | p=>
     cases z with
     |aB=>exact C.2
     |sl=>exact C.elim
    | s=>
     cases z with
     |aB=>exact C.elim
     |sl=>exact C.2
   ·simp_all
  next E C I=>injection h with h;subst h;exact KM ps xs E I
  ·cases h
 |[],_::_,D,h=>by cases h
 |_::_,[],D,h=>by cases h
def Gj:∀ {ps:aa PK} (i C:Nat) (x:kZ ps),(kj ps i x).length=(kj ps C x).length
 |[],_,_,_=>rfl
 |.v _ _::ps,i,C,x=>by simp[kj,mb];rw[Gj]
 |.p _ _ _::ps,i,C,x=>by simp only[kj,mb];rw[Gj (i+1) (C+1)]
 |.s _ _::ps,i,C,x=>by simp only[kj,mb];rw[Gj (i+1) (C+1)]
def KN:∀ (ps:aa PK) (xs:aa Operand) (O:aa Mu) (k:kZ ps -> aj X),jq σ ps xs=some O -> jr σ ns ps xs O k=some r -> ∃ x,k x=some r/\Gi O (nq ps x)/\(kj ps 0 x).length=xs.length /\
  ∀af ρ a w aA ρ',Rl w0 N af ρ σ a w -> Bo ns af aA -> ∀(T:aa In) (i:Nat),(∀j z,(nq ps x)[j]?=some z -> T[i+j]?=some z) -> (∀j U,O[j]?=some U -> ρ' (nF (i+j))=ρ U.root) -> DB w w.heap.size aA ρ' T (kj ps i x) (xs.map a.eval)
 | [],[],O,k,C,h=>by
  injection C with C;subst C;exact⟨(),h,trivial,rfl,λ_ _ _ _ _ _ _ _ _ _ _ _=>trivial⟩
 | .v b t :: ps,x :: xs,O,k,C,h=>by
  have sC:jq σ ps xs=some O:=by
   unfold jq at C;split at C
   next U sL D I=>exact(vD D).elim
   next sL D I=>rw[I];exact C
   ·cases C
  unfold jr at h;obtain⟨p,I,hp⟩:=ahK (w0:=w0) (N:=N) h;cases hb:p.1==b with
  |false=>rw[hb]at I;cases I
  | true=>
   rw[hb,au]at I;have hb:p.1=b:=by simpa using hb
   subst hb;split at I
   ·rename_i y Y;obtain⟨ys,h3,h4,h5,h6⟩:=KN ps xs O _ sC I
    refine⟨(y,ys),h3,h4,?_,λaf ρ a w aA ρ' Z hS T i hi cm=>⟨?_,h6 af ρ a w aA ρ' Z hS T i hi cm⟩⟩
    ·simp[kj,h5]
    ·have vC:=hp af ρ a w aA Z hS _ (Z.aK x);have hk:=lJ t 0 p.2 y Y;generalize a.eval x=ux at vC ⊢;rcases vC with ⟨_,_,us,hu,hs,hr⟩ | ⟨g,c,cs,pv,vC⟩
     case f=>
      have he:∀(j:Nat) z,(enc t 0 y)[j]?=some z -> z.aG=true:=λj z E=>pW t 0 y (by omega) j z E
      obtain⟨c',eV,e,hw⟩:=ahJ hk.1 hk.2;rw[e]at he ⊢;exact⟨pv,rfl,vC.ug hw λj z E=>he (j+2) z (by simpa using E)⟩
     have nh:∀ (j:Nat) z,(enc t 0 y)[j]?=some z -> ∃ v,us[j]?=some v/\z.aG=true/\RV w w.heap.size aA [] z v:=by
      intro j z E;have hj:j<p.2.length:=by rw[hk.1];exact(dK.1 E).1
      obtain⟨v,hv,fJ⟩:=hr j _ (bJ hj);exact⟨v,hv,pW t 0 y (by omega) j z E,fJ.wk (hk.2 j _ z (bJ hj) E)⟩
     have hlen:us.size=(enc t 0 y).length:=hs.trans hk.1;obtain⟨b,vs⟩:=p;cases b with
     | true=>
      show RA _ _ _ _ (.agg ((enc t 0 y).map .v)) _
      refine⟨us,hu,by rw[eS];exact hlen,λj z E=>?_⟩
      rw[ez]at E;cases Db:(enc t 0 y)[j]? with
      |none=>rw[Db]at E;cases E
      | some z'=>
       rw[Db]at E;injection E with E;subst E;obtain⟨v,hv,g1,g2⟩:=nh j z' Db;exact⟨v,hv,g1,g2⟩
     | false=>
      have hu:us = #[ux]:=hu;subst hu;show RA _ _ _ _ (Qr T (.pt (false,enc t 0 y))) _
      match he:enc t 0 y,nh,hlen with
      | [z],nh,_=>
       obtain⟨v,hv,g1,g2⟩:=nh 0 z rfl;have:ux=v:=by simpa using hv
       rw[this];exact⟨g1,g2⟩
      |[],_,_=>trivial
      |_::_::_,_,hlen=>exact absurd hlen (by simp)
   ·cases I
 | .p t g off :: ps,x :: xs,O,k,C,h=>by
  unfold jq at C;split at C
  ·rename_i U sL D I;injection C with C;subst C;have D:=vD D;cases U with
   |sl=>exact D.elim
   | aB r cs vs=>
    have D:aK σ x = .aL r off/\zp σ (.aB r cs vs):=D;unfold jr at h;split at h
    ·rename_i y Y;cases hg:Nat.beq (g % 2) 0 with
     |false=>rw[hg]at Y;cases Y
     | true=>
      rw[hg,au]at Y;obtain⟨ys,h3,h4,h5,h6⟩:=KN ps xs sL _ I h
      refine⟨(y,ys),h3,⟨⟨lJ t g _ y Y,ahM hg⟩,h4⟩,by simp[kj,Gj 1 0,h5],λaf ρ a w aA ρ' Z hS T i hi cm=>⟨?_,?_⟩⟩
      ·have Bp:=hi 0 _ rfl;rw[Nat.add_zero]at Bp;have hx:=Z.aK x;rw[D.1]at hx;obtain⟨b,o,e1,e2⟩:=hx;show RA _ _ _ _ (match T[i]? with|some (.aB _)=>.aL (nF i) off|some (.sl _)=>.lf (.own [nF i])|none=>.undef) _;rw[Bp];have iG:=cm 0 _ rfl;rw[Nat.add_zero]at iG;exact⟨b,o,iG.trans e1,e2⟩
      ·refine h6 af ρ a w aA ρ' Z hS T (i+1) (λj z E=>?_) (λj U jL=>?_)
       ·rw[show i+1+j=i+(j+1) by omega];exact hi _ z E
       ·rw[show i+1+j=i+(j+1) by omega];exact cm _ U jL
    ·cases h
  next sL D I=>exact(vD D).elim
  ·cases C
 | .s t g :: ps,x :: xs,O,k,C,h=>by
  unfold jq at C;split at C
  ·rename_i U sL D I;injection C with C;subst C;have D:=vD D;cases U with
   |aB=>exact D.elim
   | sl q y0=>
    have D:aK σ x = .lf (.own [q])/\zp σ (.sl q y0):=D;unfold jr at h;split at h
    ·rename_i y Y;cases hg:Nat.beq (g % 2) 0 with
     |false=>rw[hg]at Y;cases Y
     | true=>
      rw[hg,au]at Y;obtain⟨ys,h3,h4,h5,h6⟩:=KN ps xs sL _ I h
      refine⟨(y,ys),h3,⟨⟨V.Ft Y,?_⟩,h4⟩,by simp[kj,Gj 1 0,h5],λaf ρ a w aA ρ' Z hS T i hi cm=>⟨?_,?_⟩⟩
      ·show Nat.beq ((g+2) % 2) 0=true;simp[*]
      ·have Bp:=hi 0 _ rfl;rw[Nat.add_zero]at Bp;have hx:=Z.aK x;rw[D.1]at hx;show RA _ _ _ _ (match T[i]? with|some (.aB _)=>.aL (nF i) 0|some (.sl _)=>.lf (.own [nF i])|none=>.undef) _;rw[Bp];have iG:=cm 0 _ rfl;rw[Nat.add_zero]at iG;refine⟨hx.1,?_⟩;have I:=hx.2;simp only[cQ]at I ⊢;rw[iG];exact I
      ·refine h6 af ρ a w aA ρ' Z hS T (i+1) (λj z E=>?_) (λj U jL=>?_)
       ·rw[show i+1+j=i+(j+1) by omega];exact hi _ z E
       ·rw[show i+1+j=i+(j+1) by omega];exact cm _ U jL
    ·cases h
  next sL D I=>exact(vD D).elim
  ·cases C
 |[],_::_,O,k,C,h=>by cases C
 |_::_,[],O,k,C,h=>by cases C
end
def mm(c0:Nat):Nat->aa (V×aj Nat)->aa Nat
 |_,[]=>[]
 |n,(_,some q)::C=>q::mm c0 (n+1) C
 |n,(_,none)::C=>(c0+n)::mm c0 (n+1) C
def zq(c0:Nat):Nat->aa Mu->aa Nat
 |_,[]=>[]
 |pos,.aB r _ D::C=>r::(mm c0 (pos+1) D++zq c0 (pos+1+D.length) C)
 |pos,.sl q _::C=>q::zq c0 (pos+1) C
def vE:aa Nat->aa V->aa Nat
 |n::C,x::xs=>bif x.aG then vE C xs else n::vE C xs
 |_,_=>[]
def nu(c0:Nat):Nat->aa Mu->aa In->aa Nat
 |pos,.aB _ _ D::C,.aB xs::outs=>vE (mm c0 (pos+1) D) xs++nu c0 (pos+1+D.length) C outs
 |pos,.sl _ _::C,.sl _::outs=>nu c0 (pos+1) C outs
 |_,_,_=>[]
def oT(ns cn:aa Nat):aa Nat->aa Lf->aa V->aa Lf
 |n::C,l::D,x::xs=>(bif x.plain then .v x else bif x.aG then l.de ns cn else .own [n])::oT ns cn C D xs
 |_,_,_=>[]
def uh:aa Nat->aa V->aa (Nat×aS)
 |n::C,x::xs=>bif x.aG then uh C xs else (n,.sl x)::uh C xs
 |_,_=>[]
def lu(ns cn:aa Nat)(c0:Nat):Nat->aa Mu->aa In->aa (Nat×aS)
 |pos,.aB r cs D::C,.aB xs::outs=>(r,.aB (oT ns cn (mm c0 (pos+1) D) cs xs))::(uh (mm c0 (pos+1) D) xs++lu ns cn c0 (pos+1+D.length) C outs)
 |pos,.sl q _::C,.sl y::outs=>bif y.kf then (q,.sl y)::lu ns cn c0 (pos+1) C outs else lu ns cn c0 (pos+1) C outs
 |_,_,_=>[]
def KO:aa Nat->Bool
 |[]=>true
 |n::l=>!cW n l&&KO l
def XC:In->Bool
 |.aB xs=>xs.all λx=>x.aG ||x.loc
 |.sl y=>y.loc
def iq:aj Tmp->Nat
 |some d=>1000000000100000+1000*d
 |none=>90000
def qb{X:Type}(N:Nat)(σ:S)(C:aj Tmp)(D:fV)(k:S->aj X):aj X:=
 match C with
 |none=>k σ
 |some d=>bif Nat.blt d N then ni σ d D k else none
def DC(N:Nat)(C:aa Mu)(outs:aa In)(cn:aa Nat):Bool:=
 KO cn&&(C.all λD=>!cW D.root cn)&&(cn.all λn=>Nat.blt n N ||Nat.ble 60000 n)&&outs.all XC
def DD{X:Type}(N:Nat)(σ:S)(C:aj Tmp)(D:aa Mu)(ns cn:aa Nat)(E:fV)(outs:aa In)(k:S->aj X):aj X:=
 bif DC N D outs cn then qb N (σ.de ns cn (lu ns cn (iq C) E.len D outs)) C E k else none
def nZ{X:Type}(N:Nat)(σ:S)(D:aj Tmp)(c:nt)(args:aa Operand)(k:S->aj X):aj X:=
 match jq σ c.ps args with
 | some C=>bif once (ld 0 C)&&Nat.ble C.length 40 then
   jr σ ((ld 0 C).map (·.1)) c.ps args C λx=>(match c.F x with
    |some y=>DD N σ D C ((ld 0 C).map (·.1)) (nu (iq D) (eT c.ro y.1).len C (iP (eF c.ps) y.2)) (eT c.ro y.1) (iP (eF c.ps) y.2) k
    |none=>none)else none
 |none=>none
section
variable {P:Program} {w w':World} {w0:Wd} {B N:Nat} {af dz aA:bk} {ρ fe ρ':Nat->Loc} {σ:S} {a:Act} {X:Type} {d:Nat} {r:X} {ns cn:aa Nat} {o:Oper} {rs:aa Nat} {dZ:aa (Nat×Nat)}
def XD{n:Nat}:∀ {l:aa (Nat×Nat)},cW n (l.map (·.1))=false -> l.lookup n=none
 |[],_=>rfl
 | p :: l,h=>by
  simp[List.map_cons,cW,mU]at h;rw[List.lookup_cons];have:(n==p.1)=false:=by
   cases hb:n==p.1 with
   |false=>rfl
   |true =>simp_all
  rw[this];exact XD h.2
def ahO{b:Nat}{k:aa Nat}{n m:Nat}(h:af b=some k)(C:k.getLast?=some n)(D:dZ.lookup n=some m):eE af dZ id b=some (k.dropLast++[m]):=by
 simp[eE,h,C,D]
def ahP(C:∀ b k,af b=some k -> k≠[]):Bo (dZ.map (·.1)) af (eE af dZ id):=by
 refine⟨λb h=>zl h,λb k h=>⟨C b k h,λhl=>?_⟩⟩
 simp[eE,h];cases D:k.getLast? with
 |none=>rfl
 | some n=>
  simp[fQ,D]at hl;simp[XD hl]
def QJ{m:Nat -> aj aS}:∀ (cs:aa Lf) (C:aa (V×aj Nat)),ru m cs=some C -> C.length=cs.length /\ ∀ (j:Nat) l,cs[j]?=some l -> ∃ v,C[j]?=some v/\vz m l=some v
 |[],C,h=>by injection h with h;subst h;exact⟨rfl,λj l hl=>by simp at hl⟩
 | c :: cs,C,h=>by
  unfold ru at h;split at h
  ·rename_i v D I E;injection h with h;subst h;obtain⟨O,T⟩:=QJ cs D E
   grind
  ·cases h
def ahQ{l:Lf}{v:V}{E:aj Nat}(h:vz σ.m l=some (v,E))(Y:Rl w0 N af ρ σ a w)(D:Bo ns af aA){u:Value}(I:dM w w0.heap.size af ρ l u):
  (E=none /\ ∀B' O,RV w B' aA O v u) \/ (∃q,E=some q/\v.aG=false/\RV w w0.heap.size af [q] v u):=by
 unfold vz at h;split at h
 ·simp at h;obtain⟨rfl,rfl⟩:=h;exact .inl ⟨rfl,λB' O=>I.2.out D.none D.rest (.inl I.1)⟩
 ·rename_i q;split at h
  ·rename_i y Z;have T:=Y.root q _ Z;generalize C:aS.sl y=x at T;cases T with
   |aB=>cases C
   |mp=>cases C
   |gh=>cases C
   | sl v' y' cm hr=>
    injection C with C;subst C;have Gb:v'=u:=by
     have h2:=I.2;simp only[cQ,cm]at h2;simp_all
    subst Gb;cases U:y.aG with
    | true=>
     rw[U,au]at h;obtain⟨rfl,rfl⟩:=h;exact .inl ⟨rfl,λB' O=>hr.out D.none D.rest (.inl U)⟩
    |false =>grind
  ·cases h
 ·cases h
def XE{i:Nat}{v:V}{q:Nat}:∀ (D:aa (V×aj Nat)) (C j:Nat),D[j]?=some (v,some q) -> (q,60000+1000*i+(C+j))∈DA i C D
 |[],C,j,h=>by simp at h
 | (I,E) :: D,C,j,h=>by
  cases j with
  | zero=>
   obtain⟨rfl,rfl⟩:=h;exact .head _
  | succ j=>
   have:=XE (i:=i) D (C+1) j (by simpa using h);rw[show C+1+j=C+(j+1) by omega]at this;cases E with
   |none=>exact this
   |some O=>exact .tail _ this
def QK{i:Nat}:∀ (cs:aa V) (C:Nat),(zn i C cs).length=cs.length
 |[],_=>rfl
 |c::cs,C=>by simp[zn,QK cs]
def RV.mc{q:aa Nat}{x:V}{u:Value}(h:RV w B af q x u)(hp:x.plain=false)(hn:x.kf=true):mc u=true:=by
 cases h<;>first|rfl|cases hp|cases hn
def Wk.QL{x y:V}(h:Wk x y)(C:x.aG=false):y.aG=false:=by
 cases h with
 |same=>exact C
 |nil=>cases C
 |q=>exact C
 |gr t o D E l I O=>simp[V.aG];omega
def QM(Z:Rl w0 N af ρ σ a w)(hS:Bo ns af (eE af dZ id)):∀ (E:aa Mu) (O:aa In) (i:Nat),(∀ p∈ld i E,dZ.lookup p.1=some p.2) -> (∀ j D,E[j]?=some D -> rs[i+j]?=some D.root) -> (∀ D∈E,zp σ D) -> Gi E O -> i+E.length <= 40 ->
  oS w w.heap.size (eE af dZ id) (xz w ρ rs) i O
 |[],[],_,_,_,_,_,_=>trivial
 |[],_::_,_,_,_,_,h,_=>h.elim
 |.aB _ _ _::_,[],_,_,_,_,h,_=>h.elim
 |.sl _ _::_,[],_,_,_,_,h,_=>h.elim
 |.aB _ _ _::_,.sl _::_,_,_,_,_,h,_=>h.elim
 |.sl _ _::_,.aB _::_,_,_,_,_,h,_=>h.elim
 | .aB r cs vs :: E,.aB xs :: O,i,T,jK,jL,hrel,hi=>by
  obtain⟨hm,hg,hlen⟩:=jL _ (.head _);obtain⟨⟨hw,hx⟩,Bq⟩:=hrel;obtain⟨g1,g2⟩:=QJ cs vs hg;have U:=jK 0 _ rfl;rw[Nat.add_zero]at U;simp only[mb]at hi;have oL:xs.length=cs.length:=by rw[<- hw.1,eS,g1]
  have fl:=Z.root r _ hm;generalize C:aS.aB cs=z at fl;cases fl with
  |sl=>cases C
  |mp=>cases C
  |gh=>cases C
  | aB b off cells e eV us cm hl hh hs hc=>
   injection C with C;subst C;have nh:∀ (j:Nat) x,xs[j]?=some x -> cells[off+j]?=some (us j)/\RV w w.heap.size (eE af dZ id) [nC i j x] x (us j)/\(x.plain=false -> xz w ρ rs (nC i j x) = .dG (us j)):=by
    intro j x I;have wZ:j<cs.length:=by rw[<- oL];exact(dK.1 I).1
    obtain⟨v,hv,Gk⟩:=g2 j _ (bJ wZ);obtain⟨c1,Y⟩:=hc j _ (bJ wZ);obtain⟨v,qo⟩:=v;have vF:Wk v x:=hw.2 j v x (by rw[ez,hv];rfl) I;obtain⟨Gl,Kk⟩:=hx x (gC I)
    refine⟨c1,?_,λhp=>?_⟩
    ·rcases ahQ Gk Z hS Y with ⟨rfl,h1⟩ | ⟨q,rfl,hf,h1⟩
     ·exact(h1 _ _).wk vF
     ·have QB:=vF.QL hf;have hq:=T _ (.tail _ (List.mem_append_left _ (XE vs 0 j hv)));rw[eW]at hq;have h2:=(RV.eE (nm:=id) (p:=[]) h1 hq).wk vF;have e1:nC i j x=60000+1000*i+j:=by simp[nC,QB]
      rw[e1];exact h2.Xz Kk
    ·exact ahH U (by omega) (by omega) cm (by rw[cell_of_row w b _ cells _ _ hh];exact c1)
   refine⟨.aB b off cells e _ us ((Gh U (by omega)).trans cm) ?_ hh (by rw[QK,oL];exact hs) (λj z C=>?_),λj x I hp=>?_,QM Z hS E O (i+1) (λp hp=>T p (.tail _ (List.mem_append_right _ hp))) (λj D Br=>?_) (λD h=>jL D (.tail _ h)) Bq (by omega)⟩
   ·exact ahO hl rfl (T _ (.head _))
   ·have I:j<xs.length:=by rw[<- QK (i:=i) xs 0];exact(dK.1 C).1
    have DE:=QE (i:=i) xs 0 j _ (bJ I);rw[C]at DE;injection DE with DE;subst DE;rw[eW];obtain⟨c1,Y,c3⟩:=nh j _ (bJ I);refine⟨c1,?_⟩;cases hp:(xs[j]).plain with
    | true=>
     have e1:zm i j xs[j] = .v xs[j]:=by simp[zm,hp]
     rw[e1];exact⟨V.FF hp,Y.tR hp⟩
    | false=>
     have e1:zm i j xs[j] = .own [nC i j xs[j]]:=by simp[zm,hp]
     rw[e1];exact⟨Y.mc hp (hx _ (cR _)).1,by simp only[cQ,c3 hp]⟩
   ·obtain⟨c1,Y,c3⟩:=nh j x I;exact .sl _ x (c3 hp) Y
   ·have:=jK (j+1) D (by simpa using Br);rw[show i+(j+1)=i+1+j by omega]at this;exact this
 | .sl q y :: E,.sl y' :: O,i,T,jK,jL,hrel,hi=>by
  obtain⟨hm,hf⟩:=jL _ (.head _);obtain⟨⟨hw,hx⟩,Bq⟩:=hrel;have U:=jK 0 _ rfl;rw[Nat.add_zero]at U;simp only[mb]at hi;have fl:=Z.root q _ hm;generalize C:aS.sl y=z at fl;cases fl with
  |aB=>cases C
  |mp=>cases C
  |gh=>cases C
  | sl v y0 cm hr=>
   injection C with C;subst C
   refine⟨.sl v y' ((Gh U (by omega)).trans cm) ?_,QM Z hS E O (i+1) (λp hp=>T p (.tail _ hp)) (λj D Br=>?_) (λD h=>jL D (.tail _ h)) Bq (by omega)⟩
   ·exact((RV.eE (p:=[]) hr (T _ (.head _))).wk hw).Xz hx
   ·have:=jK (j+1) D (by simpa using Br);rw[show i+(j+1)=i+1+j by omega]at this;exact this
end
def QN:Loc->Nat×Nat
 |.aB b off=>(b,off)
 |.dG _=>(0,0)
 |.bC _=>(0,0)
def zu(w:World)(b off:Nat):Nat->aa Nat->aa V->aa (Nat×Value)
 |j,n::C,x::xs=>bif x.aG then zu w b off (j+1) C xs else (n,(w.cell? ⟨b,off+j,none⟩).getD undef)::zu w b off (j+1) C xs
 |_,_,_=>[]
def sM(w:World)(ρ:Nat->Loc)(c0:Nat):Nat->aa Mu->aa In->aa (Nat×Value)
 |pos,.aB r _ D::C,.aB xs::outs=>zu w (QN (ρ r)).1 (QN (ρ r)).2 0 (mm c0 (pos+1) D) xs++sM w ρ c0 (pos+1+D.length) C outs
 |pos,.sl _ _::C,.sl _::outs=>sM w ρ c0 (pos+1) C outs
 |_,_,_=>[]
def XF(l:aa (Nat×Value))(ρ:Nat->Loc):Nat->Loc:=λn=>match l.lookup n with
 |some v=>.dG v
 |none=>ρ n
def QO{w:World}{b off:Nat}:∀ (C:aa Nat) (xs:aa V) (j:Nat),(zu w b off j C xs).map (·.1)=vE C xs
 |[],[],_=>rfl
 |[],_::_,_=>rfl
 |_::_,[],_=>rfl
 | n :: C,x :: xs,j=>by
  simp[zu,vE];cases x.aG with
  |true=>exact QO C xs _
  |false=>simp;rw[QO]
def KP{w:World}{ρ:Nat -> Loc}{c0:Nat}:∀ (C:aa Mu) (outs:aa In) (D:Nat),(sM w ρ c0 D C outs).map (·.1)=nu c0 D C outs
 | .aB r _ E :: C,.aB xs :: outs,D=>by
  simp[sM,nu,List.map_append];rw[QO,KP]
 | .sl _ _ :: C,.sl _ :: outs,D=>by
  simp only[sM,nu];exact KP C outs _
 |[],_,_=>by simp[sM,nu]
 |.aB _ _ _::_,[],_=>rfl
 |.sl _ _::_,[],_=>rfl
 |.aB _ _ _::_,.sl _::_,_=>rfl
 |.sl _ _::_,.aB _::_,_=>rfl
def XG{n:Nat}:∀ {l:aa (Nat×Value)},cW n (l.map (·.1))=false -> l.lookup n=none
 |[],_=>rfl
 | p :: l,h=>by
  simp[List.map_cons,cW,mU]at h;rw[List.lookup_cons];cases hb:n==p.1 with
  |false=>exact XG h.2
  |true =>simp_all
def XH:∀ {l:aa (Nat×Value)},KO (l.map (·.1))=true -> ∀ p∈l,l.lookup p.1=some p.2
 |[],_,p,hp=>by cases hp
 | q :: l,h,p,hp=>by
  simp[List.map_cons,KO,aJ,fB]at h;rw[List.lookup_cons];rcases gv.1 hp with rfl|hp
  ·simp
  ·cases hb:p.1==q.1 with
   |false=>exact XH h.2 p hp
   | true=>
    have e:p.1=q.1:=by simpa using hb
    exact absurd (List.mem_map_of_mem (f:=(·.1)) hp) (by rw[e];exact Xx h.1)
def Gm{c0:Nat}:∀ (C:aa (V×aj Nat)) (n:Nat),(mm c0 n C).length=C.length
 |[],_=>rfl
 |(_,some _)::C,n=>by simp[mm,Gm]
 |(_,none)::C,n=>by simp[mm,Gm C]
def XI{ns cn:aa Nat}:∀ (D:aa Nat) (C:aa Lf) (xs:aa V),D.length=C.length -> xs.length=C.length -> (oT ns cn D C xs).length=C.length /\
  ∀(j:Nat) z,(oT ns cn D C xs)[j]?=some z -> ∃n l x,D[j]?=some n/\C[j]?=some l/\xs[j]?=some x/\z=(bif x.plain then .v x else bif x.aG then l.de ns cn else .own [n])
 |[],[],[],_,_=>⟨rfl,λj z E=>by simp[oT]at E⟩
 | n :: D,l :: C,x :: xs,I,O=>by
  obtain⟨T,U⟩:=XI (ns:=ns) (cn:=cn) D C xs (by simpa using I) (by simpa using O)
  refine⟨by simp[oT,T],λj z E=>?_⟩
  cases j with
  |zero=>simp[oT,List.getElem?_cons_zero,iB]at E;exact⟨n,l,x,rfl,rfl,rfl,E.symm⟩
  |succ j=>exact U j z (by simpa [oT]using E)
def XJ:∀ (C:aa Nat) (xs:aa V),∀ p∈uh C xs,∃ (j:Nat) (x:V),C[j]?=some p.1/\xs[j]?=some x/\x.aG=false/\p.2 = .sl x
 |[],[],p,hp=>by cases hp
 |[],_::_,p,hp=>by cases hp
 | n :: C,x :: xs,p,hp=>by
  simp[uh]at hp;have rest:p∈uh C xs -> ∃ (j:Nat) (y:V),(n :: C)[j]?=some p.1/\(x :: xs)[j]?=some y/\y.aG=false/\p.2 = .sl y:=λhp=>by
   obtain⟨j,y,E,I,O,T⟩:=XJ C xs p hp;exact⟨j+1,y,by simpa using E,by simpa using I,O,T⟩
  cases D:x.aG with
  |true=>grind
  | false=>
   rw[D]at hp;rcases gv.1 hp with rfl|hp
   ·exact⟨0,x,rfl,rfl,D,rfl⟩
   ·grind
def XK{w:World}{b off n:Nat}{x:V}:∀ (D:aa Nat) (xs:aa V) (C j:Nat),D[j]?=some n -> xs[j]?=some x -> x.aG=false -> (n,(w.cell? ⟨b,off+(C+j),none⟩).getD undef)∈zu w b off C D xs
 |[],_,_,j,h,_,_=>by simp at h
 | m :: D,y :: xs,C,j,E,I,O=>by
  cases j with
  | zero=>
   simp at E I;subst E I;simp only[zu,O];simp_all
  | succ j=>
   have:=XK (w:=w) (b:=b) (off:=off) D xs (C+1) j (by simpa using E) (by simpa using I) O;rw[show C+1+j=C+(j+1) by omega]at this;simp[zu]
   grind
section
variable {P:Program} {w w':World} {w0:Wd} {B N:Nat} {af dz aA:bk} {ρ fe ρ':Nat->Loc} {σ:S} {a:Act} {X:Type} {d:Nat} {r:X} {ns cn:aa Nat} {o:Oper} {rs:aa Nat} {dZ:aa (Nat×Nat)} {nm KQ:Nat->Nat} {c0:Nat}
def jI.zk{nm:Nat -> Nat}:∀ (ps:aa Pt) (off:Nat) (C:aa Value) {B':Nat},jI w B af nm off ps C -> B' <= B -> (∀ b,B <= b -> aA b=af b) -> (∀ b k,af b=some k -> aA b=some k) -> (∀ n,off <= n -> n<off+(ps.map λp=>p.2.length).sum -> nm n=KQ n) -> jI w B' aA KQ off ps C
 |[],_,[],_,h,_,_,_,_=>h
 | p :: ps,off,v :: C,B',h,hB,hl,hg,hn=>by
  obtain⟨⟨E,us,O,T,U⟩,Y⟩:=h;simp only[List.map_cons,List.sum_cons]at hn
  refine⟨⟨E,us,O,T,λj x D=>?_⟩,jI.zk ps _ C Y hB hl hg (λn h1 h2=>hn n (by omega) (by omega))⟩
  obtain⟨I,Z,fJ⟩:=U j x D;have hj:j<p.2.length:=(dK.1 D).1;refine⟨I,Z,?_⟩;show RV w B' aA [KQ (off+j)] x I;rw[<- hn (off+j) (by omega) (by omega)];exact fJ.zk hB hl hg (bT.1 E x (gC D))
def QS(hR:Rl w0 N af ρ σ a w)(hv:ue w w' af dz ρ fe ns cn)(nY:∀ b k,aA b=some k -> dz b=some k)(oI:∀ b,w.heap.size <= b -> dz b=aA b)(hB:w0.heap.size <= w.heap.size):
  ∀(E:aa Mu) (ins outs:aa In) (i C:Nat),(∀j D,E[j]?=some D -> rs[i+j]?=some D.root) -> (∀D∈E,zp σ D) -> Gi E ins -> i+E.length <= 40 -> Gd w w' aA (xz w ρ rs) nm i C ins outs ->
  (∀k n,(zq c0 C E)[k]?=some n -> nm (C+k)=n) -> (∀p∈sM w' ρ c0 C E outs,fe p.1 = .dG p.2) -> (∀D∈E,cW D.root cn=false) -> outs.all XC=true -> ∀p∈lu ns cn c0 C E outs,dW w' w0.heap.size dz fe p.1 p.2
 |[],[],[],_,_,_,_,_,_,_,_,_,_,_,p,hp=>by simp[lu]at hp
 |[],[],_::_,_,_,_,_,_,_,h,_,_,_,_,_,_=>h.elim
 |[],_::_,_,_,_,_,_,h,_,_,_,_,_,_,_,_=>h.elim
 |.aB _ _ _::_,[],_,_,_,_,_,h,_,_,_,_,_,_,_,_=>h.elim
 |.sl _ _::_,[],_,_,_,_,_,h,_,_,_,_,_,_,_,_=>h.elim
 |.aB _ _ _::_,.sl _::_,_,_,_,_,_,h,_,_,_,_,_,_,_,_=>h.elim
 |.sl _ _::_,.aB _::_,_,_,_,_,_,h,_,_,_,_,_,_,_,_=>h.elim
 |.aB _ _ _::_,.aB _::_,[],_,_,_,_,_,_,h,_,_,_,_,_,_=>h.elim
 |.sl _ _::_,.sl _::_,[],_,_,_,_,_,_,h,_,_,_,_,_,_=>h.elim
 |.aB _ _ _::_,.aB _::_,.sl _::_,_,_,_,_,_,_,h,_,_,_,_,_,_=>h.elim
 |.sl _ _::_,.sl _::_,.aB _::_,_,_,_,_,_,_,h,_,_,_,_,_,_=>h.elim
 | .aB r cs I :: E,.aB xs0 :: ins,.aB xs :: outs,i,C,jK,jL,hrel,hi,hO,lR,Bt,oQ,T,p,hp=>by
  obtain⟨hm,hg,hlen⟩:=jL _ (.head _);obtain⟨⟨hw,hx⟩,Bq⟩:=hrel;obtain⟨g1,g2⟩:=QJ cs I hg;have nS:=jK 0 _ rfl;rw[Nat.add_zero]at nS;simp only[mb]at hi;have QT:xs0.length=cs.length:=by rw[<- hw.1,eS,g1]
  obtain⟨⟨b,off,cells,xy,e,e',U,h2,h3,h4,h5,h6,h7⟩,QU⟩:=hO;have fl:=hR.root r _ hm;generalize Y:aS.aB cs=z at fl;cases fl with
  |sl=>cases Y
  |mp=>cases Y
  |gh=>cases Y
  | aB b0 O XL e0 eV us cm hl hh hs hc=>
   injection Y with Y;subst Y;rw[Gh nS (by omega)]at U;have U:ρ r = .aB b off:=U;rw[cm]at U;injection U with e1 e2;subst e1 e2;have ahR:XL=cells:=by
    rw[hh]at h2;injection h2 with h2;injection h2
   subst ahR;have iG:=oQ _ (.head _);have DF:fe r = .aB b0 O:=(hv.eZ r iG).trans cm;have tV:nm C=r:=by have:=lR 0 r rfl;rwa [Nat.add_zero]at this
   have ahS:∀ (j:Nat) n,(mm c0 (C+1) I)[j]?=some n -> nm (C+1+j)=n:=by
    intro j n hn;have hj:j<(mm c0 (C+1) I).length:=(dK.1 hn).1;have:=lR (j+1) n (by simp only[zq,List.getElem?_cons_succ];rw[List.getElem?_append_left hj];exact hn);rw[show C+1+j=C+(j+1) by omega];exact this
   have nh:∀ (j:Nat) x,xs[j]?=some x -> ∃ u,xy[O+j]?=some u/\w'.cell? ⟨b0,O+j,none⟩=some u/\((x.plain=true /\ ∀ (w:World) (B:Nat) (af:bk) (q:aa Nat),RV w B af q x u) \/ (x.plain=false/\x.aG=true/\XL[O+j]?=some u) \/ (x.aG=false/\RV w' w.heap.size aA [nm (C+1+j)] x u)):=by
    intro j x hj;obtain⟨u,Z,hd⟩:=h7 j x hj;exact⟨u,Z,by rw[cell_of_row w' b0 _ xy _ _ h3];exact Z,hd⟩
   have yZ:∀ (j:Nat) n x u,(mm c0 (C+1) I)[j]?=some n -> xs[j]?=some x -> x.aG=false -> w'.cell? ⟨b0,O+j,none⟩=some u -> fe n = .dG u:=by
    intro j n x u hn hxj hf Z;have vt:=XK (w:=w') (b:=b0) (off:=O) _ xs 0 j hn hxj hf;rw[eW,Z]at vt;exact Bt (n,u) (by simp only[sM,cm,QN];exact List.mem_append_left _ vt)
   simp only[lu]at hp;rcases gv.1 hp with rfl|hp
   ·obtain⟨k1,k2⟩:=XI (ns:=ns) (cn:=cn) (mm c0 (C+1) I) cs xs (by rw[Gm,g1]) (by rw[h6,QT])
    refine .aB b0 O xy e' _ (λj=>xy.getD (O+j) undef) DF (nY _ _ (by rw[h4,tV])) h3 (by show O+(oT _ _ _ _ _).length <= _;rw[k1,<- QT,<- h6];exact h5) (λj z Y=>?_)
    obtain⟨n,l,x,n1,n2,n3,rfl⟩:=k2 j z Y;obtain⟨u,Z,KR,hd⟩:=nh j x n3;have eu:xy.getD (O+j) undef=u:=by rw[ig,Z];rfl
    rw[eu];refine⟨Z,?_⟩;rcases hd with ⟨d1,d2⟩|⟨d1,d2,d3⟩|⟨d1,d2⟩
    ·rw[d1,au];exact⟨V.FF d1,d2 _ _ _ _⟩
    ·rw[d1,d2,ax,au];obtain⟨c1,c2⟩:=hc j l n2;rw[c1]at d3;injection d3 with d3;rw[<- d3];exact c2.uf hv
    ·have mj:x.plain=false:=by
      cases mj:x.plain with
      |false=>rfl
      |true=>rw[V.FF mj]at d1;cases d1
     rw[mj,d1,ax,ax];exact⟨d2.Pw d1,by simp only[cQ,yZ j n x u n1 n3 d1 KR]⟩
   ·rcases gJ.1 hp with hp | hp
    ·obtain⟨j,x,n1,n2,n3,n4⟩:=XJ _ _ p hp;obtain⟨u,Z,KR,hd⟩:=nh j x n2;rw[n4];refine .sl u x (yZ j p.1 x u n1 n2 n3 KR) ?_;rcases hd with ⟨d1,d2⟩ | ⟨d1,d2,d3⟩ | ⟨d1,d2⟩
     ·simp[*]
     ·rw[n3]at d2;cases d2
     ·rw[ahS j _ n1]at d2;refine d2.zk hB oI nY ?_;rw[List.all_cons,aJ]at T;have:=bT.1 T.1 x (gC n2)
      rwa [n3,Bool.false_or]at this
    ·rw[List.all_cons,aJ]at T
     refine QS hR hv nY oI hB E ins outs (i+1) (C+1+I.length) (λj D Br=>?_) (λD h=>jL D (.tail _ h)) Bq (by omega) ?_ (λk n hn=>?_) (λp hp=>Bt p ?_) (λD h=>oQ D (.tail _ h)) T.2 p hp
     ·have:=jK (j+1) D (by simpa using Br);rw[show i+(j+1)=i+1+j by omega]at this;exact this
     ·rw[g1,<- QT];exact QU
     ·have:=lR (1+I.length+k) n (by
       rw[show 1+I.length+k=(I.length+k)+1 by omega];simp only[zq,List.getElem?_cons_succ];rw[List.getElem?_append_right (by rw[Gm];omega),Gm];rw[show I.length+k-I.length=k by omega];exact hn)
      rw[show C+1+I.length+k=C+(1+I.length+k) by omega];exact this
     ·simp only[sM];exact List.mem_append_right _ hp
 | .sl q y0 :: E,.sl y1 :: ins,.sl y :: outs,i,C,jK,jL,hrel,hi,hO,lR,Bt,oQ,T,p,hp=>by
  obtain⟨hm,hf⟩:=jL _ (.head _);obtain⟨_,Bq⟩:=hrel;have nS:=jK 0 _ rfl;rw[Nat.add_zero]at nS;simp only[mb]at hi;obtain⟨hO1,QU⟩:=hO;rw[List.all_cons,aJ]at T;have tV:nm C=q:=by have:=lR 0 q rfl;rwa [Nat.add_zero]at this
  have hp:(p=(q,.sl y)/\y.kf=true) \/ p∈lu ns cn c0 (C+1) E outs:=by
   simp only[lu]at hp;cases hy:y.kf with
   |false=>rw[hy]at hp;exact .inr hp
   | true=>
    rw[hy]at hp;rcases gv.1 hp with h|h
    ·grind
    ·simp[*]
  rcases hp with ⟨rfl,hy⟩|hp
  ·obtain⟨v,U,h2⟩:=hO1.resolve_left (by rintro rfl;cases hy);rw[Gh nS (by omega)]at U;rw[tV]at h2;exact .sl v y ((hv.eZ q (oQ _ (.head _))).trans U) (h2.zk hB oI nY T.1)
  ·refine QS hR hv nY oI hB E ins outs (i+1) (C+1) (λj D Br=>?_) (λD h=>jL D (.tail _ h)) Bq (by omega) QU (λk n hn=>?_) (λp hp=>Bt p hp) (λD h=>oQ D (.tail _ h)) T.2 p hp
   ·have:=jK (j+1) D (by simpa using Br);rw[show i+(j+1)=i+1+j by omega]at this;exact this
   ·have:=lR (k+1) n (by simpa [zq]using hn);rw[show C+1+k=C+(k+1) by omega];exact this
end
section
variable {P:Program} {w w':World} {w0:Wd} {B N:Nat} {af dz aA:bk} {ρ fe ρ':Nat->Loc} {σ:S} {a:Act} {X:Type} {d:Nat} {r:X} {ns cn:aa Nat} {o:Oper} {rs:aa Nat} {dZ:aa (Nat×Nat)} {nm KQ:Nat->Nat} {c0:Nat}
def ahT{C:aj Tmp}{E:fV}{k:S -> aj X}(h:qb N σ C E k=some r):∃ Z,k Z=some r /\ ∀ af ρ a w v,Rl w0 N af ρ σ a w -> p7 w w0.heap.size af (λn=>iq C+n) E v -> ∃ ρ',Rl w0 N af ρ' Z (a.put C v) w /\ ∀ r,r<iq C -> ρ' r=ρ r:=by
 unfold qb at h;cases C with
 |none=>exact⟨σ,h,λaf ρ a w v D _=>⟨ρ,D,λ_ _=>rfl⟩⟩
 | some d=>
  have h:(bif Nat.blt d N then (match E with
   | .one p=>(match yV (p.1,nW (1000000000100000+1000*d) p.2)with
    |some y=>k ((mh _ σ p.2).set d y)
    |none=>none)
   |.eY ps=>k ((nX _ σ ps).set d _))else none)=some r:=h
  cases hN:Nat.blt d N with
  |false=>rw[hN]at h;cases h
  | true=>
   rw[hN,au]at h;have xq:d<N:=cz hN;cases E with
   | one p=>
    simp only at h;split at h
    ·rename_i y hy
     refine⟨_,h,λaf ρ a w v D O=>?_⟩
     obtain⟨ρ',T,U,_,Y⟩:=F9 [p] (1000000000100000+1000*d) 0 σ ρ [v] (by omega) D O;have Ql:=Y 0 _ v rfl rfl;exact⟨ρ',T.set (PO hy Ql) xq,U⟩
    ·cases h
   | eY xw=>
    refine⟨_,h,λaf ρ a w v D O=>?_⟩
    obtain⟨I,rfl,hv⟩:=O;obtain⟨ρ',T,U,hlen,Y⟩:=F9 xw (1000000000100000+1000*d) 0 σ ρ I.toList (by omega) D hv
    refine⟨ρ',T.set ⟨I,rfl,by simpa using hlen,λj p hp=>?_⟩ xq,U⟩
    have hj:j<I.size:=by
     have:=(dK.1 hp).1
     grind
    exact⟨I[j],Array.getElem?_eq_getElem hj,Y j p _ hp (by rw[Array.getElem?_toList,Array.getElem?_eq_getElem hj])⟩
def QV{f:Nat}{args:Array Operand}{jJ:Array TypeId}{c:nt}{k:S -> aj X}(ho:o.op = .call { callee:=.value (.func f),args,argTypes:=jJ })(he:enters P f)(hc:vu P f c)(h:nZ N σ o.dst c args.toList k=some r):∃ c8 C cn,k c8=some r/\jq σ c.ps args.toList=some C/\(∀ n,cW n cn=true -> n<N \/ 60000 <= n)/\(∀ O∈C,cW O.root cn=false) /\
  ∀a w K Q af ρ,Rl w0 N af ρ σ a w -> (∀v w' dz fe sN,Rl w0 N dz sN c8 (a.put o.dst v) w' -> ue w w' af dz ρ fe ((ld 0 C).map (·.1)) cn -> iX w0 w w' -> (∀r,r<iq o.dst -> sN r=fe r) -> K (a.put o.dst v) w') -> o.wp P a w K Q:=by
 unfold nZ at h;split at h
 ·rename_i C uj;generalize XM:ld 0 C=dZ at h;cases lS:(once dZ&&Nat.ble C.length 40)with
  |false=>rw[lS]at h;cases h
  | true=>
   rw[lS,au]at h;rw[aJ]at lS;have auT:=cz lS.2;have ua:∀ p∈ld 0 C,dZ.lookup p.1=some p.2:=by
    intro p hp;rw[XM]at hp;have:=bT.1 lS.1 p hp;obtain⟨n,hn,he⟩:=(Option.any_eq_true _ _).1 this;simp_all
   obtain⟨x,U,hrel,auU,tZ⟩:=KN (w0:=w0) (N:=N) _ _ C _ uj h;clear h;split at U
   ·rename_i y hy;unfold DD at U;generalize oQ:nu (iq o.dst) (eT c.ro y.1).len C (iP (eF c.ps) y.2)=cn at U;generalize A9:dZ.map (·.1)=ns at U tZ;cases jt:DC N C (iP (eF c.ps) y.2) cn with
    |false=>rw[jt]at U;cases U
    | true=>
     rw[jt,au]at U;simp only[DC,aJ]at jt;obtain⟨⟨⟨ok1,XN⟩,XO⟩,ok4⟩:=jt;obtain⟨c8,h3,Bu⟩:=ahT (w0:=w0) U
     refine⟨c8,C,cn,h3,uj,λn hn=>?_,λO jL=>by simpa using bT.1 XN O jL,λa w K Q af ρ E hK=>?_⟩
     ·have:=bT.1 XO n (ud.1 hn);rw[dQ]at this;rcases this with h | h
      ·exact .inl (by have:=cz h;omega)
      ·exact .inr (cz h)
     have Z:Bo ns af (eE af dZ id):=by rw[<- A9];exact ahP (λb k hb=>(E.cV b k hb).2.2)
     have XP:=KM _ _ _ uj;let rs:=C.map Mu.root
     have jK:∀ j O,C[j]?=some O -> rs[0+j]?=some O.root:=by
      intro j O hj;rw[eW,ez,hj];rfl
     have hE:=QM (rs:=rs) E Z C (nq c.ps x) 0 ua jK XP hrel (by omega);have hA:=tZ af ρ a w (eE af dZ id) (xz w ρ rs) E Z (nq c.ps x) 0 (λj z T=>by rw[eW];exact T) (λj O hj=>by
      have h1:=jK j O hj;rw[eW]at h1 ⊢;exact Gh h1 (by have:=(dK.1 hj).1;omega))
     obtain⟨hA1,P4⟩:=DB.get _ _ hA;let nm:Nat -> Nat:=λn=>if n<(eT c.ro y.1).len then iq o.dst+n else (zq (iq o.dst) (eT c.ro y.1).len C).getD (n-(eT c.ro y.1).len) 0
     have p9:∀ (ps:aa PK) (i:Nat) (x:kZ ps),(kj ps i x).length=ps.length:=by
      intro ps
      induction ps with
      |nil=>intro i x;rfl
      | cons p ps ih=>
       intro i x;cases p with
       |v=>exact bz (· + 1) (ih _ _)
       |p=>exact bz (· + 1) (ih _ _)
       |s=>exact bz (· + 1) (ih _ _)
     unfold Oper.wp;rw[KF w o a f args jJ ho he,Oper.upon_enter];have xu:(args.map a.eval)=(args.toList.map a.eval).toArray:=by apply Array.ext';rw[Array.toList_map]
     rw[xu];have KS:∀ b k,eE af dZ id b=some k -> (∃ I,af b=some I/\fQ I ns=true)/\k≠[]:=by
      intro b k hb;cases hl:af b with
      |none=>rw[Z.none b hl]at hb;cases hb
      | some I=>
       refine⟨⟨I,rfl,?_⟩,?_⟩
       ·cases hq:fQ I ns with
        |true=>rfl
        |false=>rw[(Z.rest b I hl).2 hq]at hb;cases hb
       ·simp only[eE,hl]at hb;split at hb
        ·cases hb
        ·cases XQ:dZ.lookup _ with
         |none=>rw[XQ]at hb;cases hb
         |some n=>rw[XQ]at hb;injection hb with hb;subst hb;simp
     have hQ:Hd w (eE af dZ id):=w0.on E.below (λb k hb=>by obtain⟨⟨I,hl,_⟩,_⟩:=KS b k hb;exact(E.cV b I hl).1)
     refine(hc x y hy nm w (eE af dZ id) (xz w ρ rs) _ hE (λb k hb=>⟨?_,(KS b k hb).2⟩) ?_ P4 hQ).mono λe w' q9=>?_
     ·obtain⟨⟨I,hl,_⟩,_⟩:=KS b k hb;exact(E.cV b I hl).2.1
     ·rw[List.size_toArray,hA1,p9]
     ·obtain⟨v,D,rfl,Y,DG,ki,QW⟩:=q9;have hB:=E.below.size;let dz:bk:=λb=>match eE af dZ id b with
       |none=>if b<w.heap.size then af b else D b
       |some _=>D b
      have e1:∀ b k,D b=some k -> dz b=some k:=by
       intro b k hb;show (match eE af dZ id b with|none=>if b<w.heap.size then af b else D b|some _=>D b)=some k;split
       next iG=>have:=(DG b k hb).1;have oI:=this.resolve_right (λh=>h iG);rw[aW];exact hb
       ·exact hb
      have e2:∀ b,w.heap.size <= b -> dz b=D b:=by
       intro b hb;show (match eE af dZ id b with|none=>if b<w.heap.size then af b else D b|some _=>D b)=D b;split
       ·rw[aW]
       ·rfl
      have XR:∀ p∈sM w' ρ (iq o.dst) (eT c.ro y.1).len C (iP (eF c.ps) y.2),(sM w' ρ (iq o.dst) (eT c.ro y.1).len C (iP (eF c.ps) y.2)).lookup p.1=some p.2:=
       XH (by rw[KP,oQ];exact ok1)
      generalize Bt:sM w' ρ (iq o.dst) (eT c.ro y.1).len C (iP (eF c.ps) y.2)=hd at XR;have ahU:hd.map (·.1)=cn:=by rw[<- Bt,KP,oQ]
      have hv:ue w w' af dz ρ (XF hd ρ) ns cn:=by
       refine⟨Y.size,λb hb hk=>?_,λn hn=>?_,λb k hb=>(E.cV b k hb).2⟩
       ·have iG:eE af dZ id b=none:=by
         cases hl:af b with
         |none=>exact Z.none b hl
         |some k=>exact(Z.rest b k hl).2 (hk k hl)
        refine⟨Y.block b hb iG,?_⟩;show (match eE af dZ id b with|none=>if b<w.heap.size then af b else D b|some _=>D b)=af b;rw[iG];exact aV hb
       ·show (match hd.lookup n with|some v=>Loc.dG v|none=>ρ n)=ρ n;rw[XG (by rw[ahU];exact hn)]
      have zv:∀O∈C,cW O.root cn=false:=λO jL=>by simpa using bT.1 XN O jL
      have vG:=QS (c0:=iq o.dst) (nm:=nm) E hv e1 e2 hB C (nq c.ps x) (iP (eF c.ps) y.2) 0 (eT c.ro y.1).len jK XP hrel (by omega) QW (λk n hn=>?_) (λp hp=>?_) zv ok4
      ·have XS:iX w0 w w':=by
        refine⟨Y.os,Y.tape,Y.output,Y.size,λk hk hL=>Y.block k (Nat.lt_of_lt_of_le hk hB) ?_⟩
        cases hl:af k with
        |none=>exact Z.none k hl
        |some I=>exact absurd hL ((E.cV k I hl).1.resolve_left (by omega))
       have nj:Rl w0 N dz (XF hd ρ) (σ.de ns cn (lu ns cn (iq o.dst) (eT c.ro y.1).len C (iP (eF c.ps) y.2))) a w':=by
        refine E.uf hv XS (λb k hb=>?_) (λn hn=>?_) (λn z T=>?_)
        ·have hb:(match eE af dZ id b with | none=>if b<w.heap.size then af b else D b | some _=>D b)=some k:=hb;have XT:D b=some k -> (w0.heap.size <= b \/ w0.L b≠none)/\b<w'.heap.size/\k≠[]:=by
          intro h1;obtain⟨g1,g2,g3⟩:=DG b k h1;refine⟨?_,g2,g3⟩;rcases g1 with g1|g1
          ·exact .inl (Nat.le_trans hB g1)
          ·cases iG:eE af dZ id b with
           |none=>exact absurd iG g1
           | some k2=>
            obtain⟨⟨I,hl,_⟩,_⟩:=KS b k2 iG;exact(E.cV b I hl).1
         split at hb
         ·split at hb
          ·have:=E.cV b k hb;exact⟨this.1,Nat.lt_of_lt_of_le this.2.1 Y.size,this.2.2⟩
          ·exact XT hb
         ·exact XT hb
        ·have:=bT.1 XO n (ud.1 hn);rw[dQ]at this;refine E.cL n ?_;rcases this with h | h
         ·exact .inl (by have:=cz h;omega)
         ·exact .inr (cz h)
        ·have vt:(n,z)∈lu ns cn (iq o.dst) (eT c.ro y.1).len C (iP (eF c.ps) y.2):=by
          clear vG;generalize lu ns cn (iq o.dst) (eT c.ro y.1).len C (iP (eF c.ps) y.2)=l at T
          induction l with
          |nil=>cases T
          | cons p l ih=>
           rw[List.lookup_cons]at T;cases hb:n==p.1 with
           | true=>
            rw[hb]at T;have e:n=p.1:=by simpa using hb
            injection T with T;rw[e,<- T]
            grind
           | false=>
            rw[hb]at T;exact .tail _ (ih T)
         exact vG (n,z) vt
       have ahV:p7 w' w0.heap.size dz (λn=>iq o.dst+n) (eT c.ro y.1) v:=?_
       ·obtain⟨sN,Gn,xD⟩:=Bu dz _ a w' v nj ahV;exact hK v w' dz _ sN Gn (by rw[XM,A9];exact hv) XS xD
       have QX:∀(L:Nat),L=(eT c.ro y.1).len -> ∀n,n<L -> nm n=iq o.dst+n:=λL hL n hn=>aV
       generalize auV:eT c.ro y.1=res at ki QX;cases res with
       | one p=>
        have ki:jI w' w.heap.size D nm 0 [p] [v]:=ki;exact jI.zk [p] 0 [v] ki hB e2 e1 (λn _ hn=>QX _ rfl n (by simpa [fV.len]using hn))
       | eY xw=>
        obtain⟨vs,e,lP⟩:=ki;exact⟨vs,e,jI.zk xw 0 vs.toList lP hB e2 e1 (λn _ hn=>QX _ rfl n (by simpa [fV.len]using hn))⟩
      ·show (if (eT c.ro y.1).len+k<(eT c.ro y.1).len then iq o.dst+((eT c.ro y.1).len+k)else (zq _ (eT c.ro y.1).len C).getD ((eT c.ro y.1).len+k-(eT c.ro y.1).len) 0)=n;rw[aW,show (eT c.ro y.1).len+k-(eT c.ro y.1).len=k by omega,cS,hn];rfl
      ·rw[Bt]at hp;show (match hd.lookup p.1 with|some v=>Loc.dG v|none=>ρ p.1) = .dG p.2;rw[XR p hp]
   ·cases U
 ·cases h
def ahW{f:Nat}{args:Array Operand}{E:Array TypeId}{c:nt}{k:S -> aj X}(I:o.op = .call { callee:=.value (.func f),args,argTypes:=E })(O:enters P f)(T:vu P f c)(h:nZ N σ o.dst c args.toList k=some r):∃ C,k C=some r/\kW P w0 N o σ C:=by
 obtain⟨C,QY,cn,U,_,_,_,Y⟩:=QV I O T h
 refine⟨C,U,λa w K Q D Z=>?_⟩
 obtain⟨af,ρ,D⟩:=D;exact Y a w K Q af ρ D λv w' dz fe sN dU _ _ _=>Z _ _ ⟨dz,sN,dU⟩
end
end Go.Proofs.YtpigmalhjkekiaaGreat
