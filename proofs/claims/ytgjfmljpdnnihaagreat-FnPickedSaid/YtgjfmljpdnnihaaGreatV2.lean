/-
  Running the program over pure contents, and that it follows (part 2). Nothing here is a claim.
-/
import Derived.Laws.StructEq
import Derived.Test.YtgjfmljpdnnihaaGreatV1
set_option linter.unusedSimpArgs false
namespace Go.Proofs.YtgjfmljpdnnihaaGreat
set_option linter.defProp false
open Go.RowKit
set_option linter.unusedVariables false
def aCE{X:Type}(N:Nat)(σ:S)(C:aj Tmp)(c x y:A)(k:S->aj X):aj X:=
 match c with
 |.lf (.v (.bool b))=>bif b then gY N σ C x k else gY N σ C y k
 |_=>none
def GB{X:Type}(P:Program)(s:TypeId)(x:A)(f:Nat)(k:A->aj X):aj X:=
 match Gj P s f,x with
 | some C,.agg cs=>(match jo P C.type,Dm P C.type with
  |some n,some true=>if C.offset+n<=cs.length then k (.agg ((cs.drop C.offset).take n))else none
  | some _,some false=>(match cs[C.offset]? with
   |some y=>k (.lf y)
   |none=>none)
  |_,_=>none)
 |_,_=>none
def Dz{X:Type}(C:Bool)(x y:A)(k:A->aj X):aj X:=
 match x,y with
 |.lf (.v (.int D a)),.lf (.v (.int _ b))=>k (.lf (.v (.int D (bif C then (if b > a then b else a)else (if b<a then b else a)))))
 |_,_=>none
def GC{X:Type}(P:Program)(t:TypeId)(x i:A)(k:A->aj X):aj X:=
 match x,i with
 | .lf (.v (.str s)),.lf (.v (.int _ iv))=>(match P.underlying t with
  |some .string=>if h:0<=iv/\iv.toNat<s.size then k (.lf (.v (.int .u8 ((s[iv.toNat]'h.2).toNat:Int))))else none
  |_=>none)
 |_,_=>none
def tA{X:Type}(x:aj A)(d:Int)(k:Int->aj X):aj X:=
 match x with
 |none=>k d
 |some (.lf (.v (.int _ n)))=>k n
 |_=>none
def wP{X:Type}(P:Program)(t:TypeId)(x:A)(lo hi:aj A)(k:A->aj X):aj X:=
 match x with
 | .lf (.v (.str s))=>(match P.underlying t with
  |some .string=>tA lo 0 λl=>tA hi (s.size:Int) λh=>if 0<=l/\l<=h/\h<=(s.size:Int)then k (.lf (.v (.str (s.extract l.toNat h.toNat))))else none
  |_=>none)
 | .lf (.v (.sl C g D l))=>(match pW P t with
  | some e=>(match jo P e with
   |some n=>if n=aF C then (bif Nat.blt g 2 then tA lo 0 λa=>tA hi (l.length:Int) λb=>if 0<=a/\a<=b/\b<=(l.length:Int)then k (.lf (.v (.sl C g false ((l.take b.toNat).drop a.toNat))))else none else none)else none
   |none=>none)
  |none=>none)
 |_=>none
def DA(P:Program)(C D:TypeId):Bool:=
 match P.underlying C,P.underlying D with
 | some (.slice e),some .string=>(match P.underlying e with
  |some (.int .u8)=>true
  |_=>false)
 |_,_=>false
def Mt{X:Type}(P:Program)(C D:TypeId)(z:V)(k:A->aj X):aj X:=
 match z with
 |.sl .u8 _ _ l=>bif DA P C D then k (.lf (.v (.str (strOfNums l))))else none
 |.nil=>bif DA P C D then k (.lf (.v (.str (strOfNums []))))else none
 |_=>none
def yQ{X:Type}(P:Program)(σ:S)(C D:TypeId)(x:A)(k:A->aj X):aj X:=
 match x with
 | .lf (.v (.int _ n))=>(match P.underlying C,P.underlying D with
  |some _,some (.int E)=>k (.lf (.v (.int E (E.wrap n))))
  |_,_=>none)
 |.lf y=>oT σ y λz=>Mt P C D z k
 |_=>none
section
variable {P:Program} {w w':World} {w0:Wd} {B N:Nat} {ah aD:bE} {ρ ρ':Nat->Loc} {σ:S} {a:Act} {X:Type} {d:Nat} {r:X} {o:Oper}
def aCF{α:Type}(f:α -> aa Value)(s:Nat)(C:∀ x,(f x).length=s)(l:aa α):(l.flatMap f).length=l.length*s:=by
 induction l with
 |nil=>simp
 |cons a l D=>grind
def al6{α:Type}(f:α -> aa Value)(s:Nat)(D:∀ x,(f x).length=s):∀ (l:aa α) (k:Nat) (C:k<l.length) (j:Nat),j<s -> (l.flatMap f)[k*s+j]?=(f l[k])[j]?:=by
 intro l
 induction l with
 |nil=>simp_all
 | cons a l E=>
  intro k C j I;rw[List.flatMap_cons];cases k with
  |zero=>grind
  |succ k =>grind
def aaf(z:Array Value)(s n:Nat)(C:z.size=s)(E:0<s):(madeCells z (n*s)).toList=(List.replicate n z.toList).flatten:=by
 have e:(List.replicate n z.toList).flatten=(List.replicate n ()).flatMap (λ_=>z.toList):=by
  rw[List.flatMap_def,List.map_replicate]
 rw[e];have hl:((List.replicate n ()).flatMap (λ_=>z.toList)).length=n*s:=by
  simp_all
 apply List.ext_getElem?;intro i;rcases Nat.lt_or_ge i _ with hi|hi
 ·have I:i / s<n:=Nat.div_lt_of_lt_mul (by rw[Nat.mul_comm];exact hi);have L:i % s<s:=Nat.mod_lt _ E;have O:i=i / s*s+i % s:=by rw[Nat.mul_comm];exact(Nat.div_add_mod i s).symm
  have D:=al6 (λ_=>z.toList) s (λ_=>by simpa using C) (List.replicate n ()) (i / s) (by simpa using I) (i % s) L;rw[<- O]at D;rw[D];have T:i % s<z.size:=by omega
  simp only[madeCells,Array.toList_map,Array.toList_range,eH,List.getElem?_range hi,Option.map_some,C];simp[T]
 ·rw[List.getElem?_eq_none (by rw[lR,size_madeCells];exact hi),List.getElem?_eq_none (by rw[hl];exact hi)]
def al7{t:TypeId}{len:Nat}{parts:Array (Nat×Operand)}{k:S -> aj X}(h:yP P N σ d t len parts.toList k=some r):∃ c8,k c8=some r /\ ∀ ah ρ a w,Rl w0 N ah ρ σ a w ->
  ∃w' aD ρ' v,(Instr.buildSlice t len (parts.map λ(i,x)=>(i,a.eval x))).run P w = .ok v w'/\Rl w0 N aD ρ' c8 (a.put (some d) v) w':=by
 unfold yP at h;split at h
 ·rename_i e C oW;obtain⟨gi,ht,i,hi,Y,jU⟩:=yM oW;split at h
  ·rename_i z hz;cases T:(Nat.beq (full C) 0&&Nat.beq z.cells.size (aF C)&&Nat.blt (len*aF C) 16777217)with
   |false=>rw[T]at h;cases h
   | true=>
    rw[T,aq]at h;simp only[aO]at T;have hf:=cC T.1.1;have ni:=cC T.1.2;have hsm:len*aF C<16777217:=by have:=cK T.2;omega
    have oX:i.zero=some z:=by unfold zeroOf at hz;simpa [hi]using hz
    split at h
    ·rename_i cs jq;split at h
     ·rename_i vs lZ;split at h
      ·rename_i l hl;obtain⟨hd,h⟩:=oV h
       refine⟨_,h,λah ρ a w hR=>?_⟩
       obtain⟨Mv,A7,iG⟩:=Td C 0 len vs l hl;have Te:eJ w w0.heap.size ah ρ (List.replicate len (z.cells.toList.map od)).flatten (madeCells z.cells (len*aF C)):=by
        have e1:(List.replicate len (z.cells.toList.map od)).flatten=((List.replicate len z.cells.toList).flatten).map od:=by
         rw[List.map_flatten,List.map_replicate]
        rw[e1,<- aaf z.cells (aF C) len ni (oN C)]
        refine⟨by simp,λj x D=>?_⟩
        rw[eH]at D;cases I:(madeCells z.cells (len*aF C)).toList[j]? with
        |none=>rw[I]at D;cases D
        | some v=>
         rw[I]at D;injection D with D;subst D;exact⟨v,by simpa using I,Mm v⟩
       obtain⟨L,wQ,dV⟩:=Mr (w:=w) (B:=w0.heap.size) (ah:=ah) (ρ:=ρ) _ _ _ (parts.toList.map λp=>(p.1,a.eval p.2)) cs jq Te (by simp) (λj p q O Z=>by
        rw[eH]at O Z;cases D:parts.toList[j]? with
        |none=>rw[D]at O;cases O
        | some x=>
         rw[D]at O Z;injection O with O;injection Z with Z;subst O Z;exact⟨rfl,hR.aK x.2⟩)
       have aag:=Ms cs vs lZ;have al8:L.size=len*aF C:=by rw[dV.1,aag,eI,A7]
       have eO:(Instr.buildSlice t len (parts.map λ(i,x)=>(i,a.eval x))).run P w = .ok (.slice (some ⟨w.heap.size,0,none⟩) len len) (w.alloc (.cells L e)):=by
        have GA:(parts.map λ(i,x)=>(i,a.eval x)).toList=parts.toList.map λp=>(p.1,a.eval p.2):=by simp
        by_cases h0:len*aF C=0
        ·have hm:madeCells z.cells (len*aF C) = #[]:=by rw[h0];simp[madeCells]
         rw[hm]at wQ;have Tf:len*i.size=0:=by rw[Y];exact h0
         rw[<- Y]at wQ;have e0:∀f:Nat -> Value,Array.map f (Array.range 0) = #[]:=λf=>by simp
         simp only[Instr.buildSlice,gd,gL gi,sizeOf,typeInfo];simp[hi,Tf];rw[e0,wQ];simp[newRow]
        ·exact run_buildSlice (P:=P) w t e len _ L i z gi hi oX (by rw[Y];omega) (by rw[Y];exact h0) (by rw[Y,GA];exact wQ)
       refine⟨_,bV ah w.heap.size (some [d]),bV ρ d (.dJ (.slice (some ⟨w.heap.size,0,none⟩) len len)),_,eO,(hR.Du (hR.dj d (.inl hd)) (λr hr=>cH _ _ _ hr) (.sl _ _ (cc _ _ _) ?_)).set ⟨rfl,by simp[cW,cc]⟩ hd⟩
       have qS:∀ E (U:E<l.length) j x,(enc C 0 l[E])[j]?=some x -> ∃ v,L[E*aF C+j]?=some v /\ ∀ (w':World) (B':Nat) (aD:bE) (q':aa Nat),RV w' B' aD q' x v:=by
        intro E U j x D;obtain⟨y,hy,hw⟩:=iG E U j x D;obtain⟨v,I,hr⟩:=dV.2 (E*aF C+j) (.v y) (by rw[aag,eH,hy];rfl);exact⟨v,I,λw' B' aD q'=>(hr.2.wk hw).tj (yB C 0 l[E] hf x (gF D))⟩
       have:=RV.own (w:=w.alloc (.cells L e)) (B:=w0.heap.size) (ah:=bV ah w.heap.size (some [d])) [d] C 0 true l w.heap.size len L (λi j=>(L[i*aF C+j]?).getD undef)
        (cc _ _ _) (by rw[ht];exact heap_alloc_new w _) al8 (by omega) ⟨by have:=Nat.le_mul_of_pos_right len (oN C);unfold maxLen;omega,λ_=>Mv.symm⟩ (λE U j x D=>?_) (λE U j x D=>?_)
       ·rw[Mv]at this;exact this
       ·obtain⟨v,I,_⟩:=qS E U j x D;rw[I];rfl
       ·obtain⟨v,I,hr⟩:=qS E U j x D;rw[I];exact hr _ _ _ _
      ·cases h
     ·cases h
    ·cases h
  ·cases h
 ·cases h
def aah{C:Bool}{x y:A}{k:A->aj X}(h:Dz C x y k=some r):∃ z,k z=some r/\∀ (w:World) (B:Nat) (ah:bE) (ρ:Nat->Loc) (t ty:TypeId) (u v:Value),RA w B ah ρ x u->RA w B ah ρ y v->
  ∃D,((bif C then Builtin.max_ #[t,t] ty #[u,v]else Builtin.min_ #[t,t] ty #[u,v]):Sem Value).run P w = .ok D w/\RA w B ah ρ z D:=by
 unfold Dz at h;split at h
 ·refine⟨_,h,λw B ah ρ t ty u v E I=>?_⟩
  obtain rfl:=E.2.gJ;obtain rfl:=I.2.gJ;cases C with
  |true=>exact⟨_,by simp[Builtin.max_,Builtin.max2],rfl,.int _ _ _⟩
  |false=>exact⟨_,by simp[Builtin.min_,Builtin.min2],rfl,.int _ _ _⟩
 ·cases h
def al9{t:TypeId}{x i:A}{k:A->aj X}(h:GC P t x i k=some r):∃ z,k z=some r/\∀ (w:World) (B:Nat) (ah:bE) (ρ:Nat->Loc) (u v:Value),RA w B ah ρ x u->RA w B ah ρ i v->
  ∃C,(Instr.index t u v).run P w = .ok C w/\RA w B ah ρ z C:=by
 unfold GC at h;split at h
 ·rename_i s L iv;split at h
  ·rename_i D;split at h
   ·rename_i hb
    refine⟨_,h,λw B ah ρ u v E I=>?_⟩
    obtain rfl:=E.2.wG;obtain rfl:=I.2.gJ;exact⟨_,by simp[Instr.index,asIntOf,gL D,hb.1,hb.2],rfl,.int _ _ _⟩
   ·cases h
  ·cases h
 ·cases h
def aai{C D:TypeId}(h:DA P C D=true):∃ e,P.underlying C=some (.slice e)/\P.underlying D=some .string/\P.underlying e=some (.int .u8):=by
 unfold DA at h
 grind
def aaj(l:aa Int)(i:Nat)(hi:i<l.length):l.getD i 0=l[i]:=by rw[ei,bQ hi];rfl
def RV.toStr{I L e:TypeId}(U:P.underlying I=some (.slice e))(Y:P.underlying L=some .string)(Z:P.underlying e=some (.int .u8)){o:Nat}{qn:Bool}{l:aa (T .u8)}{q:aa Nat}{B:Nat}{u:Value}(h:RV w B ah q (.sl .u8 o qn l) u):
  (convert I L u).run P w = .ok (.string (strOfNums l)) w:=by
 generalize C:V.sl .u8 o qn l=y at h;cases h with
 |int=>cases C
 |bool=>cases C
 |str=>cases C
 |nil=>cases C
 | eD q t o'=>
  injection C with D e2 e3 E;subst D;obtain rfl:=eq_of_heq E;rw[run_convert_bytes_nil w I e U Z 0 0 L Y];rfl
 | fF q t o' A c ho=>
  injection C with D e2 e3 E;subst D;obtain rfl:=eq_of_heq E;have hl:=run_loadCells_list (P:=P) w A [] (λj v hj=>by simp at hj);rw[run_convert_bytes_string w I L e _ 0 c U Z Y];rfl
 | fV q t o' A c ho=>
  injection C with D e2 e3 E;subst D;obtain rfl:=eq_of_heq E;have hl:(loadCells A 0).run P w = .ok (([]:aa Int).map (Value.int .u8)).toArray w:=run_loadCells_list (P:=P) w A [] (λj v hj=>by simp at hj);rw[run_convert_bytes_string w I L e _ 0 c U Z Y,run_bytesToString w A 0 c [] hl];rfl
 | aH q t o' Tg l' b off cap uu ho hl hb h1 lV hc hr=>
  injection C with D e2 e3 E;subst D;obtain rfl:=eq_of_heq E
  refine run_convert_bytes_arg w I e U Z b off _ cap l rfl (λi hi=>?_) L Y
  have O:=hc i hi 0 (.int .u8 l[i]) rfl;have h3:=(hr i hi 0 (.int .u8 l[i]) rfl).gJ;simp only[aF,Nat.mul_one,Nat.add_zero]at O;have hg:=aaj (show aa Int from l) i hi;rw[O,h3];exact bq (λz=>some (Value.int .u8 z)) hg.symm
 | own q t o' Tg l' b cap cs uu hl hh oS hn hm hc hr=>
  injection C with D e2 e3 E;subst D;obtain rfl:=eq_of_heq E
  refine run_convert_bytes_arg w I e U Z b 0 _ cap l rfl (λi hi=>?_) L Y
  have O:=hc i hi 0 (.int .u8 l[i]) rfl;have h3:=(hr i hi 0 (.int .u8 l[i]) rfl).gJ;simp only[aF,Nat.mul_one,Nat.add_zero]at O;have hg:=aaj (show aa Int from l) i hi;rw[h3]at O;have h4:w.cell? ⟨b,0+i,none⟩=some (.int .u8 l[i]):=by simp[World.cell?,hh,O]
  rw[h4];exact bq (λz=>some (Value.int .u8 z)) hg.symm
def ama{E I:TypeId}{x:A}{k:A -> aj X}(h:yQ P σ E I x k=some r):∃ z,k z=some r /\ ∀ ah ρ a w,Rl w0 N ah ρ σ a w -> ∀ u,RA w w0.heap.size ah ρ x u ->
  ∃t',(convert E I u).run P w = .ok t' w/\RA w w0.heap.size ah ρ z t':=by
 unfold yQ at h;split at h
 ·rename_i kk n;split at h
  ·rename_i d1 kd hs hd
   refine⟨_,h,λah ρ a w _ u C=>?_⟩
   obtain rfl:=C.2.gJ;exact⟨_,by simp[convert,gL hs,gL hd,Conv.intToInt],rfl,.int _ _ _⟩
  ·cases h
 ·rename_i y _;have key:∃ z,(∀ ah ρ a w,Rl w0 N ah ρ σ a w -> ∀ u,dP w w0.heap.size ah ρ y u -> ∃ q,RV w w0.heap.size ah q z u)/\Mt P E I z k=some r:=by
   cases y with
   |v z=>exact⟨z,λah ρ a w _ u C=>⟨[],C.2⟩,h⟩
   |dead=>cases h
   | own q=>
    obtain⟨z,O,h⟩:=sg q _ h
    refine⟨z,λah ρ a w hR u C=>?_,h⟩
    obtain⟨v,hv,T⟩:=O.ok hR.root;have h3:=C.2
    grind
  obtain⟨z,O,D⟩:=key;clear h;unfold Mt at D;split at D
  ·rename_i o qn l;cases L:DA P E I with
   |false=>simp_all
   | true=>
    rw[L]at D;obtain⟨e,U,Y,Z⟩:=aai L
    refine⟨_,D,λah ρ a w hR u C=>?_⟩
    obtain⟨q,T⟩:=O ah ρ a w hR u C;exact⟨_,T.toStr U Y Z,rfl,.str _ _⟩
  ·cases L:DA P E I with
   |false=>simp_all
   | true=>
    rw[L,aq]at D;obtain⟨e,U,Y,Z⟩:=aai L
    refine⟨_,D,λah ρ a w hR u C=>?_⟩
    obtain⟨q,T⟩:=O ah ρ a w hR u C;cases T;exact⟨_,by rw[run_convert_bytes_nil w E e U Z 0 0 I Y];rfl,rfl,.str _ _⟩
  ·cases D
 ·cases h
def amb{s:TypeId}{x:A}{f:Nat}{k:A -> aj X}(h:GB P s x f k=some r):∃ z,k z=some r /\ ∀ (w:World) (B:Nat) (ah:bE) (ρ:Nat -> Loc) (u:Value),RA w B ah ρ x u ->
  ∃Y,(Instr.field s u f).run P w = .ok Y w/\RA w B ah ρ z Y:=by
 unfold GB at h;split at h
 ·rename_i E cs I;have jY:∃ L,P.underlying s=some (.struct L)/\L[f]?=some E:=by
   unfold Gj at I;split at I
   ·simp_all
   ·cases I
  obtain⟨L,Z,yR⟩:=jY;split at h
  ·rename_i n O C;split at h
   ·rename_i hle
    refine⟨_,h,λw B ah ρ u D=>?_⟩
    obtain⟨us,rfl,hR⟩:=D;have T:(isAgg E.type).run P w = .ok true w:=by
     unfold Dm at C;split at C
     next fs' D=>unfold isAgg;rw[gd,gL D];rfl
     next c e D=>unfold isAgg;rw[gd,gL D];rfl
     ·cases C
     ·cases C
    unfold jo at O;cases hi:P.info? E.type with
    |none=>simp_all
    | some i=>
     have A3:i.size=n:=by simpa [hi]using O
     refine⟨.agg (us.extract E.offset (E.offset+n)),by simp[Instr.field,gL Z,yR,asAgg,part,gd,T,sizeOf,typeInfo,hi,A3],_,rfl,?_,λj y U=>?_⟩
     ·have:=hR.1
      grind
     ·obtain⟨hj,GD⟩:=Md _ _ _ _ _ U;obtain⟨v,hv,hr⟩:=hR.2 _ y GD
      grind
   ·cases h
  ·rename_i n O C;split at h
   ·rename_i y U
    refine⟨_,h,λw B ah ρ u D=>?_⟩
    obtain⟨us,rfl,hR⟩:=D;obtain⟨v,hv,hr⟩:=hR.2 _ y U;have T:(isAgg E.type).run P w = .ok false w:=by
     unfold Dm at C;split at C
     ·cases C
     ·cases C
     next d hs ha D=>unfold isAgg;rw[gd,gL D];simp_all
     ·cases C
    exact⟨v,by simp[Instr.field,gL Z,yR,asAgg,part,gd,T,hv],hr⟩
   ·cases h
  ·cases h
 ·cases h
end
def V.val:V->Value
 |.int k n=>.int k n
 |.bool b=>.bool b
 |.str s=>.string s
 |_=>undef
def Mw:TypeDesc->V->V->aj Bool
 |.int _,.int k a,.int C b=>if k=C then some (a==b)else none
 |.bool,.bool a,.bool b=>some (a==b)
 |.string,.str a,.str b=>some (a.toList==b.toList)
 |_,_,_=>none
def GF(P:Program)(g:TypeId->aa V->aa V->aj Bool)(xs ys:aa V):aa Field->aj Bool
 |[]=>some true
 | f :: C=>bif f.name == "_" then GF P g xs ys C else (match jo P f.type with
  | some n=>bif Nat.ble (f.offset+n) xs.length then (match g f.type ((xs.drop f.offset).take n) ((ys.drop f.offset).take n),GF P g xs ys C with
   |some a,some b=>some (a&&b)
   |_,_=>none)else none
  |none=>none)
def yS(P:Program):Nat->TypeId->aa V->aa V->aj Bool
 |0,_,_,_=>none
 | n+1,t,xs,ys=>match P.underlying t with
  |some (.struct C)=>bif P.stoodInHeld t ||!Nat.beq xs.length ys.length then none else GF P (yS P n) xs ys C.toList
  | some d=>(match xs,ys with
   |[x],[y]=>Mw d x y
   |_,_=>none)
  |none=>none
def Mx:BinOp->aj Bool
 |.eql=>some false
 |.neq=>some true
 |_=>none
def jC{α:Type}:aa α->Bool
 |[]=>true
 |_=>false
def isStr(P:Program)(t:TypeId):Bool:=match P.underlying t with
 |some (.struct _)=>true
 |_=>false
def yT{X:Type}(P:Program)(σ:S)(D:BinOp)(t:TypeId)(x y:A)(k:A->aj X):aj X:=
 match Mx D,x,y with
 | some C,.agg cs,.agg E=>(match qT cs,qT E with
  | some xs,some ys=>bif P.eqGuardType P.depth t || !isStr P t then none else (match yS P 20 t xs ys with
   |some b=>k (.lf (.v (.bool (bif C then !b else b))))
   |none=>none)
  |_,_=>none)
 | some C,.lf l,.lf (.v .nil)=>(match pW P t with
  | some _=>oT σ l λz=>(match z with
   |.nil=>k (.lf (.v (.bool (bif C then false else true))))
   |.sl _ _ true _=>k (.lf (.v (.bool (bif C then true else false))))
   |.sl _ _ false l=>bif jC l then none else k (.lf (.v (.bool (bif C then true else false))))
   |_=>none)
  |none=>none)
 |_,_,_=>vK x λa=>vK y λb=>Gg P t D a b λz=>k (.lf (.v z))
section
variable {P:Program} {w w':World} {w0:Wd} {B N:Nat} {ah aD:bE} {ρ ρ':Nat->Loc} {σ:S} {a:Act} {X:Type} {d:Nat} {r:X} {o:Oper}
def amc{D:TypeDesc}{x y:V}{b:Bool}{t:TypeId}{n:Nat}(C:P.underlying t=some D)(h:Mw D x y=some b):(Op.equalIn (n+1) t x.val y.val).run P w = .ok b w:=by
 unfold Mw at h;split at h
 ·split at h
  next I _ a k L E=>subst E;injection h with h;subst h;exact run_equalIn_int w n t _ _ _ _ C
  ·cases h
 ·injection h with h;subst h;exact run_equalIn_bool' w n t _ _ C
 ·injection h with h;subst h;exact run_equalIn_string w n t _ _ C
 ·cases h
def tC(P:Program)(t:TypeId)(xs:aa V)(u:Value):Prop:=
 match P.underlying t with
 |some (.struct _)=>u = .agg (xs.map V.val).toArray
 |_=>∃x,xs=[x]/\u=x.val
def aak{t:TypeId}{n off:Nat}{xs:aa V}(L:jo P t=some n)(hle:off+n <= xs.length)(O:∃ d,P.underlying t=some d/\(∀ c e,d ≠ .array c e)/\((∀ C,d ≠ .struct C) -> n=1)):
  ∃u,(part t (xs.map V.val).toArray off).run P w = .ok u w/\tC P t ((xs.drop off).take n) u:=by
 obtain⟨d,D,T,U⟩:=O;unfold jo at L;cases hi:P.info? t with
 |none=>grind
 | some i=>
  have Y:i.size=n:=by simpa [hi]using L
  by_cases E:∃C,d = .struct C
  ·obtain⟨C,rfl⟩:=E;have I:(isAgg t).run P w = .ok true w:=by
    unfold isAgg;rw[gd,gL D];rfl
   refine⟨.agg ((xs.map V.val).toArray.extract off (off+n)),by simp[part,gd,I,sizeOf,typeInfo,hi,Y],?_⟩;unfold tC;rw[D];simp only;congr 1;apply Array.ext';simp[List.map_drop,List.map_take]
  ·have I:(isAgg t).run P w = .ok false w:=by
    unfold isAgg;rw[gd,gL D w];cases d<;>first|rfl|(exfalso;exact E ⟨_,rfl⟩)|(exfalso;exact T _ _ rfl)
   have Z:n=1:=U λC e=>E ⟨C,e⟩
   subst Z;have dU:off<xs.length:=by omega
   have qS:(xs.map V.val).toArray[off]?=some (xs[off]).val:=by simp[dU]
   refine⟨(xs[off]).val,by simp[part,gd,I,qS],?_⟩;have e1:(xs.drop off).take 1=[xs[off]]:=by
    rw[List.drop_eq_getElem_cons];rfl
   unfold tC;rw[D];split
   ·grind
   ·grind
def amd{n:Nat}{t:TypeId}{xs ys:aa V}{b:Bool}(h:yS P n t xs ys=some b):∃ d,P.underlying t=some d/\(∀ c e,d ≠ .array c e)/\((∀ C,d ≠ .struct C) -> xs.length=1):=by
 cases n with
 |zero=>cases h
 | succ n=>
  unfold yS at h;split at h
  ·simp_all
  ·rename_i d I D;split at h
   next x y=>exact⟨d,D,(λc e E=>by subst E;simp[Mw]at h),λ_=>rfl⟩
   ·cases h
  ·cases h
def Th{n:Nat}{xs ys:aa V}(hlen:xs.length=ys.length)(I:∀ t xs ys b,yS P n t xs ys=some b -> ∀ u v,tC P t xs u -> tC P t ys v -> ∀ k,(Op.equalIn (k+n) t u v).run P w = .ok b w)(k:Nat):∀ (C:aa Field) (b:Bool),GF P (yS P n) xs ys C=some b ->
  (Op.eqFields (k+n) (xs.map V.val).toArray (ys.map V.val).toArray C).run P w = .ok b w
 | [],b,h=>by
  injection h with h;subst h;simp[Op.eqFields]
 | f :: C,b,h=>by
  unfold GF at h;cases D:f.name == "_" with
  | true=>
   rw[D]at h;have:f.name = "_":=by simpa using D
   simp[Op.eqFields,this,not_true];exact Th hlen I k C b h
  | false=>
   rw[D,au]at h;have cL:f.name ≠ "_":=by simpa using D
   split at h
   ·rename_i s L;cases E:Nat.ble (f.offset+s) xs.length with
    |false=>simp_all
    | true=>
     rw[E,aq]at h;have E:=cK E;split at h
     ·rename_i c e O h2;injection h with h;subst h;obtain⟨T,U,Y,Z⟩:=amd O;have qV:((xs.drop f.offset).take s).length=s:=by simp;omega
      obtain⟨u,Ti,qY⟩:=aak (w:=w) L E ⟨T,U,Y,λh=>qV.symm.trans (Z h)⟩;obtain⟨v,GG,wR⟩:=aak (w:=w) (xs:=ys) (off:=f.offset) L (by omega) ⟨T,U,Y,λh=>qV.symm.trans (Z h)⟩;have hr:=I _ _ _ c O u v qY wR k;have yU:=Th hlen I k C e h2;simp only[Op.eqFields,cL,ne_eq,not_false_eq_true,if_true,gd,Ti,GG,hr,mB];cases c
      ·simp
      ·simp_all
     ·cases h
   ·cases h
def aal:∀ (n:Nat) (t:TypeId) (xs ys:aa V) (b:Bool),yS P n t xs ys=some b -> ∀ u v,tC P t xs u -> tC P t ys v -> ∀ k,(Op.equalIn (k+n) t u v).run P w = .ok b w
 |0,t,xs,ys,b,h=>by cases h
 | n+1,t,xs,ys,b,h=>by
  intro u v C D k;unfold yS at h;split at h
  ·rename_i T I;cases E:(P.stoodInHeld t || !Nat.beq xs.length ys.length)with
   |true=>simp_all
   | false=>
    rw[E,au]at h;rw[pS,Bool.not_eq_false']at E;have hlen:=cC E.2;unfold tC at C D;rw[I]at C D;simp only at C D;subst C D;have U:P.fieldsOf t=T:=by simp[Program.fieldsOf,I]
    rw[<- Nat.add_assoc,run_equalIn_struct w (k+n) t _ _ (by rw[U];exact I) E.1,U];exact Th hlen (aal n) k T.toList b h
  ·rename_i d Z Y;split at h
   ·rename_i x y;unfold tC at C D;rw[Y]at C D;split at C
    ·simp_all
    ·split at D
     ·simp_all
     ·obtain⟨x',L,rfl⟩:=C;obtain⟨y',O,rfl⟩:=D;injection L with L;injection O with O;subst L O;exact amc Y h
   ·cases h
  ·cases h
def aam{cs:aa Lf}{xs:aa V}(h:qT cs=some xs){u:Value}(D:RA w B ah ρ (.agg cs) u):u = .agg (xs.map V.val).toArray:=by
 obtain⟨e,E⟩:=Me _ _ h;obtain⟨us,rfl,U,I⟩:=D;congr 1;apply Array.ext';apply List.ext_getElem?;intro j;rw[ eH,Array.getElem?_toList];cases C:xs[j]? with
 |none =>simp_all
 | some x=>
  obtain⟨v,L,O⟩:=I j _ (by rw[e,eH,C];rfl);rw[L];have:=E x (gF C);have T:=O.2;cases T<;>first|rfl|cases this
def DB{C:BinOp}{D:Bool}(E:Mx C=some D){t e:TypeId}(I:P.underlying t=some (.slice e))(L O:Operand)(A:aj Addr)(n c:Nat):
  (do eqGuard C t L O (.slice A n c) (.slice none 0 0);binOp C t (.slice A n c) (.slice none 0 0):Sem Value).run P w = .ok (.bool (bif D then !A.isNone else A.isNone)) w:=by
 have T:(Op.equal t (.slice A n c) (.slice none 0 0)).run P w = .ok A.isNone w:=by
  have h:∀ d,(Op.equalIn (d+1) t (.slice A n c) (.slice none 0 0)).run P w = .ok A.isNone w:=by
   intro d;cases A<;>simp[Op.equalIn,gL I]
  exact h 9999
 cases C<;>simp[Mx]at E<;>subst E<;>simp[eqGuard,binOp,T]
def ame{Z:BinOp}{t:TypeId}{x y:A}{k:A -> aj X}(h:yT P σ Z t x y k=some r):∃ z,k z=some r /\ ∀ ah ρ a w,Rl w0 N ah ρ σ a w -> ∀ C D u v,RA w w0.heap.size ah ρ x u -> RA w w0.heap.size ah ρ y v ->
  ∃t',(do eqGuard Z t C D u v;binOp Z t u v:Sem Value).run P w = .ok t' w/\RA w w0.heap.size ah ρ z t':=by
 unfold yT at h;split at h
 ·rename_i O cs ds L;split at h
  ·rename_i xs ys oU GH;cases hg:(P.eqGuardType P.depth t || !isStr P t)with
   |true=>simp_all
   | false=>
    rw[hg,au]at h;rw[pS,Bool.not_eq_false']at hg;obtain⟨hg,jY⟩:=hg;split at h
    ·rename_i b hb
     refine⟨_,h,λah ρ a w hR C D u v E I=>?_⟩
     have E:=aam oU E;have I:=aam GH I;subst E I;have hs:∃ fs,P.underlying t=some (.struct fs):=by
      unfold isStr at jY;split at jY
      ·simp_all
      ·cases jY
     obtain⟨fs,yR⟩:=hs;have U:=aal (w:=w) 20 t xs ys b hb (.agg (xs.map V.val).toArray) (.agg (ys.map V.val).toArray) (by unfold tC;rw[yR]) (by unfold tC;rw[yR]) 9980;refine⟨.bool (bif O then !b else b),?_,rfl,.bool _ _⟩;rw[gd,run_eqGuard_agg w Z t C D _ _ hg,mB];cases Z<;>simp[Mx]at L<;>subst L
     ·rw[run_eql_struct,U];rfl
     ·rw[run_neq_struct,U];rfl
    ·cases h
  ·cases h
 ·rename_i O l L;split at h
  ·rename_i e he;have Y:P.underlying t=some (.slice e):=by
    unfold pW at he;split at he
    ·simp_all
    ·cases he
   obtain⟨z,hz,T⟩:=Tb (w0:=w0) (N:=N) h;clear h;split at T
   ·refine⟨_,T,λah ρ a w hR C D u v E I=>?_⟩
    obtain⟨q,hq⟩:=hz ah ρ a w hR u E;cases hq;cases I.2;exact⟨_,DB L Y C D none 0 0,rfl,by cases O<;>exact .bool _ _⟩
   ·refine⟨_,T,λah ρ a w hR C D u v E I=>?_⟩
    obtain⟨q,hq⟩:=hz ah ρ a w hR u E;cases I.2;cases hq with
    |aH _ _ _ _ _ b off cap us ho hl hb h1 lV hc U=>exact⟨_,DB L Y C D _ _ _,rfl,by cases O<;>exact .bool _ _⟩
    |own=>exact⟨_,DB L Y C D _ _ _,rfl,by cases O<;>exact .bool _ _⟩
    |fV=>exact⟨_,DB L Y C D _ _ _,rfl,by cases O<;>exact .bool _ _⟩
   ·rename_i t' o' l';cases hl:jC l' with
    |true=>simp_all
    | false=>
     rw[hl,au]at T
     refine⟨_,T,λah ρ a w hR C D u v E I=>?_⟩
     obtain⟨q,hq⟩:=hz ah ρ a w hR u E;cases I.2;cases hq with
     |eD=>cases hl
     |fF=>cases hl
     |aH _ _ _ _ _ b off cap us ho Bg hb h1 lV hc U=>exact⟨_,DB L Y C D _ _ _,rfl,by cases O<;>exact .bool _ _⟩
     |own=>exact⟨_,DB L Y C D _ _ _,rfl,by cases O<;>exact .bool _ _⟩
   ·cases T
  ·cases h
 ·obtain⟨u0,hx,h1⟩:=SU h;obtain⟨v0,hy,T⟩:=SU h1;obtain⟨z,h3,hp,hs⟩:=alH T;subst hx hy
  refine⟨_,h3,λah ρ a w hR C D u v E I=>?_⟩
  obtain⟨t',eO,U⟩:=hs w _ ah C D [] [] _ _ E.2 I.2;exact⟨t',eO,V.Gi hp,U⟩
/-! Parts of slices that nobody writes. -/
def DC{x:aj A}{C:Int}{k:Int->aj X}(h:tA x C k=some r):∃ n,k n=some r/\(∀ (E:Type) (D:Int->aj E),tA x C D=D n)/\((x=none/\n=C)\/∃ I,x=some (.lf (.v (.int I n)))):=by
 unfold tA at h;split at h
 ·exact⟨_,h,λ_ _=>rfl,.inl ⟨rfl,rfl⟩⟩
 ·exact⟨_,h,λ_ _=>rfl,.inr ⟨_,rfl⟩⟩
 ·cases h
def amf{t:TypeId}{x:A}{lo hi:aj A}{k:A -> aj X}(h:wP P t x lo hi k=some r):∃ y,k y=some r/\(∀ (L:Type) (I:A -> aj L),wP P t x lo hi I=I y) /\
  ((∃ (s:ByteArray) (l h:Int),x = .lf (.v (.str s))/\P.underlying t=some .string/\((lo=none/\l=0) \/ ∃ C,lo=some (.lf (.v (.int C l))))/\((hi=none/\h=s.size) \/ ∃ C,hi=some (.lf (.v (.int C h))))/\0 <= l/\l <= h/\h <= (s.size:Int)/\y = .lf (.v (.str (s.extract l.toNat h.toNat)))) \/
   ∃(E:TC) (g:Nat) (O:Bool) (xs:aa (T E)) (e:TypeId) (l h:Int),x = .lf (.v (.sl E g O xs))/\pW P t=some e/\jo P e=some (aF E)/\g<2/\((lo=none/\l=0) \/ ∃C,lo=some (.lf (.v (.int C l))))/\((hi=none/\h=xs.length) \/ ∃C,hi=some (.lf (.v (.int C h))))/\0 <= l/\l <= h/\h <= (xs.length:Int)/\y = .lf (.v (.sl E g false ((xs.take h.toNat).drop l.toNat)))):=by
 unfold wP at h;split at h
 ·rename_i s;split at h
  ·rename_i hu;obtain⟨l,U,d1,Y⟩:=DC h;obtain⟨m,D,d2,Z⟩:=DC U;split at D
   ·rename_i hb
    refine⟨_,D,λL I=>?_,.inl ⟨s,l,m,rfl,hu,Y,Z,hb.1,hb.2.1,hb.2.2,rfl⟩⟩
    simp[wP,hu];simp_all
   ·cases D
  ·cases h
 ·rename_i E g O xs;split at h
  ·rename_i e he;split at h
   ·rename_i n hn;split at h
    ·rename_i Ba;subst Ba;cases hg:Nat.blt g 2 with
     |false=>simp_all
     | true=>
      rw[hg,aq]at h;obtain⟨l,U,d1,Y⟩:=DC h;obtain⟨m,D,d2,Z⟩:=DC U;split at D
      ·rename_i hb
       refine⟨_,D,λL I=>?_,.inr ⟨E,g,O,xs,e,l,m,rfl,he,hn,cK hg,Y,Z,hb.1,hb.2.1,hb.2.2,rfl⟩⟩
       simp[wP,he,hn,if_true,hg,aq];simp_all
      ·cases D
    ·cases h
   ·cases h
  ·cases h
 ·cases h
def amg{t:TypeId}{x:A}{lo hi:aj A}{k:A->aj X}(h:wP P t x lo hi k=some r):∃ y,k y=some r/\(∀ (X':Type) (k':A->aj X'),wP P t x lo hi k'=k' y)/\
  ∀ (w:World) (B:Nat) (ah:bE) (ρ:Nat->Loc) (u:Value) (T C:aj Value),RA w B ah ρ x u->(∀ a,lo=some a->∃ v,T=some v/\RA w B ah ρ a v)->(lo=none->T=none)->(∀ a,hi=some a->∃ v,C=some v/\RA w B ah ρ a v)->(hi=none->C=none)->
   ∃t',(Instr.sliceAt t u T C none).run P w = .ok t' w/\RA w B ah ρ y t':=by
 obtain⟨y,h1,hd,hc⟩:=amf h
 refine⟨y,h1,hd,λw B ah ρ u T C Y qV lA My DD=>?_⟩
 have bl:∀ {o:aj A} {E:aj Value} {n Z:Int},(∀ a,o=some a->∃ v,E=some v/\RA w B ah ρ a v)->(o=none->E=none)->((o=none/\n=Z)\/∃ I,o=some (.lf (.v (.int I n))))->(E=none/\n=Z)\/∃ I,E=some (.int I n):=by
  intro o E n Z g1 g2 g3;rcases g3 with ⟨e,e'⟩|⟨I,e⟩
  ·exact .inl ⟨g2 e,e'⟩
  ·obtain⟨v,C,hr⟩:=g1 _ e;exact .inr ⟨I,by rw[C,hr.2.gJ]⟩
 rcases hc with ⟨s,l,m,rfl,L,e1,e2,b1,b2,b3,rfl⟩|⟨tc,g,qn,xs,e,l,m,rfl,D,hn,hg,e1,e2,b1,b2,b3,rfl⟩
 ·have h5:=bl qV lA e1;have h6:=bl My DD e2;obtain rfl:=Y.2.wG;have em:(m.toNat:Int)=m:=Int.toNat_of_nonneg (by omega);refine⟨.string (s.extract l.toNat m.toNat),?_,rfl,.str _ _⟩;rw[run_sliceAt_string w t _ _ _ _ L];have Tj:0<=m:=by omega
  rcases h5 with ⟨rfl,h7⟩|⟨kl,rfl⟩<;>rcases h6 with ⟨rfl,h8⟩|⟨kh,rfl⟩
  all_goals simp_all [Instr.slice,gL L,Instr.sliceBounds,run_sliceBound]
 ·have h5:=bl qV lA e1;have h6:=bl My DD e2;have L:P.underlying t=some (.slice e):=by
   unfold pW at D;split at D
   next e' uT=>injection D with D;rw[<-D];exact uT
   ·cases D
  have iG:P.elem t=e:=by simp[Program.elem,L]
  have O:P.underlying t=some (.slice (P.elem t)):=by rw[iG];exact L
  have U:(sizeOf (P.elem t)).run P w = .ok (aF tc) w:=by
   unfold jo at hn;cases hi:P.info? e with
   |none=>simp[hi]at hn
   | some i=>
    have:i.size=aF tc:=by simpa [hi]using hn
    simp[sizeOf,typeInfo,iG,hi,this]
  have mE:∃ A n c,u = .slice A n c:=by
   cases Y.2 with
   |eD=>exact⟨_,_,_,rfl⟩
   |fF=>exact⟨_,_,_,rfl⟩
   |fV=>exact⟨_,_,_,rfl⟩
   |aH=>exact⟨_,_,_,rfl⟩
   |own=>exact⟨_,_,_,rfl⟩
  obtain⟨A,n,c,rfl⟩:=mE;obtain⟨hp,DE,Tl⟩:=Y.2.part (a:=l.toNat) (h:=m.toNat) hg (by omega) (by omega);refine⟨_,?_,by simp[V.aH,hg],hp⟩;rw[run_sliceAt_slice w t _ _ _ _ O];rcases h5 with ⟨rfl,rfl⟩|⟨kl,rfl⟩<;>rcases h6 with ⟨rfl,rfl⟩|⟨kh,rfl⟩
  ·rw[run_slice_all w t A n c O,U,DE];simp
  ·rw[run_slice_h w t A n c O kh m (by omega) (by omega),U];simp
  ·rw[run_slice_l w t A n c O kl l (by omega) (by omega),U,DE];simp
  ·rw[run_slice_lh w t A n c O kl kh l m (by omega) (by omega) (by omega),U];simp
/-! Parts of slices that are owned. -/
def DF{X:Type}(n:Nat)(q:aa Nat)(C:aj Nat)(lo hi:aj A)(y:V)(k:A->aj X):aj X:=
 match y with
 |.sl D _ _ l=>if n=aF D then tA lo 0 λa=>tA hi ((C.getD l.length:Nat):Int) λb=>if 0<=a/\a<=b/\b<=(l.length:Int)then k (.view q n a.toNat b.toNat)else none else none
 |_=>none
def Bh{X:Type}(P:Program)(σ:S)(t:TypeId)(q:aa Nat)(C:aj Nat)(lo hi:aj A)(k:A->aj X):aj X:=
 match pW P t with
 | some e=>(match jo P e with
  |some n=>jf σ.m q λy=>DF n q C lo hi y k
  |none=>none)
 |none=>none
def yV{X:Type}(P:Program)(σ:S)(t:TypeId)(x:A)(lo hi:aj A)(k:A->aj X):aj X:=
 match x with
 |.lf (.own q)=>Bh P σ t q none lo hi k
 |.view q _ 0 j=>Bh P σ t q (some j) lo hi k
 |x=>wP P t x lo hi k
def amh{n:Nat}{q:aa Nat}{D:aj Nat}{lo hi:aj A}{y:V}{k:A -> aj X}(h:DF n q D lo hi y k=some r):∃ (C:TC) (g:Nat) (E:Bool) (xs:aa (T C)) (l h:Int),y = .sl C g E xs/\n=aF C /\
  ((lo=none/\l=0) \/ ∃I,lo=some (.lf (.v (.int I l))))/\((hi=none/\h=((D.getD xs.length:Nat):Int)) \/ ∃I,hi=some (.lf (.v (.int I h))))/\0 <= l/\l <= h/\h <= (xs.length:Int)/\k (.view q n l.toNat h.toNat)=some r /\
  ∀(U:Type) (L:A -> aj U),DF n q D lo hi y L=L (.view q n l.toNat h.toNat):=by
 unfold DF at h;split at h
 ·rename_i C g E xs;split at h
  ·rename_i Y;obtain⟨l,Z,d1,e1⟩:=DC h;obtain⟨m,O,d2,e2⟩:=DC Z;split at O
   ·rename_i hb
    refine⟨C,g,E,xs,l,m,rfl,Y,e1,e2,hb.1,hb.2.1,hb.2.2,O,λU L=>?_⟩
    simp[DF,bH Y];simp_all
   ·cases O
  ·cases h
 ·cases h
def aan{t:TypeId}{q:aa Nat}{Z:aj Nat}{lo hi:aj A}{k:A -> aj X}(h:Bh P σ t q Z lo hi k=some r):∃ y,k y=some r /\
  ∀ ah ρ a w,Rl w0 N ah ρ σ a w -> ∀ (D:aj Addr) (n c C:Nat) (T E:aj Value),cW w ah ρ q=some (.slice D n c) -> C=Z.getD n -> C <= n -> (∀ a,lo=some a -> ∃ v,T=some v/\RA w w0.heap.size ah ρ a v) -> (lo=none -> T=none) -> (∀ a,hi=some a -> ∃ v,E=some v/\RA w w0.heap.size ah ρ a v) -> (hi=none -> E=none) ->
   ∃t',(Instr.sliceAt t (.slice D C c) T E none).run P w = .ok t' w/\RA w w0.heap.size ah ρ y t':=by
 unfold Bh at h;split at h
 ·rename_i e he;split at h
  ·rename_i n hn;obtain⟨y0,Tn,h2⟩:=sg q _ h;obtain⟨tc,g,qn,xs,l,m,rfl,Ba,e1,e2,b1,b2,b3,h3,_⟩:=amh h2
   refine⟨_,h3,λah ρ a w hR D n' c C T E lz To hle qV lA My DD=>?_⟩
   have bl:∀ {o:aj A} {I:aj Value} {n Tp:Int},(∀ a,o=some a -> ∃ v,I=some v/\RA w w0.heap.size ah ρ a v) -> (o=none -> I=none) -> ((o=none/\n=Tp) \/ ∃ L,o=some (.lf (.v (.int L n)))) -> (I=none/\n=Tp) \/ ∃ L,I=some (.int L n):=by
    intro o I n Tp g1 g2 g3;rcases g3 with ⟨e,e'⟩|⟨L,e⟩
    ·grind
    ·obtain⟨v,E,hr⟩:=g1 _ e;exact .inr ⟨L,by rw[E,hr.2.gJ]⟩
   have h5:=bl qV lA e1;have h6:=bl My DD e2;have gi:P.underlying t=some (.slice e):=by
    unfold pW at he;split at he
    ·grind
    ·cases he
   have iG:P.elem t=e:=by simp[Program.elem,gi]
   have O:P.underlying t=some (.slice (P.elem t)):=by rw[iG];exact gi
   have U:(sizeOf (P.elem t)).run P w = .ok n w:=by
    unfold jo at hn;cases hi:P.info? e with
    |none=>grind
    | some i=>
     have:i.size=n:=by simpa [hi]using hn
     simp[sizeOf,typeInfo,iG,hi,this]
   obtain⟨v0,Y,iH⟩:=Tn.ok hR.root;rw[lz]at Y;injection Y with Y;subst Y;have hf:RV w 0 (λ_=>none) [] (.sl tc 0 qn xs) (.slice D n' c):=iH.gp;obtain⟨hp,DE,Tl⟩:=hf.part (a:=l.toNat) (h:=m.toNat) (by omega) (by omega) (by omega);have ami:((Z.getD xs.length:Nat):Int)=(C:Int):=by rw[To,DE]
   rw[ami]at h6;refine⟨sliced D l.toNat m.toNat c n,?_,D,n',c,lz,by omega,by omega,rfl⟩;rw[run_sliceAt_slice w t _ _ _ _ O];rcases h5 with ⟨rfl,rfl⟩|⟨kl,rfl⟩<;>rcases h6 with ⟨rfl,rfl⟩|⟨kh,rfl⟩
   ·rw[run_slice_all w t D C c O,U];simp
   ·rw[run_slice_h w t D C c O kh m (by omega) (by omega),U];simp
   ·rw[run_slice_l w t D C c O kl l (by omega) (by omega),U];simp
   ·rw[run_slice_lh w t D C c O kl kh l m (by omega) (by omega) (by omega),U];simp
  ·cases h
 ·cases h
def amj{t:TypeId}{x:A}{lo hi:aj A}{k:A -> aj X}(h:yV P σ t x lo hi k=some r):∃ y,k y=some r /\
  ∀ ah ρ a w,Rl w0 N ah ρ σ a w -> ∀ (u:Value) (C D:aj Value),RA w w0.heap.size ah ρ x u -> (∀ a,lo=some a -> ∃ v,C=some v/\RA w w0.heap.size ah ρ a v) -> (lo=none -> C=none) -> (∀ a,hi=some a -> ∃ v,D=some v/\RA w w0.heap.size ah ρ a v) -> (hi=none -> D=none) ->
   ∃Z,(Instr.sliceAt t u C D none).run P w = .ok Z w/\RA w w0.heap.size ah ρ y Z:=by
 unfold yV at h;split at h
 ·rename_i q;obtain⟨y,E,I⟩:=aan h
  refine⟨y,E,λah ρ a w hR u C D L O T U Y=>?_⟩
  have gf:∃ A n c,u = .slice A n c:=by
   have:=L.1;cases u<;>first|cases this;done|exact⟨_,_,_,rfl⟩
  obtain⟨A,n,c,rfl⟩:=gf;exact I ah ρ a w hR A n c n C D L.2 rfl (dx _) O T U Y
 ·rename_i q s j;obtain⟨y,E,I⟩:=aan h
  refine⟨y,E,λah ρ a w hR u C D L O T U Y=>?_⟩
  obtain⟨A,n,c,lz,_,a2,rfl⟩:=L;have e:sliced A 0 j c s = .slice A j c:=by cases A<;>simp[sliced,Addr.add]
  rw[e];exact I ah ρ a w hR A n c j C D lz rfl a2 O T U Y
 ·obtain⟨y,E,_,I⟩:=amg h;exact⟨y,E,λah ρ a w _ u C D=>I w _ ah ρ u C D⟩
end
abbrev Pt:=Bool×aa V
def PV(w:World)(B:Nat)(ah:bE)(key:Nat->aa Nat)(p:Pt)(u:Value):Prop:=
 ∃us:Array Value,(match p.1 with|true=>u = .agg us|false=>us = #[u])/\us.size=p.2.length/\∀(j:Nat) x,p.2[j]?=some x->∃v,us[j]?=some v/\RV w B ah (key j) x v
def yW(w:World)(cs:aa V)(u:Value):Prop:=
 ∃b off,u = .pointer (some ⟨b,off,none⟩)/\b<w.heap.size/\∀(j:Nat) x,cs[j]?=some x->∃v,w.cell? ⟨b,off+j,none⟩=some v/\RV w w.heap.size (λ_=>none) [] x v
inductive PA (w:World):Pt->Value->Prop
 |v (p:Pt) (u:Value) (h:PV w w.heap.size (λ_=>none) (λ_=>[]) p u):PA w p u
 |p (c:V) (cs:List V) (u:Value) (h:yW w (c::cs) u):PA w (false,.bool true::c::cs) u
 |f (g:Nat) (c:V) (cs:List V) (u:Value) (h:yW w (c::cs) u):PA w (false,.bool false::.int .i64 (g:Int)::c::cs) (.func (.func g) #[] #[u])
def o7(w:World)(args:aa Pt)(bS:Array Value):Prop:=
 bS.size=args.length/\∀(i:Nat) p,args[i]?=some p->∃u,bS[i]?=some u/\PA w p u
def PA.pv{w:World}{x:V}{u:Value}(h:PA w (false,[x]) u):PV w w.heap.size (λ_=>none) (λ_=>[]) (false,[x]) u:=by
 cases h with
 |v _ _ h=>exact h
def PA.pvS{w:World}{xs:aa V}{u:Value}(h:PA w (true,xs) u):PV w w.heap.size (λ_=>none) (λ_=>[]) (true,xs) u:=by
 cases h with
 |v _ _ h=>exact h
inductive fZ where
 |one (p:Pt)
 |eV (ps:List Pt)
def yX(t:TC):Nat->Bool
 |0=>false
 |1=>true
 |o+2=>Nat.ble (full t) o ||Nat.beq (o % 2) 1
def V.loc:V->Bool
 |.sl t o _ _=>yX t o
 |_=>true
def jD(w:World)(B:Nat)(ah:bE)(nm:Nat->Nat):Nat->aa Pt->aa Value->Prop
 |_,[],[]=>True
 |off,p::ps,v::C=>(p.2.all V.loc=true/\PV w B ah (λj=>[nm (off+j)]) p v)/\jD w B ah nm (off+p.2.length) ps C
 |_,_,_=>False
def pZ(w:World)(B:Nat)(ah:bE)(nm:Nat->Nat):fZ->Value->Prop
 |.one p,v=>jD w B ah nm 0 [p] [v]
 |.eV ps,v=>∃C:Array Value,v = .tuple C/\jD w B ah nm 0 ps C.toList
structure iR where
 run:(X:Type)->List Pt->(fZ->Option X)->Option X
def iu(P:Program)(f:Nat)(c:iR):Prop:=
 (∀ args,cI λX k=>c.run X args k)/\∀ args C,c.run fZ args some=some C->∀ (nm:Nat->Nat) (w:World) (bS:Array Value),o7 w args bS->Hd w (λ_=>none)->
  Calls P f bS w λe w'=>∃v aD,e = .returned v/\Below w.heap.size w w'/\(∀b k,aD b=some k->w.heap.size<=b/\b<w'.heap.size/\k≠[])/\pZ w' w.heap.size aD nm C v
def qZ{X:Type}(σ:S):aa Lf->(aa V->aj X)->aj X
 |[],k=>k []
 |x::xs,k=>oT σ x λy=>qZ σ xs λys=>k (y.gp::ys)
def oe{X:Type}(σ:S)(x:A)(k:Pt->aj X):aj X:=
 match x with
 |.lf y=>qZ σ [y] λC=>k (false,C)
 |.agg ys=>qZ σ ys λC=>k (true,C)
 |.view q s i j=>uS σ q s i j λy=>k (false,[y])
 |.jd (c::cs)=>k (false,.bool true::c.gp::cs.map V.gp)
 |_=>none
def uW{X:Type}(σ:S)(x:A)(k:Pt->aj X):aj X:=
 match x with
 |.jd (c::cs)=>k (false,.bool true::c.gp::cs.map V.gp)
 |.nA f (c::cs)=>k (false,.bool false::.int .i64 (f:Int)::c.gp::cs.map V.gp)
 | .aG r j=>(match σ.m r with
  | some (.aC cs)=>qZ σ (cs.drop j) λC=>(match C with
   |c::cs=>k (false,.bool true::c::cs)
   |[]=>none)
  |_=>none)
 | .fn f [(r,j)]=>(match σ.m r with
  | some (.aC cs)=>qZ σ (cs.drop j) λC=>(match C with
   |c::cs=>k (false,.bool false::.int .i64 (f:Int)::c::cs)
   |[]=>none)
  |_=>none)
 |x=>oe σ x k
def uX{X:Type}(f:A->(Pt->aj X)->aj X)(σ:S):aa Operand->(aa Pt->aj X)->aj X
 |[],k=>k []
 |x::xs,k=>f (aK σ x) λp=>uX f σ xs λps=>k (p::ps)
def Bi{X:Type}(σ:S)(xs:aa Operand)(k:aa Pt->aj X):aj X:=uX (uW σ) σ xs k
def su{X:Type}(σ:S)(xs:aa Operand)(k:aa Pt->aj X):aj X:=uX (oe σ) σ xs k
def og(c:Nat):aa V->aa Lf
 |[]=>[]
 |x::xs=>(bif x.aH then .v x else .own [c])::og (c+1) xs
def mG(c:Nat)(σ:S):aa V->S
 |[]=>σ
 |x::xs=>mG (c+1) (bif x.aH then σ else (σ.drop c).root c (.sl x)) xs
def sv(c:Nat):aa Pt->aa (Bool×aa Lf)
 |[]=>[]
 |p::ps=>(p.1,og c p.2)::sv (c+p.2.length) ps
def oh(c:Nat)(σ:S):aa Pt->S
 |[]=>σ
 |p::ps=>oh (c+p.2.length) (mG c σ p.2) ps
def nH{X:Type}(σ:S)(d:Nat)(C:fZ)(k:S->aj X):aj X:=match C with
 | .one p=>(match yI (p.1,og (1000000000100000+1000*d) p.2)with
  |some y=>k ((mG (1000000000100000+1000*d) σ p.2).set d y)
  |none=>none)
 |.eV ps=>k ((oh (1000000000100000+1000*d) σ ps).set d (.eV (sv (1000000000100000+1000*d) ps)))
def sx{X:Type}(N:Nat)(σ:S)(d:Nat)(c:iR)(ev:(aa Pt->aj X)->aj X)(k:S->aj X):aj X:=
 bif Nat.blt d N then ev λps=>c.run X ps λC=>nH σ d C k else none
def amk{X:Type}(N:Nat)(σ:S)(d:Nat)(c:iR)(args:aa Operand)(k:S->aj X):aj X:=sx N σ d c (Bi σ args) k
def aml{X:Type}(N:Nat)(σ:S)(d:Nat)(c:iR)(args:aa Operand)(k:S->aj X):aj X:=sx N σ d c (su σ args) k
section
variable {P:Program} {w w':World} {w0:Wd} {B N:Nat} {ah aD:bE} {ρ ρ':Nat->Loc} {σ:S} {a:Act} {X:Type} {d:Nat} {r:X} {o:Oper}
def GI:∀ (xs:aa Lf) (k:aa V -> aj X),qZ σ xs k=some r -> ∃ C,k C=some r/\C.length=xs.length /\ ∀ ah ρ a w,Rl w0 N ah ρ σ a w -> ∀ (j:Nat) x y u,xs[j]?=some x -> C[j]?=some y -> dP w w0.heap.size ah ρ x u -> RV w w.heap.size (λ_=>none) [] y u
 |[],k,h=>⟨[],h,rfl,λ_ _ _ _ _ j x y u I=>by simp at I⟩
 | x :: xs,k,h=>by
  obtain⟨y,L,O⟩:=Tb h;obtain⟨ys,T,hl,Z⟩:=GI xs _ O
  refine⟨y.gp::ys,T,by simp[hl],λah ρ a w hR j x' y' u D E U=>?_⟩
  cases j with
  | zero=>
   simp at D E;subst D E;obtain⟨q,Y⟩:=L ah ρ a w hR u U;exact Y.gp
  |succ j=>grind
def aao{D C:Nat}{cs:aa Lf}{E:aa V}(U:σ.m D=some (.aC cs))(hl:E.length=(cs.drop C).length)
  (Y:∀ah ρ a w,Rl w0 N ah ρ σ a w->∀(j:Nat) x y u,(cs.drop C)[j]?=some x->E[j]?=some y->dP w w0.heap.size ah ρ x u->RV w w.heap.size (λ_=>none) [] y u)
  {ah:bE} {ρ:Nat->Loc} {a:Act} {w:World} {u:Value} (hR:Rl w0 N ah ρ σ a w) (Z:RA w w0.heap.size ah ρ (.aG D C) u):yW w E u:=by
 obtain⟨b,off,e1,rfl⟩:=Z;cases hR.root D _ U with
 | aC b' A6 cells e _ us I om L hs hc=>
  rw[e1]at I;injection I with q1 q2;subst q1 q2
  refine⟨b,off+C,rfl,(iB.1 L).1,λj x O=>?_⟩
  have hj:j<(cs.drop C).length:=by rw[<-hl];exact(dO.1 O).1
  have T:=bQ hj;have amm:cs[C+j]?=some (cs.drop C)[j]:=by rw[<-List.getElem?_drop];exact T
  obtain⟨k1,k2⟩:=hc _ _ amm;refine⟨us (C+j),?_,Y ah ρ a w hR j _ x _ T O k2⟩;rw[Nat.add_assoc,cell_of_row w b _ cells _ _ L];exact k1
def Ts{cs:aa V}{u:Value}(E:RF w B ah cs u):yW w (cs.map V.gp) u:=by
 obtain⟨b,off,rfl,I,U,L⟩:=E
 refine⟨b,off,rfl,I,λj x C=>?_⟩
 rw[eH]at C;cases D:cs[j]? with
 |none=>simp_all
 | some y=>
  rw[D]at C;injection C with C;subst C;obtain⟨_,v,O,T⟩:=L j y D;exact⟨v,O,T.gp⟩
def aap{x:A}{k:Pt -> aj X}(h:oe σ x k=some r):∃ p,k p=some r /\ ∀ ah ρ a w,Rl w0 N ah ρ σ a w -> ∀ u,RA w w0.heap.size ah ρ x u -> PA w p u:=by
 unfold oe at h;split at h
 ·rename_i y;obtain⟨T,E,hl,L⟩:=GI (w0:=w0) (N:=N) _ _ h
  refine⟨_,E,λah ρ a w hR u C=>.v _ _ ⟨#[u],rfl,by simp[hl],λj x D=>?_⟩⟩
  have I:j=0:=by
   grind
  subst I;exact⟨u,rfl,L ah ρ a w hR 0 y x u rfl D C⟩
 ·rename_i ys;obtain⟨T,E,hl,L⟩:=GI (w0:=w0) (N:=N) _ _ h
  refine⟨_,E,λah ρ a w hR u C=>?_⟩
  obtain⟨us,rfl,O⟩:=C
  refine .v _ _ ⟨us,rfl,by rw[hl];exact O.1,λj x D=>?_⟩
  have I:j<ys.length:=by rw[<- hl];exact(dO.1 D).1
  obtain⟨v,Y,Z⟩:=O.2 j _ (bQ I)
  grind
 ·obtain⟨z,E,_,U⟩:=ZS h
  refine⟨_,E,λah ρ a w hR u C=>.v _ _ ⟨#[u],rfl,rfl,λj x D=>?_⟩⟩
  cases j with
  | zero=>
   simp at D;subst D;exact⟨u,rfl,U _ _ _ _ _ _ hR u C _⟩
  |succ j=>simp at D
 next c cs=>exact⟨_,h,λah ρ a w hR u C=>.p _ _ _ (Ts C)⟩
 ·cases h
def amn{x:A}{k:Pt -> aj X}(h:uW σ x k=some r):∃ p,k p=some r /\ ∀ ah ρ a w,Rl w0 N ah ρ σ a w -> ∀ u,RA w w0.heap.size ah ρ x u -> PA w p u:=by
 unfold uW at h;split at h
 ·rename_i c cs
  refine⟨_,h,λah ρ a w hR u C=>?_⟩
  exact .p _ _ _ (Ts C)
 ·rename_i f c cs
  refine⟨_,h,λah ρ a w hR u C=>?_⟩
  obtain⟨pv,rfl,E⟩:=C;exact .f _ _ _ _ (Ts E)
 ·rename_i T O;split at h
  ·rename_i cs I;obtain⟨U,D,hl,L⟩:=GI (w0:=w0) (N:=N) _ _ h;split at D
   ·rename_i c eT
    refine⟨_,D,λah ρ a w hR u C=>?_⟩
    exact .p _ _ _ (aao I hl L hR C)
   ·cases D
  ·cases h
 ·rename_i f T O;split at h
  ·rename_i cs I;obtain⟨U,D,hl,L⟩:=GI (w0:=w0) (N:=N) _ _ h;split at D
   ·rename_i c eT
    refine⟨_,D,λah ρ a w hR u C=>?_⟩
    obtain⟨ps,rfl,Z,E⟩:=C;obtain⟨b,off,Y,e2⟩:=E 0 _ rfl;have e:ps = #[.pointer (some ⟨b,off+O,none⟩)]:=by
     grind
    subst e;exact .f _ _ _ _ (aao I hl L hR ⟨b,off,Y,rfl⟩)
   ·cases D
  ·cases h
 ·exact aap h
def Tt{f:A->(Pt->aj X)->aj X}(E:∀ x k,f x k=some r->∃ p,k p=some r/\∀ ah ρ a w,Rl w0 N ah ρ σ a w->∀ u,RA w w0.heap.size ah ρ x u->PA w p u):
  ∀(xs:aa Operand) (k:aa Pt->aj X),uX f σ xs k=some r->∃ps,k ps=some r/\∀ah ρ a w,Rl w0 N ah ρ σ a w->o7 w ps (xs.map a.eval).toArray
 |[],k,h=>⟨[],h,λ_ _ _ _ _=>⟨rfl,λi p C=>by simp at C⟩⟩
 | x :: xs,k,h=>by
  unfold uX at h;obtain⟨p,L,C⟩:=E _ _ h;obtain⟨ps,O,I⟩:=Tt E xs _ L
  refine⟨p::ps,O,λah ρ a w hR=>⟨?_,λi q D=>?_⟩⟩
  ·have:=(I ah ρ a w hR).1;simp at this;simp[this]
  ·cases i with
   | zero=>
    simp at D;subst D;exact⟨_,rfl,C ah ρ a w hR _ (hR.aK x)⟩
   | succ i=>
    obtain⟨u,T,U⟩:=(I ah ρ a w hR).2 i q (by simpa using D);exact⟨u,by simpa using T,U⟩
def amo(xs:aa Operand)(k:aa Pt->aj X)(h:Bi σ xs k=some r):∃ps,k ps=some r/\∀ah ρ a w,Rl w0 N ah ρ σ a w->o7 w ps (xs.map a.eval).toArray:=Tt (λ_ _=>amn) xs k h
def aaq(xs:aa Operand)(k:aa Pt->aj X)(h:su σ xs k=some r):∃ps,k ps=some r/\∀ah ρ a w,Rl w0 N ah ρ σ a w->o7 w ps (xs.map a.eval).toArray:=Tt (λ_ _=>aap) xs k h
def amp{t:TC}{o:Nat}(h:yX t (o+2)=true)(x:T t):∀ y∈enc t o x,y.loc=true:=by
 intro y D;have I:=yC t o x y D;cases y with
 | sl E C q l=>
  have L:C=o:=by simpa [V.gr]using I
  subst L;have O:full E+2 <= full t:=cK (L4 t C x _ D);show yX E C=true;simp only[yX,eA]at h;rcases h with h|h
  ·have h:=cK h
   match C,h with
   |0,h=>omega
   |1,h=>rfl
   | n+2,h=>
    simp only[yX,eA];left;exact iM (by omega)
  ·have h:=cC h
   match C,h with
   |0,h=>omega
   |1,h=>rfl
   | n+2,h=>
    simp only[yX,eA];simp_all
 |_=>rfl
def RV.yY{q:aa Nat}{x:V}{v:Value}(h:RV w B ah q x v){B':Nat}(hB:B' <= B)(hl:∀ b,B <= b -> aD b=ah b)(U:∀ b k,ah b=some k -> aD b=some k)(L:x.loc=true):RV w B' aD q x v:=by
 induction h with
 |int=>exact .int _ _ _
 |bool=>exact .bool _ _
 |str=>exact .str _ _
 |nil=>exact .nil _
 |eD=>exact .eD _ _ _
 |fF=>exact .fF _ _ _ _ _ (by first|assumption|omega)
 |fV=>exact .fV _ _ _ _ _ (by first|assumption|omega)
 | aH q t o Y l b off cap u O D hb Z lV E hr I=>
  have Bj:o=1:=by
   match o,O,L with
   |1,_,_=>rfl
  subst Bj;have T:=Z rfl
  refine .aH _ _ _ _ _ _ _ _ u O ((hl b T).trans D) hb (λ_=>Nat.le_trans hB T) lV E (λi h j x C=>I i h j x C ?_)
  have:=yC t 1 l[i] x (gF C);cases x with
  | sl t' o' q' l'=>
   have:o'=1:=by simpa [V.gr]using this
   subst this;rfl
  |_=>rfl
 | own q t o Y l b cap cs u D hh hs hn hm E hr I=>
  exact .own _ _ _ _ _ _ _ cs u (U b q D) hh hs hn hm E (λi h j x C=>I i h j x C (amp L l[i] x (gF C)))
def RV.home{q:aa Nat}{x:V}{v:Value}(h:RV w B ah q x v){B':Nat}(hB:B'<=B)(hl:∀ b,B<=b->aD b=ah b)(C:∀ b k,ah b=some k->B<=b)(D:x.loc=true):RV w B' aD q x v:=
 h.yY hB hl (λb k h=>(hl b (C b k h)).trans h) D
def Tu:∀ (xs:aa V) (c:Nat) (σ:S) (ρ:Nat -> Loc) (us:aa Value),60000 <= c -> Rl w0 N ah ρ σ a w -> us.length=xs.length -> (∀ (j:Nat) x u,xs[j]?=some x -> us[j]?=some u -> RV w w0.heap.size ah [c+j] x u) ->
  ∃ρ',Rl w0 N ah ρ' (mG c σ xs) a w/\(∀r,r<c -> ρ' r=ρ r) /\ ∀(j:Nat) x u,(og c xs)[j]?=some x -> us[j]?=some u -> dP w w0.heap.size ah ρ' x u
 |[],c,σ,ρ,us,_,h,hl,E=>⟨ρ,h,λ_ _=>rfl,λj x u Y=>by simp[og]at Y⟩
 | x :: xs,c,σ,ρ,us,hc,h,hl,E=>by
  cases us with
  |nil=>simp at hl
  | cons u us=>
   have L:=E 0 x u rfl rfl;rw[Nat.add_zero]at L;have yU:∀ (j:Nat) O T,xs[j]?=some O -> us[j]?=some T -> RV w w0.heap.size ah [c+1+j] O T:=λj O T Y hu=>by
    have:=E (j+1) O T (by simpa using Y) (by simpa using hu)
    grind
   cases C:x.aH with
   | true=>
    obtain⟨ρ',Z,U,wS⟩:=Tu xs (c+1) σ ρ us (by omega) h (by simpa using hl) yU
    refine⟨ρ',?_,λr E=>U r (by omega),λj y v D I=>?_⟩
    ·simp[mG,C];exact Z
    ·simp only[og,C,aq]at D;cases j with
     | zero=>
      simp at D I;subst D I;exact⟨C,L.key C⟩
     |succ j=>grind
   | false=>
    have gf:=L.SK C;obtain⟨ρ',Z,U,wS⟩:=Tu xs (c+1) _ _ us (by omega) (h.new (d:=c) (x:=.sl x) (.dJ u) (.sl u x (cc _ _ _) L) (h.dj c (.inr hc))) (by simpa using hl) yU
    refine⟨ρ',?_,λr E=>?_,λj y v D I=>?_⟩
    ·simp[mG,C];exact Z
    ·rw[U r (by omega)];exact cH _ _ _ (by omega)
    ·simp only[og,C,au]at D;cases j with
     | zero=>
      simp at D I;subst D I;refine⟨gf,?_⟩;have:ρ' c = .dJ u:=by rw[U c (by omega)];exact cc _ _ _
      simp[cW,this]
     |succ j=>grind
def amq(xs:aa V):∀ c,(og c xs).length=xs.length:=by
 induction xs with
 |nil=>intro c;rfl
 |cons x xs C=>intro c;simp[og,C]
end
def enters(P:Program)(f:Nat):Prop:=∃fn,P.funcs[f]?=some fn/\(fn.name == "runtime.NumGoroutine")=false/\fn.body.isNone=false
/-! What a function gives back. -/
def Mz:A->aj (Bool×aa Lf)
 |.lf x=>some (false,[x])
 |.agg xs=>some (true,xs)
 |_=>none
def sy{X:Type}(P:Program)(σ:S):aa ResultVar->(aa (Bool×aa Lf)->aj X)->aj X
 |[],k=>k []
 | .tmp t :: rest,k=>(match Mz (σ.t t)with
  |some p=>sy P σ rest λps=>k (p::ps)
  |none=>none)
 | .cell p ty :: rest,k=>oa P σ ty (σ.t p) λx=>(match Mz x with
  |some p=>sy P σ rest λps=>k (p::ps)
  |none=>none)
def Tv(m:Nat->aj aW):Lf->aj (V×aj Nat)
 |.v x=>bif x.loc&&x.aH then some (x,none)else none
 | .own [r]=>match m r with
  |some (.sl y)=>bif y.loc then some (y,some r)else none
  |_=>none
 |_=>none
def GJ(m:Nat->aj aW)(off:Nat):aa Lf->aj (aa V×aa (Nat×Nat))
 |[]=>some ([],[])
 | x :: xs=>match Tv m x,GJ m (off+1) xs with
  |some (y,none),some (ys,rs)=>some (y::ys,rs)
  |some (y,some r),some (ys,rs)=>some (y::ys,(r,off)::rs)
  |_,_=>none
def DG(m:Nat->aj aW)(off:Nat):aa (Bool×aa Lf)->aj (aa Pt×aa (Nat×Nat))
 |[]=>some ([],[])
 | p :: ps=>match GJ m off p.2,DG m (off+p.2.length) ps with
  |some (C,rs),some (D,E)=>some ((p.1,C)::D,rs++E)
  |_,_=>none
def once(rs:aa (Nat×Nat)):Bool:=rs.all λp=>(rs.lookup p.1).any λn=>Nat.beq n p.2
def GK{X:Type}(P:Program)(σ:S)(fn:Array ResultVar)(k:fZ->aj X):aj X:=
 sy P σ fn.toList λps=>match DG σ.m 0 ps with
  | some (qs,rs)=>bif once rs then (match qs with
   |[p]=>k (.one p)
   |qs=>k (.eV qs))else none
  |none=>none
section
variable {P:Program} {w w':World} {w0:Wd} {B N:Nat} {ah aD:bE} {ρ ρ':Nat->Loc} {σ:S} {a:Act} {X:Type} {d:Nat} {r:X} {o:Oper}
def aar:∀ (xs:aa V) (c:Nat) (j:Nat) x u,(og c xs)[j]?=some x -> dP w B ah ρ x u -> (∀ r,r<c+xs.length -> ρ' r=ρ r) -> dP w B ah ρ' x u
 |[],c,j,x,u,D,_,_=>by simp[og]at D
 | y :: ys,c,j,x,u,D,C,E=>by
  cases j with
  | zero=>
   simp[og,List.getElem?_cons_zero,iD]at D;subst D;cases I:y.aH with
   |true=>rw[I]at C;simp;exact C
   | false=>
    rw[I]at C;refine⟨C.1,?_⟩;have:=C.2;simp[cW,E c (by simp)]at this ⊢;exact this
  | succ j=>
   exact aar ys _ j x u D C (λr h=>E r (by simp;omega))
def PV.cells{key:Nat -> aa Nat}{p:Pt}{u:Value}(h:PV w B ah key p u):∃ us:aa Value,us.length=p.2.length/\(∀ (j:Nat) x v,p.2[j]?=some x -> us[j]?=some v -> RV w B ah (key j) x v) /\
  ∀(ρ:Nat -> Loc) (C:aa Lf),C.length=p.2.length -> (∀(j:Nat) x v,C[j]?=some x -> us[j]?=some v -> dP w B ah ρ x v) -> RP w B ah ρ (p.1,C) u:=by
 obtain⟨us,D,E,U⟩:=h;obtain⟨b,xs⟩:=p
 refine⟨us.toList,by simpa using E,λj x v I Y=>?_,λρ C hl T=>?_⟩
 ·grind
 ·have L:eJ w B ah ρ C us:=⟨by rw[E,hl],λj x I=>by
   have O:j<us.size:=by rw[E,<- hl];exact(dO.1 I).1
   exact⟨us[j],Array.getElem?_eq_getElem O,T j x _ I (by rw[Array.getElem?_toList,Array.getElem?_eq_getElem O])⟩⟩
  cases b with
  |true=>exact⟨us,D,L⟩
  |false=>have D:=D;subst D;exact L
def GL:∀ (ps:aa Pt) (c0 off:Nat) (σ:S) (ρ:Nat -> Loc) (C:aa Value),60000 <= c0 -> Rl w0 N ah ρ σ a w -> jD w w0.heap.size ah (λn=>c0+n) off ps C ->
  ∃ρ',Rl w0 N ah ρ' (oh (c0+off) σ ps) a w/\(∀r,r<c0+off -> ρ' r=ρ r)/\C.length=(sv (c0+off) ps).length /\ ∀(i:Nat) p v,(sv (c0+off) ps)[i]?=some p -> C[i]?=some v -> RP w w0.heap.size ah ρ' p v
 | [],c0,off,σ,ρ,C,_,h,D=>by
  cases C with
  |nil=>exact⟨ρ,h,λ_ _=>rfl,rfl,λi p v O=>by simp[sv]at O⟩
  |cons v C=>exact D.elim
 | p :: ps,c0,off,σ,ρ,C,Z,h,D=>by
  cases C with
  |nil=>exact D.elim
  | cons v C=>
   obtain⟨⟨_,O⟩,D⟩:=D;obtain⟨us,hl,jX,uY⟩:=O.cells;obtain⟨DH,h1,Tw,wS⟩:=Tu p.2 (c0+off) σ ρ us (by omega) h hl (λj x u I E=>by
    have:RV w _ ah [c0+(off+j)] x u:=jX j x u I E;rw[<- Nat.add_assoc]at this;exact this)
   obtain⟨eY,U,T,hlen,Y⟩:=GL ps c0 (off+p.2.length) (mG (c0+off) σ p.2) DH C Z h1 D;rw[<- Nat.add_assoc]at U T hlen Y
   refine⟨eY,U,λr D=>(T r (by omega)).trans (Tw r D),by simp[sv,hlen],λi q u L E=>?_⟩
   cases i with
   | zero=>
    simp[sv,List.getElem?_cons_zero,iD]at L E;subst L E
    refine uY eY _ (amq _ _) (λj x u I E=>aar p.2 _ j x u I (wS j x u I E) T)
   | succ i=>
    simp[ List.getElem?_cons_succ]at L E;exact Y i q u L E
def jD.home{nm:Nat -> Nat}:∀ (ps:aa Pt) (off:Nat) (C:aa Value) {B':Nat},jD w B ah nm off ps C -> B' <= B -> (∀ b,B <= b -> aD b=ah b) -> (∀ b k,ah b=some k -> B <= b) -> jD w B' aD nm off ps C
 |[],_,[],_,h,_,_,_=>h
 | p :: ps,off,v :: C,B',h,hB,hl,D=>by
  obtain⟨⟨E,us,L,O,T⟩,U⟩:=h
  refine⟨⟨E,us,L,O,λj x I=>?_⟩,jD.home ps _ C U hB hl D⟩
  obtain⟨Y,Z,fG⟩:=T j x I;exact⟨Y,Z,fG.home hB hl D (cu.1 E x (gF I))⟩
def MA(w:World)(o:Oper)(a:Act)(f:Nat)(args:Array Operand)(D:Array TypeId)(E:o.op = .call { callee:=.value (.func f),args,argTypes:=D })(I:enters P f):(execOp a.eval o).run P w = .ok (.enter f (args.map a.eval)) w:=by
 obtain⟨fn,L,O,C⟩:=I;have T:¬ fn.name = "runtime.NumGoroutine":=by simpa using O
 have U:¬ fn.body=none:=by intro e;rw[e]at C;cases C
 simp[execOp,E,resolve,Act.eval,Deferred.ofValue,invoke,callFunc,Sem.run,L,T,U]
def amr{f:Nat}{args:Array Operand}{jE:Array TypeId}{c:iR}{k:S->aj X}(ho:o.op = .call { callee:=.value (.func f),args,argTypes:=jE })(hd:o.dst=some d)(he:enters P f)(hc:iu P f c)(DI:d<N){ps:aa Pt}(o8:∀ ah ρ a w,Rl w0 N ah ρ σ a w->o7 w ps (args.toList.map a.eval).toArray)
  (h2:(c.run X ps λD=>nH σ d D k)=some r):∃c8,k c8=some r/\lu P w0 N o σ c8:=by
 obtain⟨D,E,Tx⟩:=(hc.1 ps).lX h2;have GM:=hc.2 ps D (Tx _ _);unfold nH at E;have step:∀ a w K Q ah ρ,Rl w0 N ah ρ σ a w->(∀ v w' aD,Below w.heap.size w w'->Rl w0 N aD ρ σ a w'->pZ w' w0.heap.size aD (λn=>1000000000100000+1000*d+n) D v->K (a.put o.dst v) w')->o.wp P a w K Q:=by
  intro a w K Q ah ρ hR O;unfold Oper.wp;rw[MA w o a f args jE ho he,Oper.upon_enter];have wT:(args.map a.eval)=(args.toList.map a.eval).toArray:=by apply Array.ext';rw[Array.toList_map]
  rw[wT]
  refine(GM (λn=>1000000000100000+1000*d+n) w _ (o8 ah ρ a w hR) (w0.on hR.below (λ_ _ h=>by cases h))).mono λe w' q5=>?_
  obtain⟨v,DJ,rfl,T,U,I⟩:=q5;have hB:=hR.below.size;let dA:bE:=λb=>if b<w.heap.size then ah b else DJ b
  have e1:∀b,b<w.heap.size->dA b=ah b:=λb hb=>bH hb
  have Y:∀b,w.heap.size<=b->dA b=DJ b:=λb hb=>bJ
  refine O v w' dA T (hR.grow T e1 (λb k hb L=>?_)) ?_
  ·rw[Y b hb]at L;exact(U b k L).2
  ·cases D with
   |one p=>exact jD.home [p] 0 [v] I hB Y (λb k L=>(U b k L).1)
   | eV Z=>
    obtain⟨C,e,hv⟩:=I;exact⟨C,e,jD.home Z 0 C.toList hv hB Y (λb k L=>(U b k L).1)⟩
 cases D with
 | one p=>
  simp only at E;split at E
  ·rename_i y hy
   refine⟨_,E,λa w K Q hR O=>?_⟩
   obtain⟨ah,ρ,hR⟩:=hR
   refine step a w K Q ah ρ hR λv w' aD T dV I=>?_
   obtain⟨ρ',lD,_,_,q6⟩:=GL [p] (1000000000100000+1000*d) 0 σ ρ [v] (by omega) dV I;rw[hd];have Ty:=q6 0 _ v rfl rfl;exact O _ _ ⟨aD,ρ',lD.set (SZ hy Ty) DI⟩
  ·cases E
 | eV Z=>
  refine⟨_,E,λa w K Q hR O=>?_⟩
  obtain⟨ah,ρ,hR⟩:=hR
  refine step a w K Q ah ρ hR λv w' aD T dV I=>?_
  obtain⟨C,rfl,hv⟩:=I;obtain⟨ρ',lD,_,hlen,q6⟩:=GL Z (1000000000100000+1000*d) 0 σ ρ C.toList (by omega) dV hv;rw[hd]
  refine O _ _ ⟨aD,ρ',lD.set ⟨C,rfl,by simpa using hlen,λj p hp=>?_⟩ DI⟩
  have hj:j<C.size:=by
   have:=(dO.1 hp).1;rw[Nat.add_zero]at hlen;rw[<-hlen]at this
   simpa using this
  exact⟨C[j],Array.getElem?_eq_getElem hj,q6 j p _ hp (by rw[Array.getElem?_toList,Array.getElem?_eq_getElem hj])⟩
def aas{f:Nat}{args:Array Operand}{E:Array TypeId}{c:iR}{k:S->aj X}{ev:(aa Pt->aj X)->aj X}(I:o.op = .call { callee:=.value (.func f),args,argTypes:=E })(L:o.dst=some d)(O:enters P f)(T:iu P f c)
  (U:∀k,ev k=some r->∃ps,k ps=some r/\∀ah ρ a w,Rl w0 N ah ρ σ a w->o7 w ps (args.toList.map a.eval).toArray) (h:sx N σ d c ev k=some r):∃D,k D=some r/\lu P w0 N o σ D:=by
 unfold sx at h;cases C:Nat.blt d N with
 |false=>rw[C]at h;cases h
 | true=>
  rw[C,aq]at h;obtain⟨ps,Y,Z⟩:=U _ h;exact amr I L O T (cK C) Z Y
end
def eE(ah:bE)(rs:aa (Nat×Nat))(nm:Nat->Nat):bE:=λb=>
 match ah b with
 |none=>none
 | some k=>match k.getLast? with
  |none=>none
  |some r=>(rs.lookup r).map λn=>k.dropLast++[nm n]
section
variable {P:Program} {w w':World} {w0:Wd} {B N:Nat} {ah aD:bE} {ρ ρ':Nat->Loc} {σ:S} {a:Act} {X:Type} {d:Nat} {r:X} {rs:aa (Nat×Nat)} {nm:Nat->Nat}
def yZ{b:Nat}(h:ah b=none):eE ah rs nm b=none:=by simp[eE,h]
def RV.eE{p:aa Nat}{r n:Nat}{x:V}{v:Value}(h:RV w B ah (p++[r]) x v)(D:rs.lookup r=some n):RV w B (eE ah rs nm) (p++[nm n]) x v:=
 h.map (Q:=λq C=>∃ p,q=p++[r]/\C=p++[nm n]) (dx _) (λb _ h=>⟨rfl,yZ h⟩) (λb q C _ hl e=>by
  obtain⟨p,rfl,rfl⟩:=e;exact⟨rfl,by simp[Proofs.YtgjfmljpdnnihaaGreat.eE,hl,D],λj i s=>⟨j::i::s::p,rfl,rfl⟩⟩) (.inr ⟨p,rfl,rfl⟩)
def Tz{m:Nat -> aj aW}:∀ (xs:aa Lf) (off:Nat) (ys:aa V) (E:aa (Nat×Nat)),GJ m off xs=some (ys,E) -> ys.length=xs.length /\ ∀ (j:Nat) x,xs[j]?=some x -> ∃ y,ys[j]?=some y/\y.loc=true/\((x = .v y/\y.aH=true) \/ ∃ r,x = .own [r]/\m r=some (.sl y)/\(r,off+j)∈E)
 | [],off,ys,E,h=>by
  simp only[GJ,iD,Prod.mk.injEq]at h;obtain⟨rfl,rfl⟩:=h;exact⟨rfl,λj x C=>by simp at C⟩
 | x :: xs,off,ys,E,h=>by
  have Y:∀ y z,Tv m x=some (y,z) -> y.loc=true/\((z=none/\x = .v y/\y.aH=true) \/ ∃ r,z=some r/\x = .own [r]/\m r=some (.sl y)):=by
   intro y z D;unfold Tv at D
   grind
  unfold GJ at h;split at h
  ·rename_i y I L O T;simp only[iD,Prod.mk.injEq]at h;obtain⟨rfl,rfl⟩:=h;obtain⟨U,Z⟩:=Tz xs (off+1) I L T
   refine⟨by simp[U],λj x' C=>?_⟩
   cases j with
   | zero=>
    simp at C;subst C;obtain⟨hl,D|⟨r,D,_⟩⟩:=Y y none O
    ·simp_all
    ·cases D
   |succ j =>grind
  ·rename_i y r I L O T;simp only[iD,Prod.mk.injEq]at h;obtain⟨rfl,rfl⟩:=h;obtain⟨U,Z⟩:=Tz xs (off+1) I L T
   refine⟨by simp[U],λj x' C=>?_⟩
   cases j with
   | zero=>
    simp at C;subst C;obtain⟨hl,D|⟨r',D,e1,e2⟩⟩:=Y y (some r) O
    ·cases D.1
    ·simp_all
   |succ j =>grind
  ·cases h
def TA{m:Nat -> aj aW}(hm:∀ r x,m r=some x -> dZ w B ah ρ r x):∀ (ps:aa (Bool×aa Lf)) (off:Nat) (I:aa Pt) (L:aa (Nat×Nat)) (C:aa Value),DG m off ps=some (I,L) -> (∀ p∈L,rs.lookup p.1=some p.2) -> C.length=ps.length ->
  (∀(i:Nat) p v,ps[i]?=some p -> C[i]?=some v -> RP w B ah ρ p v) -> jD w B (eE ah rs nm) nm off I C
 | [],off,I,L,C,h,_,hl,_=>by
  have:C=[]:=List.eq_nil_of_length_eq_zero hl;subst this;simp only[DG,iD,Prod.mk.injEq]at h;obtain⟨rfl,rfl⟩:=h;trivial
 | p :: ps,off,I,L,C,h,nI,hl,hp=>by
  cases C with
  |nil=>simp at hl
  | cons v C=>
   unfold DG at h;split at h
   ·rename_i ys rs1 qs' Bk h1 h2;simp only[iD,Prod.mk.injEq]at h;obtain⟨rfl,rfl⟩:=h;obtain⟨hlen,L1⟩:=Tz _ _ _ _ h1;have yU:=TA hm ps _ qs' Bk C h2 (λq Z=>nI q (List.mem_append_right _ Z)) (by simpa using hl) (λi q u Z hu=>hp (i+1) q u (by simpa using Z) (by simpa using hu));have za:=hp 0 p v rfl rfl;have key:∀ us:Array Value,eJ w B ah ρ p.2 us -> (us.size=ys.length /\ ∀ (j:Nat) x,ys[j]?=some x -> ∃ u,us[j]?=some u/\RV w B (eE ah rs nm) [nm (off+j)] x u):=by
     intro us O
     refine⟨by rw[hlen];exact O.1,λj y T=>?_⟩
     have U:j<p.2.length:=by rw[<- hlen];exact(dO.1 T).1
     obtain⟨y',E,DK,hz⟩:=L1 j _ (bQ U);rw[T]at E;injection E with E;subst E;obtain⟨u,hu,Y⟩:=O.2 j _ (bQ U);refine⟨u,hu,?_⟩;rcases hz with ⟨e,hf⟩|⟨r,e,hmr,uZ⟩
     ·rw[e]at Y;exact(Y.2.L5 hf (λb=>yZ)).key hf
     ·rw[e]at Y;have fB:=hm r _ hmr;generalize D:aW.sl y=z at fB;cases fB with
      |aC=>cases D
      |mp=>cases D
      |gh=>cases D
      | sl v' y' cN jX=>
       injection D with D;subst D;have GN:v'=u:=by
        have h4:=Y.2;simp only[cW,cN]at h4;simp_all
       subst GN;exact RV.eE (p:=[]) jX (nI (r,off+j) (List.mem_append_left _ uZ))
    refine⟨⟨?_,?_⟩,?_⟩
    ·rw[cu];intro y T;obtain⟨j,U⟩:=List.mem_iff_getElem?.1 T;have wF:j<p.2.length:=by rw[<- hlen];exact(dO.1 U).1
     obtain⟨y',E,DK,_⟩:=L1 j _ (bQ wF);simp_all
    ·obtain⟨b,xs⟩:=p;cases b with
     | true=>
      obtain⟨us,e,O⟩:=za;obtain⟨k1,k2⟩:=key us O;exact⟨us,e,k1,k2⟩
     | false=>
      obtain⟨k1,k2⟩:=key #[v] za;exact⟨#[v],rfl,k1,k2⟩
    ·grind
   ·cases h
def ams{t:TypeId}{x:A}{k:A->aj X}(h:oa P σ t x k=some r){u:Value}(C:RA w B ah ρ x u):∃ ad,u = .pointer (some ad):=by
 unfold oa at h;split at h
 ·cases h
 ·split at h
  ·obtain⟨b,off,_,rfl⟩:=C;exact⟨_,rfl⟩
  ·obtain⟨b,off,rfl,_⟩:=C;exact⟨_,rfl⟩
  ·obtain⟨ad,rfl,_⟩:=C;exact⟨_,rfl⟩
  ·cases h
def aat{x:A}{p:Bool×aa Lf}(h:Mz x=some p){u:Value}(D:RA w B ah ρ x u):RP w B ah ρ p u:=by
 unfold Mz at h;split at h
 ·injection h with h;subst h
  refine⟨rfl,λj y C=>?_⟩
  cases j with
  |zero=>simp at C;subst C;exact⟨u,rfl,D⟩
  |succ j=>simp at C
 ·injection h with h;subst h;exact D
 ·cases h
def q7(tmps:Array Value):ResultVar->Sem Value
 |.tmp t=>pure (tmps.getD t undef)
 |.cell a t=>do loadVar t (<-asAddr (tmps.getD a undef))
def GO:∀ (l:aa ResultVar) (k:aa (Bool×aa Lf) -> aj X),sy P σ l k=some r -> ∃ ps,k ps=some r /\ ∀ ah ρ a w,Rl w0 N ah ρ σ a w -> ∃ C,(l.mapM (q7 a.tmps)).run P w = .ok C w/\C.length=ps.length /\ ∀ (i:Nat) p v,ps[i]?=some p -> C[i]?=some v -> RP w w0.heap.size ah ρ p v
 |[],k,h=>⟨[],h,λ_ _ _ _ _=>⟨[],rfl,rfl,λi p v D=>by simp at D⟩⟩
 | .tmp t :: rest,k,h=>by
  simp only[sy]at h;split at h
  ·rename_i p D;obtain⟨ps,O,T⟩:=GO rest _ h
   refine⟨p::ps,O,λah ρ a w hR=>?_⟩
   obtain⟨C,U,hl,hv⟩:=T ah ρ a w hR
   refine⟨a.tmps.getD t undef::C,?_,by simp[hl],λi q u E I=>?_⟩
   ·rw[List.mapM_cons];simp[q7,Sem.run_pure,mB,gd,U]
   ·cases i with
    |zero=>simp only[List.getElem?_cons_zero,iD]at E I;subst E I;exact aat D (hR.tmp t)
    |succ i=>grind
  ·cases h
 | .cell c ty :: rest,k,h=>by
  simp only[sy]at h;obtain⟨y,Y,hld⟩:=ZU (w0:=w0) (N:=N) h;split at Y
  ·rename_i p D;obtain⟨ps,O,T⟩:=GO rest _ Y
   refine⟨p::ps,O,λah ρ a w hR=>?_⟩
   obtain⟨C,U,hl,hv⟩:=T ah ρ a w hR;obtain⟨v,L,wR⟩:=hld ah ρ a w hR _ (hR.tmp c);obtain⟨ad,Z⟩:=ams h (hR.tmp c);rw[Z]at L;have L:(loadVar ty ad).run P w = .ok v w:=by
    simpa [Instr.loadAt,Instr.sureAddr]using L
   refine⟨v::C,?_,by simp[hl],λi q u E I=>?_⟩
   ·rw[List.mapM_cons];simp[q7,Z,asAddr,Sem.run_pure,mB,gd,U,L]
   ·cases i with
    |zero=>simp at E I;subst E I;exact aat D wR
    |succ i=>grind
  ·cases Y
def amt{fn:Func}{k:fZ -> aj X}(h:GK P σ fn.results k=some r):∃ Z,k Z=some r /\ ∀ ah ρ a w,Rl w0 N ah ρ σ a w -> ∀ nm,∃ v aD,(results fn a.tmps).run P w = .ok v w/\(∀ b k,aD b=some k -> (w0.heap.size <= b \/ w0.L b≠none)/\b<w.heap.size/\k≠[])/\pZ w w0.heap.size aD nm Z v:=by
 unfold GK at h;obtain⟨ps,I,q6⟩:=GO (w0:=w0) (N:=N) _ _ h;clear h;split at I
 ·rename_i T rs TB;cases ho:once rs with
  |false=>grind
  | true=>
   rw[ho,aq]at I;have nI:∀ p∈rs,rs.lookup p.1=some p.2:=by
    intro p hp;have:=cu.1 ho p hp;obtain⟨n,hn,he⟩:=(Option.any_eq_true _ _).1 this;simp_all
   have core:∀ ah ρ a w,Rl w0 N ah ρ σ a w -> ∀ nm:Nat -> Nat,∃ C:aa Value,(fn.results.mapM (q7 a.tmps)).run P w = .ok C.toArray w/\(∀ b k,eE ah rs nm b=some k -> (w0.heap.size <= b \/ w0.L b≠none)/\b<w.heap.size/\k≠[])/\jD w w0.heap.size (eE ah rs nm) nm 0 T C:=by
    intro ah ρ a w hR nm;obtain⟨C,O,hl,hv⟩:=q6 ah ρ a w hR
    refine⟨C,?_,λb k E=>?_,TA hR.root ps 0 T rs C TB nI hl hv⟩
    ·rw[Array.mapM_eq_mapM_toList];simp[O]
    ·unfold eE at E;split at E
     ·cases E
     ·rename_i k' oZ;have:=hR.cX b k' oZ;split at E
      ·cases E
      ·cases tD:rs.lookup _ with
       |none=>rw[tD]at E;cases E
       | some n=>
        rw[tD]at E;injection E with E;subst E;simp_all
   have jZ:∀ (tmps:Array Value),results fn tmps=(do let C <- fn.results.mapM (q7 tmps);pure (if h:C.size=1 then C[0]else .tuple C)):=λtmps=>by
    unfold results;congr 1
   split at I
   ·rename_i p
    refine⟨_,I,λah ρ a w hR nm=>?_⟩
    obtain⟨C,O,U,D⟩:=core ah ρ a w hR nm
    match C,D with
    |[v],D=>exact⟨v,_,by rw[jZ,gd,O];rfl,U,D⟩
    |[],D=>exact D.elim
    |_::_::_,D=>exact D.2.elim
   ·rename_i Y
    refine⟨_,I,λah ρ a w hR nm=>?_⟩
    obtain⟨C,O,U,D⟩:=core ah ρ a w hR nm;have iA:C.toArray.size≠1:=by
     intro e
     match T,C,D,Y with
     |[q],[v],_,Y=>exact Y q rfl
     |[],[v],D,_=>exact D.elim
     |_::_::_,[v],D,_=>exact D.2.elim
    refine⟨.tuple C.toArray,_,?_,U,C.toArray,rfl,D⟩;rw[jZ,gd,O,mB];simp only[iA,dif_neg,not_false_eq_true,Sem.run_pure]
 ·cases I
end
inductive In where
 |aC (cs:List V)
 |sl (y:V)
def nF(i:Nat):Nat:=20000+1000*i
def nC(i j:Nat)(x:V):Nat:=bif x.aH then 20001+1000*i+j else 60000+1000*i+j
def zb(i j:Nat)(x:V):Lf:=bif x.plain then .v x else .own [nC i j x]
def zc(i:Nat):Nat->aa V->aa Lf
 |_,[]=>[]
 |j,x::xs=>zb i j x::zc i (j+1) xs
def TD(i:Nat):Nat->aa V->(Nat->aj aW)->(Nat->aj aW)
 |_,[],m=>m
 |j,x::xs,m=>TD i (j+1) xs (bif x.plain then m else bV m (nC i j x) (some (.sl x)))
def MB:Nat->aa In->(Nat->aj aW)->(Nat->aj aW)
 |_,[],m=>m
 |i,.aC cs::r,m=>MB (i+1) r (TD i 0 cs (bV m (nF i) (some (.aC (zc i 0 cs)))))
 |i,.sl y::r,m=>MB (i+1) r (bV m (nF i) (some (.sl y)))
inductive Ar where
 |pt (p:Pt)
 |mut (i off:Nat)
def TE(C:aa In):Ar->A
 |.pt (false,[x])=>.lf (.v x)
 |.pt (true,xs)=>.agg (xs.map .v)
 |.pt (false,.bool false::.int .i64 g::c::cs)=>.nA g.toNat (c::cs)
 |.pt _=>.undef
 | .mut i off=>match C[i]? with
  |some (.aC _)=>.aG (nF i) off
  |some (.sl _)=>.lf (.own [nF i])
  |none=>.undef
def wU(C:aa In)(args:aa Ar):S:=⟨λk=>match args[k]? with
 |some x=>TE C x
 |none=>.undef,MB 0 C (λ_=>none)⟩
def q8(w w':World)(aD:bE)(ρ:Nat->Loc)(nm:Nat->Nat):Nat->Nat->aa In->aa In->Prop
 |_,_,[],[]=>True
 | i,D,.aC cs :: r,.aC eT :: I=>(∃ b off cells L e T,ρ (nF i) = .aC b off/\w.heap[b]?=some (.cells cells e (0,0))/\w'.heap[b]?=some (.cells L T (0,0))/\aD b=some [nm D]/\off+eT.length<=L.size/\eT.length=cs.length/\
   ∀(j:Nat) C,eT[j]?=some C->∃u,L[off+j]?=some u/\((C.plain=true/\∀(w:World) (B:Nat) (ah:bE) (q:aa Nat),RV w B ah q C u)\/(C = .nil/\u = .slice none 0 0/\∃E,cs[j]?=some E/\E.aH=false)\/(C.plain=false/\C.aH=true/\C.jW=true/\(∃E,cs[j]?=some E/\Wk E C)/\cells[off+j]?=some u)\/(C.aH=false/\RV w' w.heap.size aD [nm (D+1+j)] C u)))/\
   q8 w w' aD ρ nm (i+1) (D+1+cs.length) r I
 |i,D,.sl y::r,.sl O::I=>(O = .nil\/∃v,ρ (nF i) = .dJ v/\RV w' w.heap.size aD [nm D] O v)/\q8 w w' aD ρ nm (i+1) (D+1) r I
 |_,_,_,_=>False
def GP(w w':World)(aD:bE)(ρ:Nat->Loc)(nm:Nat->Nat):Nat->Nat->aa In->aa In->Prop
 |_,_,[],[]=>True
 | i,D,.aC cs :: r,.aC eT :: E=>(∃ b off cells I e O,ρ (nF i) = .aC b off/\w.heap[b]?=some (.cells cells e (0,0))/\w'.heap[b]?=some (.cells I O (0,0))/\aD b=some [nm D]/\off+eT.length<=I.size/\eT.length=cs.length/\
   ∀(j:Nat) C,eT[j]?=some C->∃u,I[off+j]?=some u/\((C.plain=true/\∀(w:World) (B:Nat) (ah:bE) (q:aa Nat),RV w B ah q C u)\/(C.plain=false/\C.aH=true/\cells[off+j]?=some u)\/(C.aH=false/\RV w' w.heap.size aD [nm (D+1+j)] C u)))/\
   GP w w' aD ρ nm (i+1) (D+1+cs.length) r E
 |i,D,.sl y::r,.sl L::E=>(L = .nil\/∃v,ρ (nF i) = .dJ v/\RV w' w.heap.size aD [nm D] L v)/\GP w w' aD ρ nm (i+1) (D+1) r E
 |_,_,_,_=>False
def fZ.len:fZ->Nat
 |.one p=>p.2.length
 |.eV ps=>(ps.map λp=>p.2.length).sum
def o9(w:World)(B:Nat)(ah:bE)(ρ:Nat->Loc):Nat->aa In->Prop
 |_,[]=>True
 |i,.aC cs::r=>dZ w B ah ρ (nF i) (.aC (zc i 0 cs))/\(∀(j:Nat) x,cs[j]?=some x->x.plain=false->dZ w B ah ρ (nC i j x) (.sl x))/\o9 w B ah ρ (i+1) r
 |i,.sl y::r=>dZ w B ah ρ (nF i) (.sl y)/\o9 w B ah ρ (i+1) r
/-! The end: what is given back,and what the written parameters hold. -/
def TF(m:Nat->aj aW)(i j:Nat)(C:V):Lf->aj (V×aj Nat)
 |.v x=>bif x.plain then some (x,none)else (bif !x.jW && !C.aH then some (.nil,none)else none)
 | .own [r]=>match m r with
  |some (.sl y)=>bif y.aH then (bif !C.plain&&(C.aH&&C.jW)&&Nat.beq r (20001+1000*i+j)&&Nat.blt r 60000 then some (C,none)else none)else (bif y.loc then some (y,some r)else none)
  |_=>none
 |_=>none
def Bl(m:Nat->aj aW)(i C:Nat):Nat->aa V->aa Lf->aj (aa V×aa (Nat×Nat))
 |_,[],[]=>some ([],[])
 | j,D :: xs,l :: E=>match TF m i j D l,Bl m i C (j+1) xs E with
  |some (y,none),some (ys,rs)=>some (y::ys,rs)
  |some (y,some r),some (ys,rs)=>some (y::ys,(r,C+1+j)::rs)
  |_,_=>none
 |_,_,_=>none
def V.gone:V->Bool
 |.sl _ o _ _=>Nat.ble 1000000 o
 |_=>false
def zd(m:Nat->aj aW):Nat->Nat->aa In->aj (aa In×aa (Nat×Nat))
 |_,_,[]=>some ([],[])
 | i,C,.aC cs :: r=>match bif Nat.blt (nF i) 60000 then m (nF i)else none with
  | some (.aC I)=>match Bl m i C 0 cs I,zd m (i+1) (C+1+cs.length) r with
   |some (eT,rs),some (os,D)=>some (.aC eT::os,(nF i,C)::(rs++D))
   |_,_=>none
  |_=>none
 | i,C,.sl L :: r=>bif L.gone then (match zd m (i+1) (C+1) r with
   |some (os,D)=>some (.sl .nil::os,D)
   |none=>none)else match bif Nat.blt (nF i) 60000 then m (nF i)else none with
  | some (.sl E)=>bif E.loc && !E.aH then (match zd m (i+1) (C+1) r with
   |some (os,D)=>some (.sl E::os,(nF i,C)::D)
   |none=>none)else none
  |_=>none
def GQ{X:Type}(P:Program)(σ:S)(fn:Array ResultVar)(C:aa In)(k:aa In->fZ->aj X):aj X:=
 sy P σ fn.toList λps=>match DG σ.m 0 ps with
  | some (qs,rs)=>match zd σ.m 0 (qs.map λp=>p.2.length).sum C with
   | some (os,D)=>bif once (rs++D)then (match qs with
    |[p]=>k os (.one p)
    |qs=>k os (.eV qs))else none
   |none=>none
  |none=>none
/-! Types of parameters and results. -/
def iI:aa (Bool×TC×Nat)->Type
 |[]=>af
 |[(_,t,_)]=>T t
 |(_,t,_)::r=>T t×iI r
def tE:(l:aa (Bool×TC×Nat))->iI l->aa Pt
 |[],_=>[]
 |[(b,t,g)],x=>[(b,enc t g x)]
 |(b,t,g)::q::r,x=>(b,enc t g x.1)::tE (q::r) x.2
def p6:(l:aa (Bool×TC×Nat))->aa Pt->aj (iI l)
 |[],[]=>some ()
 |[(b,t,g)],[(C,D)]=>bif b==C then dec t g D else none
 | (b,t,g) :: q :: r,(C,D) :: ps=>bif b==C then (match dec t g D,p6 (q :: r) ps with
  |some x,some xs=>some (x,xs)
  |_,_=>none)else none
 |_,_=>none
def l5(l:aa (Bool×TC×Nat)):fZ->aj (iI l)
 |.one p=>p6 l [p]
 |.eV ps=>bif Nat.beq ps.length 1 then none else p6 l ps
def eS(l:aa (Bool×TC×Nat))(x:iI l):fZ:=
 match tE l x with
 |[p]=>.one p
 |ps=>.eV ps
inductive PK where
 |v (b:Bool) (t:TC)
 |p (t:TC) (g off:Nat)
 |s (t:TC) (g:Nat)
def lE:aa PK->Type
 |[]=>af
 |.v _ t::r=>T t×lE r
 |.p t _ _::r=>T t×lE r
 |.s t _::r=>aa (T t)×lE r
def q9:aa (Bool×TC×Nat)->Type
 |[]=>af
 |(true,t,_)::r=>T t×q9 r
 |(false,t,_)::r=>aa (T t)×q9 r
def iS:(l:aa (Bool×TC×Nat))->q9 l->aa In
 |[],_=>[]
 |(true,t,g)::r,x=>.aC (enc t g x.1)::iS r x.2
 |(false,t,g)::r,x=>.sl (bif Nat.ble 1000000 g then .nil else .sl t (g+2) false x.1)::iS r x.2
def eF:aa PK->aa (Bool×TC×Nat)
 |[]=>[]
 |.v _ _::r=>eF r
 |.p t g _::r=>(true,t,g)::eF r
 |.s t g::r=>(false,t,g)::eF r
def nJ:(l:aa PK)->lE l->aa In
 |[],_=>[]
 |.v _ _::r,x=>nJ r x.2
 |.p t g _::r,x=>.aC (enc t g x.1)::nJ r x.2
 |.s t g::r,x=>.sl (.sl t (g+2) false x.1)::nJ r x.2
def ke:(l:aa PK)->Nat->lE l->aa Ar
 |[],_,_=>[]
 |.v b t::r,i,x=>.pt (b,enc t 0 x.1)::ke r i x.2
 |.p _ _ off::r,i,x=>.mut i off::ke r (i+1) x.2
 |.s _ _::r,i,x=>.mut i 0::ke r (i+1) x.2
structure nK where
 ps:List PK
 ro:List (Bool×TC×Nat)
 F:lE ps->Option (iI ro×q9 (eF ps))
def va(P:Program)(f:Nat)(c:nK):Prop:=
 ∀ x y,c.F x=some y->∀ (nm:Nat->Nat) (w:World) (ah:bE) (ρ:Nat->Loc) (bS:Array Value),o9 w w.heap.size ah ρ 0 (nJ c.ps x)->(∀ b k,ah b=some k->b<w.heap.size/\k≠[])->
     bS.size=c.ps.length->(∀i,RA w w.heap.size ah ρ ((wU (nJ c.ps x) (ke c.ps 0 x)).t i) (bS.getD i undef))->∀C:Hd w ah,
     Calls P f bS w λe w'=>∃v aD,e = .returned v/\je ⟨w,ah,λ_=>none,C,λ_ _=>rfl⟩ w w'/\(∀b k,aD b=some k->(w.heap.size<=b\/ah b≠none)/\b<w'.heap.size/\k≠[])/\pZ w' w.heap.size aD nm (eS c.ro y.1) v/\GP w w' aD ρ nm 0 (eS c.ro y.1).len (nJ c.ps x) (iS (eF c.ps) y.2)
def GR(w:World)(ρ:Nat->Loc):Nat->aa In->Prop
 |_,[]=>True
 |i,.aC cs::r=>(∃b off cells e,ρ (nF i) = .aC b off/\w.heap[b]?=some (.cells cells e (0,0))/\∀(j:Nat) x,cs[j]?=some x->x.plain=false->x.aH=true->∃u,cells[off+j]?=some u/\ρ (20001+1000*i+j) = .dJ u)/\GR w ρ (i+1) r
 |i,.sl y::r=>(∃v,ρ (nF i) = .dJ v)/\GR w ρ (i+1) r
section
variable {P:Program} {w w':World} {w0:Wd} {B N:Nat} {ah aD:bE} {ρ ρ':Nat->Loc} {σ:S} {a:Act} {X:Type} {d:Nat} {r:X} {rs:aa (Nat×Nat)} {nm:Nat->Nat}
def TG{m:Nat -> aj aW}{i pos:Nat}:∀ (xs:aa V) (O:aa Lf) (D:Nat) (ys:aa V) (T:aa (Nat×Nat)),Bl m i pos D xs O=some (ys,T) -> ys.length=xs.length/\O.length=xs.length /\
  ∀(j:Nat) y,ys[j]?=some y -> ∃l x0,O[j]?=some l/\xs[j]?=some x0/\((l = .v y/\y.plain=true) \/ (l = .v .nil/\y = .nil/\x0.aH=false) \/ (l = .own [20001+1000*i+(D+j)]/\y=x0/\y.plain=false/\(y.aH&&y.jW)=true/\20001+1000*i+(D+j)<60000) \/ (∃q,l = .own [q]/\m q=some (.sl y)/\y.aH=false/\(q,pos+1+(D+j))∈T))
 | [],[],D,ys,T,h=>by
  simp only[Bl,iD,Prod.mk.injEq]at h;obtain⟨rfl,rfl⟩:=h;exact⟨rfl,rfl,λj y Y=>by simp at Y⟩
 |[],_::_,D,ys,T,h=>by simp[Bl]at h
 |_::_,[],D,ys,T,h=>by simp[Bl]at h
 | x0 :: xs,l :: O,D,ys,T,h=>by
  have hc:∀ y z,TF m i D x0 l=some (y,z) -> (z=none/\l = .v y/\y.plain=true) \/ (z=none/\l = .v .nil/\y = .nil/\x0.aH=false) \/ (z=none/\l = .own [20001+1000*i+D]/\y=x0/\y.plain=false/\(y.aH&&y.jW)=true/\20001+1000*i+D<60000) \/ (∃ q,z=some q/\l = .own [q]/\m q=some (.sl y)/\y.aH=false):=by
   intro y z C;unfold TF at C;split at C
   ·rename_i x;cases hp:x.plain with
    | false=>
     rw[hp,au]at C;cases hb:(!x.jW && !x0.aH)with
     |false=>rw[hb]at C;cases C
     | true=>
      rw[hb,aq]at C;simp only[iD,Prod.mk.injEq]at C;obtain⟨rfl,rfl⟩:=C;rw[aO,gW,gW]at hb;have hx:x = .nil:=by
       cases x<;>first|rfl|(exact absurd hb.1 (by simp[V.jW]))
      subst hx;exact .inr (.inl ⟨rfl,rfl,rfl,hb.2⟩)
    |true =>grind
   ·rename_i q;split at C
    ·rename_i y1 hy1;cases hf:y1.aH with
     | true=>
      rw[hf,aq]at C;cases hb:(!x0.plain&&(x0.aH&&x0.jW)&&Nat.beq q (20001+1000*i+D)&&Nat.blt q 60000)with
      |false=>rw[hb]at C;cases C
      | true=>
       rw[hb,aq]at C;simp only[iD,Prod.mk.injEq]at C;obtain⟨rfl,rfl⟩:=C;rw[aO,aO,aO,gW]at hb;obtain⟨⟨⟨b1,b2⟩,b3⟩,b4⟩:=hb;obtain rfl:=cC b3;exact .inr (.inr (.inl ⟨rfl,rfl,rfl,b1,b2,by have:=cK b4;omega⟩))
     | false=>
      rw[hf,au]at C;cases hl:y1.loc with
      |false=>rw[hl]at C;cases C
      |true =>grind
    ·cases C
   ·cases C
  unfold Bl at h;split at h
  ·rename_i y TH TI Y GH;simp only[iD,Prod.mk.injEq]at h;obtain⟨rfl,rfl⟩:=h;obtain⟨h1,h2,h3⟩:=TG xs O (D+1) TH TI GH
   refine⟨by simp[h1],by simp[h2],λj y' E=>?_⟩
   cases j with
   | zero=>
    simp at E;subst E;refine⟨l,x0,rfl,rfl,?_⟩;rcases hc y none Y with ⟨_,I,L⟩|⟨_,I,L,U⟩|⟨_,I,L,U,e4,e5⟩|⟨q,Z,_⟩
    ·simp[*]
    ·simp[*]
    ·exact .inr (.inr (.inl ⟨I,L,U,e4,e5⟩))
    ·cases Z
   | succ j=>
    obtain⟨l',x',g1,g2,g3⟩:=h3 j y' (by simpa using E);rw[show D+1+j=D+(j+1) by omega]at g3;exact⟨l',x',by simpa using g1,by simpa using g2,g3⟩
  ·rename_i y q TH TI Y GH;simp only[iD,Prod.mk.injEq]at h;obtain⟨rfl,rfl⟩:=h;obtain⟨h1,h2,h3⟩:=TG xs O (D+1) TH TI GH
   refine⟨by simp[h1],by simp[h2],λj y' E=>?_⟩
   cases j with
   | zero=>
    simp at E;subst E;refine⟨l,x0,rfl,rfl,?_⟩;rcases hc y (some q) Y with ⟨e0,_⟩|⟨e0,_⟩|⟨e0,_⟩|⟨q',Z,I,L,U⟩
    ·cases e0
    ·cases e0
    ·cases e0
    ·injection Z with Z;subst Z;exact .inr (.inr (.inr ⟨q,I,L,U,.head _⟩))
   | succ j=>
    obtain⟨l',x',g1,g2,g3⟩:=h3 j y' (by simpa using E);rw[show D+1+j=D+(j+1) by omega]at g3;exact⟨l',x',by simpa using g1,by simpa using g2,g3.imp id (λg=>g.imp id (λg=>g.imp id λ⟨q',I,L,U,e4⟩=>⟨q',I,L,U,.tail _ e4⟩))⟩
  ·cases h
def MC{w1:World}{TJ:Nat -> Loc}{m:Nat -> aj aW}(O:∀ r,20000 <= r -> r<60000 -> ρ r=TJ r)(T:∀ r x,m r=some x -> dZ w w1.heap.size ah ρ r x):
  ∀(ins:aa In) (i Y:Nat) (outs:aa In) (Z:aa (Nat×Nat)),zd m i Y ins=some (outs,Z) -> (∀p∈Z,rs.lookup p.1=some p.2) -> GR w1 TJ i ins -> q8 w1 w (eE ah rs nm) TJ nm i Y ins outs
 | [],i,Y,outs,Z,h,I,he=>by
  simp only[zd,iD,Prod.mk.injEq]at h;obtain⟨rfl,rfl⟩:=h;trivial
 | .aC cs :: r,i,Y,outs,Z,h,I,he=>by
  unfold zd at h;cases hi:Nat.blt (nF i) 60000 with
  |false=>grind
  | true=>
   rw[hi,aq]at h;have hi:=cK hi;split at h
   ·rename_i ls TK;split at h
    ·rename_i eT rs1 os Bk h1 h2;simp only[iD,Prod.mk.injEq]at h;obtain⟨rfl,rfl⟩:=h;obtain⟨⟨b,off,cells,e,aau,To,tF⟩,GS⟩:=he;obtain⟨k1,k2,k3⟩:=TG _ _ _ _ _ h1
     refine⟨?_,MC O T r (i+1) _ os Bk h2 (λp D=>I p (.tail _ (List.mem_append_right _ D))) GS⟩
     have L:=T _ _ TK;have TL:=O (nF i) (by unfold nF;omega) (by omega);generalize C:aW.aC ls=x at L;cases L with
     |sl=>cases C
     |mp=>cases C
     |gh=>cases C
     | aC b' A6 wV e' ls' us E hl hh hs hc=>
      injection C with C;subst C;rw[TL,aau]at E;injection E with e1 e2;subst e1 e2
      refine⟨b,off,cells,wV,e,e',aau,To,hh,?_,by rw[k1,<- k2];exact hs,k1,λj y hy=>?_⟩
      ·have:=I _ (List.Mem.head _);simp[eE,hl,this]
      ·obtain⟨l,x0,g1,g2,g3⟩:=k3 j y hy;obtain⟨c1,c2⟩:=hc j l g1;refine⟨_,c1,?_⟩;rw[eN]at g3;rcases g3 with ⟨rfl,D⟩ | ⟨rfl,rfl,Mq⟩ | ⟨rfl,rfl,D,yR,dU⟩ | ⟨q,rfl,hq,hf,uZ⟩
       ·exact .inl ⟨D,λ_ _ _ _=>c2.2.tj D⟩
       ·exact .inr (.inl ⟨rfl,by have h9:=c2.2;generalize us j=u9 at h9 ⊢;cases h9;rfl,x0,g2,Mq⟩)
       ·rw[aO]at yR;obtain⟨hf,MD⟩:=yR;obtain⟨u,hu,amu⟩:=tF j y g2 D hf;refine .inr (.inr (.inl ⟨D,hf,MD,⟨y,g2,.same _⟩,?_⟩));have U:=c2.2;have TM:=O (20001+1000*i+j) (by omega) dU;simp only[cW,TM,amu]at U;simp_all
       ·refine .inr (.inr (.inr ⟨hf,?_⟩));have L:=T _ _ hq;generalize C:aW.sl y=x at L;cases L with
        |aC=>cases C
        |mp=>cases C
        |gh=>cases C
        | sl v y' E hr=>
         injection C with C;subst C;have U:=c2.2;simp only[cW,E]at U;injection U with U;rw[<- U];exact RV.eE (p:=[]) hr (I _ (.tail _ (List.mem_append_left _ uZ)))
    ·cases h
   ·cases h
 | .sl y :: r,i,Y,outs,Z,h,I,he=>by
  unfold zd at h;cases hg:y.gone with
  | true=>
   rw[hg,aq]at h;split at h
   next os Bk h2=>simp at h;obtain⟨rfl,rfl⟩:=h;exact⟨.inl rfl,MC O T r _ _ os Bk h2 I he.2⟩
   ·cases h
  |false=>
  rw[hg,au]at h;cases hi:Nat.blt (nF i) 60000 with
  |false=>grind
  | true=>
   rw[hi,aq]at h;have hi:=cK hi;split at h
   ·rename_i y' GD;cases hl:(y'.loc && !y'.aH)with
    |false=>grind
    | true=>
     rw[hl,aq]at h;split at h
     ·rename_i os Bk h2;simp only[iD,Prod.mk.injEq]at h;obtain⟨rfl,rfl⟩:=h;obtain⟨⟨v,hv⟩,GS⟩:=he
      refine⟨.inr ⟨v,hv,?_⟩,MC O T r (i+1) _ os Bk h2 (λp D=>I p (.tail _ D)) GS⟩
      have TL:=O (nF i) (by unfold nF;omega) (by omega);have L:=T _ _ GD;generalize C:aW.sl y'=x at L;cases L with
      |aC=>cases C
      |mp=>cases C
      |gh=>cases C
      | sl v' y'' E hr=>
       injection C with C;subst C;rw[TL,hv]at E;injection E with E;subst E;exact RV.eE (p:=[]) hr (I _ (.head _))
     ·cases h
   ·cases h
def amv{w1:World}{U:Nat -> Loc}{fn:Func}{O:aa In}{k:aa In -> fZ -> aj X}(hw:w0.w=w1)(hF:∀ r,20000 <= r -> r<60000 -> w0.F r=some (U r))(he:GR w1 U 0 O)(h:GQ P σ fn.results O k=some r):
  ∃outs res,k outs res=some r /\ ∀ah ρ a w,Rl w0 N ah ρ σ a w -> ∀nm,∃v aD,(results fn a.tmps).run P w = .ok v w/\(∀b k,aD b=some k -> (w0.heap.size <= b \/ w0.L b≠none)/\b<w.heap.size/\k≠[])/\pZ w w0.heap.size aD nm res v/\q8 w1 w aD U nm 0 res.len O outs:=by
 unfold GQ at h;obtain⟨ps,E,q6⟩:=GO (w0:=w0) (N:=N) _ _ h;clear h;split at E
 ·rename_i qs TN TB;split at E
  ·rename_i os TO hos;cases ho:once (TN++TO)with
   |false=>rw[ho]at E;cases E
   | true=>
    rw[ho,aq]at E;generalize aav:TN++TO=rs at ho;have nI:∀ p∈rs,rs.lookup p.1=some p.2:=by
     intro p Y;have:=cu.1 ho p Y;obtain⟨n,hn,he⟩:=(Option.any_eq_true _ _).1 this;simp_all
    have core:∀ ah ρ a w,Rl w0 N ah ρ σ a w -> ∀ nm:Nat -> Nat,∃ C:aa Value,(fn.results.mapM (q7 a.tmps)).run P w = .ok C.toArray w/\(∀ b k,eE ah rs nm b=some k -> (w0.heap.size <= b \/ w0.L b≠none)/\b<w.heap.size/\k≠[])/\jD w w0.heap.size (eE ah rs nm) nm 0 qs C /\
      q8 w1 w (eE ah rs nm) U nm 0 (qs.map λp=>p.2.length).sum O os:=by
     intro ah ρ a w hR nm;obtain⟨C,Z,hl,hv⟩:=q6 ah ρ a w hR
     refine⟨C,?_,λb k I=>?_,TA hR.root ps 0 qs TN C TB (λp Y=>nI p (by rw[<- aav];exact List.mem_append_left _ Y)) hl hv,
      MC (λr h1 E=>hR.fix r _ (hF r h1 E)) (by rw[<- hw];exact hR.root) O 0 _ os TO hos (λp Y=>nI p (by rw[<- aav];exact List.mem_append_right _ Y)) he⟩
     ·rw[Array.mapM_eq_mapM_toList];simp[Z]
     ·unfold eE at I;split at I
      ·cases I
      ·rename_i k' oZ;have:=hR.cX b k' oZ;split at I
       ·cases I
       ·cases tD:rs.lookup _ with
        |none=>rw[tD]at I;cases I
        | some n=>
         rw[tD]at I;injection I with I;subst I;simp_all
    have jZ:∀ (tmps:Array Value),results fn tmps=(do let C <- fn.results.mapM (q7 tmps);pure (if h:C.size=1 then C[0]else .tuple C)):=λtmps=>by
     unfold results;congr 1
    split at E
    ·rename_i p
     refine⟨_,_,E,λah ρ a w hR nm=>?_⟩
     obtain⟨C,Z,om,D,T⟩:=core ah ρ a w hR nm;have T:q8 w1 w (eE ah rs nm) U nm 0 (fZ.one p).len O os:=by simpa [fZ.len]using T
     match C,D with
     |[v],D=>exact⟨v,_,by rw[jZ,gd,Z];rfl,om,D,T⟩
     |[],D=>exact D.elim
     |_::_::_,D=>exact D.2.elim
    ·rename_i cL
     refine⟨_,_,E,λah ρ a w hR nm=>?_⟩
     obtain⟨C,Z,om,D,T⟩:=core ah ρ a w hR nm;have iA:C.toArray.size≠1:=by
      intro e;clear T;have e:C.length=1:=by simpa using e
      match qs,C,D,cL,e with
      |[q],[v],_,cL,_=>exact cL q rfl
      |[],[v],D,_,_=>exact D.elim
      |_::_::_,[v],D,_,_=>exact D.2.elim
     refine⟨.tuple C.toArray,_,?_,om,⟨C.toArray,rfl,D⟩,T⟩;rw[jZ,gd,Z,mB];simp only[iA,dif_neg,not_false_eq_true,Sem.run_pure]
  ·cases E
 ·cases E
def aaw{i:Nat}:∀ (cs:aa V) (D:Nat) (m:Nat -> aj aW) (r:Nat) (x:aW),TD i D cs m r=some x -> m r=some x \/ ∃ j y,cs[j]?=some y/\y.plain=false/\r=nC i (D+j) y/\x = .sl y
 |[],D,m,r,x,h=>.inl h
 | c :: cs,D,m,r,x,h=>by
  rcases aaw cs _ _ r x h with C|⟨j,y,C,L,O,T⟩
  ·cases E:c.plain with
   |true=>simp_all
   | false=>
    rw[E,au]at C;by_cases I:r=nC i D c
    ·subst I;rw[cc]at C;injection C with C;exact .inr ⟨0,c,rfl,E,rfl,C.symm⟩
    ·rw[cH _ _ _ I]at C;simp_all
  ·exact .inr ⟨j+1,y,by simpa using C,L,by rw[O];congr 1;omega,T⟩
def o9.roots:∀ (C:aa In) (i:Nat) (m:Nat -> aj aW),o9 w B ah ρ i C -> (∀ r x,m r=some x -> dZ w B ah ρ r x) -> ∀ r x,MB i C m r=some x -> dZ w B ah ρ r x
 |[],i,m,_,I,r,x,h=>I r x h
 | .aC cs :: C,i,m,L,I,r,x,h=>by
  obtain⟨U,Y,O⟩:=L
  refine o9.roots C _ _ O (λr x E=>?_) r x h
  rcases aaw cs 0 _ r x E with T|⟨j,y,Z,g2,g3,g4⟩
  ·by_cases D:r=nF i
   ·subst D;rw[cc]at T;simp_all
   ·rw[cH _ _ _ D]at T;simp_all
  ·simp_all
 | .sl y :: C,i,m,L,I,r,x,h=>by
  obtain⟨U,O⟩:=L
  refine o9.roots C _ _ O (λr x E=>?_) r x h
  by_cases D:r=nF i
  ·subst D;rw[cc]at E;simp_all
  ·rw[cH _ _ _ D]at E;simp_all
def TP{i:Nat}:∀ (cs:aa V) (C j:Nat) x,cs[j]?=some x->(zc i C cs)[j]?=some (zb i (C+j) x)
 |[],C,j,x,h=>by simp at h
 |c::cs,C,0,x,h=>by simp at h;subst h;rfl
 | c :: cs,C,j+1,x,h=>by
  simp only[zc,List.getElem?_cons_succ];rw[TP cs (C+1) j x (by simpa using h)];congr 2;omega
def o9.TQ:∀ (C:aa In) (i:Nat),o9 w B ah ρ i C -> GR w ρ i C
 |[],_,_=>trivial
 | .aC cs :: C,i,I=>by
  obtain⟨E,_,L⟩:=I;refine⟨?_,o9.TQ C (i+1) L⟩;generalize D:aW.aC (zc i 0 cs)=x at E;cases E with
  |sl=>cases D
  |mp=>cases D
  |gh=>cases D
  | aC b off cells e ls us U hl Y hs Z=>
   injection D with D;subst D
   refine⟨b,off,cells,e,U,Y,λj x hj hp hf=>?_⟩
   obtain⟨c1,O⟩:=Z j _ (TP cs 0 j x hj);rw[eN]at O;refine⟨_,c1,?_⟩;have e1:zb i j x = .own [20001+1000*i+j]:=by simp[zb,hp,nC,hf]
   rw[e1]at O;have T:=O.2;simp only[cW]at T;split at T
   ·simp_all
   ·cases T
 | .sl y :: C,i,I=>by
  obtain⟨E,L⟩:=I;refine⟨?_,o9.TQ C (i+1) L⟩;cases E with
  |sl v y' U hr=>simp_all
end
def cY(n:Nat):aa Nat->Bool
 |[]=>false
 |m::l=>Nat.beq n m ||cY n l
def tG{n:Nat}:∀ {l:aa Nat},cY n l=true ↔ n∈l
 |[]=>by simp[cY]
 | m :: l=>by
  simp only[cY,eA,gn,tG];simp_all
def aax{n:Nat}{l:aa Nat}(h:cY n l=false):n ∉ l:=λk=>by rw[tG.2 k]at h;cases h
def fW(k l:aa Nat):Bool:=match k.getLast? with
 |some r=>cY r l
 |none=>false
def vb(ns cn:aa Nat):nB:=⟨λk=>fW k cn ||(fW k ns && !(Nat.beq k.length 1)),λk=>fW k cn ||fW k ns,λr=>cY r cn⟩
def Lf.dh(ns cn:aa Nat):Lf->Lf:=Lf.cF (vb ns cn).l
def A.dh(ns cn:aa Nat):A->A:=A.cF (vb ns cn)
def aW.dh(ns cn:aa Nat):aW->aW:=aW.cF (vb ns cn)
def S.dh(σ:S)(ns cn:aa Nat)(nr:aa (Nat×aW)):S:=⟨λk=>(σ.t k).dh ns cn,λr=>match nr.lookup r with
 |some x=>some x
 |none=>bif cY r ns ||cY r cn then none else (σ.m r).map (aW.dh ns cn)⟩
structure tH (w w':World) (ah dA:bE) (ρ eY:Nat->Loc) (ns cn:List Nat):Prop where
 size:w.heap.size<=w'.heap.size
 same:∀b,b<w.heap.size->(∀k,ah b=some k->fW k ns=false)->w'.heap[b]?=w.heap[b]?/\dA b=ah b
 eX:∀r,cY r cn=false->eY r=ρ r
 ah:∀b k,ah b=some k->b<w.heap.size/\k≠[]
section
variable {P:Program} {w w':World} {w0:Wd} {B N:Nat} {ah dA aD:bE} {ρ eY:Nat->Loc} {σ:S} {a:Act} {X:Type} {d:Nat} {r:X} {ns cn:aa Nat}
def aay{j i s:Nat}{q l:aa Nat}(h:q≠[]):fW (j :: i :: s :: q) l=fW q l:=by
 cases q with
 |nil=>simp_all
 |cons x q=>simp[fW]
def tH.tr(C:tH w w' ah dA ρ eY ns cn):Tr w w' ah dA ρ eY (λk=>fW k ns) (λr=>cY r cn):=
 ⟨C.size,λb hb hl=>let e:=C.same b hb (λk D=>by rw[hl]at D;cases D);⟨e.1,e.2.trans hl⟩,λb k hl D=>let e:=C.same b (C.ah b k hl).1 (λI E=>by rw[hl]at E;injection E with E;subst E;exact D);⟨e.1,e.2.trans hl⟩,C.eX,λj i s x q=>aay (by simp),λb hb=>absurd rfl (C.ah b [] hb).2⟩
def TR:(vb ns cn).OK (λk=>fW k ns) (λr=>cY r cn):=by
 refine⟨λk D=>?_,λk D=>?_,λ_ h=>h⟩
 ·obtain⟨E,C⟩:=pS.1 D;refine⟨?_,E⟩;cases I:fW k ns with
  |false=>exact .inr rfl
  | true=>
   rw[I,bZ,Bool.not_eq_false']at C;exact .inl (cC C)
 ·obtain⟨E,C⟩:=pS.1 D;exact⟨C,E⟩
def RV.tJ(C:tH w w' ah dA ρ eY ns cn){q:aa Nat}{x:V}{v:Value}(h:RV w B ah q x v)(D:fW q ns=false\/x.aH=true):RV w' B dA q x v:=h.tr C.tr D.symm
def RA.tJ(C:tH w w' ah dA ρ eY ns cn){x:A}{u:Value}(h:RA w B ah ρ x u):RA w' B dA eY (x.dh ns cn) u:=h.tr C.tr TR
def dP.tJ(C:tH w w' ah dA ρ eY ns cn){x:Lf}{u:Value}(h:dP w B ah ρ x u):dP w' B dA eY (x.dh ns cn) u:=h.tr C.tr TR
def dZ.tJ(C:tH w w' ah dA ρ eY ns cn){n:Nat}{x:aW}(h:dZ w B ah ρ n x)(D:cY n ns=false)(E:cY n cn=false):dZ w' B dA eY n (x.dh ns cn):=h.tr C.tr TR D E
def Rl.tJ(h:Rl w0 N ah ρ σ a w)(D:tH w w' ah dA ρ eY ns cn)(hb:je w0 w w')(hl:∀ b k,dA b=some k -> (w0.heap.size <= b \/ w0.L b≠none)/\b<w'.heap.size/\k≠[])(T:∀ r,cY r cn=true -> w0.F r=none){nr:aa (Nat×aW)}
  (U:∀r x,nr.lookup r=some x -> dZ w' w0.heap.size dA eY r x):Rl w0 N dA eY (σ.dh ns cn nr) a w':=by
 refine⟨h.below.trans hb,hl,λr x C=>?_,λk=>(h.tmp k).tJ D,h.size,h.defers,λr l I=>?_,h.dj⟩
 ·simp only[S.dh]at C;split at C
  ·simp_all
  ·cases hm:(cY r ns || cY r cn)with
   |true=>simp_all
   | false=>
    rw[hm]at C;rw[pS]at hm;cases E:σ.m r with
    |none=>simp_all
    | some y=>
     rw[E]at C;injection C with C;subst C;exact(h.root r y E).tJ D hm.1 hm.2
 ·have O:cY r cn=false:=by
   grind
  exact(D.eX r O).trans (h.fix r l I)
end
inductive Mu where
 |aC (r:Nat) (cs:List Lf) (vs:List (V×Option Nat))
 |sl (q:Nat) (y:V)
def Mu.root:Mu->Nat
 |.aC r _ _=>r
 |.sl q _=>q
def vc(m:Nat->aj aW):Lf->aj (V×aj Nat)
 |.v x=>some (x.gp,none)
 | .own [q]=>match m q with
  |some (.sl y)=>bif y.aH then some (y.gp,none)else some (y,some q)
  |_=>none
 |_=>none
def ri(m:Nat->aj aW):aa Lf->aj (aa (V×aj Nat))
 |[]=>some []
 | l :: C=>match vc m l,ri m C with
  |some v,some D=>some (v::D)
  |_,_=>none
def ve(σ:S):PK->A->aj (aj Mu)
 |.v _ _,_=>some none
 | .p _ _ off,.aG r j=>(match (bif Nat.beq j off then σ.m r else none)with
  | some (.aC cs)=>(match ri σ.m cs with
   |some C=>bif Nat.blt cs.length 999 then some (some (.aC r cs C))else none
   |none=>none)
  |_=>none)
 | .s _ _,.lf (.own [q])=>(match σ.m q with
  |some (.sl y)=>bif y.aH then none else some (some (.sl q y))
  |_=>none)
 |_,_=>none
def jr(σ:S):aa PK->aa Operand->aj (aa Mu)
 |[],[]=>some []
 | p :: ps,x :: xs=>(match ve σ p (aK σ x),jr σ ps xs with
  |some (some D),some C=>some (D::C)
  |some none,some C=>some C
  |_,_=>none)
 |_,_=>none
def DL(i:Nat):Nat->aa (V×aj Nat)->aa (Nat×Nat)
 |_,[]=>[]
 |j,(_,some q)::C=>(q,60000+1000*i+j)::DL i (j+1) C
 |j,(_,none)::C=>DL i (j+1) C
def lF:Nat->aa Mu->aa (Nat×Nat)
 |_,[]=>[]
 |i,.aC r _ D::C=>(r,nF i)::(DL i 0 D++lF (i+1) C)
 |i,.sl q _::C=>(q,nF i)::lF (i+1) C
def TS(ns:aa Nat):Lf->Bool
 |.own k=>!fW k ns
 |_=>true
def sA{X:Type}(σ:S)(ns:aa Nat):aa Lf->(aa V->aj X)->aj X
 |[],k=>k []
 |x::xs,k=>bif TS ns x then oT σ x λy=>sA σ ns xs λys=>k (y.gp::ys)else none
def rj{X:Type}(σ:S)(ns:aa Nat)(x:A)(k:Pt->aj X):aj X:=
 match x with
 |.lf y=>sA σ ns [y] λC=>k (false,C)
 |.agg ys=>sA σ ns ys λC=>k (true,C)
 |.nA f (c::cs)=>k (false,.bool false::.int .i64 (f:Int)::c.gp::cs.map V.gp)
 | .fn f [(r,j)]=>bif cY r ns then none else (match σ.m r with
  | some (.aC cs)=>(match qT (cs.drop j)with
   |some (c::C)=>k (false,.bool false::.int .i64 (f:Int)::c::C)
   |_=>none)
  |_=>none)
 |_=>none
def js{X:Type}(σ:S)(ns:aa Nat):(ps:aa PK)->aa Operand->aa Mu->(lE ps->aj X)->aj X
 |[],[],[],k=>k ()
 | .v b t :: ps,x :: xs,C,k=>rj σ ns (aK σ x) λp=>bif p.1==b then (match dec t 0 p.2 with
  |some y=>js σ ns ps xs C λys=>k (y,ys)
  |none=>none)else none
 | .p t g _ :: ps,_ :: xs,.aC _ _ D :: C,k=>(match (bif Nat.beq (g % 2) 0 then dec t g (D.map (·.1))else none)with
  |some y=>js σ ns ps xs C λys=>k (y,ys)
  |none=>none)
 | .s t g :: ps,_ :: xs,.sl _ y :: C,k=>(match (bif Nat.beq (g % 2) 0 then y.fh t (g+2)else none)with
  |some z=>js σ ns ps xs C λys=>k (z,ys)
  |none=>none)
 |_,_,_,_=>none
def wW(w:World)(ρ:Nat->Loc)(rs:aa Nat):Nat->Loc:=λn=>
 if n<60000 then (if (n-20000) % 1000=0 then ρ (rs.getD ((n-20000) / 1000) 0)else (match ρ (rs.getD ((n-20000) / 1000) 0)with
  |.aC b off=>.dJ ((w.cell? ⟨b,off+((n-20000) % 1000-1),none⟩).getD undef)
  |.dJ v=>.dJ v
  |.bS us=>.bS us))
 else (match ρ (rs.getD ((n-60000) / 1000) 0)with
  |.aC b off=>.dJ ((w.cell? ⟨b,off+(n-60000) % 1000,none⟩).getD undef)
  |.dJ v=>.dJ v
  |.bS us=>.bS us)
def GU{w:World}{ρ:Nat -> Loc}{rs:aa Nat}{i r:Nat}(h:rs[i]?=some r)(hi:i<40):wW w ρ rs (nF i)=ρ r:=by
 have C:nF i<60000:=by unfold nF;omega
 have D:(nF i-20000) % 1000=0:=by unfold nF;omega
 have E:(nF i-20000) / 1000=i:=by unfold nF;omega
 have I:rs.getD i 0=r:=by rw[ei,h];rfl
 unfold wW;simp_all
def amw{w:World}{ρ:Nat -> Loc}{rs:aa Nat}{i j r b off:Nat}{u:Value}{x:V}(h:rs[i]?=some r)(hi:i<40)(C:j<999)(D:ρ r = .aC b off)(E:w.cell? ⟨b,off+j,none⟩=some u):wW w ρ rs (nC i j x) = .dJ u:=by
 have I:rs.getD i 0=r:=by rw[ei,h];rfl
 unfold wW nC;cases x.aH with
 |true =>grind
 |false =>grind
def V.ME:V->Bool
 |.sl _ o _ _=>Nat.beq (o % 2) 0
 |_=>true
section
variable {P:Program} {w w':World} {w0:Wd} {B N:Nat} {ah dA aD:bE} {ρ eY:Nat->Loc} {σ:S} {a:Act} {X:Type} {d:Nat} {r:X} {ns cn:aa Nat}
def RV.reB{B':Nat}{q:aa Nat}{x:V}{v:Value}(h:RV w B ah q x v)(D:x.ME=true):RV w B' ah q x v:=by
 induction h with
 |int=>exact .int _ _ _
 |bool=>exact .bool _ _
 |str=>exact .str _ _
 |nil=>exact .nil _
 |eD=>exact .eD _ _ _
 |fF=>exact .fF _ _ _ _ _ (by first|assumption|omega)
 |fV=>exact .fV _ _ _ _ _ (by first|assumption|omega)
 | aH q t o O l b off cap u T hl hb h1 U E Y I=>
  have D:=cC D;have Z:o=0:=by omega
  subst Z
  refine .aH _ _ _ _ _ _ _ _ u T hl hb (by omega) U E (λi h j x C=>I i h j x C ?_)
  have:=yC t 0 l[i] x (gF C);cases x with
  | sl t' L q' l'=>
   have:L=0:=by simpa [V.gr]using this
   subst this;rfl
  |_=>rfl
 | own q t o O l b cap cs u hl hh hs hn hm E Y I=>
  have D:=cC D
  refine .own _ _ _ _ _ _ _ cs u hl hh hs hn hm E (λi h j x C=>I i h j x C ?_)
  have:=yC t o l[i] x (gF C);cases x with
  | sl t' L q' l'=>
   have:L=o:=by simpa [V.gr]using this
   show Nat.beq _ 0=true;simp_all
  |_=>rfl
def RV.out{q I:aa Nat}{x:V}{v:Value}(h:RV w B ah q x v)(U:∀ b,ah b=none -> aD b=none)(Y:∀ b k,ah b=some k -> k≠[]/\(fW k ns=false -> aD b=none))(hq:x.aH=true \/ fW q ns=false){B':Nat}:RV w B' aD I x.gp v:=by
 induction h generalizing I with
 |int=>exact .int _ _ _
 |bool=>exact .bool _ _
 |str=>exact .str _ _
 |nil=>exact .nil _
 |eD=>exact .eD _ _ _
 |fF=>exact .fF _ _ _ _ _ (by first|assumption|omega)
 |fV=>exact .fV _ _ _ _ _ (by first|assumption|omega)
 | aH q t o Z l b off cap u ho hl hb ZK lV L hr E=>
  refine .aH _ _ _ _ _ _ _ _ u (by omega) (U b hl) hb (by omega) lV (λi h j x C=>?_) (λi h j x C=>?_)
  ·obtain⟨y,D,_⟩:=wA t o l[i] j x C;simp_all
  ·obtain⟨y,D,rfl⟩:=wA t o l[i] j x C;exact E i h j y D (.inl (pV t o l[i] ho j y D))
 | own q t o Z l b cap cs u hl O hs hn hm L hr E=>
  have T:fW q ns=false:=by
   rcases hq with hq|hq
   ·simp[V.aH]at hq;omega
   ·exact hq
  obtain⟨cL,pX⟩:=Y b q hl
  refine .aH _ _ _ _ _ _ _ _ u (by omega) (pX T) (iB.1 O).1 (by omega) hn (λi h j x C=>?_) (λi h j x C=>?_)
  ·obtain⟨y,D,_⟩:=wA t o l[i] j x C;have:=L i h j y D;rw[eN,cell_of_row w b _ cs _ _ O];exact this
  ·obtain⟨y,D,rfl⟩:=wA t o l[i] j x C;exact E i h j y D (.inr (by rw[aay cL];exact T))
def amx{x:Lf}{k:V -> aj X}(h:oT σ x k=some r):∃ y,k y=some r /\ ∀ ah ρ a w,Rl w0 N ah ρ σ a w -> ∀ u,dP w w0.heap.size ah ρ x u -> ∃ q,(x = .own q \/ y.aH=true)/\RV w w0.heap.size ah q y u:=by
 cases x with
 |v y=>exact⟨y,h,λah ρ a w hR u C=>⟨[],.inr C.1,C.2⟩⟩
 |dead=>cases h
 | own q=>
  obtain⟨y,D,E⟩:=sg q k h
  refine⟨y,E,λah ρ a w hR u C=>⟨q,.inl rfl,?_⟩⟩
  obtain⟨v,I,L⟩:=D.ok hR.root;have:v=u:=by
   have O:=C.2;simp_all
  simp_all
structure Bm (ns:List Nat) (ah aD:bE):Prop where
 none:∀b,ah b=none->aD b=none
 rest:∀b k,ah b=some k->k≠[]/\(fW k ns=false->aD b=Option.none)
def TT:∀ (xs:aa Lf) (k:aa V -> aj X),sA σ ns xs k=some r -> ∃ C,k C=some r/\C.length=xs.length /\ ∀ ah ρ a w aD,Rl w0 N ah ρ σ a w -> Bm ns ah aD -> ∀ (j:Nat) x y u,xs[j]?=some x -> C[j]?=some y -> dP w w0.heap.size ah ρ x u -> RV w w.heap.size aD [] y u
 |[],k,h=>⟨[],h,rfl,λ_ _ _ _ _ _ _ j x y u O=>by simp at O⟩
 | x :: xs,k,h=>by
  unfold sA at h;cases D:TS ns x with
  |false=>simp_all
  | true=>
   rw[D,aq]at h;obtain⟨y,T,U⟩:=amx (w0:=w0) (N:=N) h;obtain⟨ys,Y,hl,hr⟩:=TT xs _ T
   refine⟨y.gp::ys,Y,by simp[hl],λah ρ a w aD hR E j x' y' u I L Z=>?_⟩
   cases j with
   | zero=>
    simp at I L;subst I L;obtain⟨q,hq,jX⟩:=U ah ρ a w hR u Z;refine jX.out E.none E.rest ?_;rcases hq with rfl|hq
    ·exact .inr (by simpa [TS]using D)
    ·simp_all
   |succ j=>grind
inductive PM (w:World) (aD:bE):Pt->Value->Prop
 |v (p:Pt) (u:Value) (h:PV w w.heap.size aD (λ_=>[]) p u):PM w aD p u
 |f (g:Nat) (c:V) (cs:List V) (u:Value) (h:RF w w.heap.size aD (c::cs) u):PM w aD (false,.bool false::.int .i64 (g:Int)::c::cs) (.func (.func g) #[] #[u])
def amy{g:Nat}{c:V}{cs ys:aa V}(hl:(V.bool false :: .int .i64 (g:Int) :: c :: cs).length=ys.length)(h:∀ (j:Nat) x z,(V.bool false :: .int .i64 (g:Int) :: c :: cs)[j]?=some x -> ys[j]?=some z -> Wk x z):∃ C eT,ys = .bool false :: .int .i64 (g:Int) :: C :: eT/\kZ (c :: cs) (C :: eT):=by
 match ys,hl,h with
 | a :: b :: C :: eT,hl,h=>
  have D:=h 0 _ a rfl rfl;have E:=h 1 _ b rfl rfl;cases D;cases E;exact⟨C,eT,rfl,by simpa using hl,λj x z I L=>h (j+2) x z (by simpa using I) (by simpa using L)⟩
def RF.tK{cs C:aa V}{u:Value}(h:RF w B ah cs u)(E:kZ cs C)(L:∀ (j:Nat) z,C[j]?=some z->z.aH=true):RF w B ah C u:=by
 obtain⟨b,off,rfl,hb,hl,O⟩:=h
 refine⟨b,off,rfl,hb,hl,λj x D=>?_⟩
 have I:j<cs.length:=by rw[E.1];exact(dO.1 D).1
 obtain⟨_,v,T,U⟩:=O j _ (bQ I);exact⟨L j x D,v,T,U.wk (E.2 j _ x (bQ I) D)⟩
def RF.gp{cs:aa V}{u:Value}(h:RF w B ah cs u)(D:∀ b,ah b=none -> aD b=none)(I:∀ b k,ah b=some k -> k≠[]/\(fW k ns=false -> aD b=none)){B':Nat}:RF w B' aD (cs.map V.gp) u:=by
 obtain⟨b,off,rfl,hb,hl,L⟩:=h
 refine⟨b,off,rfl,hb,D b hl,λj x C=>?_⟩
 rw[eH]at C;cases E:cs[j]? with
 |none=>simp_all
 | some y=>
  rw[E]at C;injection C with C;subst C;obtain⟨O,v,T,U⟩:=L j y E;exact⟨V.alA y,v,T,U.out D I (.inl O)⟩
def amz{x:A}{k:Pt -> aj X}(h:rj σ ns x k=some r):∃ p,k p=some r /\ ∀ ah ρ a w aD,Rl w0 N ah ρ σ a w -> Bm ns ah aD -> ∀ u,RA w w0.heap.size ah ρ x u -> PM w aD p u:=by
 unfold rj at h;split at h
 ·rename_i y;obtain⟨U,L,hl,O⟩:=TT (w0:=w0) (N:=N) _ _ h
  refine⟨_,L,λah ρ a w aD hR C u D=>.v _ _ ⟨#[u],rfl,by simp[hl],λj x E=>?_⟩⟩
  have I:j=0:=by
   grind
  subst I;exact⟨u,rfl,O ah ρ a w aD hR C 0 y x u rfl E D⟩
 ·rename_i ys;obtain⟨U,L,hl,O⟩:=TT (w0:=w0) (N:=N) _ _ h
  refine⟨_,L,λah ρ a w aD hR C u D=>?_⟩
  obtain⟨us,rfl,T⟩:=D
  refine .v _ _ ⟨us,rfl,by rw[hl];exact T.1,λj x E=>?_⟩
  have I:j<ys.length:=by rw[<- hl];exact(dO.1 E).1
  obtain⟨v,hv,fG⟩:=T.2 j _ (bQ I);exact⟨v,hv,O ah ρ a w aD hR C j _ x v (bQ I) E fG⟩
 ·rename_i f c cs
  refine⟨_,h,λah ρ a w aD hR C u D=>?_⟩
  obtain⟨pv,rfl,vf⟩:=D;exact .f f _ _ _ (vf.gp C.none C.rest)
 ·rename_i f Y j;cases Z:cY Y ns with
  |true=>grind
  | false=>
   rw[Z,au]at h;split at h
   ·rename_i cs hm;split at h
    ·rename_i c U uR;obtain⟨e,hp⟩:=Me _ _ uR
     refine⟨_,h,λah ρ a w aD hR C u D=>?_⟩
     obtain⟨us,rfl,mE,lV⟩:=D;obtain⟨b,off,cN,Bf⟩:=lV 0 _ rfl;have Bf:us[0]?=some (.pointer (some ⟨b,off+j,none⟩)):=Bf;have aCG:us.size=1:=mE;have amA:us = #[.pointer (some ⟨b,off+j,none⟩)]:=by
      apply Array.ext';apply List.ext_getElem?;intro i;cases i with
      |zero=>grind
      |succ i=>grind
     subst amA;refine .f f _ _ _ ?_;cases hR.root Y _ hm with
     | aC b' A6 cells e' _ Mj iQ om hh T hc=>
      rw[cN]at iQ;injection iQ with q1 q2;subst q1 q2
      refine⟨b,off+j,rfl,(iB.1 hh).1,(C.rest b _ om).2 (by simpa [fW]using Z),λi x E=>?_⟩
      have hpx:=hp x (gF E);have hcd:(cs.drop j)[i]?=some (.v x):=by rw[e,eH,E];rfl
      rw[List.getElem?_drop]at hcd;obtain⟨k1,k2⟩:=hc _ _ hcd;refine⟨(by cases x<;>first|rfl|cases hpx),Mj (j+i),?_,k2.2.tj hpx⟩;rw[Nat.add_assoc,cell_of_row w b _ cells _ _ hh];exact k1
    ·cases h
   ·cases h
 ·cases h
def ze(σ:S):Mu->Prop
 |.aC r cs C=>σ.m r=some (.aC cs)/\ri σ.m cs=some C/\cs.length<999
 |.sl q y=>σ.m q=some (.sl y)/\y.aH=false
def GV:aa Mu->aa In->Prop
 |[],[]=>True
 |.aC _ _ I::C,.aC xs::D=>(kZ (I.map (·.1)) xs/\∀x∈xs,x.jW=true/\x.ME=true)/\GV C D
 |.sl _ y::C,.sl E::D=>(Wk y E/\E.ME=true)/\GV C D
 |_,_=>False
def DM(w:World)(B:Nat)(ah:bE)(ρ:Nat->Loc)(C:aa In):aa Ar->aa Value->Prop
 |[],[]=>True
 |x::xs,v::D=>RA w B ah ρ (TE C x) v/\DM w B ah ρ C xs D
 |_,_=>False
def DM.get{D:aa In}:∀ (xs:aa Ar) (C:aa Value),DM w B ah ρ D xs C -> C.length=xs.length /\ ∀ i,RA w B ah ρ ((wU D xs).t i) (C.toArray.getD i undef)
 |[],[],_=>⟨rfl,λi=>trivial⟩
 | x :: xs,v :: C,h=>by
  obtain⟨E,I⟩:=DM.get xs C h.2
  refine⟨by simp[E],λi=>?_⟩
  cases i with
  |zero=>exact h.1
  | succ i=>
   have:=I i;simp at this ⊢;exact this
def amB{t:TC}{g:Nat}{x:T t}(D:Nat.beq (g % 2) 0=true):∀ y∈enc t g x,y.jW=true/\y.ME=true:=by
 intro y C;refine⟨SJ t g x y C,?_⟩;have:=yC t g x y C;cases y with
 | sl I E L O=>
  have:E=g:=by simpa [V.gr]using this
  subst this;exact D
 |_=>rfl
def amC(σ:S):PK->A->aj Mu->Prop
 |.v _ _,_,none=>True
 |.p _ _ off,x,some (.aC r cs C)=>x = .aG r off/\ze σ (.aC r cs C)
 |.s _ _,x,some (.sl q y)=>x = .lf (.own [q])/\ze σ (.sl q y)
 |_,_,_=>False
def vg{p:PK}{x:A}{z:aj Mu}(h:ve σ p x=some z):amC σ p x z:=by
 cases p with
 | v b t=>
  injection h with h;subst h;trivial
 | p t g off=>
  cases x with
  | aG r j=>
   have h:(match (bif Nat.beq j off then σ.m r else none)with
    | some (.aC cs)=>(match ri σ.m cs with
     |some E=>bif Nat.blt cs.length 999 then some _ else none
     |none=>none)
    |_=>none)=some z:=h
   cases C:Nat.beq j off with
   |false=>rw[C]at h;cases h
   | true=>
    obtain rfl:=cC C;rw[C,aq]at h;split at h
    ·rename_i cs I;split at h
     ·rename_i E L;cases hl:Nat.blt cs.length 999 with
      |false=>rw[hl]at h;cases h
      | true=>
       rw[hl]at h;injection h with h;subst h;exact⟨rfl,I,L,by have:=cK hl;omega⟩
     ·cases h
    ·cases h
  |_=>cases h
 | s t g=>
  have O:(∃ q,x = .lf (.own [q])):=by
   unfold ve at h;split at h
   next e=>cases e
   next e=>cases e
   ·simp[*]
   ·cases h
  obtain⟨q,rfl⟩:=O;have h:(match σ.m q with
   |some (.sl y)=>bif y.aH then none else some _
   |_=>none)=some z:=h
  split at h
  ·rename_i y T;cases D:y.aH with
   |true=>rw[D]at h;cases h
   | false=>
    rw[D]at h;injection h with h;subst h;exact⟨rfl,T,D⟩
  ·cases h
def MF:∀ (ps:aa PK) (xs:aa Operand) (D:aa Mu),jr σ ps xs=some D -> ∀ L∈D,ze σ L
 |[],[],D,h=>by injection h with h;subst h;simp
 | p :: ps,x :: xs,D,h=>by
  unfold jr at h;split at h
  ·rename_i L E C I;injection h with h;subst h;have O:=MF ps xs E I;have C:=vg C;intro z hz;rcases gn.1 hz with rfl | hz
   ·cases p with
    |v=>exact C.elim
    | p=>
     cases z with
     |aC=>exact C.2
     |sl=>exact C.elim
    | s=>
     cases z with
     |aC=>exact C.elim
     |sl=>exact C.2
   ·simp_all
  next E C I=>injection h with h;subst h;exact MF ps xs E I
  ·cases h
 |[],_::_,D,h=>by cases h
 |_::_,[],D,h=>by cases h
def GW:∀ {ps:aa PK} (i C:Nat) (x:lE ps),(ke ps i x).length=(ke ps C x).length
 |[],_,_,_=>rfl
 |.v _ _::ps,i,C,x=>by simp[ke,nj];rw[GW]
 |.p _ _ _::ps,i,C,x=>by simp only[ke,nj];rw[GW (i+1) (C+1)]
 |.s _ _::ps,i,C,x=>by simp only[ke,nj];rw[GW (i+1) (C+1)]
def MG:∀ (ps:aa PK) (xs:aa Operand) (L:aa Mu) (k:lE ps -> aj X),jr σ ps xs=some L -> js σ ns ps xs L k=some r -> ∃ x,k x=some r/\GV L (nJ ps x)/\(ke ps 0 x).length=xs.length /\
  ∀ah ρ a w aD ρ',Rl w0 N ah ρ σ a w -> Bm ns ah aD -> ∀(O:aa In) (i:Nat),(∀j z,(nJ ps x)[j]?=some z -> O[i+j]?=some z) -> (∀j T,L[j]?=some T -> ρ' (nF (i+j))=ρ T.root) -> DM w w.heap.size aD ρ' O (ke ps i x) (xs.map a.eval)
 | [],[],L,k,C,h=>by
  injection C with C;subst C;exact⟨(),h,trivial,rfl,λ_ _ _ _ _ _ _ _ _ _ _ _=>trivial⟩
 | .v b t :: ps,x :: xs,L,k,C,h=>by
  have sn:jr σ ps xs=some L:=by
   unfold jr at C;split at C
   next T Y D I=>exact(vg D).elim
   next Y D I=>rw[I];exact C
   ·cases C
  unfold js at h;obtain⟨p,I,hp⟩:=amz (w0:=w0) (N:=N) h;cases hb:p.1==b with
  |false=>rw[hb]at I;cases I
  | true=>
   rw[hb,aq]at I;have hb:p.1=b:=by simpa using hb
   subst hb;split at I
   ·rename_i y U;obtain⟨ys,h3,h4,h5,h6⟩:=MG ps xs L _ sn I
    refine⟨(y,ys),h3,h4,?_,λah ρ a w aD ρ' hR hS O i hi Z=>⟨?_,h6 ah ρ a w aD ρ' hR hS O i hi Z⟩⟩
    ·simp[ke,h5]
    ·have vf:=hp ah ρ a w aD hR hS _ (hR.aK x);have hk:=lU t 0 p.2 y U;generalize a.eval x=ux at vf ⊢;rcases vf with ⟨_,_,us,hu,hs,hr⟩ | ⟨g,c,cs,pv,vf⟩
     case f=>
      have he:∀(j:Nat) z,(enc t 0 y)[j]?=some z -> z.aH=true:=λj z E=>pV t 0 y (by omega) j z E
      obtain⟨c',eT,e,hw⟩:=amy hk.1 hk.2;rw[e]at he ⊢;exact⟨pv,rfl,vf.tK hw λj z E=>he (j+2) z (by simpa using E)⟩
     have nG:∀ (j:Nat) z,(enc t 0 y)[j]?=some z -> ∃ v,us[j]?=some v/\z.aH=true/\RV w w.heap.size aD [] z v:=by
      intro j z E;have hj:j<p.2.length:=by rw[hk.1];exact(dO.1 E).1
      obtain⟨v,hv,fG⟩:=hr j _ (bQ hj);exact⟨v,hv,pV t 0 y (by omega) j z E,fG.wk (hk.2 j _ z (bQ hj) E)⟩
     have hlen:us.size=(enc t 0 y).length:=hs.trans hk.1;obtain⟨b,vs⟩:=p;cases b with
     | true=>
      show RA _ _ _ _ (.agg ((enc t 0 y).map .v)) _
      refine⟨us,hu,by rw[eI];exact hlen,λj z E=>?_⟩
      rw[eH]at E;cases Dn:(enc t 0 y)[j]? with
      |none=>rw[Dn]at E;cases E
      | some z'=>
       rw[Dn]at E;injection E with E;subst E;obtain⟨v,hv,g1,g2⟩:=nG j z' Dn;exact⟨v,hv,g1,g2⟩
     | false=>
      have hu:us = #[ux]:=hu;subst hu;show RA _ _ _ _ (TE O (.pt (false,enc t 0 y))) _
      match he:enc t 0 y,nG,hlen with
      | [z],nG,_=>
       obtain⟨v,hv,g1,g2⟩:=nG 0 z rfl;have:ux=v:=by simpa using hv
       rw[this];exact⟨g1,g2⟩
      |[],_,_=>trivial
      |_::_::_,_,hlen=>exact absurd hlen (by simp)
   ·cases I
 | .p t g off :: ps,x :: xs,L,k,C,h=>by
  unfold jr at C;split at C
  ·rename_i T Y D I;injection C with C;subst C;have D:=vg D;cases T with
   |sl=>exact D.elim
   | aC r cs vs=>
    have D:aK σ x = .aG r off/\ze σ (.aC r cs vs):=D;unfold js at h;split at h
    ·rename_i y U;cases hg:Nat.beq (g % 2) 0 with
     |false=>rw[hg]at U;cases U
     | true=>
      rw[hg,aq]at U;obtain⟨ys,h3,h4,h5,h6⟩:=MG ps xs Y _ I h
      refine⟨(y,ys),h3,⟨⟨lU t g _ y U,amB hg⟩,h4⟩,by simp[ke,GW 1 0,h5],λah ρ a w aD ρ' hR hS O i hi Z=>⟨?_,?_⟩⟩
      ·have GX:=hi 0 _ rfl;rw[Nat.add_zero]at GX;have hx:=hR.aK x;rw[D.1]at hx;obtain⟨b,o,e1,e2⟩:=hx;show RA _ _ _ _ (match O[i]? with|some (.aC _)=>.aG (nF i) off|some (.sl _)=>.lf (.own [nF i])|none=>.undef) _;rw[GX];have iH:=Z 0 _ rfl;rw[Nat.add_zero]at iH;exact⟨b,o,iH.trans e1,e2⟩
      ·refine h6 ah ρ a w aD ρ' hR hS O (i+1) (λj z E=>?_) (λj T jF=>?_)
       ·rw[show i+1+j=i+(j+1) by omega];exact hi _ z E
       ·rw[show i+1+j=i+(j+1) by omega];exact Z _ T jF
    ·cases h
  next Y D I=>exact(vg D).elim
  ·cases C
 | .s t g :: ps,x :: xs,L,k,C,h=>by
  unfold jr at C;split at C
  ·rename_i T Y D I;injection C with C;subst C;have D:=vg D;cases T with
   |aC=>exact D.elim
   | sl q y0=>
    have D:aK σ x = .lf (.own [q])/\ze σ (.sl q y0):=D;unfold js at h;split at h
    ·rename_i y U;cases hg:Nat.beq (g % 2) 0 with
     |false=>rw[hg]at U;cases U
     | true=>
      rw[hg,aq]at U;obtain⟨ys,h3,h4,h5,h6⟩:=MG ps xs Y _ I h
      refine⟨(y,ys),h3,⟨⟨V.F7 U,?_⟩,h4⟩,by simp[ke,GW 1 0,h5],λah ρ a w aD ρ' hR hS O i hi Z=>⟨?_,?_⟩⟩
      ·show Nat.beq ((g+2) % 2) 0=true;simp[*]
      ·have GX:=hi 0 _ rfl;rw[Nat.add_zero]at GX;have hx:=hR.aK x;rw[D.1]at hx;show RA _ _ _ _ (match O[i]? with|some (.aC _)=>.aG (nF i) 0|some (.sl _)=>.lf (.own [nF i])|none=>.undef) _;rw[GX];have iH:=Z 0 _ rfl;rw[Nat.add_zero]at iH;refine⟨hx.1,?_⟩;have I:=hx.2;simp only[cW]at I ⊢;rw[iH];exact I
      ·refine h6 ah ρ a w aD ρ' hR hS O (i+1) (λj z E=>?_) (λj T jF=>?_)
       ·rw[show i+1+j=i+(j+1) by omega];exact hi _ z E
       ·rw[show i+1+j=i+(j+1) by omega];exact Z _ T jF
    ·cases h
  next Y D I=>exact(vg D).elim
  ·cases C
 |[],_::_,L,k,C,h=>by cases C
 |_::_,[],L,k,C,h=>by cases C
end
def mH(c0:Nat):Nat->aa (V×aj Nat)->aa Nat
 |_,[]=>[]
 |n,(_,some q)::C=>q::mH c0 (n+1) C
 |n,(_,none)::C=>(c0+n)::mH c0 (n+1) C
def zf(c0:Nat):Nat->aa Mu->aa Nat
 |_,[]=>[]
 |pos,.aC r _ D::C=>r::(mH c0 (pos+1) D++zf c0 (pos+1+D.length) C)
 |pos,.sl q _::C=>q::zf c0 (pos+1) C
def vh:aa Nat->aa V->aa Nat
 |n::C,x::xs=>bif x.aH then vh C xs else n::vh C xs
 |_,_=>[]
def nL(c0:Nat):Nat->aa Mu->aa In->aa Nat
 |pos,.aC _ _ D::C,.aC xs::outs=>vh (mH c0 (pos+1) D) xs++nL c0 (pos+1+D.length) C outs
 |pos,.sl _ _::C,.sl _::outs=>nL c0 (pos+1) C outs
 |_,_,_=>[]
def pg(ns cn:aa Nat):aa Nat->aa Lf->aa V->aa Lf
 |n::C,l::D,x::xs=>(bif x.plain then .v x else bif x.aH then l.dh ns cn else .own [n])::pg ns cn C D xs
 |_,_,_=>[]
def tL:aa Nat->aa V->aa (Nat×aW)
 |n::C,x::xs=>bif x.aH then tL C xs else (n,.sl x)::tL C xs
 |_,_=>[]
def lG(ns cn:aa Nat)(c0:Nat):Nat->aa Mu->aa In->aa (Nat×aW)
 |pos,.aC r cs D::C,.aC xs::outs=>(r,.aC (pg ns cn (mH c0 (pos+1) D) cs xs))::(tL (mH c0 (pos+1) D) xs++lG ns cn c0 (pos+1+D.length) C outs)
 |pos,.sl q _::C,.sl y::outs=>bif y.jW then (q,.sl y)::lG ns cn c0 (pos+1) C outs else lG ns cn c0 (pos+1) C outs
 |_,_,_=>[]
def MH:aa Nat->Bool
 |[]=>true
 |n::l=>!cY n l&&MH l
def aaz:In->Bool
 |.aC xs=>xs.all λx=>x.aH ||x.loc
 |.sl y=>y.loc
def iw:aj Tmp->Nat
 |some d=>1000000000100000+1000*d
 |none=>90000
def p7{X:Type}(N:Nat)(σ:S)(C:aj Tmp)(D:fZ)(k:S->aj X):aj X:=
 match C with
 |none=>k σ
 |some d=>bif Nat.blt d N then nH σ d D k else none
def DN(N:Nat)(C:aa Mu)(outs:aa In)(cn:aa Nat):Bool:=
 MH cn&&(C.all λD=>!cY D.root cn)&&(cn.all λn=>Nat.blt n N ||Nat.ble 60000 n)&&outs.all aaz
def DO{X:Type}(N:Nat)(σ:S)(C:aj Tmp)(D:aa Mu)(ns cn:aa Nat)(E:fZ)(outs:aa In)(k:S->aj X):aj X:=
 bif DN N D outs cn then p7 N (σ.dh ns cn (lG ns cn (iw C) E.len D outs)) C E k else none
def oq{X:Type}(N:Nat)(σ:S)(D:aj Tmp)(c:nK)(args:aa Operand)(k:S->aj X):aj X:=
 match jr σ c.ps args with
 | some C=>bif once (lF 0 C)&&Nat.ble C.length 40 then
   js σ ((lF 0 C).map (·.1)) c.ps args C λx=>(match c.F x with
    |some y=>DO N σ D C ((lF 0 C).map (·.1)) (nL (iw D) (eS c.ro y.1).len C (iS (eF c.ps) y.2)) (eS c.ro y.1) (iS (eF c.ps) y.2) k
    |none=>none)else none
 |none=>none
section
variable {P:Program} {w w':World} {w0:Wd} {B N:Nat} {ah dA aD:bE} {ρ eY ρ':Nat->Loc} {σ:S} {a:Act} {X:Type} {d:Nat} {r:X} {ns cn:aa Nat} {o:Oper} {rs:aa Nat} {eo:aa (Nat×Nat)}
def aaA{n:Nat}:∀ {l:aa (Nat×Nat)},cY n (l.map (·.1))=false -> l.lookup n=none
 |[],_=>rfl
 | p :: l,h=>by
  simp[List.map_cons,cY,pS]at h;rw[List.lookup_cons];have:(n==p.1)=false:=by
   cases hb:n==p.1 with
   |false=>rfl
   |true =>simp_all
  rw[this];exact aaA h.2
def amD{b:Nat}{k:aa Nat}{n m:Nat}(h:ah b=some k)(C:k.getLast?=some n)(D:eo.lookup n=some m):eE ah eo id b=some (k.dropLast++[m]):=by
 simp[eE,h,C,D]
def amE(C:∀ b k,ah b=some k -> k≠[]):Bm (eo.map (·.1)) ah (eE ah eo id):=by
 refine⟨λb h=>yZ h,λb k h=>⟨C b k h,λhl=>?_⟩⟩
 simp[eE,h];cases D:k.getLast? with
 |none=>rfl
 | some n=>
  simp[fW,D]at hl;simp[aaA hl]
def TU{m:Nat -> aj aW}:∀ (cs:aa Lf) (C:aa (V×aj Nat)),ri m cs=some C -> C.length=cs.length /\ ∀ (j:Nat) l,cs[j]?=some l -> ∃ v,C[j]?=some v/\vc m l=some v
 |[],C,h=>by injection h with h;subst h;exact⟨rfl,λj l hl=>by simp at hl⟩
 | c :: cs,C,h=>by
  unfold ri at h;split at h
  ·rename_i v D I E;injection h with h;subst h;obtain⟨L,O⟩:=TU cs D E
   grind
  ·cases h
def amF{l:Lf}{v:V}{E:aj Nat}(h:vc σ.m l=some (v,E))(hR:Rl w0 N ah ρ σ a w)(D:Bm ns ah aD){u:Value}(I:dP w w0.heap.size ah ρ l u):
  (E=none /\ ∀B' L,RV w B' aD L v u) \/ (∃q,E=some q/\v.aH=false/\RV w w0.heap.size ah [q] v u):=by
 unfold vc at h;split at h
 ·simp at h;obtain⟨rfl,rfl⟩:=h;exact .inl ⟨rfl,λB' L=>I.2.out D.none D.rest (.inl I.1)⟩
 ·rename_i q;split at h
  ·rename_i y U;have O:=hR.root q _ U;generalize C:aW.sl y=x at O;cases O with
   |aC=>cases C
   |mp=>cases C
   |gh=>cases C
   | sl Y y' Z hr=>
    injection C with C;subst C;have GN:Y=u:=by
     have h2:=I.2;simp only[cW,Z]at h2;simp_all
    subst GN;cases T:y.aH with
    | true=>
     rw[T,aq]at h;obtain⟨rfl,rfl⟩:=h;exact .inl ⟨rfl,λB' L=>hr.out D.none D.rest (.inl T)⟩
    |false =>grind
  ·cases h
 ·cases h
def aaB{i:Nat}{v:V}{q:Nat}:∀ (D:aa (V×aj Nat)) (C j:Nat),D[j]?=some (v,some q) -> (q,60000+1000*i+(C+j))∈DL i C D
 |[],C,j,h=>by simp at h
 | (I,E) :: D,C,j,h=>by
  cases j with
  | zero=>
   obtain⟨rfl,rfl⟩:=h;exact .head _
  | succ j=>
   have:=aaB (i:=i) D (C+1) j (by simpa using h);rw[show C+1+j=C+(j+1) by omega]at this;cases E with
   |none=>exact this
   |some L=>exact .tail _ this
def TV{i:Nat}:∀ (cs:aa V) (C:Nat),(zc i C cs).length=cs.length
 |[],_=>rfl
 |c::cs,C=>by simp[zc,TV cs]
def RV.mD{q:aa Nat}{x:V}{u:Value}(h:RV w B ah q x u)(C:x.plain=false)(D:x.jW=true):mD u=true:=by
 cases h<;>first|rfl|cases C|cases D
def Wk.TW{x y:V}(h:Wk x y)(C:x.aH=false):y.aH=false:=by
 cases h with
 |same=>exact C
 |nil=>cases C
 |q=>exact C
 |gr t o D E l I L=>simp[V.aH];omega
def TX(hR:Rl w0 N ah ρ σ a w)(hS:Bm ns ah (eE ah eo id)):∀ (I:aa Mu) (O:aa In) (i:Nat),(∀ p∈lF i I,eo.lookup p.1=some p.2) -> (∀ j E,I[j]?=some E -> rs[i+j]?=some E.root) -> (∀ E∈I,ze σ E) -> GV I O -> i+I.length <= 40 ->
  o9 w w.heap.size (eE ah eo id) (wW w ρ rs) i O
 |[],[],_,_,_,_,_,_=>trivial
 |[],_::_,_,_,_,_,h,_=>h.elim
 |.aC _ _ _::_,[],_,_,_,_,h,_=>h.elim
 |.sl _ _::_,[],_,_,_,_,h,_=>h.elim
 |.aC _ _ _::_,.sl _::_,_,_,_,_,h,_=>h.elim
 |.sl _ _::_,.aC _::_,_,_,_,_,h,_=>h.elim
 | .aC r cs vs :: I,.aC xs :: O,i,T,Z,jF,hrel,hi=>by
  obtain⟨hm,hg,hlen⟩:=jF _ (.head _);obtain⟨⟨hw,hx⟩,Bn⟩:=hrel;obtain⟨g1,g2⟩:=TU cs vs hg;have U:=Z 0 _ rfl;rw[Nat.add_zero]at U;simp only[nj]at hi;have oU:xs.length=cs.length:=by rw[<- hw.1,eI,g1]
  have fB:=hR.root r _ hm;generalize C:aW.aC cs=z at fB;cases fB with
  |sl=>cases C
  |mp=>cases C
  |gh=>cases C
  | aC b off cells e eT us cN hl hh hs hc=>
   injection C with C;subst C;have nG:∀ (j:Nat) x,xs[j]?=some x -> cells[off+j]?=some (us j)/\RV w w.heap.size (eE ah eo id) [nC i j x] x (us j)/\(x.plain=false -> wW w ρ rs (nC i j x) = .dJ (us j)):=by
    intro j x L;have wF:j<cs.length:=by rw[<- oU];exact(dO.1 L).1
    obtain⟨v,hv,GY⟩:=g2 j _ (bQ wF);obtain⟨c1,Y⟩:=hc j _ (bQ wF);obtain⟨v,qo⟩:=v;have TY:Wk v x:=hw.2 j v x (by rw[eH,hv];rfl) L;obtain⟨TZ,Mf⟩:=hx x (gF L)
    refine⟨c1,?_,λD=>?_⟩
    ·rcases amF GY hR hS Y with ⟨rfl,h1⟩ | ⟨q,rfl,hf,h1⟩
     ·exact(h1 _ _).wk TY
     ·have TM:=TY.TW hf;have hq:=T _ (.tail _ (List.mem_append_left _ (aaB vs 0 j hv)));rw[eN]at hq;have h2:=(RV.eE (nm:=id) (p:=[]) h1 hq).wk TY;have e1:nC i j x=60000+1000*i+j:=by simp[nC,TM]
      rw[e1];exact h2.reB Mf
    ·exact amw U (by omega) (by omega) cN (by rw[cell_of_row w b _ cells _ _ hh];exact c1)
   refine⟨.aC b off cells e _ us ((GU U (by omega)).trans cN) ?_ hh (by rw[TV,oU];exact hs) (λj z C=>?_),λj x L D=>?_,TX hR hS I O (i+1) (λp D=>T p (.tail _ (List.mem_append_right _ D))) (λj E Bo=>?_) (λE h=>jF E (.tail _ h)) Bn (by omega)⟩
   ·exact amD hl rfl (T _ (.head _))
   ·have L:j<xs.length:=by rw[<- TV (i:=i) xs 0];exact(dO.1 C).1
    have zg:=TP (i:=i) xs 0 j _ (bQ L);rw[C]at zg;injection zg with zg;subst zg;rw[eN];obtain⟨c1,Y,c3⟩:=nG j _ (bQ L);refine⟨c1,?_⟩;cases D:(xs[j]).plain with
    | true=>
     have e1:zb i j xs[j] = .v xs[j]:=by simp[zb,D]
     rw[e1];exact⟨V.Gi D,Y.tj D⟩
    | false=>
     have e1:zb i j xs[j] = .own [nC i j xs[j]]:=by simp[zb,D]
     rw[e1];exact⟨Y.mD D (hx _ (cR _)).1,by simp only[cW,c3 D]⟩
   ·obtain⟨c1,Y,c3⟩:=nG j x L;exact .sl _ x (c3 D) Y
   ·have:=Z (j+1) E (by simpa using Bo);rw[show i+(j+1)=i+1+j by omega]at this;exact this
 | .sl q y :: I,.sl y' :: O,i,T,Z,jF,hrel,hi=>by
  obtain⟨hm,hf⟩:=jF _ (.head _);obtain⟨⟨hw,hx⟩,Bn⟩:=hrel;have U:=Z 0 _ rfl;rw[Nat.add_zero]at U;simp only[nj]at hi;have fB:=hR.root q _ hm;generalize C:aW.sl y=z at fB;cases fB with
  |aC=>cases C
  |mp=>cases C
  |gh=>cases C
  | sl v y0 cN hr=>
   injection C with C;subst C
   refine⟨.sl v y' ((GU U (by omega)).trans cN) ?_,TX hR hS I O (i+1) (λp D=>T p (.tail _ D)) (λj E Bo=>?_) (λE h=>jF E (.tail _ h)) Bn (by omega)⟩
   ·exact((RV.eE (p:=[]) hr (T _ (.head _))).wk hw).reB hx
   ·have:=Z (j+1) E (by simpa using Bo);rw[show i+(j+1)=i+1+j by omega]at this;exact this
end
def T0:Loc->Nat×Nat
 |.aC b off=>(b,off)
 |.dJ _=>(0,0)
 |.bS _=>(0,0)
def zh(w:World)(b off:Nat):Nat->aa Nat->aa V->aa (Nat×Value)
 |j,n::C,x::xs=>bif x.aH then zh w b off (j+1) C xs else (n,(w.cell? ⟨b,off+j,none⟩).getD undef)::zh w b off (j+1) C xs
 |_,_,_=>[]
def sB(w:World)(ρ:Nat->Loc)(c0:Nat):Nat->aa Mu->aa In->aa (Nat×Value)
 |pos,.aC r _ D::C,.aC xs::outs=>zh w (T0 (ρ r)).1 (T0 (ρ r)).2 0 (mH c0 (pos+1) D) xs++sB w ρ c0 (pos+1+D.length) C outs
 |pos,.sl _ _::C,.sl _::outs=>sB w ρ c0 (pos+1) C outs
 |_,_,_=>[]
def aaC(l:aa (Nat×Value))(ρ:Nat->Loc):Nat->Loc:=λn=>match l.lookup n with
 |some v=>.dJ v
 |none=>ρ n
def T1{w:World}{b off:Nat}:∀ (C:aa Nat) (xs:aa V) (j:Nat),(zh w b off j C xs).map (·.1)=vh C xs
 |[],[],_=>rfl
 |[],_::_,_=>rfl
 |_::_,[],_=>rfl
 | n :: C,x :: xs,j=>by
  simp[zh,vh];cases x.aH with
  |true=>exact T1 C xs _
  |false=>simp;rw[T1]
def MI{w:World}{ρ:Nat -> Loc}{c0:Nat}:∀ (C:aa Mu) (outs:aa In) (D:Nat),(sB w ρ c0 D C outs).map (·.1)=nL c0 D C outs
 | .aC r _ E :: C,.aC xs :: outs,D=>by
  simp[sB,nL,kX];rw[T1,MI]
 | .sl _ _ :: C,.sl _ :: outs,D=>by
  simp only[sB,nL];exact MI C outs _
 |[],_,_=>by simp[sB,nL]
 |.aC _ _ _::_,[],_=>rfl
 |.sl _ _::_,[],_=>rfl
 |.aC _ _ _::_,.sl _::_,_=>rfl
 |.sl _ _::_,.aC _::_,_=>rfl
def aaD{n:Nat}:∀ {l:aa (Nat×Value)},cY n (l.map (·.1))=false -> l.lookup n=none
 |[],_=>rfl
 | p :: l,h=>by
  simp[List.map_cons,cY,pS]at h;rw[List.lookup_cons];cases hb:n==p.1 with
  |false=>exact aaD h.2
  |true =>simp_all
def aaE:∀ {l:aa (Nat×Value)},MH (l.map (·.1))=true -> ∀ p∈l,l.lookup p.1=some p.2
 |[],_,p,hp=>by cases hp
 | q :: l,h,p,hp=>by
  simp[List.map_cons,MH,aO,gW]at h;rw[List.lookup_cons];rcases gn.1 hp with rfl|hp
  ·simp
  ·cases hb:p.1==q.1 with
   |false=>exact aaE h.2 p hp
   | true=>
    have e:p.1=q.1:=by simpa using hb
    exact absurd (List.mem_map_of_mem (f:=(·.1)) hp) (by rw[e];exact aax h.1)
def GZ{c0:Nat}:∀ (C:aa (V×aj Nat)) (n:Nat),(mH c0 n C).length=C.length
 |[],_=>rfl
 |(_,some _)::C,n=>by simp[mH,GZ]
 |(_,none)::C,n=>by simp[mH,GZ C]
def aaF{ns cn:aa Nat}:∀ (D:aa Nat) (C:aa Lf) (xs:aa V),D.length=C.length -> xs.length=C.length -> (pg ns cn D C xs).length=C.length /\
  ∀(j:Nat) z,(pg ns cn D C xs)[j]?=some z -> ∃n l x,D[j]?=some n/\C[j]?=some l/\xs[j]?=some x/\z=(bif x.plain then .v x else bif x.aH then l.dh ns cn else .own [n])
 |[],[],[],_,_=>⟨rfl,λj z E=>by simp[pg]at E⟩
 | n :: D,l :: C,x :: xs,I,L=>by
  obtain⟨O,T⟩:=aaF (ns:=ns) (cn:=cn) D C xs (by simpa using I) (by simpa using L)
  refine⟨by simp[pg,O],λj z E=>?_⟩
  cases j with
  |zero=>simp[pg,List.getElem?_cons_zero,iD]at E;exact⟨n,l,x,rfl,rfl,rfl,E.symm⟩
  |succ j=>exact T j z (by simpa [pg]using E)
def aaG:∀ (C:aa Nat) (xs:aa V),∀ p∈tL C xs,∃ (j:Nat) (x:V),C[j]?=some p.1/\xs[j]?=some x/\x.aH=false/\p.2 = .sl x
 |[],[],p,hp=>by cases hp
 |[],_::_,p,hp=>by cases hp
 | n :: C,x :: xs,p,hp=>by
  simp[tL]at hp;have rest:p∈tL C xs -> ∃ (j:Nat) (y:V),(n :: C)[j]?=some p.1/\(x :: xs)[j]?=some y/\y.aH=false/\p.2 = .sl y:=λhp=>by
   obtain⟨j,y,E,I,L,O⟩:=aaG C xs p hp;exact⟨j+1,y,by simpa using E,by simpa using I,L,O⟩
  cases D:x.aH with
  |true=>grind
  | false=>
   rw[D]at hp;rcases gn.1 hp with rfl|hp
   ·exact⟨0,x,rfl,rfl,D,rfl⟩
   ·grind
def aaH{w:World}{b off n:Nat}{x:V}:∀ (D:aa Nat) (xs:aa V) (C j:Nat),D[j]?=some n -> xs[j]?=some x -> x.aH=false -> (n,(w.cell? ⟨b,off+(C+j),none⟩).getD undef)∈zh w b off C D xs
 |[],_,_,j,h,_,_=>by simp at h
 | m :: D,y :: xs,C,j,E,I,L=>by
  cases j with
  | zero=>
   simp at E I;subst E I;simp only[zh,L];simp_all
  | succ j=>
   have:=aaH (w:=w) (b:=b) (off:=off) D xs (C+1) j (by simpa using E) (by simpa using I) L;rw[show C+1+j=C+(j+1) by omega]at this;simp[zh]
   grind
section
variable {P:Program} {w w':World} {w0:Wd} {B N:Nat} {ah dA aD:bE} {ρ eY ρ':Nat->Loc} {σ:S} {a:Act} {X:Type} {d:Nat} {r:X} {ns cn:aa Nat} {o:Oper} {rs:aa Nat} {eo:aa (Nat×Nat)} {nm MJ:Nat->Nat} {c0:Nat}
def jD.yY{nm:Nat -> Nat}:∀ (ps:aa Pt) (off:Nat) (C:aa Value) {B':Nat},jD w B ah nm off ps C -> B' <= B -> (∀ b,B <= b -> aD b=ah b) -> (∀ b k,ah b=some k -> aD b=some k) -> (∀ n,off <= n -> n<off+(ps.map λp=>p.2.length).sum -> nm n=MJ n) -> jD w B' aD MJ off ps C
 |[],_,[],_,h,_,_,_,_=>h
 | p :: ps,off,v :: C,B',h,hB,hl,I,D=>by
  obtain⟨⟨L,us,T,U,Y⟩,Z⟩:=h;simp only[List.map_cons,List.sum_cons]at D
  refine⟨⟨L,us,T,U,λj x E=>?_⟩,jD.yY ps _ C Z hB hl I (λn h1 h2=>D n (by omega) (by omega))⟩
  obtain⟨O,wE,fG⟩:=Y j x E;have hj:j<p.2.length:=(dO.1 E).1;refine⟨O,wE,?_⟩;show RV w B' aD [MJ (off+j)] x O;rw[<- D (off+j) (by omega) (by omega)];exact fG.yY hB hl I (cu.1 L x (gF E))
def T2(hR:Rl w0 N ah ρ σ a w)(hv:tH w w' ah dA ρ eY ns cn)(om:∀ b k,aD b=some k -> dA b=some k)(oR:∀ b,w.heap.size <= b -> dA b=aD b)(hB:w0.heap.size <= w.heap.size):
  ∀(E:aa Mu) (ins outs:aa In) (i C:Nat),(∀j D,E[j]?=some D -> rs[i+j]?=some D.root) -> (∀D∈E,ze σ D) -> GV E ins -> i+E.length <= 40 -> GP w w' aD (wW w ρ rs) nm i C ins outs ->
  (∀k n,(zf c0 C E)[k]?=some n -> nm (C+k)=n) -> (∀p∈sB w' ρ c0 C E outs,eY p.1 = .dJ p.2) -> (∀D∈E,cY D.root cn=false) -> outs.all aaz=true -> ∀p∈lG ns cn c0 C E outs,dZ w' w0.heap.size dA eY p.1 p.2
 |[],[],[],_,_,_,_,_,_,_,_,_,_,_,p,hp=>by simp[lG]at hp
 |[],[],_::_,_,_,_,_,_,_,h,_,_,_,_,_,_=>h.elim
 |[],_::_,_,_,_,_,_,h,_,_,_,_,_,_,_,_=>h.elim
 |.aC _ _ _::_,[],_,_,_,_,_,h,_,_,_,_,_,_,_,_=>h.elim
 |.sl _ _::_,[],_,_,_,_,_,h,_,_,_,_,_,_,_,_=>h.elim
 |.aC _ _ _::_,.sl _::_,_,_,_,_,_,h,_,_,_,_,_,_,_,_=>h.elim
 |.sl _ _::_,.aC _::_,_,_,_,_,_,h,_,_,_,_,_,_,_,_=>h.elim
 |.aC _ _ _::_,.aC _::_,[],_,_,_,_,_,_,h,_,_,_,_,_,_=>h.elim
 |.sl _ _::_,.sl _::_,[],_,_,_,_,_,_,h,_,_,_,_,_,_=>h.elim
 |.aC _ _ _::_,.aC _::_,.sl _::_,_,_,_,_,_,_,h,_,_,_,_,_,_=>h.elim
 |.sl _ _::_,.sl _::_,.aC _::_,_,_,_,_,_,_,h,_,_,_,_,_,_=>h.elim
 | .aC r cs I :: E,.aC xs0 :: ins,.aC xs :: outs,i,C,nI,jF,hrel,hi,hO,l6,Bp,o6,U,p,hp=>by
  obtain⟨hm,hg,hlen⟩:=jF _ (.head _);obtain⟨⟨hw,hx⟩,Bn⟩:=hrel;obtain⟨g1,g2⟩:=TU cs I hg;have oc:=nI 0 _ rfl;rw[Nat.add_zero]at oc;simp only[nj]at hi;have T3:xs0.length=cs.length:=by rw[<- hw.1,eI,g1]
  obtain⟨⟨b,off,cells,wV,e,e',Y,h2,h3,h4,h5,h6,h7⟩,T4⟩:=hO;have fB:=hR.root r _ hm;generalize Z:aW.aC cs=z at fB;cases fB with
  |sl=>cases Z
  |mp=>cases Z
  |gh=>cases Z
  | aC b0 T aaI e0 eT us cN hl hh hs hc=>
   injection Z with Z;subst Z;rw[GU oc (by omega)]at Y;have Y:ρ r = .aC b off:=Y;rw[cN]at Y;injection Y with e1 e2;subst e1 e2;have amG:aaI=cells:=by
    rw[hh]at h2;injection h2 with h2;injection h2
   subst amG;have iH:=o6 _ (.head _);have DP:eY r = .aC b0 T:=(hv.eX r iH).trans cN;have tv:nm C=r:=by have:=l6 0 r rfl;rwa [Nat.add_zero]at this
   have amH:∀ (j:Nat) n,(mH c0 (C+1) I)[j]?=some n -> nm (C+1+j)=n:=by
    intro j n hn;have hj:j<(mH c0 (C+1) I).length:=(dO.1 hn).1;have:=l6 (j+1) n (by simp only[zf,List.getElem?_cons_succ];rw[List.getElem?_append_left hj];exact hn);rw[show C+1+j=C+(j+1) by omega];exact this
   have nG:∀ (j:Nat) x,xs[j]?=some x -> ∃ u,wV[T+j]?=some u/\w'.cell? ⟨b0,T+j,none⟩=some u/\((x.plain=true /\ ∀ (w:World) (B:Nat) (ah:bE) (q:aa Nat),RV w B ah q x u) \/ (x.plain=false/\x.aH=true/\aaI[T+j]?=some u) \/ (x.aH=false/\RV w' w.heap.size aD [nm (C+1+j)] x u)):=by
    intro j x hj;obtain⟨u,hu,hd⟩:=h7 j x hj;exact⟨u,hu,by rw[cell_of_row w' b0 _ wV _ _ h3];exact hu,hd⟩
   have yN:∀ (j:Nat) n x u,(mH c0 (C+1) I)[j]?=some n -> xs[j]?=some x -> x.aH=false -> w'.cell? ⟨b0,T+j,none⟩=some u -> eY n = .dJ u:=by
    intro j n x u hn hxj hf hu;have uZ:=aaH (w:=w') (b:=b0) (off:=T) _ xs 0 j hn hxj hf;rw[eN,hu]at uZ;exact Bp (n,u) (by simp only[sB,cN,T0];exact List.mem_append_left _ uZ)
   simp only[lG]at hp;rcases gn.1 hp with rfl|hp
   ·obtain⟨k1,k2⟩:=aaF (ns:=ns) (cn:=cn) (mH c0 (C+1) I) cs xs (by rw[GZ,g1]) (by rw[h6,T3])
    refine .aC b0 T wV e' _ (λj=>wV.getD (T+j) undef) DP (om _ _ (by rw[h4,tv])) h3 (by show T+(pg _ _ _ _ _).length <= _;rw[k1,<- T3,<- h6];exact h5) (λj z Z=>?_)
    obtain⟨n,l,x,n1,n2,n3,rfl⟩:=k2 j z Z;obtain⟨u,hu,T5,hd⟩:=nG j x n3;have eu:wV.getD (T+j) undef=u:=by rw[iq,hu];rfl
    rw[eu];refine⟨hu,?_⟩;rcases hd with ⟨L,O⟩|⟨L,O,d3⟩|⟨L,O⟩
    ·rw[L,aq];exact⟨V.Gi L,O _ _ _ _⟩
    ·rw[L,O,au,aq];obtain⟨c1,c2⟩:=hc j l n2;rw[c1]at d3;injection d3 with d3;rw[<- d3];exact c2.tJ hv
    ·have za:x.plain=false:=by
      cases za:x.plain with
      |false=>rfl
      |true=>rw[V.Gi za]at L;cases L
     rw[za,L,au,au];exact⟨O.SK L,by simp only[cW,yN j n x u n1 n3 L T5]⟩
   ·rcases List.mem_append.1 hp with hp | hp
    ·obtain⟨j,x,n1,n2,n3,n4⟩:=aaG _ _ p hp;obtain⟨u,hu,T5,hd⟩:=nG j x n2;rw[n4];refine .sl u x (yN j p.1 x u n1 n2 n3 T5) ?_;rcases hd with ⟨L,O⟩ | ⟨L,O,d3⟩ | ⟨L,O⟩
     ·simp[*]
     ·rw[n3]at O;cases O
     ·rw[amH j _ n1]at O;refine O.yY hB oR om ?_;rw[List.all_cons,aO]at U;have:=cu.1 U.1 x (gF n2)
      rwa [n3,Bool.false_or]at this
    ·rw[List.all_cons,aO]at U
     refine T2 hR hv om oR hB E ins outs (i+1) (C+1+I.length) (λj D Bo=>?_) (λD h=>jF D (.tail _ h)) Bn (by omega) ?_ (λk n hn=>?_) (λp hp=>Bp p ?_) (λD h=>o6 D (.tail _ h)) U.2 p hp
     ·have:=nI (j+1) D (by simpa using Bo);rw[show i+(j+1)=i+1+j by omega]at this;exact this
     ·rw[g1,<- T3];exact T4
     ·have:=l6 (1+I.length+k) n (by
       rw[show 1+I.length+k=(I.length+k)+1 by omega];simp only[zf,List.getElem?_cons_succ];rw[List.getElem?_append_right (by rw[GZ];omega),GZ];rw[show I.length+k-I.length=k by omega];exact hn)
      rw[show C+1+I.length+k=C+(1+I.length+k) by omega];exact this
     ·simp only[sB];exact List.mem_append_right _ hp
 | .sl q y0 :: E,.sl y1 :: ins,.sl y :: outs,i,C,nI,jF,hrel,hi,hO,l6,Bp,o6,U,p,hp=>by
  obtain⟨hm,hf⟩:=jF _ (.head _);obtain⟨_,Bn⟩:=hrel;have oc:=nI 0 _ rfl;rw[Nat.add_zero]at oc;simp only[nj]at hi;obtain⟨hO1,T4⟩:=hO;rw[List.all_cons,aO]at U;have tv:nm C=q:=by have:=l6 0 q rfl;rwa [Nat.add_zero]at this
  have hp:(p=(q,.sl y)/\y.jW=true) \/ p∈lG ns cn c0 (C+1) E outs:=by
   simp only[lG]at hp;cases hy:y.jW with
   |false=>rw[hy]at hp;exact .inr hp
   | true=>
    rw[hy]at hp;rcases gn.1 hp with h|h
    ·grind
    ·simp[*]
  rcases hp with ⟨rfl,hy⟩|hp
  ·obtain⟨v,Y,h2⟩:=hO1.resolve_left (by rintro rfl;cases hy);rw[GU oc (by omega)]at Y;rw[tv]at h2;exact .sl v y ((hv.eX q (o6 _ (.head _))).trans Y) (h2.yY hB oR om U.1)
  ·refine T2 hR hv om oR hB E ins outs (i+1) (C+1) (λj D Bo=>?_) (λD h=>jF D (.tail _ h)) Bn (by omega) T4 (λk n hn=>?_) (λp hp=>Bp p hp) (λD h=>o6 D (.tail _ h)) U.2 p hp
   ·have:=nI (j+1) D (by simpa using Bo);rw[show i+(j+1)=i+1+j by omega]at this;exact this
   ·have:=l6 (k+1) n (by simpa [zf]using hn);rw[show C+1+k=C+(k+1) by omega];exact this
end
section
variable {P:Program} {w w':World} {w0:Wd} {B N:Nat} {ah dA aD:bE} {ρ eY ρ':Nat->Loc} {σ:S} {a:Act} {X:Type} {d:Nat} {r:X} {ns cn:aa Nat} {o:Oper} {rs:aa Nat} {eo:aa (Nat×Nat)} {nm MJ:Nat->Nat} {c0:Nat}
def amI{C:aj Tmp}{D:fZ}{k:S -> aj X}(h:p7 N σ C D k=some r):∃ Y,k Y=some r /\ ∀ ah ρ a w v,Rl w0 N ah ρ σ a w -> pZ w w0.heap.size ah (λn=>iw C+n) D v -> ∃ ρ',Rl w0 N ah ρ' Y (a.put C v) w /\ ∀ r,r<iw C -> ρ' r=ρ r:=by
 unfold p7 at h;cases C with
 |none=>exact⟨σ,h,λah ρ a w v hR _=>⟨ρ,hR,λ_ _=>rfl⟩⟩
 | some d=>
  have h:(bif Nat.blt d N then (match D with
   | .one p=>(match yI (p.1,og (1000000000100000+1000*d) p.2)with
    |some y=>k ((mG _ σ p.2).set d y)
    |none=>none)
   |.eV ps=>k ((oh _ σ ps).set d _))else none)=some r:=h
  cases I:Nat.blt d N with
  |false=>rw[I]at h;cases h
  | true=>
   rw[I,aq]at h;have Z:d<N:=cK I;cases D with
   | one p=>
    simp only at h;split at h
    ·rename_i y hy
     refine⟨_,h,λah ρ a w v hR L=>?_⟩
     obtain⟨ρ',O,T,_,U⟩:=GL [p] (1000000000100000+1000*d) 0 σ ρ [v] (by omega) hR L;have Ty:=U 0 _ v rfl rfl;exact⟨ρ',O.set (SZ hy Ty) Z,T⟩
    ·cases h
   | eV G0=>
    refine⟨_,h,λah ρ a w v hR L=>?_⟩
    obtain⟨E,rfl,hv⟩:=L;obtain⟨ρ',O,T,hlen,U⟩:=GL G0 (1000000000100000+1000*d) 0 σ ρ E.toList (by omega) hR hv
    refine⟨ρ',O.set ⟨E,rfl,by simpa using hlen,λj p hp=>?_⟩ Z,T⟩
    have hj:j<E.size:=by
     have:=(dO.1 hp).1
     grind
    exact⟨E[j],Array.getElem?_eq_getElem hj,U j p _ hp (by rw[Array.getElem?_toList,Array.getElem?_eq_getElem hj])⟩
def T6{f:Nat}{args:Array Operand}{jE:Array TypeId}{c:nK}{k:S -> aj X}(ho:o.op = .call { callee:=.value (.func f),args,argTypes:=jE })(he:enters P f)(hc:va P f c)(h:oq N σ o.dst c args.toList k=some r):∃ c8 C cn,k c8=some r/\jr σ c.ps args.toList=some C/\(∀ n,cY n cn=true -> n<N \/ 60000 <= n)/\(∀ I∈C,cY I.root cn=false) /\
  ∀a w K Q ah ρ,Rl w0 N ah ρ σ a w -> (∀v w' dA eY vi,Rl w0 N dA vi c8 (a.put o.dst v) w' -> tH w w' ah dA ρ eY ((lF 0 C).map (·.1)) cn -> je w0 w w' -> (∀r,r<iw o.dst -> vi r=eY r) -> K (a.put o.dst v) w') -> o.wp P a w K Q:=by
 unfold oq at h;split at h
 ·rename_i C tM;generalize aaJ:lF 0 C=eo at h;cases l7:(once eo&&Nat.ble C.length 40)with
  |false=>rw[l7]at h;cases h
  | true=>
   rw[l7,aq]at h;rw[aO]at l7;have aCH:=cK l7.2;have tD:∀ p∈lF 0 C,eo.lookup p.1=some p.2:=by
    intro p hp;rw[aaJ]at hp;have:=cu.1 l7.1 p hp;obtain⟨n,O,he⟩:=(Option.any_eq_true _ _).1 this;simp_all
   obtain⟨x,U,hrel,aCI,o8⟩:=MG (w0:=w0) (N:=N) _ _ C _ tM h;clear h;split at U
   ·rename_i y hy;unfold DO at U;generalize o6:nL (iw o.dst) (eS c.ro y.1).len C (iS (eF c.ps) y.2)=cn at U;generalize A4:eo.map (·.1)=ns at U o8;cases iT:DN N C (iS (eF c.ps) y.2) cn with
    |false=>rw[iT]at U;cases U
    | true=>
     rw[iT,aq]at U;simp only[DN,aO]at iT;obtain⟨⟨⟨ok1,ok2⟩,ok3⟩,ok4⟩:=iT;obtain⟨c8,h3,MK⟩:=amI (w0:=w0) U
     refine⟨c8,C,cn,h3,tM,λn O=>?_,λI jF=>by simpa using cu.1 ok2 I jF,λa w K Q ah ρ hR hK=>?_⟩
     ·have:=cu.1 ok3 n (tG.1 O);rw[eA]at this;rcases this with h | h
      ·exact .inl (by have:=cK h;omega)
      ·exact .inr (cK h)
     have Z:Bm ns ah (eE ah eo id):=by rw[<- A4];exact amE (λb k hb=>(hR.cX b k hb).2.2)
     have aaK:=MF _ _ _ tM;let rs:=C.map Mu.root
     have nI:∀ j I,C[j]?=some I -> rs[0+j]?=some I.root:=by
      intro j I hj;rw[eN,eH,hj];rfl
     have hE:=TX (rs:=rs) hR Z C (nJ c.ps x) 0 tD nI aaK hrel (by omega);have hA:=o8 ah ρ a w (eE ah eo id) (wW w ρ rs) hR Z (nJ c.ps x) 0 (λj z T=>by rw[eN];exact T) (λj I hj=>by
      have h1:=nI j I hj;rw[eN]at h1 ⊢;exact GU h1 (by have:=(dO.1 hj).1;omega))
     obtain⟨hA1,Tc⟩:=DM.get _ _ hA;let nm:Nat -> Nat:=λn=>if n<(eS c.ro y.1).len then iw o.dst+n else (zf (iw o.dst) (eS c.ro y.1).len C).getD (n-(eS c.ro y.1).len) 0
     have q6:∀ (ps:aa PK) (i:Nat) (x:lE ps),(ke ps i x).length=ps.length:=by
      intro ps
      induction ps with
      |nil=>intro i x;rfl
      | cons p ps ih=>
       intro i x;cases p with
       |v=>exact bq (· + 1) (ih _ _)
       |p=>exact bq (· + 1) (ih _ _)
       |s=>exact bq (· + 1) (ih _ _)
     unfold Oper.wp;rw[MA w o a f args jE ho he,Oper.upon_enter];have wT:(args.map a.eval)=(args.toList.map a.eval).toArray:=by apply Array.ext';rw[Array.toList_map]
     rw[wT];have ML:∀ b k,eE ah eo id b=some k -> (∃ E,ah b=some E/\fW E ns=true)/\k≠[]:=by
      intro b k hb;cases hl:ah b with
      |none=>rw[Z.none b hl]at hb;cases hb
      | some E=>
       refine⟨⟨E,rfl,?_⟩,?_⟩
       ·cases hq:fW E ns with
        |true=>rfl
        |false=>rw[(Z.rest b E hl).2 hq]at hb;cases hb
       ·simp only[eE,hl]at hb;split at hb
        ·cases hb
        ·cases aaL:eo.lookup _ with
         |none=>rw[aaL]at hb;cases hb
         |some n=>rw[aaL]at hb;injection hb with hb;subst hb;simp
     have hQ:Hd w (eE ah eo id):=w0.on hR.below (λb k hb=>by obtain⟨⟨E,hl,_⟩,_⟩:=ML b k hb;exact(hR.cX b E hl).1)
     refine(hc x y hy nm w (eE ah eo id) (wW w ρ rs) _ hE (λb k hb=>⟨?_,(ML b k hb).2⟩) ?_ Tc hQ).mono λe w' q5=>?_
     ·obtain⟨⟨E,hl,_⟩,_⟩:=ML b k hb;exact(hR.cX b E hl).2.1
     ·rw[List.size_toArray,hA1,q6]
     ·obtain⟨v,D,rfl,Y,DR,jZ,T7⟩:=q5;have hB:=hR.below.size;let dA:bE:=λb=>match eE ah eo id b with
       |none=>if b<w.heap.size then ah b else D b
       |some _=>D b
      have e1:∀ b k,D b=some k -> dA b=some k:=by
       intro b k hb;show (match eE ah eo id b with|none=>if b<w.heap.size then ah b else D b|some _=>D b)=some k;split
       next iH=>have:=(DR b k hb).1;have oR:=this.resolve_right (λh=>h iH);rw[bJ];exact hb
       ·exact hb
      have e2:∀ b,w.heap.size <= b -> dA b=D b:=by
       intro b hb;show (match eE ah eo id b with|none=>if b<w.heap.size then ah b else D b|some _=>D b)=D b;split
       ·rw[bJ]
       ·rfl
      have aaM:∀ p∈sB w' ρ (iw o.dst) (eS c.ro y.1).len C (iS (eF c.ps) y.2),(sB w' ρ (iw o.dst) (eS c.ro y.1).len C (iS (eF c.ps) y.2)).lookup p.1=some p.2:=
       aaE (by rw[MI,o6];exact ok1)
      generalize Bp:sB w' ρ (iw o.dst) (eS c.ro y.1).len C (iS (eF c.ps) y.2)=hd at aaM;have amJ:hd.map (·.1)=cn:=by rw[<- Bp,MI,o6]
      have hv:tH w w' ah dA ρ (aaC hd ρ) ns cn:=by
       refine⟨Y.size,λb hb hk=>?_,λn O=>?_,λb k hb=>(hR.cX b k hb).2⟩
       ·have iH:eE ah eo id b=none:=by
         cases hl:ah b with
         |none=>exact Z.none b hl
         |some k=>exact(Z.rest b k hl).2 (hk k hl)
        refine⟨Y.block b hb iH,?_⟩;show (match eE ah eo id b with|none=>if b<w.heap.size then ah b else D b|some _=>D b)=ah b;rw[iH];exact bH hb
       ·show (match hd.lookup n with|some v=>Loc.dJ v|none=>ρ n)=ρ n;rw[aaD (by rw[amJ];exact O)]
      have zi:∀I∈C,cY I.root cn=false:=λI jF=>by simpa using cu.1 ok2 I jF
      have G1:=T2 (c0:=iw o.dst) (nm:=nm) hR hv e1 e2 hB C (nJ c.ps x) (iS (eF c.ps) y.2) 0 (eS c.ro y.1).len nI aaK hrel (by omega) T7 (λk n O=>?_) (λp hp=>?_) zi ok4
      ·have aaN:je w0 w w':=by
        refine⟨Y.os,Y.tape,Y.output,Y.size,λk hk hL=>Y.block k (Nat.lt_of_lt_of_le hk hB) ?_⟩
        cases hl:ah k with
        |none=>exact Z.none k hl
        |some E=>exact absurd hL ((hR.cX k E hl).1.resolve_left (by omega))
       have lD:Rl w0 N dA (aaC hd ρ) (σ.dh ns cn (lG ns cn (iw o.dst) (eS c.ro y.1).len C (iS (eF c.ps) y.2))) a w':=by
        refine hR.tJ hv aaN (λb k hb=>?_) (λn O=>?_) (λn z T=>?_)
        ·have hb:(match eE ah eo id b with | none=>if b<w.heap.size then ah b else D b | some _=>D b)=some k:=hb;have aaO:D b=some k -> (w0.heap.size <= b \/ w0.L b≠none)/\b<w'.heap.size/\k≠[]:=by
          intro h1;obtain⟨g1,g2,g3⟩:=DR b k h1;refine⟨?_,g2,g3⟩;rcases g1 with g1|g1
          ·exact .inl (Nat.le_trans hB g1)
          ·cases iH:eE ah eo id b with
           |none=>exact absurd iH g1
           | some k2=>
            obtain⟨⟨E,hl,_⟩,_⟩:=ML b k2 iH;exact(hR.cX b E hl).1
         split at hb
         ·split at hb
          ·have:=hR.cX b k hb;exact⟨this.1,Nat.lt_of_lt_of_le this.2.1 Y.size,this.2.2⟩
          ·exact aaO hb
         ·exact aaO hb
        ·have:=cu.1 ok3 n (tG.1 O);rw[eA]at this;refine hR.dj n ?_;rcases this with h | h
         ·exact .inl (by have:=cK h;omega)
         ·exact .inr (cK h)
        ·have uZ:(n,z)∈lG ns cn (iw o.dst) (eS c.ro y.1).len C (iS (eF c.ps) y.2):=by
          clear G1;generalize lG ns cn (iw o.dst) (eS c.ro y.1).len C (iS (eF c.ps) y.2)=l at T
          induction l with
          |nil=>cases T
          | cons p l ih=>
           rw[List.lookup_cons]at T;cases hb:n==p.1 with
           | true=>
            rw[hb]at T;have e:n=p.1:=by simpa using hb
            injection T with T;rw[e,<- T]
            grind
           | false=>
            rw[hb]at T;exact .tail _ (ih T)
         exact G1 (n,z) uZ
       have amK:pZ w' w0.heap.size dA (λn=>iw o.dst+n) (eS c.ro y.1) v:=?_
       ·obtain⟨vi,G2,wX⟩:=MK dA _ a w' v lD amK;exact hK v w' dA _ vi G2 (by rw[aaJ,A4];exact hv) aaN wX
       have T8:∀(L:Nat),L=(eS c.ro y.1).len -> ∀n,n<L -> nm n=iw o.dst+n:=λL hL n O=>bH
       generalize aCJ:eS c.ro y.1=res at jZ T8;cases res with
       | one p=>
        have jZ:jD w' w.heap.size D nm 0 [p] [v]:=jZ;exact jD.yY [p] 0 [v] jZ hB e2 e1 (λn _ O=>T8 _ rfl n (by simpa [fZ.len]using O))
       | eV G0=>
        obtain⟨vs,e,lZ⟩:=jZ;exact⟨vs,e,jD.yY G0 0 vs.toList lZ hB e2 e1 (λn _ O=>T8 _ rfl n (by simpa [fZ.len]using O))⟩
      ·show (if (eS c.ro y.1).len+k<(eS c.ro y.1).len then iw o.dst+((eS c.ro y.1).len+k)else (zf _ (eS c.ro y.1).len C).getD ((eS c.ro y.1).len+k-(eS c.ro y.1).len) 0)=n;rw[bJ,show (eS c.ro y.1).len+k-(eS c.ro y.1).len=k by omega,ei,O];rfl
      ·rw[Bp]at hp;show (match hd.lookup p.1 with|some v=>Loc.dJ v|none=>ρ p.1) = .dJ p.2;rw[aaM p hp]
   ·cases U
 ·cases h
def amL{f:Nat}{args:Array Operand}{D:Array TypeId}{c:nK}{k:S -> aj X}(E:o.op = .call { callee:=.value (.func f),args,argTypes:=D })(I:enters P f)(L:va P f c)(h:oq N σ o.dst c args.toList k=some r):∃ C,k C=some r/\lu P w0 N o σ C:=by
 obtain⟨C,T9,cn,O,_,_,_,T⟩:=T6 E I L h
 refine⟨C,O,λa w K Q hR U=>?_⟩
 obtain⟨ah,ρ,hR⟩:=hR;exact T a w K Q ah ρ hR λv w' dA eY Y Z _ _ _=>U _ _ ⟨dA,Y,Z⟩
end
end Go.Proofs.YtgjfmljpdnnihaaGreat
