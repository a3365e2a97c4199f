/-
  Running the program over pure contents, and that it follows (part 2). Nothing here is a claim.
-/
import Derived.Laws.StructEq
import Derived.Test.YtglnbhiaknohlaaGreatV1
set_option linter.unusedSimpArgs false
namespace Go.Proofs.YtglnbhiaknohlaaGreat
set_option linter.defProp false
open Go.RowKit
set_option linter.unusedVariables false
section
variable {P:Program} {w w':World} {w0:Wd} {B N:Nat} {aj aE:bG} {ρ ρ':Nat->Loc} {σ:S} {a:Act} {X:Type} {d:Nat} {r:X}
def RV.under{k:aa Nat}{x:V}{v:Value}{n:Nat}(h:RV w B aj k x v)(hk:1<k.length \/ x.aD=true)(T:w.heap.size <= w'.heap.size)(hb:∀ b,b<w.heap.size -> aj b≠some [n] -> w'.heap[b]?=w.heap[b]?)(hl:∀ b,b<w.heap.size -> aE b=aj b):RV w' B aE k x v:=by
 induction h with
 |int=>exact .int _ _ _
 |bool=>exact .bool _ _
 |str=>exact .str _ _
 |nil=>exact .nil _
 |cS=>exact .cS _ _ _
 |cZ=>exact .cZ _ _ _ _ _ (by first|assumption|omega)
 |de=>exact .de _ _ _ _ _ (by first|assumption|omega)
 | aD q t o U l b off cap u O E C Y Z I hr J=>
  have L:aj b≠some [n]:=by rw[E];simp
  exact .aD _ _ _ _ _ _ _ _ u O ((hl b C).trans E) (kO C T) Y Z (λi h j x D=>(kf (a:=⟨b,_,none⟩) (hb b C L)).trans (I i h j x D)) (λi h j x D=>J i h j x D (.inr (jB t o l[i] O j x D)))
 | own q t o U l b cap cs u E Q hs hn hm I hr J=>
  have C:=(gd.1 Q).1;have hq:1<q.length:=by
   rcases hk with hk|hk
   ·exact hk
   ·simp[V.aD]at hk;omega
  have L:aj b≠some [n]:=by
   grind
  exact .own _ _ _ _ _ _ _ cs u ((hl b C).trans E) ((hb b C L).trans Q) hs hn hm I (λi h j x D=>J i h j x D (.inl (by simp)))
def tw(w:World)(B:Nat)(aj:bG)(n C:Nat)(t:TC)(o:Nat)(l:aa (T t))(D:aa Value):Prop:=
 ∀i (hi:i<l.length) j x,(enc t o l[i])[j]?=some x->∃v,D[i*aF t+j]?=some v/\RV w B aj (j::(C+i)::aF t::[n]) x v
def RV.am2{n:Nat}{t:TC}{o:Nat}{C:Bool}{l:aa (T t)}{u:Value}(h:RV w B aj [n] (.sl t (o+2) C l) u){B':Nat}(hB:∀ b,aj b=some [n] -> B' <= b):
  ∃xs,w.ownsRow B' (tid t) (aF t) u l.length xs/\(∀b,u.ownBlock=some b -> aj b=some [n])/\(C=true -> u.ownBlock≠none)/\tw w B aj n 0 t o l xs:=by
 cases h with
 |cZ=>omega
 |de=>omega
 |cS=>exact⟨[],⟨by simp,.inl ⟨rfl,rfl⟩⟩,by simp[Value.ownBlock],by simp,λi hi=>by simp at hi⟩
 |aD _ _ _ _ _ _ _ _ _ U=>omega
 | own _ _ _ _ _ b cap cs us hl D E I J Y Z=>
  refine⟨cs.toList.take _,⟨?_,.inr ⟨b,cap,cs,rfl,hB b hl,D,I,J.1,E,rfl⟩⟩,λL O=>?_,λ_=>by simp[Value.ownBlock],λi hi j x Q=>?_⟩
  ·simp_all
  ·have:b=L:=by simpa [Value.ownBlock]using O
   simp_all
  ·have hj:j<aF t:=by have:=(dW.1 Q).1;rwa [ku]at this
   have ei:i*aF t+j<l.length*aF t:=by
    have:(i+1)*aF t <= l.length*aF t:=iN _ hi;rw[iC]at this;omega
   grind
def tw.append{n:Nat}{t:TC}{o:Nat}{l l2:aa (T t)}{xs ys:aa Value}(h:tw w B aj n 0 t o l xs)(E:tw w B aj n l.length t o l2 ys)(hl:xs.length=l.length*aF t):tw w B aj n 0 t o (l++l2) (xs++ys):=by
 intro i hi j x C;by_cases D:i<l.length
 ·rw[List.getElem_append_left D]at C;obtain⟨v,I,r⟩:=h i D j x C
  grind
 ·rw[List.getElem_append_right (by omega)]at C;have J:i-l.length<l2.length:=by rw[List.length_append]at hi;omega
  obtain⟨v,I,r⟩:=E _ J j x C;refine⟨v,?_,?_⟩
  ·have e:i*aF t+j=xs.length+((i-l.length)*aF t+j):=by
    rw[ Nat.sub_mul];have:l.length*aF t <= i*aF t:=iN _ (by omega);omega
   grind
  ·grind
def tw.under{n C:Nat}{t:TC}{o:Nat}{l:aa (T t)}{D:aa Value}(h:tw w B aj n C t o l D)(E:w.heap.size<=w'.heap.size)(hb:∀ b,b<w.heap.size->aj b≠some [n]->w'.heap[b]?=w.heap[b]?)(hl:∀ b,b<w.heap.size->aE b=aj b):tw w' B aE n C t o l D:=
 λi hi j x I=>let ⟨v,J,r⟩:=h i hi j x I;⟨v,J,r.under (.inl (by simp)) E hb hl⟩
def aa5{n:Nat}{t:TC}{o:Nat}{l:aa (T t)}{u:Value}{xs:aa Value}{B':Nat}(h:w.ownsRow B' (tid t) (aF t) u l.length xs)(D:tw w B aj n 0 t o l xs)(hl:∀ b,u.ownBlock=some b -> aj b=some [n]):
  RV w B aj [n] (.sl t (o+2) false l) u:=by
 rcases h.2 with ⟨rfl,E⟩|⟨b,cap,cs,rfl,hB,I,J,L,O,Q⟩
 ·have:=List.eq_nil_of_length_eq_zero E;subst this;exact .cS _ _ _
 ·have U:∀ i _ j x,(enc t o l[i])[j]?=some x -> ∃ v,cs[i*aF t+j]?=some v/\RV w B aj (j :: i :: aF t :: [n]) x v:=by
   intro i hi j x C;obtain⟨v,Y,r⟩:=D i hi j x C
   grind
  refine .own [n] t o false l b cap cs (λi j=>(cs[i*aF t+j]?).getD undef) (hl b rfl) I O J ⟨L,λh=>by cases h⟩ (λi hi j x C=>?_) (λi hi j x C=>?_)
  ·grind
  ·grind
def Rl.am3{t e ty:TypeId}{C:TC}{i:TypeInfo}{z:Value}{rr o m c:Nat}{q:Bool}{l l2:aa (T C)}{u:Value}{ad:ah Addr}{news:aa Value}(h:Rl w0 N aj ρ σ a w)(hF:w0.F rr=none)(iO:P.underlying t=some (.slice e))(ht:tid C=e)(hi:P.info? e=some i)(hz:i.zero=some z)
  (ga:i.size=aF C) (kZ:i.bytes <= 65536) (o6:z.cells.size=aF C) (hd:RV w w0.heap.size aj [rr] (.sl C (o+2) q l) u) (wj:Reads w w.heap.size (aF C) ad m news) (o7:∀v∈news,v.oneCell'=true) (hm:m=l2.length)
  (GY:tw w w0.heap.size aj rr l.length C o l2 news) (hlen:l.length+l2.length<1073741824):
  ∃D w' aE,(Builtin.append_ #[t,t] ty #[u,.slice ad m c]).run P w = .ok D w'/\Rl w0 N aE (bW ρ rr (.dM D)) ((σ.drop rr).root rr (.sl (.sl C (o+2) false (l++l2)))) a w'/\mF D=true:=by
 subst ht hm;obtain⟨xs,yO,U,GX,jb⟩:=hd.am2 (B':=0) (λb _=>Nat.zero_le b);have gX:(l.length+l2.length)*i.bytes <= 140737488355328:=by
  have h1:(l.length+l2.length)*i.bytes <= 1073741824*65536:=Nat.mul_le_mul (by omega) kZ;omega
 obtain⟨D,w',dZ,J,I,lW⟩:=Tg (P:=P) w 0 t ty (tid C) i z (aF C) i.bytes iO hi hz ga rfl o6 (oV C) u l.length xs yO _ ad l2.length c news wj o7 (by unfold maxLen;omega) gX (Nat.zero_le _);have GZ:(l++l2).length=l.length+l2.length:=List.length_append;rw[<- GZ]at J;have A3:=jb.append GY yO.1;have gi:mF D=true:=by rcases J.2 with ⟨rfl,_⟩|⟨_,_,_,rfl,_⟩<;>rfl
 have L:Below 0 w w':=(Below.refl 0 w).grown I (Nat.zero_le _) (λ_ _=>Nat.zero_le _);have su:ja w0 w w':=⟨L.os,L.tape,L.output,L.size,λk E hL=>I.block k (kO E h.below.size) (λY=>by
  rcases(h.cX k _ (U k Y.symm)).1 with h1|h1
  ·exact absurd E (Nat.not_lt.2 h1)
  ·exact h1 hL)⟩
 have O:∀b,b<w.heap.size -> aj b≠some [rr] -> w'.heap[b]?=w.heap[b]?:=λb hb eI=>I.block b hb (λY=>eI (U b Y.symm))
 by_cases Q:D.ownBlock=some w.heap.size
 ·have ei:w.heap.size<w'.heap.size:=by
   rcases J.2 with ⟨rfl,_⟩|⟨b,cap,cs,rfl,_,hh,_⟩
   ·cases Q
   ·have:b=w.heap.size:=by simpa [Value.ownBlock]using Q
    grind
  have A7:∀b,b<w.heap.size -> bW aj w.heap.size (some [rr]) b=aj b:=λb hb=>cB _ _ _ (by omega)
  refine⟨D,w',bW aj w.heap.size (some [rr]),dZ,h.yM hF su ⟨I.size,O,A7,λb hb=>(h.cX b [] hb).2.2 rfl⟩ (λb k hb E=>?_) (λr Z=>cB _ _ _ Z) (.sl D _ (ck _ _ _) (aa5 J (A3.under I.size O A7) (λb hb=>?_))),gi⟩
  ·by_cases e:b=w.heap.size
   ·subst e;rw[ck]at E
    grind
   ·rw[cB _ _ _ e]at E;have:=(h.cX b k E).2.1;omega
  ·rw[Q]at hb;injection hb with hb;subst hb;exact ck _ _ _
 ·have UA:D.ownBlock=u.ownBlock:=by
   rcases lW with lW|lW
   ·exact lW
   ·exact absurd lW Q
  refine⟨D,w',aj,dZ,h.yM hF su ⟨I.size,O,λ_ _=>rfl,λb hb=>(h.cX b [] hb).2.2 rfl⟩ (λb k hb E=>?_) (λr Z=>cB _ _ _ Z) (.sl D _ (ck _ _ _) (aa5 J (A3.under I.size O (λ_ _=>rfl)) (λb hb=>U b (by rw[<- UA];exact hb)))),gi⟩
  have:=(h.cX b k E).2.1;omega
end
def aC9{X:Type}(N:Nat)(σ:S)(C:ah Tmp)(c x y:A)(k:S->ah X):ah X:=
 match c with
 |.lf (.v (.bool b))=>bif b then iu N σ C x k else iu N σ C y k
 |_=>none
def yQ{X:Type}(P:Program)(s:TypeId)(x:A)(f:Nat)(k:A->ah X):ah X:=
 match GQ P s f,x with
 | some C,.agg cs=>(match jm P C.type,DD P C.type with
  |some n,some true=>if C.offset+n<=cs.length then k (.agg ((cs.drop C.offset).take n))else none
  | some _,some false=>(match cs[C.offset]? with
   |some y=>k (.lf y)
   |none=>none)
  |_,_=>none)
 |_,_=>none
def A8{X:Type}(C:Bool)(x y:A)(k:A->ah X):ah X:=
 match x,y with
 |.lf (.v (.int D a)),.lf (.v (.int _ b))=>k (.lf (.v (.int D (bif C then (if b > a then b else a)else (if b<a then b else a)))))
 |_,_=>none
def A9{X:Type}(P:Program)(t:TypeId)(x i:A)(k:A->ah X):ah X:=
 match x,i with
 | .lf (.v (.str s)),.lf (.v (.int _ iv))=>(match P.underlying t with
  |some .string=>if h:0<=iv/\iv.toNat<s.size then k (.lf (.v (.int .u8 ((s[iv.toNat]'h.2).toNat:Int))))else none
  |_=>none)
 |_,_=>none
def wu{X:Type}(x:ah A)(d:Int)(k:Int->ah X):ah X:=
 match x with
 |none=>k d
 |some (.lf (.v (.int _ n)))=>k n
 |_=>none
def yR{X:Type}(P:Program)(t:TypeId)(x:A)(lo hi:ah A)(k:A->ah X):ah X:=
 match x with
 | .lf (.v (.str s))=>(match P.underlying t with
  |some .string=>wu lo 0 λl=>wu hi (s.size:Int) λh=>if 0<=l/\l<=h/\h<=(s.size:Int)then k (.lf (.v (.str (s.extract l.toNat h.toNat))))else none
  |_=>none)
 | .lf (.v (.sl C g D l))=>(match qb P t with
  | some e=>(match jm P e with
   |some n=>if n=aF C then (bif Nat.blt g 2 then wu lo 0 λa=>wu hi (l.length:Int) λb=>if 0<=a/\a<=b/\b<=(l.length:Int)then k (.lf (.v (.sl C g false ((l.take b.toNat).drop a.toNat))))else none else none)else none
   |none=>none)
  |none=>none)
 |_=>none
def yS(P:Program)(C D:TypeId):Bool:=
 match P.underlying C,P.underlying D with
 | some (.slice e),some .string=>(match P.underlying e with
  |some (.int .u8)=>true
  |_=>false)
 |_,_=>false
def wz{X:Type}(P:Program)(C D:TypeId)(z:V)(k:A->ah X):ah X:=
 match z with
 |.sl .u8 _ _ l=>bif yS P C D then k (.lf (.v (.str (strOfNums l))))else none
 |.nil=>bif yS P C D then k (.lf (.v (.str (strOfNums []))))else none
 |_=>none
def oq{X:Type}(P:Program)(σ:S)(C D:TypeId)(x:A)(k:A->ah X):ah X:=
 match x with
 | .lf (.v (.int _ n))=>(match P.underlying C,P.underlying D with
  |some _,some (.int E)=>k (.lf (.v (.int E (E.wrap n))))
  |_,_=>none)
 |.lf y=>iF σ y λz=>wz P C D z k
 |_=>none
section
variable {P:Program} {w w':World} {w0:Wd} {B N:Nat} {aj aE:bG} {ρ ρ':Nat->Loc} {σ:S} {a:Act} {X:Type} {d:Nat} {r:X} {o:Oper}
def aDa{α:Type}(f:α -> aa Value)(s:Nat)(C:∀ x,(f x).length=s)(l:aa α):(l.flatMap f).length=l.length*s:=by
 induction l with
 |nil=>simp
 |cons a l D=>grind
def am4{α:Type}(f:α -> aa Value)(s:Nat)(D:∀ x,(f x).length=s):∀ (l:aa α) (k:Nat) (C:k<l.length) (j:Nat),j<s -> (l.flatMap f)[k*s+j]?=(f l[k])[j]?:=by
 intro l
 induction l with
 |nil=>simp_all
 | cons a l E=>
  intro k C j I;rw[List.flatMap_cons];cases k with
  |zero=>grind
  |succ k =>grind
def aa6(z:Array Value)(s n:Nat)(C:z.size=s)(E:0<s):(madeCells z (n*s)).toList=(List.replicate n z.toList).flatten:=by
 have e:(List.replicate n z.toList).flatten=(List.replicate n ()).flatMap (λ_=>z.toList):=by
  rw[List.flatMap_def,List.map_replicate]
 rw[e];have hl:((List.replicate n ()).flatMap (λ_=>z.toList)).length=n*s:=by
  simp_all
 apply List.ext_getElem?;intro i;rcases Nat.lt_or_ge i _ with hi|hi
 ·have I:i / s<n:=Nat.div_lt_of_lt_mul (by rw[Nat.mul_comm];exact hi);have J:i % s<s:=Nat.mod_lt _ E;have L:i=i / s*s+i % s:=by rw[Nat.mul_comm];exact(Nat.div_add_mod i s).symm
  have D:=am4 (λ_=>z.toList) s (λ_=>by simpa using C) (List.replicate n ()) (i / s) (by simpa using I) (i % s) J;rw[<- L]at D;rw[D];have O:i % s<z.size:=by omega
  simp only[madeCells,Array.toList_map,Array.toList_range,dz,List.getElem?_range hi,kP,C];simp[O]
 ·rw[List.getElem?_eq_none (by rw[lM,size_madeCells];exact hi),List.getElem?_eq_none (by rw[hl];exact hi)]
def am5{t:TypeId}{len:Nat}{parts:Array (Nat×Operand)}{k:S -> ah X}(h:A6 P N σ d t len parts.toList k=some r):∃ dR,k dR=some r /\ ∀ aj ρ a w,Rl w0 N aj ρ σ a w ->
  ∃w' aE ρ' v,(Instr.buildSlice t len (parts.map λ(i,x)=>(i,a.eval x))).run P w = .ok v w'/\Rl w0 N aE ρ' dR (a.put (some d) v) w':=by
 unfold A6 at h;split at h
 ·rename_i e C q5;obtain⟨iO,ht,i,hi,T,kZ⟩:=yN q5;split at h
  ·rename_i z hz;cases O:(Nat.beq (full C) 0&&Nat.beq z.cells.size (aF C)&&Nat.blt (len*aF C) 16777217)with
   |false=>rw[O]at h;cases h
   | true=>
    rw[O,ak]at h;simp only[aO]at O;have hf:=cD O.1.1;have o6:=cD O.1.2;have hsm:len*aF C<16777217:=by have:=cL O.2;omega
    have oZ:i.zero=some z:=by unfold zeroOf at hz;simpa [hi]using hz
    split at h
    ·rename_i cs jN;split at h
     ·rename_i vs lT;split at h
      ·rename_i l hl;obtain⟨hd,h⟩:=oY h
       refine⟨_,h,λaj ρ a w hR=>?_⟩
       obtain⟨Nf,AY,jb⟩:=UE C 0 len vs l hl;have UF:dQ w w0.heap.size aj ρ (List.replicate len (z.cells.toList.map iG)).flatten (madeCells z.cells (len*aF C)):=by
        have e1:(List.replicate len (z.cells.toList.map iG)).flatten=((List.replicate len z.cells.toList).flatten).map iG:=by
         rw[List.map_flatten,List.map_replicate]
        rw[e1,<- aa6 z.cells (aF C) len o6 (oV C)]
        refine⟨by simp,λj x D=>?_⟩
        rw[dz]at D;cases I:(madeCells z.cells (len*aF C)).toList[j]? with
        |none=>rw[I]at D;cases D
        | some v=>
         rw[I]at D;injection D with D;subst D;exact⟨v,by simpa using I,M6 v⟩
       obtain⟨J,Z,gA⟩:=Nc (w:=w) (B:=w0.heap.size) (aj:=aj) (ρ:=ρ) _ _ _ (parts.toList.map λp=>(p.1,a.eval p.2)) cs jN UF (by simp) (λj p q L U=>by
        rw[dz]at L U;cases D:parts.toList[j]? with
        |none=>rw[D]at L;cases L
        | some x=>
         rw[D]at L U;injection L with L;injection U with U;subst L U;exact⟨rfl,hR.aI x.2⟩)
       have aa7:=Nd cs vs lT;have am6:J.size=len*aF C:=by rw[gA.1,aa7,dB,AY]
       have dZ:(Instr.buildSlice t len (parts.map λ(i,x)=>(i,a.eval x))).run P w = .ok (.slice (some ⟨w.heap.size,0,none⟩) len len) (w.alloc (.cells J e)):=by
        have UG:(parts.map λ(i,x)=>(i,a.eval x)).toList=parts.toList.map λp=>(p.1,a.eval p.2):=by simp
        by_cases h0:len*aF C=0
        ·have hm:madeCells z.cells (len*aF C) = #[]:=by rw[h0];simp[madeCells]
         rw[hm]at Z;have UH:len*i.size=0:=by rw[T];exact h0
         rw[<- T]at Z;have e0:∀f:Nat -> Value,Array.map f (Array.range 0) = #[]:=λf=>by simp
         simp only[Instr.buildSlice,fm,gJ iO,sizeOf,typeInfo];simp[hi,UH];rw[e0,Z];simp[newRow]
        ·exact run_buildSlice (P:=P) w t e len _ J i z iO hi oZ (by rw[T];omega) (by rw[T];exact h0) (by rw[T,UG];exact Z)
       refine⟨_,bW aj w.heap.size (some [d]),bW ρ d (.dM (.slice (some ⟨w.heap.size,0,none⟩) len len)),_,dZ,(hR.DF (hR.dx d (.inl hd)) (λr Y=>cB _ _ _ Y) (.sl _ _ (ck _ _ _) ?_)).set ⟨rfl,by simp[cN,ck]⟩ hd⟩
       have uJ:∀ E (Q:E<l.length) j x,(enc C 0 l[E])[j]?=some x -> ∃ v,J[E*aF C+j]?=some v /\ ∀ (w':World) (B':Nat) (aE:bG) (q':aa Nat),RV w' B' aE q' x v:=by
        intro E Q j x D;obtain⟨y,hy,hw⟩:=jb E Q j x D;obtain⟨v,I,Y⟩:=gA.2 (E*aF C+j) (.v y) (by rw[aa7,dz,hy];rfl);exact⟨v,I,λw' B' aE q'=>(Y.2.wk hw).th (yG C 0 l[E] hf x (fT D))⟩
       have:=RV.own (w:=w.alloc (.cells J e)) (B:=w0.heap.size) (aj:=bW aj w.heap.size (some [d])) [d] C 0 true l w.heap.size len J (λi j=>(J[i*aF C+j]?).getD undef)
        (ck _ _ _) (by rw[ht];exact heap_alloc_new w _) am6 (by omega) ⟨by have:=Nat.le_mul_of_pos_right len (oV C);unfold maxLen;omega,λ_=>Nf.symm⟩ (λE Q j x D=>?_) (λE Q j x D=>?_)
       ·rw[Nf]at this;exact this
       ·obtain⟨v,I,_⟩:=uJ E Q j x D;rw[I];rfl
       ·obtain⟨v,I,Y⟩:=uJ E Q j x D;rw[I];exact Y _ _ _ _
      ·cases h
     ·cases h
    ·cases h
  ·cases h
 ·cases h
def aa8{C:Bool}{x y:A}{k:A->ah X}(h:A8 C x y k=some r):∃ z,k z=some r/\∀ (w:World) (B:Nat) (aj:bG) (ρ:Nat->Loc) (t ty:TypeId) (u v:Value),RA w B aj ρ x u->RA w B aj ρ y v->
  ∃D,((bif C then Builtin.max_ #[t,t] ty #[u,v]else Builtin.min_ #[t,t] ty #[u,v]):Sem Value).run P w = .ok D w/\RA w B aj ρ z D:=by
 unfold A8 at h;split at h
 ·refine⟨_,h,λw B aj ρ t ty u v E I=>?_⟩
  obtain rfl:=E.2.gE;obtain rfl:=I.2.gE;cases C with
  |true=>exact⟨_,by simp[Builtin.max_,Builtin.max2],rfl,.int _ _ _⟩
  |false=>exact⟨_,by simp[Builtin.min_,Builtin.min2],rfl,.int _ _ _⟩
 ·cases h
def am7{t:TypeId}{x i:A}{k:A->ah X}(h:A9 P t x i k=some r):∃ z,k z=some r/\∀ (w:World) (B:Nat) (aj:bG) (ρ:Nat->Loc) (u v:Value),RA w B aj ρ x u->RA w B aj ρ i v->
  ∃C,(Instr.index t u v).run P w = .ok C w/\RA w B aj ρ z C:=by
 unfold A9 at h;split at h
 ·rename_i s J iv;split at h
  ·rename_i D;split at h
   ·rename_i hb
    refine⟨_,h,λw B aj ρ u v E I=>?_⟩
    obtain rfl:=E.2.v7;obtain rfl:=I.2.gE;exact⟨_,by simp[Instr.index,asIntOf,gJ D,hb.1,hb.2],rfl,.int _ _ _⟩
   ·cases h
  ·cases h
 ·cases h
def aa9{C D:TypeId}(h:yS P C D=true):∃ e,P.underlying C=some (.slice e)/\P.underlying D=some .string/\P.underlying e=some (.int .u8):=by
 unfold yS at h
 grind
def aba(l:aa Int)(i:Nat)(hi:i<l.length):l.getD i 0=l[i]:=by rw[fk,bX hi];rfl
def RV.toStr{I J e:TypeId}(O:P.underlying I=some (.slice e))(Q:P.underlying J=some .string)(U:P.underlying e=some (.int .u8)){o:Nat}{qn:Bool}{l:aa (T .u8)}{q:aa Nat}{B:Nat}{u:Value}(h:RV w B aj q (.sl .u8 o qn l) u):
  (convert I J u).run P w = .ok (.string (strOfNums l)) w:=by
 generalize C:V.sl .u8 o qn l=y at h;cases h with
 |int=>cases C
 |bool=>cases C
 |str=>cases C
 |nil=>cases C
 | cS q t Y=>
  injection C with D Z e3 E;subst D;obtain rfl:=eq_of_heq E;rw[run_convert_bytes_nil w I e O U 0 0 J Q];rfl
 | cZ q t Y A c ho=>
  injection C with D Z e3 E;subst D;obtain rfl:=eq_of_heq E;have hl:=run_loadCells_list (P:=P) w A [] (λj v hj=>by simp at hj);rw[run_convert_bytes_string w I J e _ 0 c O U Q];rfl
 | de q t Y A c ho=>
  injection C with D Z e3 E;subst D;obtain rfl:=eq_of_heq E;have hl:(loadCells A 0).run P w = .ok (([]:aa Int).map (Value.int .u8)).toArray w:=run_loadCells_list (P:=P) w A [] (λj v hj=>by simp at hj);rw[run_convert_bytes_string w I J e _ 0 c O U Q,run_bytesToString w A 0 c [] hl];rfl
 | aD q t Y qn' l' b off cap uu ho hl hb h1 oW hc hr=>
  injection C with D Z e3 E;subst D;obtain rfl:=eq_of_heq E
  refine run_convert_bytes_arg w I e O U b off _ cap l rfl (λi hi=>?_) J Q
  have L:=hc i hi 0 (.int .u8 l[i]) rfl;have h3:=(hr i hi 0 (.int .u8 l[i]) rfl).gE;simp only[aF,Nat.mul_one,Nat.add_zero]at L;have hg:=aba (show aa Int from l) i hi;rw[L,h3];exact bH (λz=>some (Value.int .u8 z)) hg.symm
 | own q t Y qn' l' b cap cs uu hl hh nG hn hm hc hr=>
  injection C with D Z e3 E;subst D;obtain rfl:=eq_of_heq E
  refine run_convert_bytes_arg w I e O U b 0 _ cap l rfl (λi hi=>?_) J Q
  have L:=hc i hi 0 (.int .u8 l[i]) rfl;have h3:=(hr i hi 0 (.int .u8 l[i]) rfl).gE;simp only[aF,Nat.mul_one,Nat.add_zero]at L;have hg:=aba (show aa Int from l) i hi;rw[h3]at L;have h4:w.cell? ⟨b,0+i,none⟩=some (.int .u8 l[i]):=by simp[World.cell?,hh,L]
  rw[h4];exact bH (λz=>some (Value.int .u8 z)) hg.symm
def am8{E I:TypeId}{x:A}{k:A -> ah X}(h:oq P σ E I x k=some r):∃ z,k z=some r /\ ∀ aj ρ a w,Rl w0 N aj ρ σ a w -> ∀ u,RA w w0.heap.size aj ρ x u ->
  ∃Y,(convert E I u).run P w = .ok Y w/\RA w w0.heap.size aj ρ z Y:=by
 unfold oq at h;split at h
 ·rename_i kk n;split at h
  ·rename_i d1 kd Z hd
   refine⟨_,h,λaj ρ a w _ u C=>?_⟩
   obtain rfl:=C.2.gE;exact⟨_,by simp[convert,gJ Z,gJ hd,Conv.intToInt],rfl,.int _ _ _⟩
  ·cases h
 ·rename_i y _;have key:∃ z,(∀ aj ρ a w,Rl w0 N aj ρ σ a w -> ∀ u,dA w w0.heap.size aj ρ y u -> ∃ q,RV w w0.heap.size aj q z u)/\wz P E I z k=some r:=by
   cases y with
   |v z=>exact⟨z,λaj ρ a w _ u C=>⟨[],C.2⟩,h⟩
   |dead=>cases h
   | own q=>
    obtain⟨z,L,h⟩:=sj q _ h
    refine⟨z,λaj ρ a w hR u C=>?_,h⟩
    obtain⟨v,hv,O⟩:=L.ok hR.root;have h3:=C.2
    grind
  obtain⟨z,L,D⟩:=key;clear h;unfold wz at D;split at D
  ·rename_i o qn l;cases J:yS P E I with
   |false=>simp_all
   | true=>
    rw[J]at D;obtain⟨e,Q,T,U⟩:=aa9 J
    refine⟨_,D,λaj ρ a w hR u C=>?_⟩
    obtain⟨q,O⟩:=L aj ρ a w hR u C;exact⟨_,O.toStr Q T U,rfl,.str _ _⟩
  ·cases J:yS P E I with
   |false=>simp_all
   | true=>
    rw[J,ak]at D;obtain⟨e,Q,T,U⟩:=aa9 J
    refine⟨_,D,λaj ρ a w hR u C=>?_⟩
    obtain⟨q,O⟩:=L aj ρ a w hR u C;cases O;exact⟨_,by rw[run_convert_bytes_nil w E e Q U 0 0 I T];rfl,rfl,.str _ _⟩
  ·cases D
 ·cases h
def am9{s:TypeId}{x:A}{f:Nat}{k:A -> ah X}(h:yQ P s x f k=some r):∃ z,k z=some r /\ ∀ (w:World) (B:Nat) (aj:bG) (ρ:Nat -> Loc) (u:Value),RA w B aj ρ x u ->
  ∃T,(Instr.field s u f).run P w = .ok T w/\RA w B aj ρ z T:=by
 unfold yQ at h;split at h
 ·rename_i E cs I;have ld:∃ J,P.underlying s=some (.struct J)/\J[f]?=some E:=by
   unfold GQ at I;split at I
   ·simp_all
   ·cases I
  obtain⟨J,U,Y⟩:=ld;split at h
  ·rename_i n L C;split at h
   ·rename_i hle
    refine⟨_,h,λw B aj ρ u D=>?_⟩
    obtain⟨us,rfl,hR⟩:=D;have O:(isAgg E.type).run P w = .ok true w:=by
     unfold DD at C;split at C
     next fs' D=>unfold isAgg;rw[fm,gJ D];rfl
     next c e D=>unfold isAgg;rw[fm,gJ D];rfl
     ·cases C
     ·cases C
    unfold jm at L;cases hi:P.info? E.type with
    |none=>simp_all
    | some i=>
     have AT:i.size=n:=by simpa [hi]using L
     refine⟨.agg (us.extract E.offset (E.offset+n)),by simp[Instr.field,gJ U,Y,asAgg,part,fm,O,sizeOf,typeInfo,hi,AT],_,rfl,?_,λj y Q=>?_⟩
     ·have:=hR.1
      grind
     ·obtain⟨hj,G3⟩:=MW _ _ _ _ _ Q;obtain⟨v,Z,hr⟩:=hR.2 _ y G3
      grind
   ·cases h
  ·rename_i n L C;split at h
   ·rename_i y Q
    refine⟨_,h,λw B aj ρ u D=>?_⟩
    obtain⟨us,rfl,hR⟩:=D;obtain⟨v,Z,hr⟩:=hR.2 _ y Q;have O:(isAgg E.type).run P w = .ok false w:=by
     unfold DD at C;split at C
     ·cases C
     ·cases C
     next d hs ha D=>unfold isAgg;rw[fm,gJ D];simp_all
     ·cases C
    exact⟨v,by simp[Instr.field,gJ U,Y,asAgg,part,fm,O,Z],hr⟩
   ·cases h
  ·cases h
 ·cases h
end
def V.val:V->Value
 |.int k n=>.int k n
 |.bool b=>.bool b
 |.str s=>.string s
 |_=>undef
def Ng:TypeDesc->V->V->ah Bool
 |.int _,.int k a,.int C b=>if k=C then some (a==b)else none
 |.bool,.bool a,.bool b=>some (a==b)
 |.string,.str a,.str b=>some (a.toList==b.toList)
 |_,_,_=>none
def G4(P:Program)(g:TypeId->aa V->aa V->ah Bool)(xs ys:aa V):aa Field->ah Bool
 |[]=>some true
 | f :: C=>bif f.name == "_" then G4 P g xs ys C else (match jm P f.type with
  | some n=>bif Nat.ble (f.offset+n) xs.length then (match g f.type ((xs.drop f.offset).take n) ((ys.drop f.offset).take n),G4 P g xs ys C with
   |some a,some b=>some (a&&b)
   |_,_=>none)else none
  |none=>none)
def yT(P:Program):Nat->TypeId->aa V->aa V->ah Bool
 |0,_,_,_=>none
 | n+1,t,xs,ys=>match P.underlying t with
  |some (.struct C)=>bif P.stoodInHeld t ||!Nat.beq xs.length ys.length then none else G4 P (yT P n) xs ys C.toList
  | some d=>(match xs,ys with
   |[x],[y]=>Ng d x y
   |_,_=>none)
  |none=>none
def Nh:BinOp->ah Bool
 |.eql=>some false
 |.neq=>some true
 |_=>none
def jc{α:Type}:aa α->Bool
 |[]=>true
 |_=>false
def isStr(P:Program)(t:TypeId):Bool:=match P.underlying t with
 |some (.struct _)=>true
 |_=>false
def mJ{X:Type}(P:Program)(σ:S)(op:BinOp)(t:TypeId)(x y:A)(k:A->ah X):ah X:=
 match Nh op,x,y with
 | some C,.agg cs,.agg D=>(match qX cs,qX D with
  | some xs,some ys=>bif P.eqGuardType P.depth t || !isStr P t then none else (match yT P 20 t xs ys with
   |some b=>k (.lf (.v (.bool (bif C then !b else b))))
   |none=>none)
  |_,_=>none)
 | some C,.lf l,.lf (.v .nil)=>(match qb P t with
  | some _=>iF σ l λz=>(match z with
   |.nil=>k (.lf (.v (.bool (bif C then false else true))))
   |.sl _ _ true _=>k (.lf (.v (.bool (bif C then true else false))))
   |.sl _ _ false l=>bif jc l then none else k (.lf (.v (.bool (bif C then true else false))))
   |_=>none)
  |none=>none)
 |_,_,_=>vK x λa=>vK y λb=>nH P t op a b λz=>k (.lf (.v z))
section
variable {P:Program} {w w':World} {w0:Wd} {B N:Nat} {aj aE:bG} {ρ ρ':Nat->Loc} {σ:S} {a:Act} {X:Type} {d:Nat} {r:X} {o:Oper}
def ana{D:TypeDesc}{x y:V}{b:Bool}{t:TypeId}{n:Nat}(C:P.underlying t=some D)(h:Ng D x y=some b):(Op.equalIn (n+1) t x.val y.val).run P w = .ok b w:=by
 unfold Ng at h;split at h
 ·split at h
  next I _ a k J E=>subst E;injection h with h;subst h;exact run_equalIn_int w n t _ _ _ _ C
  ·cases h
 ·injection h with h;subst h;exact run_equalIn_bool' w n t _ _ C
 ·injection h with h;subst h;exact run_equalIn_string w n t _ _ C
 ·cases h
def tA(P:Program)(t:TypeId)(xs:aa V)(u:Value):Prop:=
 match P.underlying t with
 |some (.struct _)=>u = .agg (xs.map V.val).toArray
 |_=>∃x,xs=[x]/\u=x.val
def abb{t:TypeId}{n off:Nat}{xs:aa V}(J:jm P t=some n)(hle:off+n <= xs.length)(L:∃ d,P.underlying t=some d/\(∀ c e,d ≠ .array c e)/\((∀ C,d ≠ .struct C) -> n=1)):
  ∃u,(part t (xs.map V.val).toArray off).run P w = .ok u w/\tA P t ((xs.drop off).take n) u:=by
 obtain⟨d,D,O,Q⟩:=L;unfold jm at J;cases hi:P.info? t with
 |none=>grind
 | some i=>
  have T:i.size=n:=by simpa [hi]using J
  by_cases E:∃C,d = .struct C
  ·obtain⟨C,rfl⟩:=E;have I:(isAgg t).run P w = .ok true w:=by
    unfold isAgg;rw[fm,gJ D];rfl
   refine⟨.agg ((xs.map V.val).toArray.extract off (off+n)),by simp[part,fm,I,sizeOf,typeInfo,hi,T],?_⟩;unfold tA;rw[D];simp only;congr 1;apply Array.ext';simp[List.map_drop,List.map_take]
  ·have I:(isAgg t).run P w = .ok false w:=by
    unfold isAgg;rw[fm,gJ D w];cases d<;>first|rfl|(exfalso;exact E ⟨_,rfl⟩)|(exfalso;exact O _ _ rfl)
   have U:n=1:=Q λC e=>E ⟨C,e⟩
   subst U;have Y:off<xs.length:=by omega
   have Z:(xs.map V.val).toArray[off]?=some (xs[off]).val:=by simp[Y]
   refine⟨(xs[off]).val,by simp[part,fm,I,Z],?_⟩;have e1:(xs.drop off).take 1=[xs[off]]:=by
    rw[List.drop_eq_getElem_cons];rfl
   unfold tA;rw[D];split
   ·grind
   ·grind
def anb{n:Nat}{t:TypeId}{xs ys:aa V}{b:Bool}(h:yT P n t xs ys=some b):∃ d,P.underlying t=some d/\(∀ c e,d ≠ .array c e)/\((∀ C,d ≠ .struct C) -> xs.length=1):=by
 cases n with
 |zero=>cases h
 | succ n=>
  unfold yT at h;split at h
  ·simp_all
  ·rename_i d I D;split at h
   next x y=>exact⟨d,D,(λc e E=>by subst E;simp[Ng]at h),λ_=>rfl⟩
   ·cases h
  ·cases h
def UI{n:Nat}{xs ys:aa V}(hlen:xs.length=ys.length)(I:∀ t xs ys b,yT P n t xs ys=some b -> ∀ u v,tA P t xs u -> tA P t ys v -> ∀ k,(Op.equalIn (k+n) t u v).run P w = .ok b w)(k:Nat):∀ (C:aa Field) (b:Bool),G4 P (yT P n) xs ys C=some b ->
  (Op.eqFields (k+n) (xs.map V.val).toArray (ys.map V.val).toArray C).run P w = .ok b w
 | [],b,h=>by
  injection h with h;subst h;simp[Op.eqFields]
 | f :: C,b,h=>by
  unfold G4 at h;cases D:f.name == "_" with
  | true=>
   rw[D]at h;have:f.name = "_":=by simpa using D
   simp[Op.eqFields,this,not_true];exact UI hlen I k C b h
  | false=>
   rw[D,au]at h;have Z:f.name ≠ "_":=by simpa using D
   split at h
   ·rename_i s J;cases E:Nat.ble (f.offset+s) xs.length with
    |false=>simp_all
    | true=>
     rw[E,ak]at h;have E:=cL E;split at h
     ·rename_i c e L h2;injection h with h;subst h;obtain⟨O,Q,T,U⟩:=anb L;have Y:((xs.drop f.offset).take s).length=s:=by simp;omega
      obtain⟨u,G5,G6⟩:=abb (w:=w) J E ⟨O,Q,T,λh=>Y.symm.trans (U h)⟩;obtain⟨v,G7,wA⟩:=abb (w:=w) (xs:=ys) (off:=f.offset) J (by omega) ⟨O,Q,T,λh=>Y.symm.trans (U h)⟩;have hr:=I _ _ _ c L u v G6 wA k;have Ni:=UI hlen I k C e h2;simp only[Op.eqFields,Z,ne_eq,not_false_eq_true,if_true,fm,G5,G7,hr,ki];cases c
      ·simp
      ·simp_all
     ·cases h
   ·cases h
def abc:∀ (n:Nat) (t:TypeId) (xs ys:aa V) (b:Bool),yT P n t xs ys=some b -> ∀ u v,tA P t xs u -> tA P t ys v -> ∀ k,(Op.equalIn (k+n) t u v).run P w = .ok b w
 |0,t,xs,ys,b,h=>by cases h
 | n+1,t,xs,ys,b,h=>by
  intro u v C D k;unfold yT at h;split at h
  ·rename_i O I;cases E:(P.stoodInHeld t || !Nat.beq xs.length ys.length)with
   |true=>simp_all
   | false=>
    rw[E,au]at h;rw[oS,Bool.not_eq_false']at E;have hlen:=cD E.2;unfold tA at C D;rw[I]at C D;simp only at C D;subst C D;have Q:P.fieldsOf t=O:=by simp[Program.fieldsOf,I]
    rw[<- Nat.add_assoc,run_equalIn_struct w (k+n) t _ _ (by rw[Q];exact I) E.1,Q];exact UI hlen (abc n) k O.toList b h
  ·rename_i d U T;split at h
   ·rename_i x y;unfold tA at C D;rw[T]at C D;split at C
    ·simp_all
    ·split at D
     ·simp_all
     ·obtain⟨Y,J,rfl⟩:=C;obtain⟨Z,L,rfl⟩:=D;injection J with J;injection L with L;subst J L;exact ana T h
   ·cases h
  ·cases h
def abd{cs:aa Lf}{xs:aa V}(h:qX cs=some xs){u:Value}(D:RA w B aj ρ (.agg cs) u):u = .agg (xs.map V.val).toArray:=by
 obtain⟨e,E⟩:=MX _ _ h;obtain⟨us,rfl,Q,I⟩:=D;congr 1;apply Array.ext';apply List.ext_getElem?;intro j;rw[ dz,Array.getElem?_toList];cases C:xs[j]? with
 |none =>simp_all
 | some x=>
  obtain⟨v,J,L⟩:=I j _ (by rw[e,dz,C];rfl);rw[J];have:=E x (fT C);have O:=L.2;cases O<;>first|rfl|cases this
def DI{op:BinOp}{C:Bool}(D:Nh op=some C){t e:TypeId}(E:P.underlying t=some (.slice e))(I J:Operand)(A:ah Addr)(n c:Nat):
  (do eqGuard op t I J (.slice A n c) (.slice none 0 0);binOp op t (.slice A n c) (.slice none 0 0):Sem Value).run P w = .ok (.bool (bif C then !A.isNone else A.isNone)) w:=by
 have L:(Op.equal t (.slice A n c) (.slice none 0 0)).run P w = .ok A.isNone w:=by
  have h:∀ d,(Op.equalIn (d+1) t (.slice A n c) (.slice none 0 0)).run P w = .ok A.isNone w:=by
   intro d;cases A<;>simp[Op.equalIn,gJ E]
  exact h 9999
 cases op<;>simp[Nh]at D<;>subst D<;>simp[eqGuard,binOp,L]
def anc{op:BinOp}{t:TypeId}{x y:A}{k:A -> ah X}(h:mJ P σ op t x y k=some r):∃ z,k z=some r /\ ∀ aj ρ a w,Rl w0 N aj ρ σ a w -> ∀ C D u v,RA w w0.heap.size aj ρ x u -> RA w w0.heap.size aj ρ y v ->
  ∃U,(do eqGuard op t C D u v;binOp op t u v:Sem Value).run P w = .ok U w/\RA w w0.heap.size aj ρ z U:=by
 unfold mJ at h;split at h
 ·rename_i L cs ds J;split at h
  ·rename_i xs ys qY G8;cases Y:(P.eqGuardType P.depth t || !isStr P t)with
   |true=>simp_all
   | false=>
    rw[Y,au]at h;rw[oS,Bool.not_eq_false']at Y;obtain⟨Y,ld⟩:=Y;split at h
    ·rename_i b hb
     refine⟨_,h,λaj ρ a w hR C D u v E I=>?_⟩
     have E:=abd qY E;have I:=abd G8 I;subst E I;have hs:∃ fs,P.underlying t=some (.struct fs):=by
      unfold isStr at ld;split at ld
      ·simp_all
      ·cases ld
     obtain⟨fs,G9⟩:=hs;have Q:=abc (w:=w) 20 t xs ys b hb (.agg (xs.map V.val).toArray) (.agg (ys.map V.val).toArray) (by unfold tA;rw[G9]) (by unfold tA;rw[G9]) 9980;refine⟨.bool (bif L then !b else b),?_,rfl,.bool _ _⟩;rw[fm,run_eqGuard_agg w op t C D _ _ Y,ki];cases op<;>simp[Nh]at J<;>subst J
     ·rw[run_eql_struct,Q];rfl
     ·rw[run_neq_struct,Q];rfl
    ·cases h
  ·cases h
 ·rename_i L l J;split at h
  ·rename_i e he;have T:P.underlying t=some (.slice e):=by
    unfold qb at he;split at he
    ·simp_all
    ·cases he
   obtain⟨z,hz,O⟩:=UC (w0:=w0) (N:=N) h;clear h;split at O
   ·refine⟨_,O,λaj ρ a w hR C D u v E I=>?_⟩
    obtain⟨q,Z⟩:=hz aj ρ a w hR u E;cases Z;cases I.2;exact⟨_,DI J T C D none 0 0,rfl,by cases L<;>exact .bool _ _⟩
   ·refine⟨_,O,λaj ρ a w hR C D u v E I=>?_⟩
    obtain⟨q,Z⟩:=hz aj ρ a w hR u E;cases I.2;cases Z with
    |aD _ _ _ _ _ b off cap us ho hl hb h1 oW hc Q=>exact⟨_,DI J T C D _ _ _,rfl,by cases L<;>exact .bool _ _⟩
    |own=>exact⟨_,DI J T C D _ _ _,rfl,by cases L<;>exact .bool _ _⟩
    |de=>exact⟨_,DI J T C D _ _ _,rfl,by cases L<;>exact .bool _ _⟩
   ·rename_i U o' l';cases hl:jc l' with
    |true=>simp_all
    | false=>
     rw[hl,au]at O
     refine⟨_,O,λaj ρ a w hR C D u v E I=>?_⟩
     obtain⟨q,Z⟩:=hz aj ρ a w hR u E;cases I.2;cases Z with
     |cS=>cases hl
     |cZ=>cases hl
     |aD _ _ _ _ _ b off cap us ho A7 hb h1 oW hc Q=>exact⟨_,DI J T C D _ _ _,rfl,by cases L<;>exact .bool _ _⟩
     |own=>exact⟨_,DI J T C D _ _ _,rfl,by cases L<;>exact .bool _ _⟩
   ·cases O
  ·cases h
 ·obtain⟨u0,hx,h1⟩:=MV h;obtain⟨v0,hy,O⟩:=MV h1;obtain⟨z,h3,hp,hs⟩:=amF O;subst hx hy
  refine⟨_,h3,λaj ρ a w hR C D u v E I=>?_⟩
  obtain⟨U,dZ,Q⟩:=hs w _ aj C D [] [] _ _ E.2 I.2;exact⟨U,dZ,V.GP hp,Q⟩
/-! Parts of slices that nobody writes. -/
def DJ{x:ah A}{C:Int}{k:Int->ah X}(h:wu x C k=some r):∃ n,k n=some r/\(∀ (E:Type) (D:Int->ah E),wu x C D=D n)/\((x=none/\n=C)\/∃ I,x=some (.lf (.v (.int I n)))):=by
 unfold wu at h;split at h
 ·exact⟨_,h,λ_ _=>rfl,.inl ⟨rfl,rfl⟩⟩
 ·exact⟨_,h,λ_ _=>rfl,.inr ⟨_,rfl⟩⟩
 ·cases h
def ane{t:TypeId}{x:A}{lo hi:ah A}{k:A -> ah X}(h:yR P t x lo hi k=some r):∃ y,k y=some r/\(∀ (J:Type) (I:A -> ah J),yR P t x lo hi I=I y) /\
  ((∃ (s:ByteArray) (l h:Int),x = .lf (.v (.str s))/\P.underlying t=some .string/\((lo=none/\l=0) \/ ∃ C,lo=some (.lf (.v (.int C l))))/\((hi=none/\h=s.size) \/ ∃ C,hi=some (.lf (.v (.int C h))))/\0 <= l/\l <= h/\h <= (s.size:Int)/\y = .lf (.v (.str (s.extract l.toNat h.toNat)))) \/
   ∃(E:TC) (g:Nat) (L:Bool) (xs:aa (T E)) (e:TypeId) (l h:Int),x = .lf (.v (.sl E g L xs))/\qb P t=some e/\jm P e=some (aF E)/\g<2/\((lo=none/\l=0) \/ ∃C,lo=some (.lf (.v (.int C l))))/\((hi=none/\h=xs.length) \/ ∃C,hi=some (.lf (.v (.int C h))))/\0 <= l/\l <= h/\h <= (xs.length:Int)/\y = .lf (.v (.sl E g false ((xs.take h.toNat).drop l.toNat)))):=by
 unfold yR at h;split at h
 ·rename_i s;split at h
  ·rename_i Z;obtain⟨l,O,d1,Q⟩:=DJ h;obtain⟨m,D,d2,U⟩:=DJ O;split at D
   ·rename_i hb
    refine⟨_,D,λJ I=>?_,.inl ⟨s,l,m,rfl,Z,Q,U,hb.1,hb.2.1,hb.2.2,rfl⟩⟩
    simp[yR,Z];simp_all
   ·cases D
  ·cases h
 ·rename_i E g L xs;split at h
  ·rename_i e he;split at h
   ·rename_i n hn;split at h
    ·rename_i AZ;subst AZ;cases Y:Nat.blt g 2 with
     |false=>simp_all
     | true=>
      rw[Y,ak]at h;obtain⟨l,O,d1,Q⟩:=DJ h;obtain⟨m,D,d2,U⟩:=DJ O;split at D
      ·rename_i hb
       refine⟨_,D,λJ I=>?_,.inr ⟨E,g,L,xs,e,l,m,rfl,he,hn,cL Y,Q,U,hb.1,hb.2.1,hb.2.2,rfl⟩⟩
       simp[yR,he,hn,if_true,Y,ak];simp_all
      ·cases D
    ·cases h
   ·cases h
  ·cases h
 ·cases h
def abe{t:TypeId}{x:A}{lo hi:ah A}{k:A->ah X}(h:yR P t x lo hi k=some r):∃ y,k y=some r/\(∀ (X':Type) (k':A->ah X'),yR P t x lo hi k'=k' y)/\
  ∀ (w:World) (B:Nat) (aj:bG) (ρ:Nat->Loc) (u:Value) (O C:ah Value),RA w B aj ρ x u->(∀ a,lo=some a->∃ v,O=some v/\RA w B aj ρ a v)->(lo=none->O=none)->(∀ a,hi=some a->∃ v,C=some v/\RA w B aj ρ a v)->(hi=none->C=none)->
   ∃t',(Instr.sliceAt t u O C none).run P w = .ok t' w/\RA w B aj ρ y t':=by
 obtain⟨y,h1,hd,hc⟩:=ane h
 refine⟨y,h1,hd,λw B aj ρ u O C T sr lV Nj DK=>?_⟩
 have bl:∀ {o:ah A} {E:ah Value} {n U:Int},(∀ a,o=some a->∃ v,E=some v/\RA w B aj ρ a v)->(o=none->E=none)->((o=none/\n=U)\/∃ I,o=some (.lf (.v (.int I n))))->(E=none/\n=U)\/∃ I,E=some (.int I n):=by
  intro o E n U g1 g2 g3;rcases g3 with ⟨e,e'⟩|⟨I,e⟩
  ·exact .inl ⟨g2 e,e'⟩
  ·obtain⟨v,C,hr⟩:=g1 _ e;exact .inr ⟨I,by rw[C,hr.2.gE]⟩
 rcases hc with ⟨s,l,m,rfl,J,Y,Z,b1,b2,b3,rfl⟩|⟨tc,g,qn,xs,e,l,m,rfl,D,hn,hg,Y,Z,b1,b2,b3,rfl⟩
 ·have h5:=bl sr lV Y;have h6:=bl Nj DK Z;obtain rfl:=T.2.v7;have em:(m.toNat:Int)=m:=Int.toNat_of_nonneg (by omega);refine⟨.string (s.extract l.toNat m.toNat),?_,rfl,.str _ _⟩;rw[run_sliceAt_string w t _ _ _ _ J];have hb0:0<=m:=by omega
  rcases h5 with ⟨rfl,h7⟩|⟨kl,rfl⟩<;>rcases h6 with ⟨rfl,h8⟩|⟨kh,rfl⟩
  all_goals simp_all [Instr.slice,gJ J,Instr.sliceBounds,run_sliceBound]
 ·have h5:=bl sr lV Y;have h6:=bl Nj DK Z;have J:P.underlying t=some (.slice e):=by
   unfold qb at D;split at D
   next e' uK=>injection D with D;rw[<-D];exact uK
   ·cases D
  have jb:P.elem t=e:=by simp[Program.elem,J]
  have L:P.underlying t=some (.slice (P.elem t)):=by rw[jb];exact J
  have Q:(sizeOf (P.elem t)).run P w = .ok (aF tc) w:=by
   unfold jm at hn;cases hi:P.info? e with
   |none=>simp[hi]at hn
   | some i=>
    have:i.size=aF tc:=by simpa [hi]using hn
    simp[sizeOf,typeInfo,jb,hi,this]
  have mG:∃ A n c,u = .slice A n c:=by
   cases T.2 with
   |cS=>exact⟨_,_,_,rfl⟩
   |cZ=>exact⟨_,_,_,rfl⟩
   |de=>exact⟨_,_,_,rfl⟩
   |aD=>exact⟨_,_,_,rfl⟩
   |own=>exact⟨_,_,_,rfl⟩
  obtain⟨A,n,c,rfl⟩:=mG;obtain⟨hp,DL,UJ⟩:=T.2.part (a:=l.toNat) (h:=m.toNat) hg (by omega) (by omega);refine⟨_,?_,by simp[V.aD,hg],hp⟩;rw[run_sliceAt_slice w t _ _ _ _ L];rcases h5 with ⟨rfl,rfl⟩|⟨kl,rfl⟩<;>rcases h6 with ⟨rfl,rfl⟩|⟨kh,rfl⟩
  ·rw[run_slice_all w t A n c L,Q,DL];simp
  ·rw[run_slice_h w t A n c L kh m (by omega) (by omega),Q];simp
  ·rw[run_slice_l w t A n c L kl l (by omega) (by omega),Q,DL];simp
  ·rw[run_slice_lh w t A n c L kl kh l m (by omega) (by omega) (by omega),Q];simp
/-! Parts of slices that are owned. -/
def He{X:Type}(n:Nat)(q:aa Nat)(C:ah Nat)(lo hi:ah A)(y:V)(k:A->ah X):ah X:=
 match y with
 |.sl D _ _ l=>if n=aF D then wu lo 0 λa=>wu hi ((C.getD l.length:Nat):Int) λb=>if 0<=a/\a<=b/\b<=(l.length:Int)then k (.view q n a.toNat b.toNat)else none else none
 |_=>none
def ot{X:Type}(P:Program)(σ:S)(t:TypeId)(q:aa Nat)(C:ah Nat)(lo hi:ah A)(k:A->ah X):ah X:=
 match qb P t with
 | some e=>(match jm P e with
  |some n=>gz σ.m q λy=>He n q C lo hi y k
  |none=>none)
 |none=>none
def q8{X:Type}(P:Program)(σ:S)(t:TypeId)(x:A)(lo hi:ah A)(k:A->ah X):ah X:=
 match x with
 |.lf (.own q)=>ot P σ t q none lo hi k
 |.view q _ 0 j=>ot P σ t q (some j) lo hi k
 |x=>yR P t x lo hi k
def abf{n:Nat}{q:aa Nat}{D:ah Nat}{lo hi:ah A}{y:V}{k:A -> ah X}(h:He n q D lo hi y k=some r):∃ (C:TC) (g:Nat) (E:Bool) (xs:aa (T C)) (l h:Int),y = .sl C g E xs/\n=aF C /\
  ((lo=none/\l=0) \/ ∃I,lo=some (.lf (.v (.int I l))))/\((hi=none/\h=((D.getD xs.length:Nat):Int)) \/ ∃I,hi=some (.lf (.v (.int I h))))/\0 <= l/\l <= h/\h <= (xs.length:Int)/\k (.view q n l.toNat h.toNat)=some r /\
  ∀(O:Type) (J:A -> ah O),He n q D lo hi y J=J (.view q n l.toNat h.toNat):=by
 unfold He at h;split at h
 ·rename_i C g E xs;split at h
  ·rename_i Q;obtain⟨l,U,d1,Y⟩:=DJ h;obtain⟨m,L,d2,Z⟩:=DJ U;split at L
   ·rename_i hb
    refine⟨C,g,E,xs,l,m,rfl,Q,Y,Z,hb.1,hb.2.1,hb.2.2,L,λO J=>?_⟩
    simp[He,bA Q];simp_all
   ·cases L
  ·cases h
 ·cases h
def abg{t:TypeId}{q:aa Nat}{U:ah Nat}{lo hi:ah A}{k:A -> ah X}(h:ot P σ t q U lo hi k=some r):∃ y,k y=some r /\
  ∀ aj ρ a w,Rl w0 N aj ρ σ a w -> ∀ (D:ah Addr) (n c C:Nat) (O E:ah Value),cN w aj ρ q=some (.slice D n c) -> C=U.getD n -> C <= n -> (∀ a,lo=some a -> ∃ v,O=some v/\RA w w0.heap.size aj ρ a v) -> (lo=none -> O=none) -> (∀ a,hi=some a -> ∃ v,E=some v/\RA w w0.heap.size aj ρ a v) -> (hi=none -> E=none) ->
   ∃t',(Instr.sliceAt t (.slice D C c) O E none).run P w = .ok t' w/\RA w w0.heap.size aj ρ y t':=by
 unfold ot at h;split at h
 ·rename_i e Y;split at h
  ·rename_i n hn;obtain⟨y0,UK,h2⟩:=sj q _ h;obtain⟨tc,g,qn,xs,l,m,rfl,AZ,e1,e2,b1,b2,b3,h3,_⟩:=abf h2
   refine⟨_,h3,λaj ρ a w hR D n' c C O E mI UL hle sr lV Nj DK=>?_⟩
   have bl:∀ {o:ah A} {I:ah Value} {n Z:Int},(∀ a,o=some a -> ∃ v,I=some v/\RA w w0.heap.size aj ρ a v) -> (o=none -> I=none) -> ((o=none/\n=Z) \/ ∃ J,o=some (.lf (.v (.int J n)))) -> (I=none/\n=Z) \/ ∃ J,I=some (.int J n):=by
    intro o I n Z g1 g2 g3;rcases g3 with ⟨e,e'⟩|⟨J,e⟩
    ·grind
    ·obtain⟨v,E,hr⟩:=g1 _ e;exact .inr ⟨J,by rw[E,hr.2.gE]⟩
   have h5:=bl sr lV e1;have h6:=bl Nj DK e2;have iO:P.underlying t=some (.slice e):=by
    unfold qb at Y;split at Y
    ·grind
    ·cases Y
   have jb:P.elem t=e:=by simp[Program.elem,iO]
   have L:P.underlying t=some (.slice (P.elem t)):=by rw[jb];exact iO
   have Q:(sizeOf (P.elem t)).run P w = .ok n w:=by
    unfold jm at hn;cases hi:P.info? e with
    |none=>grind
    | some i=>
     have:i.size=n:=by simpa [hi]using hn
     simp[sizeOf,typeInfo,jb,hi,this]
   obtain⟨v0,T,lY⟩:=UK.ok hR.root;rw[mI]at T;injection T with T;subst T;have hf:RV w 0 (λ_=>none) [] (.sl tc 0 qn xs) (.slice D n' c):=lY.gy;obtain⟨hp,DL,UJ⟩:=hf.part (a:=l.toNat) (h:=m.toNat) (by omega) (by omega) (by omega);have anf:((U.getD xs.length:Nat):Int)=(C:Int):=by rw[UL,DL]
   rw[anf]at h6;refine⟨sliced D l.toNat m.toNat c n,?_,D,n',c,mI,by omega,by omega,rfl⟩;rw[run_sliceAt_slice w t _ _ _ _ L];rcases h5 with ⟨rfl,rfl⟩|⟨kl,rfl⟩<;>rcases h6 with ⟨rfl,rfl⟩|⟨kh,rfl⟩
   ·rw[run_slice_all w t D C c L,Q];simp
   ·rw[run_slice_h w t D C c L kh m (by omega) (by omega),Q];simp
   ·rw[run_slice_l w t D C c L kl l (by omega) (by omega),Q];simp
   ·rw[run_slice_lh w t D C c L kl kh l m (by omega) (by omega) (by omega),Q];simp
  ·cases h
 ·cases h
def ang{t:TypeId}{x:A}{lo hi:ah A}{k:A -> ah X}(h:q8 P σ t x lo hi k=some r):∃ y,k y=some r /\
  ∀ aj ρ a w,Rl w0 N aj ρ σ a w -> ∀ (u:Value) (C D:ah Value),RA w w0.heap.size aj ρ x u -> (∀ a,lo=some a -> ∃ v,C=some v/\RA w w0.heap.size aj ρ a v) -> (lo=none -> C=none) -> (∀ a,hi=some a -> ∃ v,D=some v/\RA w w0.heap.size aj ρ a v) -> (hi=none -> D=none) ->
   ∃U,(Instr.sliceAt t u C D none).run P w = .ok U w/\RA w w0.heap.size aj ρ y U:=by
 unfold q8 at h;split at h
 ·rename_i q;obtain⟨y,E,I⟩:=abg h
  refine⟨y,E,λaj ρ a w hR u C D J L O Q T=>?_⟩
  have Y:∃ A n c,u = .slice A n c:=by
   have:=J.1;cases u<;>first|cases this;done|exact⟨_,_,_,rfl⟩
  obtain⟨A,n,c,rfl⟩:=Y;exact I aj ρ a w hR A n c n C D J.2 rfl (eK _) L O Q T
 ·rename_i q s j;obtain⟨y,E,I⟩:=abg h
  refine⟨y,E,λaj ρ a w hR u C D J L O Q T=>?_⟩
  obtain⟨A,n,c,Z,_,a2,rfl⟩:=J;have e:sliced A 0 j c s = .slice A j c:=by cases A<;>simp[sliced,Addr.add]
  rw[e];exact I aj ρ a w hR A n c j C D Z rfl a2 L O Q T
 ·obtain⟨y,E,_,I⟩:=abe h;exact⟨y,E,λaj ρ a w _ u C D=>I w _ aj ρ u C D⟩
end
abbrev Pt:=Bool×aa V
def PV(w:World)(B:Nat)(aj:bG)(key:Nat->aa Nat)(p:Pt)(u:Value):Prop:=
 ∃us:Array Value,(match p.1 with|true=>u = .agg us|false=>us = #[u])/\us.size=p.2.length/\∀(j:Nat) x,p.2[j]?=some x->∃v,us[j]?=some v/\RV w B aj (key j) x v
def yU(w:World)(cs:aa V)(u:Value):Prop:=
 ∃b off,u = .pointer (some ⟨b,off,none⟩)/\b<w.heap.size/\∀(j:Nat) x,cs[j]?=some x->∃v,w.cell? ⟨b,off+j,none⟩=some v/\RV w w.heap.size (λ_=>none) [] x v
inductive PA (w:World):Pt->Value->Prop
 |v (p:Pt) (u:Value) (h:PV w w.heap.size (λ_=>none) (λ_=>[]) p u):PA w p u
 |p (c:V) (cs:List V) (u:Value) (h:yU w (c::cs) u):PA w (false,.bool true::c::cs) u
 |f (g:Nat) (c:V) (cs:List V) (u:Value) (h:yU w (c::cs) u):PA w (false,.bool false::.int .i64 (g:Int)::c::cs) (.func (.func g) #[] #[u])
def uR(w:World)(args:aa Pt)(cc:Array Value):Prop:=
 cc.size=args.length/\∀(i:Nat) p,args[i]?=some p->∃u,cc[i]?=some u/\PA w p u
def PA.pv{w:World}{x:V}{u:Value}(h:PA w (false,[x]) u):PV w w.heap.size (λ_=>none) (λ_=>[]) (false,[x]) u:=by
 cases h with
 |v _ _ h=>exact h
def PA.pvS{w:World}{xs:aa V}{u:Value}(h:PA w (true,xs) u):PV w w.heap.size (λ_=>none) (λ_=>[]) (true,xs) u:=by
 cases h with
 |v _ _ h=>exact h
inductive fW where
 |one (p:Pt)
 |cR (ps:List Pt)
def yV(t:TC):Nat->Bool
 |0=>false
 |1=>true
 |o+2=>Nat.ble (full t) o ||Nat.beq (o % 2) 1
def V.loc:V->Bool
 |.sl t o _ _=>yV t o
 |_=>true
def jC(w:World)(B:Nat)(aj:bG)(nm:Nat->Nat):Nat->aa Pt->aa Value->Prop
 |_,[],[]=>True
 |off,p::ps,v::C=>(p.2.all V.loc=true/\PV w B aj (λj=>[nm (off+j)]) p v)/\jC w B aj nm (off+p.2.length) ps C
 |_,_,_=>False
def q9(w:World)(B:Nat)(aj:bG)(nm:Nat->Nat):fW->Value->Prop
 |.one p,v=>jC w B aj nm 0 [p] [v]
 |.cR ps,v=>∃C:Array Value,v = .tuple C/\jC w B aj nm 0 ps C.toList
structure jo where
 run:(X:Type)->List Pt->(fW->Option X)->Option X
def iP(P:Program)(f:Nat)(c:jo):Prop:=
 ∀ (X:Type) (args:aa Pt) (k:fW->ah X) (r:X),c.run X args k=some r->∃ C,k C=some r/\(∀ (D:Type) (E:fW->ah D),c.run D args E=E C)/\∀ (nm:Nat->Nat) (w:World) (cc:Array Value),uR w args cc->Hd w (λ_=>none)->
  Calls P f cc w λe w'=>∃v aE,e = .returned v/\Below w.heap.size w w'/\(∀b k,aE b=some k->w.heap.size<=b/\b<w'.heap.size/\k≠[])/\q9 w' w.heap.size aE nm C v
def qf{X:Type}(σ:S):aa Lf->(aa V->ah X)->ah X
 |[],k=>k []
 |x::xs,k=>iF σ x λy=>qf σ xs λys=>k (y.gy::ys)
def ou{X:Type}(σ:S)(x:A)(k:Pt->ah X):ah X:=
 match x with
 |.lf y=>qf σ [y] λC=>k (false,C)
 |.agg ys=>qf σ ys λC=>k (true,C)
 |.view q s i j=>tq σ q s i j λy=>k (false,[y])
 |.gW (c::cs)=>k (false,.bool true::c.gy::cs.map V.gy)
 |_=>none
def sv{X:Type}(σ:S)(x:A)(k:Pt->ah X):ah X:=
 match x with
 |.gW (c::cs)=>k (false,.bool true::c.gy::cs.map V.gy)
 |.kA f (c::cs)=>k (false,.bool false::.int .i64 (f:Int)::c.gy::cs.map V.gy)
 | .aG r j=>(match σ.m r with
  | some (.aB cs)=>qf σ (cs.drop j) λC=>(match C with
   |c::cs=>k (false,.bool true::c::cs)
   |[]=>none)
  |_=>none)
 | .fn f [(r,j)]=>(match σ.m r with
  | some (.aB cs)=>qf σ (cs.drop j) λC=>(match C with
   |c::cs=>k (false,.bool false::.int .i64 (f:Int)::c::cs)
   |[]=>none)
  |_=>none)
 |x=>ou σ x k
def qg{X:Type}(σ:S):aa Operand->(aa Pt->ah X)->ah X
 |[],k=>k []
 |x::xs,k=>sv σ (aI σ x) λp=>qg σ xs λps=>k (p::ps)
def mK{X:Type}(σ:S):aa Operand->(aa Pt->ah X)->ah X
 |[],k=>k []
 |x::xs,k=>ou σ (aI σ x) λp=>mK σ xs λps=>k (p::ps)
def lu(c:Nat):aa V->aa Lf
 |[]=>[]
 |x::xs=>(bif x.aD then .v x else .own [c])::lu (c+1) xs
def iH(c:Nat)(σ:S):aa V->S
 |[]=>σ
 |x::xs=>iH (c+1) (bif x.aD then σ else (σ.drop c).root c (.sl x)) xs
def ov(c:Nat):aa Pt->aa (Bool×aa Lf)
 |[]=>[]
 |p::ps=>(p.1,lu c p.2)::ov (c+p.2.length) ps
def lz(c:Nat)(σ:S):aa Pt->S
 |[]=>σ
 |p::ps=>lz (c+p.2.length) (iH c σ p.2) ps
def ri{X:Type}(N:Nat)(σ:S)(d:Nat)(c:jo)(args:aa Operand)(k:S->ah X):ah X:=
 bif Nat.blt d N then qg σ args λps=>c.run X ps λC=>(match C with
  | .one p=>(match so (p.1,lu (1000000000100000+1000*d) p.2)with
   |some y=>k ((iH (1000000000100000+1000*d) σ p.2).set d y)
   |none=>none)
  |.cR ps=>k ((lz (1000000000100000+1000*d) σ ps).set d (.cR (ov (1000000000100000+1000*d) ps))))else none
def yW{X:Type}(N:Nat)(σ:S)(d:Nat)(c:jo)(args:aa Operand)(k:S->ah X):ah X:=
 bif Nat.blt d N then mK σ args λps=>c.run X ps λC=>(match C with
  | .one p=>(match so (p.1,lu (1000000000100000+1000*d) p.2)with
   |some y=>k ((iH (1000000000100000+1000*d) σ p.2).set d y)
   |none=>none)
  |.cR ps=>k ((lz (1000000000100000+1000*d) σ ps).set d (.cR (ov (1000000000100000+1000*d) ps))))else none
section
variable {P:Program} {w w':World} {w0:Wd} {B N:Nat} {aj aE:bG} {ρ ρ':Nat->Loc} {σ:S} {a:Act} {X:Type} {d:Nat} {r:X} {o:Oper}
def Hf:∀ (xs:aa Lf) (k:aa V -> ah X),qf σ xs k=some r -> ∃ C,k C=some r/\C.length=xs.length /\ ∀ aj ρ a w,Rl w0 N aj ρ σ a w -> ∀ (j:Nat) x y u,xs[j]?=some x -> C[j]?=some y -> dA w w0.heap.size aj ρ x u -> RV w w.heap.size (λ_=>none) [] y u
 |[],k,h=>⟨[],h,rfl,λ_ _ _ _ _ j x y u I=>by simp at I⟩
 | x :: xs,k,h=>by
  obtain⟨y,J,L⟩:=UC h;obtain⟨ys,O,hl,U⟩:=Hf xs _ L
  refine⟨y.gy::ys,O,by simp[hl],λaj ρ a w hR j Y Z u D E Q=>?_⟩
  cases j with
  | zero=>
   simp at D E;subst D E;obtain⟨q,T⟩:=J aj ρ a w hR u Q;exact T.gy
  |succ j=>grind
def abh{D C:Nat}{cs:aa Lf}{E:aa V}(Q:σ.m D=some (.aB cs))(hl:E.length=(cs.drop C).length)
  (T:∀aj ρ a w,Rl w0 N aj ρ σ a w->∀(j:Nat) x y u,(cs.drop C)[j]?=some x->E[j]?=some y->dA w w0.heap.size aj ρ x u->RV w w.heap.size (λ_=>none) [] y u)
  {aj:bG} {ρ:Nat->Loc} {a:Act} {w:World} {u:Value} (hR:Rl w0 N aj ρ σ a w) (U:RA w w0.heap.size aj ρ (.aG D C) u):yU w E u:=by
 obtain⟨b,off,Y,rfl⟩:=U;cases hR.root D _ Q with
 | aB b' AX cells e _ us I lZ J hs Z=>
  rw[Y]at I;injection I with q1 q2;subst q1 q2
  refine⟨b,off+C,rfl,(gd.1 J).1,λj x L=>?_⟩
  have hj:j<(cs.drop C).length:=by rw[<-hl];exact(dW.1 L).1
  have O:=bX hj;have anh:cs[C+j]?=some (cs.drop C)[j]:=by rw[<-List.getElem?_drop];exact O
  obtain⟨k1,k2⟩:=Z _ _ anh;refine⟨us (C+j),?_,T aj ρ a w hR j _ x _ O L k2⟩;rw[Nat.add_assoc,cell_of_row w b _ cells _ _ J];exact k1
def UM{cs:aa V}{u:Value}(E:RF w B aj cs u):yU w (cs.map V.gy) u:=by
 obtain⟨b,off,rfl,I,Q,J⟩:=E
 refine⟨b,off,rfl,I,λj x C=>?_⟩
 rw[dz]at C;cases D:cs[j]? with
 |none=>simp_all
 | some y=>
  rw[D]at C;injection C with C;subst C;obtain⟨_,v,L,O⟩:=J j y D;exact⟨v,L,O.gy⟩
def abi{x:A}{k:Pt -> ah X}(h:ou σ x k=some r):∃ p,k p=some r /\ ∀ aj ρ a w,Rl w0 N aj ρ σ a w -> ∀ u,RA w w0.heap.size aj ρ x u -> PA w p u:=by
 unfold ou at h;split at h
 ·rename_i y;obtain⟨O,E,hl,J⟩:=Hf (w0:=w0) (N:=N) _ _ h
  refine⟨_,E,λaj ρ a w hR u C=>.v _ _ ⟨#[u],rfl,by simp[hl],λj x D=>?_⟩⟩
  have I:j=0:=by
   grind
  subst I;exact⟨u,rfl,J aj ρ a w hR 0 y x u rfl D C⟩
 ·rename_i ys;obtain⟨O,E,hl,J⟩:=Hf (w0:=w0) (N:=N) _ _ h
  refine⟨_,E,λaj ρ a w hR u C=>?_⟩
  obtain⟨us,rfl,L⟩:=C
  refine .v _ _ ⟨us,rfl,by rw[hl];exact L.1,λj x D=>?_⟩
  have I:j<ys.length:=by rw[<- hl];exact(dW.1 D).1
  obtain⟨v,T,U⟩:=L.2 j _ (bX I)
  grind
 ·obtain⟨z,E,_,Q⟩:=aaL h
  refine⟨_,E,λaj ρ a w hR u C=>.v _ _ ⟨#[u],rfl,rfl,λj x D=>?_⟩⟩
  cases j with
  | zero=>
   simp at D;subst D;exact⟨u,rfl,Q _ _ _ _ _ _ hR u C _⟩
  |succ j=>simp at D
 next c cs=>exact⟨_,h,λaj ρ a w hR u C=>.p _ _ _ (UM C)⟩
 ·cases h
def ani{x:A}{k:Pt -> ah X}(h:sv σ x k=some r):∃ p,k p=some r /\ ∀ aj ρ a w,Rl w0 N aj ρ σ a w -> ∀ u,RA w w0.heap.size aj ρ x u -> PA w p u:=by
 unfold sv at h;split at h
 ·rename_i c cs
  refine⟨_,h,λaj ρ a w hR u C=>?_⟩
  exact .p _ _ _ (UM C)
 ·rename_i f c cs
  refine⟨_,h,λaj ρ a w hR u C=>?_⟩
  obtain⟨pv,rfl,E⟩:=C;exact .f _ _ _ _ (UM E)
 ·rename_i O L;split at h
  ·rename_i cs I;obtain⟨Q,D,hl,J⟩:=Hf (w0:=w0) (N:=N) _ _ h;split at D
   ·rename_i c eV
    refine⟨_,D,λaj ρ a w hR u C=>?_⟩
    exact .p _ _ _ (abh I hl J hR C)
   ·cases D
  ·cases h
 ·rename_i f O L;split at h
  ·rename_i cs I;obtain⟨Q,D,hl,J⟩:=Hf (w0:=w0) (N:=N) _ _ h;split at D
   ·rename_i c eV
    refine⟨_,D,λaj ρ a w hR u C=>?_⟩
    obtain⟨ps,rfl,U,E⟩:=C;obtain⟨b,off,T,Y⟩:=E 0 _ rfl;have e:ps = #[.pointer (some ⟨b,off+L,none⟩)]:=by
     grind
    subst e;exact .f _ _ _ _ (abh I hl J hR ⟨b,off,T,rfl⟩)
   ·cases D
  ·cases h
 ·exact abi h
def abj:∀ (xs:aa Operand) (k:aa Pt -> ah X),qg σ xs k=some r -> ∃ ps,k ps=some r /\ ∀ aj ρ a w,Rl w0 N aj ρ σ a w -> uR w ps (xs.map a.eval).toArray
 |[],k,h=>⟨[],h,λ_ _ _ _ _=>⟨rfl,λi p C=>by simp at C⟩⟩
 | x :: xs,k,h=>by
  obtain⟨p,I,C⟩:=ani h;obtain⟨ps,J,E⟩:=abj xs _ I
  refine⟨p::ps,J,λaj ρ a w hR=>⟨?_,λi q D=>?_⟩⟩
  ·have:=(E aj ρ a w hR).1;simp_all
  ·cases i with
   | zero=>
    simp at D;subst D;exact⟨_,rfl,C aj ρ a w hR _ (hR.aI x)⟩
   | succ i=>
    obtain⟨u,L,O⟩:=(E aj ρ a w hR).2 i q (by simpa using D)
    grind
def UN:∀ (xs:aa Operand) (k:aa Pt -> ah X),mK σ xs k=some r -> ∃ ps,k ps=some r /\ ∀ aj ρ a w,Rl w0 N aj ρ σ a w -> uR w ps (xs.map a.eval).toArray
 |[],k,h=>⟨[],h,λ_ _ _ _ _=>⟨rfl,λi p C=>by simp at C⟩⟩
 | x :: xs,k,h=>by
  obtain⟨p,I,C⟩:=abi h;obtain⟨ps,J,E⟩:=UN xs _ I
  refine⟨p::ps,J,λaj ρ a w hR=>⟨?_,λi q D=>?_⟩⟩
  ·have:=(E aj ρ a w hR).1;simp_all
  ·cases i with
   | zero=>
    simp at D;subst D;exact⟨_,rfl,C aj ρ a w hR _ (hR.aI x)⟩
   | succ i=>
    obtain⟨u,L,O⟩:=(E aj ρ a w hR).2 i q (by simpa using D)
    grind
def abk{t:TC}{o:Nat}(h:yV t (o+2)=true)(x:T t):∀ y∈enc t o x,y.loc=true:=by
 intro y D;have I:=vW t o x y D;cases y with
 | sl E C q l=>
  have J:C=o:=by simpa [V.gr]using I
  subst J;have L:full E+2 <= full t:=cL (MP t C x _ D);show yV E C=true;simp only[yV,eB]at h;rcases h with h|h
  ·have h:=cL h
   match C,h with
   |0,h=>omega
   |1,h=>rfl
   | n+2,h=>
    simp only[yV,eB];left;exact iD (by omega)
  ·have h:=cD h
   match C,h with
   |0,h=>omega
   |1,h=>rfl
   | n+2,h=>
    simp only[yV,eB];simp_all
 |_=>rfl
def RV.home{q:aa Nat}{x:V}{v:Value}(h:RV w B aj q x v){B':Nat}(hB:B' <= B)(hl:∀ b,B <= b -> aE b=aj b)(Q:∀ b k,aj b=some k -> B <= b)(J:x.loc=true):RV w B' aE q x v:=by
 induction h with
 |int=>exact .int _ _ _
 |bool=>exact .bool _ _
 |str=>exact .str _ _
 |nil=>exact .nil _
 |cS=>exact .cS _ _ _
 |cZ=>exact .cZ _ _ _ _ _ (by first|assumption|omega)
 |de=>exact .de _ _ _ _ _ (by first|assumption|omega)
 | aD q t o T l b off cap u L D hb U Y E Z I=>
  have wB:o=1:=by
   match o,L,J with
   |1,_,_=>rfl
  subst wB;have O:=U rfl
  refine .aD _ _ _ _ _ _ _ _ u L ((hl b O).trans D) hb (λ_=>Nat.le_trans hB O) Y E (λi h j x C=>I i h j x C ?_)
  have:=vW t 1 l[i] x (fT C);cases x with
  | sl t' o' q' l'=>
   have:o'=1:=by simpa [V.gr]using this
   subst this;rfl
  |_=>rfl
 | own q t o T l b cap cs u D hh hs hn hm E Z I=>
  exact .own _ _ _ _ _ _ _ cs u ((hl b (Q b q D)).trans D) hh hs hn hm E (λi h j x C=>I i h j x C (abk J l[i] x (fT C)))
def UO:∀ (xs:aa V) (c:Nat) (σ:S) (ρ:Nat -> Loc) (us:aa Value),60000 <= c -> Rl w0 N aj ρ σ a w -> us.length=xs.length -> (∀ (j:Nat) x u,xs[j]?=some x -> us[j]?=some u -> RV w w0.heap.size aj [c+j] x u) ->
  ∃ρ',Rl w0 N aj ρ' (iH c σ xs) a w/\(∀r,r<c -> ρ' r=ρ r) /\ ∀(j:Nat) x u,(lu c xs)[j]?=some x -> us[j]?=some u -> dA w w0.heap.size aj ρ' x u
 |[],c,σ,ρ,us,_,h,hl,E=>⟨ρ,h,λ_ _=>rfl,λj x u T=>by simp[lu]at T⟩
 | x :: xs,c,σ,ρ,us,Z,h,hl,E=>by
  cases us with
  |nil=>simp at hl
  | cons u us=>
   have J:=E 0 x u rfl rfl;rw[Nat.add_zero]at J;have Y:∀ (j:Nat) L O,xs[j]?=some L -> us[j]?=some O -> RV w w0.heap.size aj [c+1+j] L O:=λj L O T hu=>by
    have:=E (j+1) L O (by simpa using T) (by simpa using hu)
    grind
   cases C:x.aD with
   | true=>
    obtain⟨ρ',U,Q,wC⟩:=UO xs (c+1) σ ρ us (by omega) h (by simpa using hl) Y
    refine⟨ρ',?_,λr E=>Q r (by omega),λj y v D I=>?_⟩
    ·simp[iH,C];exact U
    ·simp only[lu,C,ak]at D;cases j with
     | zero=>
      simp at D I;subst D I;exact⟨C,J.key C⟩
     |succ j=>grind
   | false=>
    have gi:=J.Uc C;obtain⟨ρ',U,Q,wC⟩:=UO xs (c+1) _ _ us (by omega) (h.new (d:=c) (x:=.sl x) (.dM u) (.sl u x (ck _ _ _) J) (h.dx c (.inr Z))) (by simpa using hl) Y
    refine⟨ρ',?_,λr E=>?_,λj y v D I=>?_⟩
    ·simp[iH,C];exact U
    ·rw[Q r (by omega)];exact cB _ _ _ (by omega)
    ·simp only[lu,C,au]at D;cases j with
     | zero=>
      simp at D I;subst D I;refine⟨gi,?_⟩;have:ρ' c = .dM u:=by rw[Q c (by omega)];exact ck _ _ _
      simp[cN,this]
     |succ j=>grind
def anj(xs:aa V):∀ c,(lu c xs).length=xs.length:=by
 induction xs with
 |nil=>intro c;rfl
 |cons x xs C=>intro c;simp[lu,C]
end
def enters(P:Program)(f:Nat):Prop:=∃fn,P.funcs[f]?=some fn/\(fn.name == "runtime.NumGoroutine")=false/\fn.body.isNone=false
/-! What a function gives back. -/
def Nk:A->ah (Bool×aa Lf)
 |.lf x=>some (false,[x])
 |.agg xs=>some (true,xs)
 |_=>none
def rj{X:Type}(P:Program)(σ:S):aa ResultVar->(aa (Bool×aa Lf)->ah X)->ah X
 |[],k=>k []
 | .tmp t :: rest,k=>(match Nk (σ.t t)with
  |some p=>rj P σ rest λps=>k (p::ps)
  |none=>none)
 | .cell p ty :: rest,k=>jn P σ ty (σ.t p) λx=>(match Nk x with
  |some p=>rj P σ rest λps=>k (p::ps)
  |none=>none)
def UP(m:Nat->ah aY):Lf->ah (V×ah Nat)
 |.v x=>bif x.loc&&x.aD then some (x,none)else none
 | .own [r]=>match m r with
  |some (.sl y)=>bif y.loc then some (y,some r)else none
  |_=>none
 |_=>none
def Hg(m:Nat->ah aY)(off:Nat):aa Lf->ah (aa V×aa (Nat×Nat))
 |[]=>some ([],[])
 | x :: xs=>match UP m x,Hg m (off+1) xs with
  |some (y,none),some (ys,rs)=>some (y::ys,rs)
  |some (y,some r),some (ys,rs)=>some (y::ys,(r,off)::rs)
  |_,_=>none
def DM(m:Nat->ah aY)(off:Nat):aa (Bool×aa Lf)->ah (aa Pt×aa (Nat×Nat))
 |[]=>some ([],[])
 | p :: ps=>match Hg m off p.2,DM m (off+p.2.length) ps with
  |some (C,rs),some (D,E)=>some ((p.1,C)::D,rs++E)
  |_,_=>none
def once(rs:aa (Nat×Nat)):Bool:=rs.all λp=>(rs.lookup p.1).any λn=>Nat.beq n p.2
def Hh{X:Type}(P:Program)(σ:S)(fn:Array ResultVar)(k:fW->ah X):ah X:=
 rj P σ fn.toList λps=>match DM σ.m 0 ps with
  | some (qs,rs)=>bif once rs then (match qs with
   |[p]=>k (.one p)
   |qs=>k (.cR qs))else none
  |none=>none
section
variable {P:Program} {w w':World} {w0:Wd} {B N:Nat} {aj aE:bG} {ρ ρ':Nat->Loc} {σ:S} {a:Act} {X:Type} {d:Nat} {r:X} {o:Oper}
def abl:∀ (xs:aa V) (c:Nat) (j:Nat) x u,(lu c xs)[j]?=some x -> dA w B aj ρ x u -> (∀ r,r<c+xs.length -> ρ' r=ρ r) -> dA w B aj ρ' x u
 |[],c,j,x,u,D,_,_=>by simp[lu]at D
 | y :: ys,c,j,x,u,D,C,E=>by
  cases j with
  | zero=>
   simp[lu,List.getElem?_cons_zero,iE]at D;subst D;cases I:y.aD with
   |true=>rw[I]at C;simp;exact C
   | false=>
    rw[I]at C;refine⟨C.1,?_⟩;have:=C.2;simp[cN,E c (by simp)]at this ⊢;exact this
  | succ j=>
   exact abl ys _ j x u D C (λr h=>E r (by simp;omega))
def PV.cells{key:Nat -> aa Nat}{p:Pt}{u:Value}(h:PV w B aj key p u):∃ us:aa Value,us.length=p.2.length/\(∀ (j:Nat) x v,p.2[j]?=some x -> us[j]?=some v -> RV w B aj (key j) x v) /\
  ∀(ρ:Nat -> Loc) (C:aa Lf),C.length=p.2.length -> (∀(j:Nat) x v,C[j]?=some x -> us[j]?=some v -> dA w B aj ρ x v) -> RP w B aj ρ (p.1,C) u:=by
 obtain⟨us,D,E,Q⟩:=h;obtain⟨b,xs⟩:=p
 refine⟨us.toList,by simpa using E,λj x v I T=>?_,λρ C hl O=>?_⟩
 ·grind
 ·have J:dQ w B aj ρ C us:=⟨by rw[E,hl],λj x I=>by
   have L:j<us.size:=by rw[E,<- hl];exact(dW.1 I).1
   exact⟨us[j],Array.getElem?_eq_getElem L,O j x _ I (by rw[Array.getElem?_toList,Array.getElem?_eq_getElem L])⟩⟩
  cases b with
  |true=>exact⟨us,D,J⟩
  |false=>have D:=D;subst D;exact J
def Hi:∀ (ps:aa Pt) (c0 off:Nat) (σ:S) (ρ:Nat -> Loc) (C:aa Value),60000 <= c0 -> Rl w0 N aj ρ σ a w -> jC w w0.heap.size aj (λn=>c0+n) off ps C ->
  ∃ρ',Rl w0 N aj ρ' (lz (c0+off) σ ps) a w/\(∀r,r<c0+off -> ρ' r=ρ r)/\C.length=(ov (c0+off) ps).length /\ ∀(i:Nat) p v,(ov (c0+off) ps)[i]?=some p -> C[i]?=some v -> RP w w0.heap.size aj ρ' p v
 | [],c0,off,σ,ρ,C,_,h,D=>by
  cases C with
  |nil=>exact⟨ρ,h,λ_ _=>rfl,rfl,λi p v L=>by simp[ov]at L⟩
  |cons v C=>exact D.elim
 | p :: ps,c0,off,σ,ρ,C,U,h,D=>by
  cases C with
  |nil=>exact D.elim
  | cons v C=>
   obtain⟨⟨_,L⟩,D⟩:=D;obtain⟨us,hl,Y,Z⟩:=L.cells;obtain⟨DN,h1,UQ,wC⟩:=UO p.2 (c0+off) σ ρ us (by omega) h hl (λj x u I E=>by
    have:RV w _ aj [c0+(off+j)] x u:=Y j x u I E;rw[<- Nat.add_assoc]at this;exact this)
   obtain⟨eD,Q,O,hlen,T⟩:=Hi ps c0 (off+p.2.length) (iH (c0+off) σ p.2) DN C U h1 D;rw[<- Nat.add_assoc]at Q O hlen T
   refine⟨eD,Q,λr D=>(O r (by omega)).trans (UQ r D),by simp[ov,hlen],λi q u J E=>?_⟩
   cases i with
   | zero=>
    simp[ov,List.getElem?_cons_zero,iE]at J E;subst J E
    refine Z eD _ (anj _ _) (λj x u I E=>abl p.2 _ j x u I (wC j x u I E) O)
   | succ i=>
    simp[ List.getElem?_cons_succ]at J E;exact T i q u J E
def jC.home{nm:Nat -> Nat}:∀ (ps:aa Pt) (off:Nat) (C:aa Value) {B':Nat},jC w B aj nm off ps C -> B' <= B -> (∀ b,B <= b -> aE b=aj b) -> (∀ b k,aj b=some k -> B <= b) -> jC w B' aE nm off ps C
 |[],_,[],_,h,_,_,_=>h
 | p :: ps,off,v :: C,B',h,hB,hl,D=>by
  obtain⟨⟨E,us,J,L,O⟩,Q⟩:=h
  refine⟨⟨E,us,J,L,λj x I=>?_⟩,jC.home ps _ C Q hB hl D⟩
  obtain⟨T,U,Y⟩:=O j x I;exact⟨T,U,Y.home hB hl D (cI.1 E x (fT I))⟩
def Nl(w:World)(o:Oper)(a:Act)(f:Nat)(args:Array Operand)(D:Array TypeId)(E:o.op = .call { callee:=.value (.func f),args,argTypes:=D })(I:enters P f):(execOp a.eval o).run P w = .ok (.enter f (args.map a.eval)) w:=by
 obtain⟨fn,J,L,C⟩:=I;have O:¬ fn.name = "runtime.NumGoroutine":=by simpa using L
 have Q:¬ fn.body=none:=by intro e;rw[e]at C;cases C
 simp[execOp,E,resolve,Act.eval,Deferred.ofValue,invoke,callFunc,Sem.run,J,O,Q]
def abm{f:Nat}{args:Array Operand}{jq:Array TypeId}{c:jo}{k:S -> ah X}(ho:o.op = .call { callee:=.value (.func f),args,argTypes:=jq })(hd:o.dst=some d)(he:enters P f)(hc:iP P f c)(DO:d<N){ps:aa Pt}(mL:∀ aj ρ a w,Rl w0 N aj ρ σ a w -> uR w ps (args.toList.map a.eval).toArray)
  (h2:(c.run X ps λE=>(match E with
  | .one p=>(match so (p.1,lu (1000000000100000+1000*d) p.2)with
   |some y=>k ((iH (1000000000100000+1000*d) σ p.2).set d y)
   |none=>none)
  |.cR ps=>k ((lz (1000000000100000+1000*d) σ ps).set d (.cR (ov (1000000000100000+1000*d) ps)))))=some r):∃dR,k dR=some r/\lS P w0 N o σ dR:=by
 obtain⟨E,I,_,Hj⟩:=hc X ps _ r h2;have step:∀ a w K Q aj ρ,Rl w0 N aj ρ σ a w -> (∀ v w' aE,Below w.heap.size w w' -> Rl w0 N aE ρ σ a w' -> q9 w' w0.heap.size aE (λn=>1000000000100000+1000*d+n) E v -> K (a.put o.dst v) w') -> o.wp P a w K Q:=by
  intro a w K Q aj ρ hR J;unfold Oper.wp;rw[Nl w o a f args jq ho he,Oper.upon_enter];have wD:(args.map a.eval)=(args.toList.map a.eval).toArray:=by apply Array.ext';rw[Array.toList_map]
  rw[wD]
  refine(Hj (λn=>1000000000100000+1000*d+n) w _ (mL aj ρ a w hR) (w0.on hR.below (λ_ _ h=>by cases h))).mono λe w' rm=>?_
  obtain⟨v,DP,rfl,L,lZ,C⟩:=rm;have hB:=hR.below.size;let dg:bG:=λb=>if b<w.heap.size then aj b else DP b
  have e1:∀b,b<w.heap.size -> dg b=aj b:=λb hb=>bA hb
  have e2:∀b,w.heap.size <= b -> dg b=DP b:=λb hb=>bM
  refine J v w' dg L (hR.grow L e1 (λb k hb O=>?_)) ?_
  ·grind
  ·cases E with
   |one p=>exact jC.home [p] 0 [v] C hB e2 (λb k O=>(lZ b k O).1)
   | cR T=>
    obtain⟨D,e,U⟩:=C;exact⟨D,e,jC.home T 0 _ U hB e2 (λb k O=>(lZ b k O).1)⟩
 cases E with
 | one p=>
  simp only at I;split at I
  ·rename_i y hy
   refine⟨_,I,λa w K Q hR J=>?_⟩
   obtain⟨aj,ρ,hR⟩:=hR
   refine step a w K Q aj ρ hR λv w' aE L Y C=>?_
   obtain⟨ρ',Z,_,_,qh⟩:=Hi [p] (1000000000100000+1000*d) 0 σ ρ [v] (by omega) Y C;rw[hd];have UR:=qh 0 _ v rfl rfl;exact J _ _ ⟨aE,ρ',Z.set (Up hy UR) DO⟩
  ·cases I
 | cR T=>
  refine⟨_,I,λa w K Q hR J=>?_⟩
  obtain⟨aj,ρ,hR⟩:=hR
  refine step a w K Q aj ρ hR λv w' aE L Y C=>?_
  obtain⟨D,rfl,U⟩:=C;obtain⟨ρ',Z,_,hlen,qh⟩:=Hi T (1000000000100000+1000*d) 0 σ ρ D.toList (by omega) Y U;rw[hd]
  refine J _ _ ⟨aE,ρ',Z.set ⟨D,rfl,by simpa using hlen,λj p hp=>?_⟩ DO⟩
  have hj:j<D.size:=by
   grind
  exact⟨D[j],Array.getElem?_eq_getElem hj,qh j p _ hp (by rw[Array.getElem?_toList,Array.getElem?_eq_getElem hj])⟩
def ank{f:Nat}{args:Array Operand}{E:Array TypeId}{c:jo}{k:S -> ah X}(I:o.op = .call { callee:=.value (.func f),args,argTypes:=E })(J:o.dst=some d)(L:enters P f)(O:iP P f c)(h:yW N σ d c args.toList k=some r):∃ C,k C=some r/\lS P w0 N o σ C:=by
 unfold yW at h;cases D:Nat.blt d N with
 |false=>simp_all
 | true=>
  rw[D]at h;obtain⟨ps,Q,T⟩:=UN _ _ h;exact abm I J L O (cL D) T Q
def anl{f:Nat}{args:Array Operand}{E:Array TypeId}{c:jo}{k:S -> ah X}(I:o.op = .call { callee:=.value (.func f),args,argTypes:=E })(J:o.dst=some d)(L:enters P f)(O:iP P f c)(h:ri N σ d c args.toList k=some r):∃ C,k C=some r/\lS P w0 N o σ C:=by
 unfold ri at h;cases D:Nat.blt d N with
 |false=>simp_all
 | true=>
  rw[D]at h;obtain⟨ps,Q,T⟩:=abj _ _ h;exact abm I J L O (cL D) T Q
end
def eG(aj:bG)(rs:aa (Nat×Nat))(nm:Nat->Nat):bG:=λb=>
 match aj b with
 |none=>none
 | some k=>match k.getLast? with
  |none=>none
  |some r=>(rs.lookup r).map λn=>k.dropLast++[nm n]
section
variable {P:Program} {w w':World} {w0:Wd} {B N:Nat} {aj aE:bG} {ρ ρ':Nat->Loc} {σ:S} {a:Act} {X:Type} {d:Nat} {r:X} {rs:aa (Nat×Nat)} {nm:Nat->Nat}
def RV.Hl{q:aa Nat}{x:V}{v:Value}(h:RV w B aj q x v)(L:x.aD=true)(hl:∀ b,aj b=none->aE b=none):RV w B aE q x v:=by
 induction h with
 |int=>exact .int _ _ _
 |bool=>exact .bool _ _
 |str=>exact .str _ _
 |nil=>exact .nil _
 |cS=>exact .cS _ _ _
 |cZ=>exact .cZ _ _ _ _ _ (by first|assumption|omega)
 |de=>exact .de _ _ _ _ _ (by first|assumption|omega)
 | aD q t o O l b off cap u C D hb Q T E U I=>
  exact .aD _ _ _ _ _ _ _ _ u C (hl b D) hb Q T E (λi h j x J=>I i h j x J (jB t o l[i] C j x J))
 |own q t o O l b cap cs u D Y Z hn hm E U I=>simp[V.aD]at L;omega
def wE{b:Nat}(h:aj b=none):eG aj rs nm b=none:=by simp[eG,h]
def RV.eG{p:aa Nat}{r n:Nat}{x:V}{v:Value}(h:RV w B aj (p++[r]) x v)(O:rs.lookup r=some n):RV w B (eG aj rs nm) (p++[nm n]) x v:=by
 generalize Q:p++[r]=q at h
 induction h generalizing p with
 |int=>exact .int _ _ _
 |bool=>exact .bool _ _
 |str=>exact .str _ _
 |nil=>exact .nil _
 |cS=>exact .cS _ _ _
 |cZ=>exact .cZ _ _ _ _ _ (by first|assumption|omega)
 |de=>exact .de _ _ _ _ _ (by first|assumption|omega)
 | aD q t o T l b off cap u I D hb U Y E J L=>
  exact .aD _ _ _ _ _ _ _ _ u I (wE D) hb U Y E (λi h j x C=>(J i h j x C).Hl (jB t o l[i] I j x C) (λb=>wE))
 | own q t o T l b cap cs u D Z hs hn hm E J L=>
  subst Q
  refine .own _ _ _ _ _ _ _ cs u ?_ Z hs hn hm E (λi h j x C=>L i h j x C (p:=j::i::aF t::p) rfl)
  simp[Proofs.YtglnbhiaknohlaaGreat.eG,D,O]
def US{m:Nat -> ah aY}:∀ (xs:aa Lf) (off:Nat) (ys:aa V) (E:aa (Nat×Nat)),Hg m off xs=some (ys,E) -> ys.length=xs.length /\ ∀ (j:Nat) x,xs[j]?=some x -> ∃ y,ys[j]?=some y/\y.loc=true/\((x = .v y/\y.aD=true) \/ ∃ r,x = .own [r]/\m r=some (.sl y)/\(r,off+j)∈E)
 | [],off,ys,E,h=>by
  simp only[Hg,iE,Prod.mk.injEq]at h;obtain⟨rfl,rfl⟩:=h;exact⟨rfl,λj x C=>by simp at C⟩
 | x :: xs,off,ys,E,h=>by
  have T:∀ y z,UP m x=some (y,z) -> y.loc=true/\((z=none/\x = .v y/\y.aD=true) \/ ∃ r,z=some r/\x = .own [r]/\m r=some (.sl y)):=by
   intro y z D;unfold UP at D
   grind
  unfold Hg at h;split at h
  ·rename_i y I J L O;simp only[iE,Prod.mk.injEq]at h;obtain⟨rfl,rfl⟩:=h;obtain⟨Q,U⟩:=US xs (off+1) I J O
   refine⟨by simp[Q],λj Y C=>?_⟩
   cases j with
   | zero=>
    simp at C;subst C;obtain⟨hl,D|⟨r,D,_⟩⟩:=T y none L
    ·simp_all
    ·cases D
   |succ j =>grind
  ·rename_i y r I J L O;simp only[iE,Prod.mk.injEq]at h;obtain⟨rfl,rfl⟩:=h;obtain⟨Q,U⟩:=US xs (off+1) I J O
   refine⟨by simp[Q],λj Y C=>?_⟩
   cases j with
   | zero=>
    simp at C;subst C;obtain⟨hl,D|⟨Z,D,e1,e2⟩⟩:=T y (some r) L
    ·cases D.1
    ·simp_all
   |succ j =>grind
  ·cases h
def UT{m:Nat -> ah aY}(hm:∀ r x,m r=some x -> eF w B aj ρ r x):∀ (ps:aa (Bool×aa Lf)) (off:Nat) (I:aa Pt) (J:aa (Nat×Nat)) (C:aa Value),DM m off ps=some (I,J) -> (∀ p∈J,rs.lookup p.1=some p.2) -> C.length=ps.length ->
  (∀(i:Nat) p v,ps[i]?=some p -> C[i]?=some v -> RP w B aj ρ p v) -> jC w B (eG aj rs nm) nm off I C
 | [],off,I,J,C,h,_,hl,_=>by
  have:C=[]:=List.eq_nil_of_length_eq_zero hl;subst this;simp only[DM,iE,Prod.mk.injEq]at h;obtain⟨rfl,rfl⟩:=h;trivial
 | p :: ps,off,I,J,C,h,nK,hl,hp=>by
  cases C with
  |nil=>simp at hl
  | cons v C=>
   unfold DM at h;split at h
   ·rename_i ys rs1 qs' rs2 h1 h2;simp only[iE,Prod.mk.injEq]at h;obtain⟨rfl,rfl⟩:=h;obtain⟨hlen,Mx⟩:=US _ _ _ _ h1;have Ni:=UT hm ps _ qs' rs2 C h2 (λq U=>nK q (List.mem_append_right _ U)) (by simpa using hl) (λi q u U Y=>hp (i+1) q u (by simpa using U) (by simpa using Y));have yX:=hp 0 p v rfl rfl;have key:∀ us:Array Value,dQ w B aj ρ p.2 us -> (us.size=ys.length /\ ∀ (j:Nat) x,ys[j]?=some x -> ∃ u,us[j]?=some u/\RV w B (eG aj rs nm) [nm (off+j)] x u):=by
     intro us L
     refine⟨by rw[hlen];exact L.1,λj y O=>?_⟩
     have Q:j<p.2.length:=by rw[<- hlen];exact(dW.1 O).1
     obtain⟨y',E,DQ,hz⟩:=Mx j _ (bX Q);rw[O]at E;injection E with E;subst E;obtain⟨u,Y,T⟩:=L.2 j _ (bX Q);refine⟨u,Y,?_⟩;rcases hz with ⟨e,hf⟩|⟨r,e,hmr,yY⟩
     ·rw[e]at T;exact(T.2.Hl hf (λb=>wE)).key hf
     ·rw[e]at T;have gF:=hm r _ hmr;generalize D:aY.sl y=z at gF;cases gF with
      |aB=>cases D
      |mp=>cases D
      |gh=>cases D
      | sl v' y' dj nI=>
       injection D with D;subst D;have UU:v'=u:=by
        have h4:=T.2;simp only[cN,dj]at h4;simp_all
       subst UU;exact RV.eG (p:=[]) nI (nK (r,off+j) (List.mem_append_left _ yY))
    refine⟨⟨?_,?_⟩,?_⟩
    ·rw[cI];intro y O;obtain⟨j,Q⟩:=List.mem_iff_getElem?.1 O;have v5:j<p.2.length:=by rw[<- hlen];exact(dW.1 Q).1
     obtain⟨y',E,DQ,_⟩:=Mx j _ (bX v5);simp_all
    ·obtain⟨b,xs⟩:=p;cases b with
     | true=>
      obtain⟨us,e,L⟩:=yX;obtain⟨Z,k2⟩:=key us L;exact⟨us,e,Z,k2⟩
     | false=>
      obtain⟨Z,k2⟩:=key #[v] yX;exact⟨#[v],rfl,Z,k2⟩
    ·grind
   ·cases h
def anm{t:TypeId}{x:A}{k:A->ah X}(h:jn P σ t x k=some r){u:Value}(C:RA w B aj ρ x u):∃ ad,u = .pointer (some ad):=by
 unfold jn at h;split at h
 ·cases h
 ·split at h
  ·obtain⟨b,off,_,rfl⟩:=C;exact⟨_,rfl⟩
  ·obtain⟨b,off,rfl,_⟩:=C;exact⟨_,rfl⟩
  ·obtain⟨ad,rfl,_⟩:=C;exact⟨_,rfl⟩
  ·cases h
def abn{x:A}{p:Bool×aa Lf}(h:Nk x=some p){u:Value}(D:RA w B aj ρ x u):RP w B aj ρ p u:=by
 unfold Nk at h;split at h
 ·injection h with h;subst h
  refine⟨rfl,λj y C=>?_⟩
  cases j with
  |zero=>simp at C;subst C;exact⟨u,rfl,D⟩
  |succ j=>simp at C
 ·injection h with h;subst h;exact D
 ·cases h
def rq(tmps:Array Value):ResultVar->Sem Value
 |.tmp t=>pure (tmps.getD t undef)
 |.cell a t=>do loadVar t (<-asAddr (tmps.getD a undef))
def Ho:∀ (l:aa ResultVar) (k:aa (Bool×aa Lf) -> ah X),rj P σ l k=some r -> ∃ ps,k ps=some r /\ ∀ aj ρ a w,Rl w0 N aj ρ σ a w -> ∃ C,(l.mapM (rq a.tmps)).run P w = .ok C w/\C.length=ps.length /\ ∀ (i:Nat) p v,ps[i]?=some p -> C[i]?=some v -> RP w w0.heap.size aj ρ p v
 |[],k,h=>⟨[],h,λ_ _ _ _ _=>⟨[],rfl,rfl,λi p v D=>by simp at D⟩⟩
 | .tmp t :: rest,k,h=>by
  simp only[rj]at h;split at h
  ·rename_i p D;obtain⟨ps,L,O⟩:=Ho rest _ h
   refine⟨p::ps,L,λaj ρ a w hR=>?_⟩
   obtain⟨C,Q,hl,Y⟩:=O aj ρ a w hR
   refine⟨a.tmps.getD t undef::C,?_,by simp[hl],λi q u E I=>?_⟩
   ·rw[List.mapM_cons];simp[rq,Sem.run_pure,ki,fm,Q]
   ·cases i with
    |zero=>simp only[List.getElem?_cons_zero,iE]at E I;subst E I;exact abn D (hR.tmp t)
    |succ i=>grind
  ·cases h
 | .cell c ty :: rest,k,h=>by
  simp only[rj]at h;obtain⟨y,T,Z⟩:=aaN (w0:=w0) (N:=N) h;split at T
  ·rename_i p D;obtain⟨ps,L,O⟩:=Ho rest _ T
   refine⟨p::ps,L,λaj ρ a w hR=>?_⟩
   obtain⟨C,Q,hl,Y⟩:=O aj ρ a w hR;obtain⟨v,J,wA⟩:=Z aj ρ a w hR _ (hR.tmp c);obtain⟨ad,U⟩:=anm h (hR.tmp c);rw[U]at J;have J:(loadVar ty ad).run P w = .ok v w:=by
    simpa [Instr.loadAt,Instr.sureAddr]using J
   refine⟨v::C,?_,by simp[hl],λi q u E I=>?_⟩
   ·rw[List.mapM_cons];simp[rq,U,asAddr,Sem.run_pure,ki,fm,Q,J]
   ·cases i with
    |zero=>simp at E I;subst E I;exact abn D wA
    |succ i=>grind
  ·cases T
def ann{fn:Func}{k:fW -> ah X}(h:Hh P σ fn.results k=some r):∃ U,k U=some r /\ ∀ aj ρ a w,Rl w0 N aj ρ σ a w -> ∀ nm,∃ v aE,(results fn a.tmps).run P w = .ok v w/\(∀ b k,aE b=some k -> (w0.heap.size <= b \/ w0.L b≠none)/\b<w.heap.size/\k≠[])/\q9 w w0.heap.size aE nm U v:=by
 unfold Hh at h;obtain⟨ps,I,qh⟩:=Ho (w0:=w0) (N:=N) _ _ h;clear h;split at I
 ·rename_i O rs UW;cases Y:once rs with
  |false=>grind
  | true=>
   rw[Y,ak]at I;have nK:∀ p∈rs,rs.lookup p.1=some p.2:=by
    intro p hp;have:=cI.1 Y p hp;obtain⟨n,hn,he⟩:=(Option.any_eq_true _ _).1 this;simp_all
   have core:∀ aj ρ a w,Rl w0 N aj ρ σ a w -> ∀ nm:Nat -> Nat,∃ C:aa Value,(fn.results.mapM (rq a.tmps)).run P w = .ok C.toArray w/\(∀ b k,eG aj rs nm b=some k -> (w0.heap.size <= b \/ w0.L b≠none)/\b<w.heap.size/\k≠[])/\jC w w0.heap.size (eG aj rs nm) nm 0 O C:=by
    intro aj ρ a w hR nm;obtain⟨C,J,hl,hv⟩:=qh aj ρ a w hR
    refine⟨C,?_,λb k E=>?_,UT hR.root ps 0 O rs C UW nK hl hv⟩
    ·rw[Array.mapM_eq_mapM_toList];simp[J]
    ·unfold eG at E;split at E
     ·cases E
     ·rename_i k' tv;have:=hR.cX b k' tv;split at E
      ·cases E
      ·cases Z:rs.lookup _ with
       |none=>rw[Z]at E;cases E
       | some n=>
        rw[Z]at E;injection E with E;subst E;simp_all
   have jO:∀ (tmps:Array Value),results fn tmps=(do let C <- fn.results.mapM (rq tmps);pure (if h:C.size=1 then C[0]else .tuple C)):=λtmps=>by
    unfold results;congr 1
   split at I
   ·rename_i p
    refine⟨_,I,λaj ρ a w hR nm=>?_⟩
    obtain⟨C,J,Q,D⟩:=core aj ρ a w hR nm
    match C,D with
    |[v],D=>exact⟨v,_,by rw[jO,fm,J];rfl,Q,D⟩
    |[],D=>exact D.elim
    |_::_::_,D=>exact D.2.elim
   ·rename_i T
    refine⟨_,I,λaj ρ a w hR nm=>?_⟩
    obtain⟨C,J,Q,D⟩:=core aj ρ a w hR nm;have ga:C.toArray.size≠1:=by
     intro e
     match O,C,D,T with
     |[q],[v],_,T=>exact T q rfl
     |[],[v],D,_=>exact D.elim
     |_::_::_,[v],D,_=>exact D.2.elim
    refine⟨.tuple C.toArray,_,?_,Q,C.toArray,rfl,D⟩;rw[jO,fm,J,ki];simp only[ga,dif_neg,not_false_eq_true,Sem.run_pure]
 ·cases I
end
inductive In where
 |aB (cs:List V)
 |sl (y:V)
def nF(i:Nat):Nat:=20000+1000*i
def nC(i j:Nat)(x:V):Nat:=bif x.aD then 20001+1000*i+j else 60000+1000*i+j
def yZ(i j:Nat)(x:V):Lf:=bif x.plain then .v x else .own [nC i j x]
def za(i:Nat):Nat->aa V->aa Lf
 |_,[]=>[]
 |j,x::xs=>yZ i j x::za i (j+1) xs
def UX(i:Nat):Nat->aa V->(Nat->ah aY)->(Nat->ah aY)
 |_,[],m=>m
 |j,x::xs,m=>UX i (j+1) xs (bif x.plain then m else bW m (nC i j x) (some (.sl x)))
def Nm:Nat->aa In->(Nat->ah aY)->(Nat->ah aY)
 |_,[],m=>m
 |i,.aB cs::r,m=>Nm (i+1) r (UX i 0 cs (bW m (nF i) (some (.aB (za i 0 cs)))))
 |i,.sl y::r,m=>Nm (i+1) r (bW m (nF i) (some (.sl y)))
inductive Ar where
 |pt (p:Pt)
 |mut (i off:Nat)
def UY(C:aa In):Ar->A
 |.pt (false,[x])=>.lf (.v x)
 |.pt (true,xs)=>.agg (xs.map .v)
 |.pt (false,.bool false::.int .i64 g::c::cs)=>.kA g.toNat (c::cs)
 |.pt _=>.undef
 | .mut i off=>match C[i]? with
  |some (.aB _)=>.aG (nF i) off
  |some (.sl _)=>.lf (.own [nF i])
  |none=>.undef
def wF(C:aa In)(args:aa Ar):S:=⟨λk=>match args[k]? with
 |some x=>UY C x
 |none=>.undef,Nm 0 C (λ_=>none)⟩
def ru(w w':World)(aE:bG)(ρ:Nat->Loc)(nm:Nat->Nat):Nat->Nat->aa In->aa In->Prop
 |_,_,[],[]=>True
 | i,D,.aB cs :: r,.aB eV :: I=>(∃ b off cells J e O,ρ (nF i) = .aB b off/\w.heap[b]?=some (.cells cells e (0,0))/\w'.heap[b]?=some (.cells J O (0,0))/\aE b=some [nm D]/\off+eV.length<=J.size/\eV.length=cs.length/\
   ∀(j:Nat) C,eV[j]?=some C->∃u,J[off+j]?=some u/\((C.plain=true/\∀(w:World) (B:Nat) (aj:bG) (q:aa Nat),RV w B aj q C u)\/(C = .nil/\u = .slice none 0 0/\∃E,cs[j]?=some E/\E.aD=false)\/(C.plain=false/\C.aD=true/\C.jM=true/\(∃E,cs[j]?=some E/\Wk E C)/\cells[off+j]?=some u)\/(C.aD=false/\RV w' w.heap.size aE [nm (D+1+j)] C u)))/\
   ru w w' aE ρ nm (i+1) (D+1+cs.length) r I
 |i,D,.sl y::r,.sl L::I=>(L = .nil\/∃v,ρ (nF i) = .dM v/\RV w' w.heap.size aE [nm D] L v)/\ru w w' aE ρ nm (i+1) (D+1) r I
 |_,_,_,_=>False
def Hp(w w':World)(aE:bG)(ρ:Nat->Loc)(nm:Nat->Nat):Nat->Nat->aa In->aa In->Prop
 |_,_,[],[]=>True
 | i,D,.aB cs :: r,.aB eV :: E=>(∃ b off cells I e L,ρ (nF i) = .aB b off/\w.heap[b]?=some (.cells cells e (0,0))/\w'.heap[b]?=some (.cells I L (0,0))/\aE b=some [nm D]/\off+eV.length<=I.size/\eV.length=cs.length/\
   ∀(j:Nat) C,eV[j]?=some C->∃u,I[off+j]?=some u/\((C.plain=true/\∀(w:World) (B:Nat) (aj:bG) (q:aa Nat),RV w B aj q C u)\/(C.plain=false/\C.aD=true/\cells[off+j]?=some u)\/(C.aD=false/\RV w' w.heap.size aE [nm (D+1+j)] C u)))/\
   Hp w w' aE ρ nm (i+1) (D+1+cs.length) r E
 |i,D,.sl y::r,.sl J::E=>(J = .nil\/∃v,ρ (nF i) = .dM v/\RV w' w.heap.size aE [nm D] J v)/\Hp w w' aE ρ nm (i+1) (D+1) r E
 |_,_,_,_=>False
def fW.len:fW->Nat
 |.one p=>p.2.length
 |.cR ps=>(ps.map λp=>p.2.length).sum
def pg(w:World)(B:Nat)(aj:bG)(ρ:Nat->Loc):Nat->aa In->Prop
 |_,[]=>True
 |i,.aB cs::r=>eF w B aj ρ (nF i) (.aB (za i 0 cs))/\(∀(j:Nat) x,cs[j]?=some x->x.plain=false->eF w B aj ρ (nC i j x) (.sl x))/\pg w B aj ρ (i+1) r
 |i,.sl y::r=>eF w B aj ρ (nF i) (.sl y)/\pg w B aj ρ (i+1) r
/-! The end: what is given back,and what the written parameters hold. -/
def UZ(m:Nat->ah aY)(i j:Nat)(C:V):Lf->ah (V×ah Nat)
 |.v x=>bif x.plain then some (x,none)else (bif !x.jM && !C.aD then some (.nil,none)else none)
 | .own [r]=>match m r with
  |some (.sl y)=>bif y.aD then (bif !C.plain&&(C.aD&&C.jM)&&Nat.beq r (20001+1000*i+j)&&Nat.blt r 60000 then some (C,none)else none)else (bif y.loc then some (y,some r)else none)
  |_=>none
 |_=>none
def Ba(m:Nat->ah aY)(i C:Nat):Nat->aa V->aa Lf->ah (aa V×aa (Nat×Nat))
 |_,[],[]=>some ([],[])
 | j,D :: xs,l :: E=>match UZ m i j D l,Ba m i C (j+1) xs E with
  |some (y,none),some (ys,rs)=>some (y::ys,rs)
  |some (y,some r),some (ys,rs)=>some (y::ys,(r,C+1+j)::rs)
  |_,_=>none
 |_,_,_=>none
def V.gone:V->Bool
 |.sl _ o _ _=>Nat.ble 1000000 o
 |_=>false
def zb(m:Nat->ah aY):Nat->Nat->aa In->ah (aa In×aa (Nat×Nat))
 |_,_,[]=>some ([],[])
 | i,C,.aB cs :: r=>match bif Nat.blt (nF i) 60000 then m (nF i)else none with
  | some (.aB I)=>match Ba m i C 0 cs I,zb m (i+1) (C+1+cs.length) r with
   |some (eV,rs),some (os,D)=>some (.aB eV::os,(nF i,C)::(rs++D))
   |_,_=>none
  |_=>none
 | i,C,.sl J :: r=>bif J.gone then (match zb m (i+1) (C+1) r with
   |some (os,D)=>some (.sl .nil::os,D)
   |none=>none)else match bif Nat.blt (nF i) 60000 then m (nF i)else none with
  | some (.sl E)=>bif E.loc && !E.aD then (match zb m (i+1) (C+1) r with
   |some (os,D)=>some (.sl E::os,(nF i,C)::D)
   |none=>none)else none
  |_=>none
def Hq{X:Type}(P:Program)(σ:S)(fn:Array ResultVar)(C:aa In)(k:aa In->fW->ah X):ah X:=
 rj P σ fn.toList λps=>match DM σ.m 0 ps with
  | some (qs,rs)=>match zb σ.m 0 (qs.map λp=>p.2.length).sum C with
   | some (os,D)=>bif once (rs++D)then (match qs with
    |[p]=>k os (.one p)
    |qs=>k os (.cR qs))else none
   |none=>none
  |none=>none
/-! Types of parameters and results. -/
def iQ:aa (Bool×TC×Nat)->Type
 |[]=>af
 |[(_,t,_)]=>T t
 |(_,t,_)::r=>T t×iQ r
def tC:(l:aa (Bool×TC×Nat))->iQ l->aa Pt
 |[],_=>[]
 |[(b,t,g)],x=>[(b,enc t g x)]
 |(b,t,g)::q::r,x=>(b,enc t g x.1)::tC (q::r) x.2
def qi:(l:aa (Bool×TC×Nat))->aa Pt->ah (iQ l)
 |[],[]=>some ()
 |[(b,t,g)],[(C,D)]=>bif b==C then dec t g D else none
 | (b,t,g) :: q :: r,(C,D) :: ps=>bif b==C then (match dec t g D,qi (q :: r) ps with
  |some x,some xs=>some (x,xs)
  |_,_=>none)else none
 |_,_=>none
def l5(l:aa (Bool×TC×Nat)):fW->ah (iQ l)
 |.one p=>qi l [p]
 |.cR ps=>bif Nat.beq ps.length 1 then none else qi l ps
def fe(l:aa (Bool×TC×Nat))(x:iQ l):fW:=
 match tC l x with
 |[p]=>.one p
 |ps=>.cR ps
inductive PK where
 |v (b:Bool) (t:TC)
 |p (t:TC) (g off:Nat)
 |s (t:TC) (g:Nat)
def kB:aa PK->Type
 |[]=>af
 |.v _ t::r=>T t×kB r
 |.p t _ _::r=>T t×kB r
 |.s t _::r=>aa (T t)×kB r
def rz:aa (Bool×TC×Nat)->Type
 |[]=>af
 |(true,t,_)::r=>T t×rz r
 |(false,t,_)::r=>aa (T t)×rz r
def iR:(l:aa (Bool×TC×Nat))->rz l->aa In
 |[],_=>[]
 |(true,t,g)::r,x=>.aB (enc t g x.1)::iR r x.2
 |(false,t,g)::r,x=>.sl (bif Nat.ble 1000000 g then .nil else .sl t (g+2) false x.1)::iR r x.2
def eH:aa PK->aa (Bool×TC×Nat)
 |[]=>[]
 |.v _ _::r=>eH r
 |.p t g _::r=>(true,t,g)::eH r
 |.s t g::r=>(false,t,g)::eH r
def nL:(l:aa PK)->kB l->aa In
 |[],_=>[]
 |.v _ _::r,x=>nL r x.2
 |.p t g _::r,x=>.aB (enc t g x.1)::nL r x.2
 |.s t g::r,x=>.sl (.sl t (g+2) false x.1)::nL r x.2
def jP:(l:aa PK)->Nat->kB l->aa Ar
 |[],_,_=>[]
 |.v b t::r,i,x=>.pt (b,enc t 0 x.1)::jP r i x.2
 |.p _ _ off::r,i,x=>.mut i off::jP r (i+1) x.2
 |.s _ _::r,i,x=>.mut i 0::jP r (i+1) x.2
structure nM where
 ps:List PK
 ro:List (Bool×TC×Nat)
 F:kB ps->Option (iQ ro×rz (eH ps))
def uS(P:Program)(f:Nat)(c:nM):Prop:=
 ∀ x y,c.F x=some y->∀ (nm:Nat->Nat) (w:World) (aj:bG) (ρ:Nat->Loc) (cc:Array Value),pg w w.heap.size aj ρ 0 (nL c.ps x)->(∀ b k,aj b=some k->b<w.heap.size/\k≠[])->
     cc.size=c.ps.length->(∀i,RA w w.heap.size aj ρ ((wF (nL c.ps x) (jP c.ps 0 x)).t i) (cc.getD i undef))->∀C:Hd w aj,
     Calls P f cc w λe w'=>∃v aE,e = .returned v/\ja ⟨w,aj,λ_=>none,C,λ_ _=>rfl⟩ w w'/\(∀b k,aE b=some k->(w.heap.size<=b\/aj b≠none)/\b<w'.heap.size/\k≠[])/\q9 w' w.heap.size aE nm (fe c.ro y.1) v/\Hp w w' aE ρ nm 0 (fe c.ro y.1).len (nL c.ps x) (iR (eH c.ps) y.2)
def Hr(w:World)(ρ:Nat->Loc):Nat->aa In->Prop
 |_,[]=>True
 |i,.aB cs::r=>(∃b off cells e,ρ (nF i) = .aB b off/\w.heap[b]?=some (.cells cells e (0,0))/\∀(j:Nat) x,cs[j]?=some x->x.plain=false->x.aD=true->∃u,cells[off+j]?=some u/\ρ (20001+1000*i+j) = .dM u)/\Hr w ρ (i+1) r
 |i,.sl y::r=>(∃v,ρ (nF i) = .dM v)/\Hr w ρ (i+1) r
section
variable {P:Program} {w w':World} {w0:Wd} {B N:Nat} {aj aE:bG} {ρ ρ':Nat->Loc} {σ:S} {a:Act} {X:Type} {d:Nat} {r:X} {rs:aa (Nat×Nat)} {nm:Nat->Nat}
def U0{m:Nat -> ah aY}{i pos:Nat}:∀ (xs:aa V) (L:aa Lf) (D:Nat) (ys:aa V) (O:aa (Nat×Nat)),Ba m i pos D xs L=some (ys,O) -> ys.length=xs.length/\L.length=xs.length /\
  ∀(j:Nat) y,ys[j]?=some y -> ∃l x0,L[j]?=some l/\xs[j]?=some x0/\((l = .v y/\y.plain=true) \/ (l = .v .nil/\y = .nil/\x0.aD=false) \/ (l = .own [20001+1000*i+(D+j)]/\y=x0/\y.plain=false/\(y.aD&&y.jM)=true/\20001+1000*i+(D+j)<60000) \/ (∃q,l = .own [q]/\m q=some (.sl y)/\y.aD=false/\(q,pos+1+(D+j))∈O))
 | [],[],D,ys,O,h=>by
  simp only[Ba,iE,Prod.mk.injEq]at h;obtain⟨rfl,rfl⟩:=h;exact⟨rfl,rfl,λj y T=>by simp at T⟩
 |[],_::_,D,ys,O,h=>by simp[Ba]at h
 |_::_,[],D,ys,O,h=>by simp[Ba]at h
 | x0 :: xs,l :: L,D,ys,O,h=>by
  have hc:∀ y z,UZ m i D x0 l=some (y,z) -> (z=none/\l = .v y/\y.plain=true) \/ (z=none/\l = .v .nil/\y = .nil/\x0.aD=false) \/ (z=none/\l = .own [20001+1000*i+D]/\y=x0/\y.plain=false/\(y.aD&&y.jM)=true/\20001+1000*i+D<60000) \/ (∃ q,z=some q/\l = .own [q]/\m q=some (.sl y)/\y.aD=false):=by
   intro y z C;unfold UZ at C;split at C
   ·rename_i x;cases hp:x.plain with
    | false=>
     rw[hp,au]at C;cases hb:(!x.jM && !x0.aD)with
     |false=>rw[hb]at C;cases C
     | true=>
      rw[hb,ak]at C;simp only[iE,Prod.mk.injEq]at C;obtain⟨rfl,rfl⟩:=C;rw[aO,gT,gT]at hb;have hx:x = .nil:=by
       cases x<;>first|rfl|(exact absurd hb.1 (by simp[V.jM]))
      subst hx;exact .inr (.inl ⟨rfl,rfl,rfl,hb.2⟩)
    |true =>grind
   ·rename_i q;split at C
    ·rename_i y1 hy1;cases hf:y1.aD with
     | true=>
      rw[hf,ak]at C;cases hb:(!x0.plain&&(x0.aD&&x0.jM)&&Nat.beq q (20001+1000*i+D)&&Nat.blt q 60000)with
      |false=>rw[hb]at C;cases C
      | true=>
       rw[hb,ak]at C;simp only[iE,Prod.mk.injEq]at C;obtain⟨rfl,rfl⟩:=C;rw[aO,aO,aO,gT]at hb;obtain⟨⟨⟨b1,b2⟩,b3⟩,b4⟩:=hb;obtain rfl:=cD b3;exact .inr (.inr (.inl ⟨rfl,rfl,rfl,b1,b2,by have:=cL b4;omega⟩))
     | false=>
      rw[hf,au]at C;cases hl:y1.loc with
      |false=>rw[hl]at C;cases C
      |true =>grind
    ·cases C
   ·cases C
  unfold Ba at h;split at h
  ·rename_i y U1 U2 T G8;simp only[iE,Prod.mk.injEq]at h;obtain⟨rfl,rfl⟩:=h;obtain⟨h1,h2,h3⟩:=U0 xs L (D+1) U1 U2 G8
   refine⟨by simp[h1],by simp[h2],λj y' E=>?_⟩
   cases j with
   | zero=>
    simp at E;subst E;refine⟨l,x0,rfl,rfl,?_⟩;rcases hc y none T with ⟨_,I,J⟩|⟨_,I,J,Q⟩|⟨_,I,J,Q,e4,e5⟩|⟨q,U,_⟩
    ·simp[*]
    ·simp[*]
    ·exact .inr (.inr (.inl ⟨I,J,Q,e4,e5⟩))
    ·cases U
   | succ j=>
    obtain⟨l',x',g1,g2,Y⟩:=h3 j y' (by simpa using E);rw[show D+1+j=D+(j+1) by omega]at Y;exact⟨l',x',by simpa using g1,by simpa using g2,Y⟩
  ·rename_i y q U1 U2 T G8;simp only[iE,Prod.mk.injEq]at h;obtain⟨rfl,rfl⟩:=h;obtain⟨h1,h2,h3⟩:=U0 xs L (D+1) U1 U2 G8
   refine⟨by simp[h1],by simp[h2],λj y' E=>?_⟩
   cases j with
   | zero=>
    simp at E;subst E;refine⟨l,x0,rfl,rfl,?_⟩;rcases hc y (some q) T with ⟨Z,_⟩|⟨Z,_⟩|⟨Z,_⟩|⟨q',U,I,J,Q⟩
    ·cases Z
    ·cases Z
    ·cases Z
    ·injection U with U;subst U;exact .inr (.inr (.inr ⟨q,I,J,Q,.head _⟩))
   | succ j=>
    obtain⟨l',x',g1,g2,Y⟩:=h3 j y' (by simpa using E);rw[show D+1+j=D+(j+1) by omega]at Y;exact⟨l',x',by simpa using g1,by simpa using g2,Y.imp id (λg=>g.imp id (λg=>g.imp id λ⟨q',I,J,Q,e4⟩=>⟨q',I,J,Q,.tail _ e4⟩))⟩
  ·cases h
def Nn{w1:World}{U3:Nat -> Loc}{m:Nat -> ah aY}(L:∀ r,20000 <= r -> r<60000 -> ρ r=U3 r)(O:∀ r x,m r=some x -> eF w w1.heap.size aj ρ r x):
  ∀(ins:aa In) (i T:Nat) (outs:aa In) (U:aa (Nat×Nat)),zb m i T ins=some (outs,U) -> (∀p∈U,rs.lookup p.1=some p.2) -> Hr w1 U3 i ins -> ru w1 w (eG aj rs nm) U3 nm i T ins outs
 | [],i,T,outs,U,h,I,Y=>by
  simp only[zb,iE,Prod.mk.injEq]at h;obtain⟨rfl,rfl⟩:=h;trivial
 | .aB cs :: r,i,T,outs,U,h,I,Y=>by
  unfold zb at h;cases hi:Nat.blt (nF i) 60000 with
  |false=>grind
  | true=>
   rw[hi,ak]at h;have hi:=cL hi;split at h
   ·rename_i ls U4;split at h
    ·rename_i eV rs1 os Z h1 h2;simp only[iE,Prod.mk.injEq]at h;obtain⟨rfl,rfl⟩:=h;obtain⟨⟨b,off,cells,e,abo,UL,tD⟩,Np⟩:=Y;obtain⟨k1,k2,k3⟩:=U0 _ _ _ _ _ h1
     refine⟨?_,Nn L O r (i+1) _ os Z h2 (λp D=>I p (.tail _ (List.mem_append_right _ D))) Np⟩
     have J:=O _ _ U4;have U5:=L (nF i) (by unfold nF;omega) (by omega);generalize C:aY.aB ls=x at J;cases J with
     |sl=>cases C
     |mp=>cases C
     |gh=>cases C
     | aB b' AX wG e' ls' us E hl hh hs hc=>
      injection C with C;subst C;rw[U5,abo]at E;injection E with e1 e2;subst e1 e2
      refine⟨b,off,cells,wG,e,e',abo,UL,hh,?_,by rw[k1,<- k2];exact hs,k1,λj y hy=>?_⟩
      ·have:=I _ (List.Mem.head _);simp[eG,hl,this]
      ·obtain⟨l,x0,g1,g2,g3⟩:=k3 j y hy;obtain⟨c1,c2⟩:=hc j l g1;refine⟨_,c1,?_⟩;rw[fj]at g3;rcases g3 with ⟨rfl,D⟩ | ⟨rfl,rfl,Na⟩ | ⟨rfl,rfl,D,G9,ei⟩ | ⟨q,rfl,hq,hf,yY⟩
       ·exact .inl ⟨D,λ_ _ _ _=>c2.2.th D⟩
       ·exact .inr (.inl ⟨rfl,by have h9:=c2.2;generalize us j=u9 at h9 ⊢;cases h9;rfl,x0,g2,Na⟩)
       ·rw[aO]at G9;obtain⟨hf,Nq⟩:=G9;obtain⟨u,hu,ano⟩:=tD j y g2 D hf;refine .inr (.inr (.inl ⟨D,hf,Nq,⟨y,g2,.same _⟩,?_⟩));have Q:=c2.2;have U6:=L (20001+1000*i+j) (by omega) ei;simp only[cN,U6,ano]at Q;simp_all
       ·refine .inr (.inr (.inr ⟨hf,?_⟩));have J:=O _ _ hq;generalize C:aY.sl y=x at J;cases J with
        |aB=>cases C
        |mp=>cases C
        |gh=>cases C
        | sl v y' E hr=>
         injection C with C;subst C;have Q:=c2.2;simp only[cN,E]at Q;injection Q with Q;rw[<- Q];exact RV.eG (p:=[]) hr (I _ (.tail _ (List.mem_append_left _ yY)))
    ·cases h
   ·cases h
 | .sl y :: r,i,T,outs,U,h,I,Y=>by
  unfold zb at h;cases hg:y.gone with
  | true=>
   rw[hg,ak]at h;split at h
   next os Z h2=>simp at h;obtain⟨rfl,rfl⟩:=h;exact⟨.inl rfl,Nn L O r _ _ os Z h2 I Y.2⟩
   ·cases h
  |false=>
  rw[hg,au]at h;cases hi:Nat.blt (nF i) 60000 with
  |false=>grind
  | true=>
   rw[hi,ak]at h;have hi:=cL hi;split at h
   ·rename_i y' G3;cases hl:(y'.loc && !y'.aD)with
    |false=>grind
    | true=>
     rw[hl,ak]at h;split at h
     ·rename_i os Z h2;simp only[iE,Prod.mk.injEq]at h;obtain⟨rfl,rfl⟩:=h;obtain⟨⟨v,hv⟩,Np⟩:=Y
      refine⟨.inr ⟨v,hv,?_⟩,Nn L O r (i+1) _ os Z h2 (λp D=>I p (.tail _ D)) Np⟩
      have U5:=L (nF i) (by unfold nF;omega) (by omega);have J:=O _ _ G3;generalize C:aY.sl y'=x at J;cases J with
      |aB=>cases C
      |mp=>cases C
      |gh=>cases C
      | sl v' y'' E hr=>
       injection C with C;subst C;rw[U5,hv]at E;injection E with E;subst E;exact RV.eG (p:=[]) hr (I _ (.head _))
     ·cases h
   ·cases h
def anp{w1:World}{Q:Nat -> Loc}{fn:Func}{J:aa In}{k:aa In -> fW -> ah X}(hw:w0.w=w1)(hF:∀ r,20000 <= r -> r<60000 -> w0.F r=some (Q r))(he:Hr w1 Q 0 J)(h:Hq P σ fn.results J k=some r):
  ∃outs res,k outs res=some r /\ ∀aj ρ a w,Rl w0 N aj ρ σ a w -> ∀nm,∃v aE,(results fn a.tmps).run P w = .ok v w/\(∀b k,aE b=some k -> (w0.heap.size <= b \/ w0.L b≠none)/\b<w.heap.size/\k≠[])/\q9 w w0.heap.size aE nm res v/\ru w1 w aE Q nm 0 res.len J outs:=by
 unfold Hq at h;obtain⟨ps,E,qh⟩:=Ho (w0:=w0) (N:=N) _ _ h;clear h;split at E
 ·rename_i Y U7 UW;split at E
  ·rename_i os U8 hos;cases Z:once (U7++U8)with
   |false=>rw[Z]at E;cases E
   | true=>
    rw[Z,ak]at E;generalize abp:U7++U8=rs at Z;have nK:∀ p∈rs,rs.lookup p.1=some p.2:=by
     intro p T;have:=cI.1 Z p T;obtain⟨n,hn,he⟩:=(Option.any_eq_true _ _).1 this;simp_all
    have core:∀ aj ρ a w,Rl w0 N aj ρ σ a w -> ∀ nm:Nat -> Nat,∃ C:aa Value,(fn.results.mapM (rq a.tmps)).run P w = .ok C.toArray w/\(∀ b k,eG aj rs nm b=some k -> (w0.heap.size <= b \/ w0.L b≠none)/\b<w.heap.size/\k≠[])/\jC w w0.heap.size (eG aj rs nm) nm 0 Y C /\
      ru w1 w (eG aj rs nm) Q nm 0 (Y.map λp=>p.2.length).sum J os:=by
     intro aj ρ a w hR nm;obtain⟨C,U,hl,hv⟩:=qh aj ρ a w hR
     refine⟨C,?_,λb k I=>?_,UT hR.root ps 0 Y U7 C UW (λp T=>nK p (by rw[<- abp];exact List.mem_append_left _ T)) hl hv,
      Nn (λr h1 E=>hR.fix r _ (hF r h1 E)) (by rw[<- hw];exact hR.root) J 0 _ os U8 hos (λp T=>nK p (by rw[<- abp];exact List.mem_append_right _ T)) he⟩
     ·rw[Array.mapM_eq_mapM_toList];simp[U]
     ·unfold eG at I;split at I
      ·cases I
      ·rename_i k' tv;have:=hR.cX b k' tv;split at I
       ·cases I
       ·cases zc:rs.lookup _ with
        |none=>rw[zc]at I;cases I
        | some n=>
         rw[zc]at I;injection I with I;subst I;simp_all
    have jO:∀ (tmps:Array Value),results fn tmps=(do let C <- fn.results.mapM (rq tmps);pure (if h:C.size=1 then C[0]else .tuple C)):=λtmps=>by
     unfold results;congr 1
    split at E
    ·rename_i p
     refine⟨_,_,E,λaj ρ a w hR nm=>?_⟩
     obtain⟨C,U,lZ,D,O⟩:=core aj ρ a w hR nm;have O:ru w1 w (eG aj rs nm) Q nm 0 (fW.one p).len J os:=by simpa [fW.len]using O
     match C,D with
     |[v],D=>exact⟨v,_,by rw[jO,fm,U];rfl,lZ,D,O⟩
     |[],D=>exact D.elim
     |_::_::_,D=>exact D.2.elim
    ·rename_i eI
     refine⟨_,_,E,λaj ρ a w hR nm=>?_⟩
     obtain⟨C,U,lZ,D,O⟩:=core aj ρ a w hR nm;have ga:C.toArray.size≠1:=by
      intro e;clear O;have e:C.length=1:=by simpa using e
      match Y,C,D,eI,e with
      |[q],[v],_,eI,_=>exact eI q rfl
      |[],[v],D,_,_=>exact D.elim
      |_::_::_,[v],D,_,_=>exact D.2.elim
     refine⟨.tuple C.toArray,_,?_,lZ,⟨C.toArray,rfl,D⟩,O⟩;rw[jO,fm,U,ki];simp only[ga,dif_neg,not_false_eq_true,Sem.run_pure]
  ·cases E
 ·cases E
def abq{i:Nat}:∀ (cs:aa V) (D:Nat) (m:Nat -> ah aY) (r:Nat) (x:aY),UX i D cs m r=some x -> m r=some x \/ ∃ j y,cs[j]?=some y/\y.plain=false/\r=nC i (D+j) y/\x = .sl y
 |[],D,m,r,x,h=>.inl h
 | c :: cs,D,m,r,x,h=>by
  rcases abq cs _ _ r x h with C|⟨j,y,C,J,L,O⟩
  ·cases E:c.plain with
   |true=>simp_all
   | false=>
    rw[E,au]at C;by_cases I:r=nC i D c
    ·subst I;rw[ck]at C;injection C with C;exact .inr ⟨0,c,rfl,E,rfl,C.symm⟩
    ·rw[cB _ _ _ I]at C;simp_all
  ·exact .inr ⟨j+1,y,by simpa using C,J,by rw[L];congr 1;omega,O⟩
def pg.roots:∀ (C:aa In) (i:Nat) (m:Nat -> ah aY),pg w B aj ρ i C -> (∀ r x,m r=some x -> eF w B aj ρ r x) -> ∀ r x,Nm i C m r=some x -> eF w B aj ρ r x
 |[],i,m,_,I,r,x,h=>I r x h
 | .aB cs :: C,i,m,J,I,r,x,h=>by
  obtain⟨Q,T,L⟩:=J
  refine pg.roots C _ _ L (λr x E=>?_) r x h
  rcases abq cs 0 _ r x E with O|⟨j,y,U,Y,Z,g4⟩
  ·by_cases D:r=nF i
   ·subst D;rw[ck]at O;simp_all
   ·rw[cB _ _ _ D]at O;simp_all
  ·simp_all
 | .sl y :: C,i,m,J,I,r,x,h=>by
  obtain⟨Q,L⟩:=J
  refine pg.roots C _ _ L (λr x E=>?_) r x h
  by_cases D:r=nF i
  ·subst D;rw[ck]at E;simp_all
  ·rw[cB _ _ _ D]at E;simp_all
def U9{i:Nat}:∀ (cs:aa V) (C j:Nat) x,cs[j]?=some x->(za i C cs)[j]?=some (yZ i (C+j) x)
 |[],C,j,x,h=>by simp at h
 |c::cs,C,0,x,h=>by simp at h;subst h;rfl
 | c :: cs,C,j+1,x,h=>by
  simp only[za,List.getElem?_cons_succ];rw[U9 cs (C+1) j x (by simpa using h)];congr 2;omega
def pg.Va:∀ (C:aa In) (i:Nat),pg w B aj ρ i C -> Hr w ρ i C
 |[],_,_=>trivial
 | .aB cs :: C,i,I=>by
  obtain⟨E,_,J⟩:=I;refine⟨?_,pg.Va C (i+1) J⟩;generalize D:aY.aB (za i 0 cs)=x at E;cases E with
  |sl=>cases D
  |mp=>cases D
  |gh=>cases D
  | aB b off cells e ls us Q hl T hs U=>
   injection D with D;subst D
   refine⟨b,off,cells,e,Q,T,λj x Y Z hf=>?_⟩
   obtain⟨c1,L⟩:=U j _ (U9 cs 0 j x Y);rw[fj]at L;refine⟨_,c1,?_⟩;have e1:yZ i j x = .own [20001+1000*i+j]:=by simp[yZ,Z,nC,hf]
   rw[e1]at L;have O:=L.2;simp only[cN]at O;split at O
   ·simp_all
   ·cases O
 | .sl y :: C,i,I=>by
  obtain⟨E,J⟩:=I;refine⟨?_,pg.Va C (i+1) J⟩;cases E with
  |sl v y' Q hr=>simp_all
end
def cx(n:Nat):aa Nat->Bool
 |[]=>false
 |m::l=>Nat.beq n m ||cx n l
def tE{n:Nat}:∀ {l:aa Nat},cx n l=true ↔ n∈l
 |[]=>by simp[cx]
 | m :: l=>by
  simp only[cx,eB,gf,tE];simp_all
def abr{n:Nat}{l:aa Nat}(h:cx n l=false):n ∉ l:=λk=>by rw[tE.2 k]at h;cases h
def cF(k l:aa Nat):Bool:=match k.getLast? with
 |some r=>cx r l
 |none=>false
def Lf.bE(ns cn:aa Nat):Lf->Lf
 |.own k=>bif cF k cn ||(cF k ns && !(Nat.beq k.length 1))then .dead else .own k
 |x=>x
def A.bE(ns cn:aa Nat):A->A
 |.lf x=>.lf (x.bE ns cn)
 |.agg cs=>.agg (cs.map (Lf.bE ns cn))
 |.cR xs=>.cR (xs.map λp=>(p.1,p.2.map (Lf.bE ns cn)))
 |.ptr k=>bif cF k cn ||cF k ns then .undef else .ptr k
 |.aG r j=>bif cx r cn then .undef else .aG r j
 |.pk r n=>bif cx r cn then .undef else .pk r n
 |.view k s i j=>bif cF k cn ||cF k ns then .undef else .view k s i j
 |.fn f cap=>bif cap.any (λp=>cx p.1 cn)then .undef else .fn f cap
 |x=>x
def aY.bE(ns cn:aa Nat):aY->aY
 |.aB cs=>.aB (cs.map (Lf.bE ns cn))
 |.gh xs=>.gh (xs.map (A.bE ns cn))
 |x=>x
def S.bE(σ:S)(ns cn:aa Nat)(nr:aa (Nat×aY)):S:=⟨λk=>(σ.t k).bE ns cn,λr=>match nr.lookup r with
 |some x=>some x
 |none=>bif cx r ns ||cx r cn then none else (σ.m r).map (aY.bE ns cn)⟩
structure rA (w w':World) (aj dg:bG) (ρ eD:Nat->Loc) (ns cn:List Nat):Prop where
 size:w.heap.size<=w'.heap.size
 same:∀b,b<w.heap.size->(∀k,aj b=some k->cF k ns=false)->w'.heap[b]?=w.heap[b]?/\dg b=aj b
 eC:∀r,cx r cn=false->eD r=ρ r
 aj:∀b k,aj b=some k->b<w.heap.size/\k≠[]
section
variable {P:Program} {w w':World} {w0:Wd} {B N:Nat} {aj dg aE:bG} {ρ eD:Nat->Loc} {σ:S} {a:Act} {X:Type} {d:Nat} {r:X} {ns cn:aa Nat}
def Bb{j i s:Nat}{q l:aa Nat}(h:q≠[]):cF (j :: i :: s :: q) l=cF q l:=by
 cases q with
 |nil=>simp_all
 |cons x q=>simp[cF]
def RV.jd(E:rA w w' aj dg ρ eD ns cn){q:aa Nat}{x:V}{v:Value}(h:RV w B aj q x v)(hq:cF q ns=false \/ x.aD=true):RV w' B dg q x v:=by
 induction h with
 |int=>exact .int _ _ _
 |bool=>exact .bool _ _
 |str=>exact .str _ _
 |nil=>exact .nil _
 |cS=>exact .cS _ _ _
 |cZ=>exact .cZ _ _ _ _ _ (by first|assumption|omega)
 |de=>exact .de _ _ _ _ _ (by first|assumption|omega)
 | aD q t o U l b off cap u Q hl hb Y Z I hr J=>
  obtain⟨L,O⟩:=E.same b hb (λk C=>by rw[hl]at C;cases C);exact .aD _ _ _ _ _ _ _ _ u Q (O.trans hl) (kO hb E.size) Y Z (λi h j x D=>(kf L).trans (I i h j x D)) (λi h j x D=>J i h j x D (.inr (jB t o l[i] Q j x D)))
 | own q t o U l b cap cs u hl hh hs hn hm I hr J=>
  have T:cF q ns=false:=by
   rcases hq with hq|hq
   ·exact hq
   ·simp[V.aD]at hq;omega
  have eI:=(E.aj b q hl).2;obtain⟨L,O⟩:=E.same b (E.aj b q hl).1 (λk C=>by rw[hl]at C;injection C with C;subst C;exact T);exact .own _ _ _ _ _ _ _ cs u (O.trans hl) (L.trans hh) hs hn hm I (λi h j x D=>J i h j x D (.inl (by rw[Bb eI];exact T)))
def Vb(D:rA w w' aj dg ρ eD ns cn):∀ (k:aa Nat) (ad:Addr),cF k ns=false -> cF k cn=false -> addrAt w aj ρ k=some ad -> addrAt w' dg eD k=some ad
 |[],_,_,_,h=>by simp[addrAt]at h
 |[_],_,_,_,h=>by simp[addrAt]at h
 |[_,_],_,_,_,h=>by simp[addrAt]at h
 |[_,_,_],_,_,_,h=>by simp[addrAt]at h
 | [j,i,s,r],_,E,I,h=>by
  have E:cF [r] ns=false:=by rwa [Bb (by simp)]at E
  have I:cx r cn=false:=by rw[Bb (by simp)]at I;exact I
  simp only[addrAt]at h ⊢;rw[D.eC r I];split at h
  ·rename_i v b n c hr;split at h
   next hl=>obtain⟨_,J⟩:=D.same b (D.aj b _ hl).1 (λk C=>by rw[hl]at C;injection C with C;subst C;exact E);rw[bA (J.trans hl)];exact h
   ·cases h
  ·cases h
 | j :: i :: s :: x :: y :: q,ad,E,I,h=>by
  rw[Bb (by simp)]at E I;simp only[addrAt]at h ⊢;cases L:addrAt w aj ρ (x::y::q)with
  |none=>grind
  | some O=>
   rw[Vb D _ _ E I L];rw[L]at h;cases T:w.cell? O with
   |none=>grind
   | some v=>
    obtain⟨j',i',s',U,C,Q,_,_⟩:=vY _ _ L;have Y:U≠[]:=(D.aj _ _ Q).2;have Z:cF U ns=false:=by
     rw[C,Bb Y]at E;exact E
    obtain⟨e1,_⟩:=D.same O.block (D.aj _ _ Q).1 (λk C=>by rw[Q]at C;injection C with C;subst C;exact Z);have e:w'.cell? O=some v:=(kf e1).trans T;simp only[Option.bind_some,T]at h;simp only[Option.bind_some,e];split at h
    ·split at h
     next hl=>obtain⟨_,J⟩:=D.same _ (D.aj _ _ hl).1 (λk C=>by rw[hl]at C;injection C with C;subst C;exact E);rw[bA (J.trans hl)];exact h
     ·cases h
    ·cases h
def abt(E:rA w w' aj dg ρ eD ns cn)(k:aa Nat)(u:Value)(C:k.length=1 \/ cF k ns=false)(I:cF k cn=false)(h:cN w aj ρ k=some u):cN w' dg eD k=some u:=by
 match k,C,I,h with
 | [r],_,I,h=>
  simp[cN]at h ⊢;rw[E.eC r I];exact h
 | x :: y :: q,C,I,h=>
  have C:cF (x :: y :: q) ns=false:=by
   simp_all
  simp[cN]at h ⊢;cases J:addrAt w aj ρ _ with
  |none=>rw[J]at h;cases h
  | some ad=>
   rw[Vb E _ _ C I J];rw[J]at h;obtain⟨U,Y,Z,O,D,L,_,_⟩:=vY _ _ J;have Q:O≠[]:=(E.aj _ _ L).2;rw[D,Bb Q]at C;obtain⟨T,_⟩:=E.same ad.block (E.aj _ _ L).1 (λk D=>by rw[L]at D;injection D with D;subst D;exact C);exact(kf T).trans h
def dA.jd(C:rA w w' aj dg ρ eD ns cn){x:Lf}{u:Value}(h:dA w B aj ρ x u):dA w' B dg eD (x.bE ns cn) u:=by
 cases x with
 |v x=>exact⟨h.1,h.2.jd C (.inr h.1)⟩
 |dead=>trivial
 | own k=>
  have e:Lf.bE ns cn (.own k)=(bif cF k cn ||(cF k ns && !(Nat.beq k.length 1))then .dead else .own k):=rfl;rw[e];cases hb:(cF k cn ||(cF k ns && !(Nat.beq _ 1)))with
  |true=>trivial
  | false=>
   rw[oS]at hb;refine⟨h.1,abt C k u ?_ hb.1 h.2⟩;have hb:=hb.2;cases D:cF k ns with
   |false=>simp_all
   |true =>simp_all
def dQ.jd(E:rA w w' aj dg ρ eD ns cn){cs:aa Lf}{us:Array Value}(h:dQ w B aj ρ cs us):dQ w' B dg eD (cs.map (Lf.bE ns cn)) us:=by
 refine⟨by rw[dB];exact h.1,λj x C=>?_⟩
 rw[dz]at C;cases D:cs[j]? with
 |none=>simp_all
 | some y=>
  rw[D]at C;injection C with C;subst C;obtain⟨u,I,r⟩:=h.2 j y D;exact⟨u,I,r.jd E⟩
def RP.jd(C:rA w w' aj dg ρ eD ns cn){p:Bool×aa Lf}{u:Value}(h:RP w B aj ρ p u):RP w' B dg eD (p.1,p.2.map (Lf.bE ns cn)) u:=by
 obtain⟨b,cs⟩:=p;cases b with
 |true=>obtain⟨us,e,h⟩:=h;exact⟨us,e,h.jd C⟩
 |false=>exact dQ.jd C h
def RA.jd(C:rA w w' aj dg ρ eD ns cn){x:A}{u:Value}(h:RA w B aj ρ x u):RA w' B dg eD (x.bE ns cn) u:=by
 cases x with
 |undef=>trivial
 |skip=>exact h
 |lf x=>exact dA.jd C h
 |agg cs=>exact RP.jd C (p:=(true,cs)) h
 | cR xs=>
  obtain⟨us,e,O,h⟩:=h
  refine⟨us,e,by rw[dB];exact O,λj p D=>?_⟩
  rw[dz]at D;cases Y:xs[j]? with
  |none=>simp_all
  | some y=>
   rw[Y]at D;injection D with D;subst D;obtain⟨v,E,r⟩:=h j y Y;exact⟨v,E,r.jd C⟩
 | ptr k=>
  have e:A.bE ns cn (.ptr k)=(bif cF k cn ||cF k ns then .undef else .ptr k):=rfl;rw[e];cases hb:(cF k cn ||cF k ns)with
  |true=>trivial
  | false=>
   rw[oS]at hb;obtain⟨ad,e,h⟩:=h;exact⟨ad,e,Vb C k ad hb.2 hb.1 h⟩
 | view k s i j=>
  have e:A.bE ns cn (.view k s i j)=(bif cF k cn ||cF k ns then .undef else .view k s i j):=rfl;rw[e];cases hb:(cF k cn ||cF k ns)with
  |true=>trivial
  | false=>
   rw[oS]at hb;obtain⟨A,n,c,h,g⟩:=h;exact⟨A,n,c,abt C k _ (.inr hb.2) hb.1 h,g⟩
 | pk r n=>
  have e:A.bE ns cn (.pk r n)=(bif cx r cn then .undef else .pk r n):=rfl;rw[e];cases hb:cx r cn with
  |true=>trivial
  | false=>
   obtain⟨b,e,h⟩:=h;exact⟨b,(C.eC r hb).trans e,h⟩
 | aG r j=>
  have e:A.bE ns cn (.aG r j)=(bif cx r cn then .undef else .aG r j):=rfl;rw[e];cases hb:cx r cn with
  |true=>trivial
  | false=>
   obtain⟨b,off,e,h⟩:=h;exact⟨b,off,(C.eC r hb).trans e,h⟩
 | gW cs=>
  obtain⟨b,off,e,hb,hl,h⟩:=h;obtain⟨Q,I⟩:=C.same b hb (λk J=>by rw[hl]at J;cases J)
  refine⟨b,off,e,kO hb C.size,I.trans hl,λj x T=>?_⟩
  obtain⟨L,v,E,U⟩:=h j x T;exact⟨L,v,(kf (a:=⟨b,_,none⟩) Q).trans E,U.jd C (.inr L)⟩
 | kA f cs=>
  obtain⟨pv,Z,h⟩:=h;refine⟨pv,Z,?_⟩;obtain⟨b,off,e,hb,hl,h⟩:=h;obtain⟨Q,I⟩:=C.same b hb (λk J=>by rw[hl]at J;cases J)
  refine⟨b,off,e,kO hb C.size,I.trans hl,λj x T=>?_⟩
  obtain⟨L,v,E,U⟩:=h j x T;exact⟨L,v,(kf Q).trans E,U.jd C (.inr L)⟩
 | fn f cap=>
  have e:A.bE ns cn (.fn f cap)=(bif cap.any (λp=>cx p.1 cn)then .undef else .fn f cap):=rfl;rw[e];cases hb:cap.any (λp=>cx p.1 cn)with
  |true=>trivial
  | false=>
   obtain⟨vs,e,O,h⟩:=h
   refine⟨vs,e,O,λj p D=>?_⟩
   obtain⟨b,off,I,h2⟩:=h j p D;have:=mC.1 hb p (fT D);exact⟨b,off,(C.eC _ (by simpa using this)).trans I,h2⟩
def eF.jd(C:rA w w' aj dg ρ eD ns cn){n:Nat}{x:aY}(h:eF w B aj ρ n x)(Q:cx n ns=false)(O:cx n cn=false):eF w' B dg eD n (x.bE ns cn):=by
 cases h with
 | aB b off cells e cs us E hl T hs Z=>
  obtain⟨U,Y⟩:=C.same b (C.aj b _ hl).1 (λk D=>by rw[hl]at D;injection D with D;subst D;exact Q)
  refine .aB b off cells e _ us ((C.eC n O).trans E) (Y.trans hl) (U.trans T) (by rw[dB];exact hs) (λj x I=>?_)
  rw[dz]at I;cases J:cs[j]? with
  |none=>simp_all
  | some y=>
   rw[J]at I;injection I with I;subst I;exact⟨(Z j y J).1,(Z j y J).2.jd C⟩
 |sl v y E hr=>exact .sl v y ((C.eC n O).trans E) (hr.jd C (.inl Q))
 | mp b c es l E hl T he=>
  obtain⟨U,Y⟩:=C.same b (C.aj b _ hl).1 (λk D=>by rw[hl]at D;injection D with D;subst D;exact Q);exact .mp b c es l ((C.eC n O).trans E) (Y.trans hl) (U.trans T) he
 | gh us xs E I=>
  refine .gh us _ ((C.eC n O).trans E) (λj x L=>?_)
  rw[dz]at L;cases J:xs[j]? with
  |none=>simp_all
  | some y=>
   rw[J]at L;injection L with L;subst L;exact(I j y J).jd C
def Rl.jd(h:Rl w0 N aj ρ σ a w)(D:rA w w' aj dg ρ eD ns cn)(hb:ja w0 w w')(hl:∀ b k,dg b=some k -> (w0.heap.size <= b \/ w0.L b≠none)/\b<w'.heap.size/\k≠[])(O:∀ r,cx r cn=true -> w0.F r=none){nr:aa (Nat×aY)}
  (Q:∀r x,nr.lookup r=some x -> eF w' w0.heap.size dg eD r x):Rl w0 N dg eD (σ.bE ns cn nr) a w':=by
 refine⟨h.below.trans hb,hl,λr x C=>?_,λk=>(h.tmp k).jd D,h.size,h.defers,λr l I=>?_,h.dx⟩
 ·simp only[S.bE]at C;split at C
  ·simp_all
  ·cases hm:(cx r ns || cx r cn)with
   |true=>simp_all
   | false=>
    rw[hm]at C;rw[oS]at hm;cases E:σ.m r with
    |none=>simp_all
    | some y=>
     rw[E]at C;injection C with C;subst C;exact(h.root r y E).jd D hm.1 hm.2
 ·have J:cx r cn=false:=by
   grind
  exact(D.eC r J).trans (h.fix r l I)
end
inductive Mu where
 |aB (r:Nat) (cs:List Lf) (vs:List (V×Option Nat))
 |sl (q:Nat) (y:V)
def Mu.root:Mu->Nat
 |.aB r _ _=>r
 |.sl q _=>q
def uT(m:Nat->ah aY):Lf->ah (V×ah Nat)
 |.v x=>some (x.gy,none)
 | .own [q]=>match m q with
  |some (.sl y)=>bif y.aD then some (y.gy,none)else some (y,some q)
  |_=>none
 |_=>none
def rB(m:Nat->ah aY):aa Lf->ah (aa (V×ah Nat))
 |[]=>some []
 | l :: C=>match uT m l,rB m C with
  |some v,some D=>some (v::D)
  |_,_=>none
def uU(σ:S):PK->A->ah (ah Mu)
 |.v _ _,_=>some none
 | .p _ _ off,.aG r j=>(match (bif Nat.beq j off then σ.m r else none)with
  | some (.aB cs)=>(match rB σ.m cs with
   |some C=>bif Nat.blt cs.length 999 then some (some (.aB r cs C))else none
   |none=>none)
  |_=>none)
 | .s _ _,.lf (.own [q])=>(match σ.m q with
  |some (.sl y)=>bif y.aD then none else some (some (.sl q y))
  |_=>none)
 |_,_=>none
def jr(σ:S):aa PK->aa Operand->ah (aa Mu)
 |[],[]=>some []
 | p :: ps,x :: xs=>(match uU σ p (aI σ x),jr σ ps xs with
  |some (some D),some C=>some (D::C)
  |some none,some C=>some C
  |_,_=>none)
 |_,_=>none
def DR(i:Nat):Nat->aa (V×ah Nat)->aa (Nat×Nat)
 |_,[]=>[]
 |j,(_,some q)::C=>(q,60000+1000*i+j)::DR i (j+1) C
 |j,(_,none)::C=>DR i (j+1) C
def kC:Nat->aa Mu->aa (Nat×Nat)
 |_,[]=>[]
 |i,.aB r _ D::C=>(r,nF i)::(DR i 0 D++kC (i+1) C)
 |i,.sl q _::C=>(q,nF i)::kC (i+1) C
def Nr(ns:aa Nat):Lf->Bool
 |.own k=>!cF k ns
 |_=>true
def pn{X:Type}(σ:S)(ns:aa Nat):aa Lf->(aa V->ah X)->ah X
 |[],k=>k []
 |x::xs,k=>bif Nr ns x then iF σ x λy=>pn σ ns xs λys=>k (y.gy::ys)else none
def ow{X:Type}(σ:S)(ns:aa Nat)(x:A)(k:Pt->ah X):ah X:=
 match x with
 |.lf y=>pn σ ns [y] λC=>k (false,C)
 |.agg ys=>pn σ ns ys λC=>k (true,C)
 |.kA f (c::cs)=>k (false,.bool false::.int .i64 (f:Int)::c.gy::cs.map V.gy)
 | .fn f [(r,j)]=>bif cx r ns then none else (match σ.m r with
  | some (.aB cs)=>(match qX (cs.drop j)with
   |some (c::C)=>k (false,.bool false::.int .i64 (f:Int)::c::C)
   |_=>none)
  |_=>none)
 |_=>none
def iy{X:Type}(σ:S)(ns:aa Nat):(ps:aa PK)->aa Operand->aa Mu->(kB ps->ah X)->ah X
 |[],[],[],k=>k ()
 | .v b t :: ps,x :: xs,C,k=>ow σ ns (aI σ x) λp=>bif p.1==b then (match dec t 0 p.2 with
  |some y=>iy σ ns ps xs C λys=>k (y,ys)
  |none=>none)else none
 | .p t g _ :: ps,_ :: xs,.aB _ _ D :: C,k=>(match (bif Nat.beq (g % 2) 0 then dec t g (D.map (·.1))else none)with
  |some y=>iy σ ns ps xs C λys=>k (y,ys)
  |none=>none)
 | .s t g :: ps,_ :: xs,.sl _ y :: C,k=>(match (bif Nat.beq (g % 2) 0 then y.dP t (g+2)else none)with
  |some z=>iy σ ns ps xs C λys=>k (z,ys)
  |none=>none)
 |_,_,_,_=>none
def wH(w:World)(ρ:Nat->Loc)(rs:aa Nat):Nat->Loc:=λn=>
 if n<60000 then (if (n-20000) % 1000=0 then ρ (rs.getD ((n-20000) / 1000) 0)else (match ρ (rs.getD ((n-20000) / 1000) 0)with
  |.aB b off=>.dM ((w.cell? ⟨b,off+((n-20000) % 1000-1),none⟩).getD undef)
  |.dM v=>.dM v
  |.cc us=>.cc us))
 else (match ρ (rs.getD ((n-60000) / 1000) 0)with
  |.aB b off=>.dM ((w.cell? ⟨b,off+(n-60000) % 1000,none⟩).getD undef)
  |.dM v=>.dM v
  |.cc us=>.cc us)
def Hs{w:World}{ρ:Nat -> Loc}{rs:aa Nat}{i r:Nat}(h:rs[i]?=some r)(hi:i<40):wH w ρ rs (nF i)=ρ r:=by
 have C:nF i<60000:=by unfold nF;omega
 have D:(nF i-20000) % 1000=0:=by unfold nF;omega
 have E:(nF i-20000) / 1000=i:=by unfold nF;omega
 have I:rs.getD i 0=r:=by rw[fk,h];rfl
 unfold wH;simp_all
def anq{w:World}{ρ:Nat -> Loc}{rs:aa Nat}{i j r b off:Nat}{u:Value}{x:V}(h:rs[i]?=some r)(hi:i<40)(C:j<999)(D:ρ r = .aB b off)(E:w.cell? ⟨b,off+j,none⟩=some u):wH w ρ rs (nC i j x) = .dM u:=by
 have I:rs.getD i 0=r:=by rw[fk,h];rfl
 unfold wH nC;cases x.aD with
 |true =>grind
 |false =>grind
def V.Ns:V->Bool
 |.sl _ o _ _=>Nat.beq (o % 2) 0
 |_=>true
section
variable {P:Program} {w w':World} {w0:Wd} {B N:Nat} {aj dg aE:bG} {ρ eD:Nat->Loc} {σ:S} {a:Act} {X:Type} {d:Nat} {r:X} {ns cn:aa Nat}
def RV.reB{B':Nat}{q:aa Nat}{x:V}{v:Value}(h:RV w B aj q x v)(D:x.Ns=true):RV w B' aj q x v:=by
 induction h with
 |int=>exact .int _ _ _
 |bool=>exact .bool _ _
 |str=>exact .str _ _
 |nil=>exact .nil _
 |cS=>exact .cS _ _ _
 |cZ=>exact .cZ _ _ _ _ _ (by first|assumption|omega)
 |de=>exact .de _ _ _ _ _ (by first|assumption|omega)
 | aD q t o L l b off cap u O hl hb h1 Q E T I=>
  have D:=cD D;have U:o=0:=by omega
  subst U
  refine .aD _ _ _ _ _ _ _ _ u O hl hb (by omega) Q E (λi h j x C=>I i h j x C ?_)
  have:=vW t 0 l[i] x (fT C);cases x with
  | sl Y J Z l'=>
   have:J=0:=by simpa [V.gr]using this
   subst this;rfl
  |_=>rfl
 | own q t o L l b cap cs u hl hh hs hn hm E T I=>
  have D:=cD D
  refine .own _ _ _ _ _ _ _ cs u hl hh hs hn hm E (λi h j x C=>I i h j x C ?_)
  have:=vW t o l[i] x (fT C);cases x with
  | sl Y J Z l'=>
   have:J=o:=by simpa [V.gr]using this
   show Nat.beq _ 0=true;simp_all
  |_=>rfl
def RV.out{q I:aa Nat}{x:V}{v:Value}(h:RV w B aj q x v)(Q:∀ b,aj b=none -> aE b=none)(T:∀ b k,aj b=some k -> k≠[]/\(cF k ns=false -> aE b=none))(hq:x.aD=true \/ cF q ns=false){B':Nat}:RV w B' aE I x.gy v:=by
 induction h generalizing I with
 |int=>exact .int _ _ _
 |bool=>exact .bool _ _
 |str=>exact .str _ _
 |nil=>exact .nil _
 |cS=>exact .cS _ _ _
 |cZ=>exact .cZ _ _ _ _ _ (by first|assumption|omega)
 |de=>exact .de _ _ _ _ _ (by first|assumption|omega)
 | aD q t o U l b off cap u Y hl hb h1' Z J hr E=>
  refine .aD _ _ _ _ _ _ _ _ u (by omega) (Q b hl) hb (by omega) Z (λi h j x C=>?_) (λi h j x C=>?_)
  ·obtain⟨y,D,_⟩:=vX t o l[i] j x C;simp_all
  ·obtain⟨y,D,rfl⟩:=vX t o l[i] j x C;exact E i h j y D (.inl (jB t o l[i] Y j y D))
 | own q t o U l b cap cs u hl L hs hn hm J hr E=>
  have O:cF q ns=false:=by
   rcases hq with hq|hq
   ·simp[V.aD]at hq;omega
   ·exact hq
  obtain⟨eI,qc⟩:=T b q hl
  refine .aD _ _ _ _ _ _ _ _ u (by omega) (qc O) (gd.1 L).1 (by omega) hn (λi h j x C=>?_) (λi h j x C=>?_)
  ·obtain⟨y,D,_⟩:=vX t o l[i] j x C;have:=J i h j y D;rw[fj,cell_of_row w b _ cs _ _ L];exact this
  ·obtain⟨y,D,rfl⟩:=vX t o l[i] j x C;exact E i h j y D (.inr (by rw[Bb eI];exact O))
def anr{x:Lf}{k:V -> ah X}(h:iF σ x k=some r):∃ y,k y=some r /\ ∀ aj ρ a w,Rl w0 N aj ρ σ a w -> ∀ u,dA w w0.heap.size aj ρ x u -> ∃ q,(x = .own q \/ y.aD=true)/\RV w w0.heap.size aj q y u:=by
 cases x with
 |v y=>exact⟨y,h,λaj ρ a w hR u C=>⟨[],.inr C.1,C.2⟩⟩
 |dead=>cases h
 | own q=>
  obtain⟨y,D,E⟩:=sj q k h
  refine⟨y,E,λaj ρ a w hR u C=>⟨q,.inl rfl,?_⟩⟩
  obtain⟨v,I,J⟩:=D.ok hR.root;have:v=u:=by
   have L:=C.2;simp_all
  simp_all
structure Bc (ns:List Nat) (aj aE:bG):Prop where
 none:∀b,aj b=none->aE b=none
 rest:∀b k,aj b=some k->k≠[]/\(cF k ns=false->aE b=Option.none)
def Vc:∀ (xs:aa Lf) (k:aa V -> ah X),pn σ ns xs k=some r -> ∃ C,k C=some r/\C.length=xs.length /\ ∀ aj ρ a w aE,Rl w0 N aj ρ σ a w -> Bc ns aj aE -> ∀ (j:Nat) x y u,xs[j]?=some x -> C[j]?=some y -> dA w w0.heap.size aj ρ x u -> RV w w.heap.size aE [] y u
 |[],k,h=>⟨[],h,rfl,λ_ _ _ _ _ _ _ j x y u L=>by simp at L⟩
 | x :: xs,k,h=>by
  unfold pn at h;cases D:Nr ns x with
  |false=>simp_all
  | true=>
   rw[D,ak]at h;obtain⟨y,O,Q⟩:=anr (w0:=w0) (N:=N) h;obtain⟨ys,T,hl,Z⟩:=Vc xs _ O
   refine⟨y.gy::ys,T,by simp[hl],λaj ρ a w aE hR E j x' y' u I J U=>?_⟩
   cases j with
   | zero=>
    simp at I J;subst I J;obtain⟨q,hq,Y⟩:=Q aj ρ a w hR u U;refine Y.out E.none E.rest ?_;rcases hq with rfl|hq
    ·exact .inr (by simpa [Nr]using D)
    ·simp_all
   |succ j=>grind
inductive PM (w:World) (aE:bG):Pt->Value->Prop
 |v (p:Pt) (u:Value) (h:PV w w.heap.size aE (λ_=>[]) p u):PM w aE p u
 |f (g:Nat) (c:V) (cs:List V) (u:Value) (h:RF w w.heap.size aE (c::cs) u):PM w aE (false,.bool false::.int .i64 (g:Int)::c::cs) (.func (.func g) #[] #[u])
def ans{g:Nat}{c:V}{cs ys:aa V}(hl:(V.bool false :: .int .i64 (g:Int) :: c :: cs).length=ys.length)(h:∀ (j:Nat) x z,(V.bool false :: .int .i64 (g:Int) :: c :: cs)[j]?=some x -> ys[j]?=some z -> Wk x z):∃ C eV,ys = .bool false :: .int .i64 (g:Int) :: C :: eV/\bZ (c :: cs) (C :: eV):=by
 match ys,hl,h with
 | a :: b :: C :: eV,hl,h=>
  have D:=h 0 _ a rfl rfl;have E:=h 1 _ b rfl rfl;cases D;cases E;exact⟨C,eV,rfl,by simpa using hl,λj x z I J=>h (j+2) x z (by simpa using I) (by simpa using J)⟩
def RF.rC{cs C:aa V}{u:Value}(h:RF w B aj cs u)(E:bZ cs C)(J:∀ (j:Nat) z,C[j]?=some z->z.aD=true):RF w B aj C u:=by
 obtain⟨b,off,rfl,hb,hl,L⟩:=h
 refine⟨b,off,rfl,hb,hl,λj x D=>?_⟩
 have I:j<cs.length:=by rw[E.1];exact(dW.1 D).1
 obtain⟨_,v,O,Q⟩:=L j _ (bX I);exact⟨J j x D,v,O,Q.wk (E.2 j _ x (bX I) D)⟩
def RF.gy{cs:aa V}{u:Value}(h:RF w B aj cs u)(D:∀ b,aj b=none -> aE b=none)(I:∀ b k,aj b=some k -> k≠[]/\(cF k ns=false -> aE b=none)){B':Nat}:RF w B' aE (cs.map V.gy) u:=by
 obtain⟨b,off,rfl,hb,hl,J⟩:=h
 refine⟨b,off,rfl,hb,D b hl,λj x C=>?_⟩
 rw[dz]at C;cases E:cs[j]? with
 |none=>simp_all
 | some y=>
  rw[E]at C;injection C with C;subst C;obtain⟨L,v,O,Q⟩:=J j y E;exact⟨V.amy y,v,O,Q.out D I (.inl L)⟩
def ant{x:A}{k:Pt -> ah X}(h:ow σ ns x k=some r):∃ p,k p=some r /\ ∀ aj ρ a w aE,Rl w0 N aj ρ σ a w -> Bc ns aj aE -> ∀ u,RA w w0.heap.size aj ρ x u -> PM w aE p u:=by
 unfold ow at h;split at h
 ·rename_i y;obtain⟨Q,J,hl,L⟩:=Vc (w0:=w0) (N:=N) _ _ h
  refine⟨_,J,λaj ρ a w aE hR C u D=>.v _ _ ⟨#[u],rfl,by simp[hl],λj x E=>?_⟩⟩
  have I:j=0:=by
   grind
  subst I;exact⟨u,rfl,L aj ρ a w aE hR C 0 y x u rfl E D⟩
 ·rename_i ys;obtain⟨Q,J,hl,L⟩:=Vc (w0:=w0) (N:=N) _ _ h
  refine⟨_,J,λaj ρ a w aE hR C u D=>?_⟩
  obtain⟨us,rfl,O⟩:=D
  refine .v _ _ ⟨us,rfl,by rw[hl];exact O.1,λj x E=>?_⟩
  have I:j<ys.length:=by rw[<- hl];exact(dW.1 E).1
  obtain⟨v,hv,gY⟩:=O.2 j _ (bX I);exact⟨v,hv,L aj ρ a w aE hR C j _ x v (bX I) E gY⟩
 ·rename_i f c cs
  refine⟨_,h,λaj ρ a w aE hR C u D=>?_⟩
  obtain⟨pv,rfl,ox⟩:=D;exact .f f _ _ _ (ox.gy C.none C.rest)
 ·rename_i f T j;cases U:cx T ns with
  |true=>grind
  | false=>
   rw[U,au]at h;split at h
   ·rename_i cs hm;split at h
    ·rename_i c Q uI;obtain⟨e,hp⟩:=MX _ _ uI
     refine⟨_,h,λaj ρ a w aE hR C u D=>?_⟩
     obtain⟨us,rfl,mG,oW⟩:=D;obtain⟨b,off,dj,Y⟩:=oW 0 _ rfl;have Y:us[0]?=some (.pointer (some ⟨b,off+j,none⟩)):=Y;have aDb:us.size=1:=mG;have anu:us = #[.pointer (some ⟨b,off+j,none⟩)]:=by
      apply Array.ext';apply List.ext_getElem?;intro i;cases i with
      |zero=>grind
      |succ i=>grind
     subst anu;refine .f f _ _ _ ?_;cases hR.root T _ hm with
     | aB b' AX cells e' _ M3 Z lZ hh O hc=>
      rw[dj]at Z;injection Z with q1 q2;subst q1 q2
      refine⟨b,off+j,rfl,(gd.1 hh).1,(C.rest b _ lZ).2 (by simpa [cF]using U),λi x E=>?_⟩
      have hpx:=hp x (fT E);have hcd:(cs.drop j)[i]?=some (.v x):=by rw[e,dz,E];rfl
      rw[List.getElem?_drop]at hcd;obtain⟨k1,k2⟩:=hc _ _ hcd;refine⟨(by cases x<;>first|rfl|cases hpx),M3 (j+i),?_,k2.2.th hpx⟩;rw[Nat.add_assoc,cell_of_row w b _ cells _ _ hh];exact k1
    ·cases h
   ·cases h
 ·cases h
def zd(σ:S):Mu->Prop
 |.aB r cs C=>σ.m r=some (.aB cs)/\rB σ.m cs=some C/\cs.length<999
 |.sl q y=>σ.m q=some (.sl y)/\y.aD=false
def Ht:aa Mu->aa In->Prop
 |[],[]=>True
 |.aB _ _ I::C,.aB xs::D=>(bZ (I.map (·.1)) xs/\∀x∈xs,x.jM=true/\x.Ns=true)/\Ht C D
 |.sl _ y::C,.sl E::D=>(Wk y E/\E.Ns=true)/\Ht C D
 |_,_=>False
def DS(w:World)(B:Nat)(aj:bG)(ρ:Nat->Loc)(C:aa In):aa Ar->aa Value->Prop
 |[],[]=>True
 |x::xs,v::D=>RA w B aj ρ (UY C x) v/\DS w B aj ρ C xs D
 |_,_=>False
def DS.get{D:aa In}:∀ (xs:aa Ar) (C:aa Value),DS w B aj ρ D xs C -> C.length=xs.length /\ ∀ i,RA w B aj ρ ((wF D xs).t i) (C.toArray.getD i undef)
 |[],[],_=>⟨rfl,λi=>trivial⟩
 | x :: xs,v :: C,h=>by
  obtain⟨E,I⟩:=DS.get xs C h.2
  refine⟨by simp[E],λi=>?_⟩
  cases i with
  |zero=>exact h.1
  | succ i=>
   have:=I i;simp at this ⊢;exact this
def anv{t:TC}{g:Nat}{x:T t}(D:Nat.beq (g % 2) 0=true):∀ y∈enc t g x,y.jM=true/\y.Ns=true:=by
 intro y C;refine⟨Ub t g x y C,?_⟩;have:=vW t g x y C;cases y with
 | sl I E J L=>
  have:E=g:=by simpa [V.gr]using this
  subst this;exact D
 |_=>rfl
def anw(σ:S):PK->A->ah Mu->Prop
 |.v _ _,_,none=>True
 |.p _ _ off,x,some (.aB r cs C)=>x = .aG r off/\zd σ (.aB r cs C)
 |.s _ _,x,some (.sl q y)=>x = .lf (.own [q])/\zd σ (.sl q y)
 |_,_,_=>False
def uV{p:PK}{x:A}{z:ah Mu}(h:uU σ p x=some z):anw σ p x z:=by
 cases p with
 | v b t=>
  injection h with h;subst h;trivial
 | p t g off=>
  cases x with
  | aG r j=>
   have h:(match (bif Nat.beq j off then σ.m r else none)with
    | some (.aB cs)=>(match rB σ.m cs with
     |some E=>bif Nat.blt cs.length 999 then some _ else none
     |none=>none)
    |_=>none)=some z:=h
   cases C:Nat.beq j off with
   |false=>rw[C]at h;cases h
   | true=>
    obtain rfl:=cD C;rw[C,ak]at h;split at h
    ·rename_i cs I;split at h
     ·rename_i E J;cases hl:Nat.blt cs.length 999 with
      |false=>rw[hl]at h;cases h
      | true=>
       rw[hl]at h;injection h with h;subst h;exact⟨rfl,I,J,by have:=cL hl;omega⟩
     ·cases h
    ·cases h
  |_=>cases h
 | s t g=>
  have L:(∃ q,x = .lf (.own [q])):=by
   unfold uU at h;split at h
   next e=>cases e
   next e=>cases e
   ·simp[*]
   ·cases h
  obtain⟨q,rfl⟩:=L;have h:(match σ.m q with
   |some (.sl y)=>bif y.aD then none else some _
   |_=>none)=some z:=h
  split at h
  ·rename_i y O;cases D:y.aD with
   |true=>rw[D]at h;cases h
   | false=>
    rw[D]at h;injection h with h;subst h;exact⟨rfl,O,D⟩
  ·cases h
def Nt:∀ (ps:aa PK) (xs:aa Operand) (D:aa Mu),jr σ ps xs=some D -> ∀ J∈D,zd σ J
 |[],[],D,h=>by injection h with h;subst h;simp
 | p :: ps,x :: xs,D,h=>by
  unfold jr at h;split at h
  ·rename_i J E C I;injection h with h;subst h;have L:=Nt ps xs E I;have C:=uV C;intro z hz;rcases gf.1 hz with rfl | hz
   ·cases p with
    |v=>exact C.elim
    | p=>
     cases z with
     |aB=>exact C.2
     |sl=>exact C.elim
    | s=>
     cases z with
     |aB=>exact C.elim
     |sl=>exact C.2
   ·simp_all
  next E C I=>injection h with h;subst h;exact Nt ps xs E I
  ·cases h
 |[],_::_,D,h=>by cases h
 |_::_,[],D,h=>by cases h
def Hu:∀ {ps:aa PK} (i C:Nat) (x:kB ps),(jP ps i x).length=(jP ps C x).length
 |[],_,_,_=>rfl
 |.v _ _::ps,i,C,x=>by simp[jP,List.length_cons];rw[Hu]
 |.p _ _ _::ps,i,C,x=>by simp only[jP,List.length_cons];rw[Hu (i+1) (C+1)]
 |.s _ _::ps,i,C,x=>by simp only[jP,List.length_cons];rw[Hu (i+1) (C+1)]
def Nu:∀ (ps:aa PK) (xs:aa Operand) (J:aa Mu) (k:kB ps -> ah X),jr σ ps xs=some J -> iy σ ns ps xs J k=some r -> ∃ x,k x=some r/\Ht J (nL ps x)/\(jP ps 0 x).length=xs.length /\
  ∀aj ρ a w aE ρ',Rl w0 N aj ρ σ a w -> Bc ns aj aE -> ∀(L:aa In) (i:Nat),(∀j z,(nL ps x)[j]?=some z -> L[i+j]?=some z) -> (∀j O,J[j]?=some O -> ρ' (nF (i+j))=ρ O.root) -> DS w w.heap.size aE ρ' L (jP ps i x) (xs.map a.eval)
 | [],[],J,k,C,h=>by
  injection C with C;subst C;exact⟨(),h,trivial,rfl,λ_ _ _ _ _ _ _ _ _ _ _ _=>trivial⟩
 | .v b t :: ps,x :: xs,J,k,C,h=>by
  have sn:jr σ ps xs=some J:=by
   unfold jr at C;split at C
   next O T D I=>exact(uV D).elim
   next T D I=>rw[I];exact C
   ·cases C
  unfold iy at h;obtain⟨p,I,hp⟩:=ant (w0:=w0) (N:=N) h;cases hb:p.1==b with
  |false=>rw[hb]at I;cases I
  | true=>
   rw[hb,ak]at I;have hb:p.1=b:=by simpa using hb
   subst hb;split at I
   ·rename_i y Q;obtain⟨ys,h3,h4,h5,h6⟩:=Nu ps xs J _ sn I
    refine⟨(y,ys),h3,h4,?_,λaj ρ a w aE ρ' hR Y L i hi U=>⟨?_,h6 aj ρ a w aE ρ' hR Y L i hi U⟩⟩
    ·simp[jP,h5]
    ·have ox:=hp aj ρ a w aE hR Y _ (hR.aI x);have hk:=lQ t 0 p.2 y Q;generalize a.eval x=ux at ox ⊢;rcases ox with ⟨_,_,us,hu,hs,hr⟩ | ⟨g,c,cs,pv,ox⟩
     case f=>
      have he:∀(j:Nat) z,(enc t 0 y)[j]?=some z -> z.aD=true:=λj z E=>jB t 0 y (by omega) j z E
      obtain⟨c',eV,e,hw⟩:=ans hk.1 hk.2;rw[e]at he ⊢;exact⟨pv,rfl,ox.rC hw λj z E=>he (j+2) z (by simpa using E)⟩
     have o8:∀ (j:Nat) z,(enc t 0 y)[j]?=some z -> ∃ v,us[j]?=some v/\z.aD=true/\RV w w.heap.size aE [] z v:=by
      intro j z E;have hj:j<p.2.length:=by rw[hk.1];exact(dW.1 E).1
      obtain⟨v,hv,gY⟩:=hr j _ (bX hj);exact⟨v,hv,jB t 0 y (by omega) j z E,gY.wk (hk.2 j _ z (bX hj) E)⟩
     have hlen:us.size=(enc t 0 y).length:=hs.trans hk.1;obtain⟨b,vs⟩:=p;cases b with
     | true=>
      show RA _ _ _ _ (.agg ((enc t 0 y).map .v)) _
      refine⟨us,hu,by rw[dB];exact hlen,λj z E=>?_⟩
      rw[dz]at E;cases DE:(enc t 0 y)[j]? with
      |none=>rw[DE]at E;cases E
      | some z'=>
       rw[DE]at E;injection E with E;subst E;obtain⟨v,hv,g1,g2⟩:=o8 j z' DE;exact⟨v,hv,g1,g2⟩
     | false=>
      have hu:us = #[ux]:=hu;subst hu;show RA _ _ _ _ (UY L (.pt (false,enc t 0 y))) _
      match he:enc t 0 y,o8,hlen with
      | [z],o8,_=>
       obtain⟨v,hv,g1,g2⟩:=o8 0 z rfl;have:ux=v:=by simpa using hv
       rw[this];exact⟨g1,g2⟩
      |[],_,_=>trivial
      |_::_::_,_,hlen=>exact absurd hlen (by simp)
   ·cases I
 | .p t g off :: ps,x :: xs,J,k,C,h=>by
  unfold jr at C;split at C
  ·rename_i O T D I;injection C with C;subst C;have D:=uV D;cases O with
   |sl=>exact D.elim
   | aB r cs vs=>
    have D:aI σ x = .aG r off/\zd σ (.aB r cs vs):=D;unfold iy at h;split at h
    ·rename_i y Q;cases Z:Nat.beq (g % 2) 0 with
     |false=>rw[Z]at Q;cases Q
     | true=>
      rw[Z,ak]at Q;obtain⟨ys,h3,h4,h5,h6⟩:=Nu ps xs T _ I h
      refine⟨(y,ys),h3,⟨⟨lQ t g _ y Q,anv Z⟩,h4⟩,by simp[jP,Hu 1 0,h5],λaj ρ a w aE ρ' hR Y L i hi U=>⟨?_,?_⟩⟩
      ·have Hv:=hi 0 _ rfl;rw[Nat.add_zero]at Hv;have hx:=hR.aI x;rw[D.1]at hx;obtain⟨b,o,e1,e2⟩:=hx;show RA _ _ _ _ (match L[i]? with|some (.aB _)=>.aG (nF i) off|some (.sl _)=>.lf (.own [nF i])|none=>.undef) _;rw[Hv];have lY:=U 0 _ rfl;rw[Nat.add_zero]at lY;exact⟨b,o,lY.trans e1,e2⟩
      ·refine h6 aj ρ a w aE ρ' hR Y L (i+1) (λj z E=>?_) (λj O nN=>?_)
       ·rw[show i+1+j=i+(j+1) by omega];exact hi _ z E
       ·rw[show i+1+j=i+(j+1) by omega];exact U _ O nN
    ·cases h
  next T D I=>exact(uV D).elim
  ·cases C
 | .s t g :: ps,x :: xs,J,k,C,h=>by
  unfold jr at C;split at C
  ·rename_i O T D I;injection C with C;subst C;have D:=uV D;cases O with
   |aB=>exact D.elim
   | sl q y0=>
    have D:aI σ x = .lf (.own [q])/\zd σ (.sl q y0):=D;unfold iy at h;split at h
    ·rename_i y Q;cases Z:Nat.beq (g % 2) 0 with
     |false=>rw[Z]at Q;cases Q
     | true=>
      rw[Z,ak]at Q;obtain⟨ys,h3,h4,h5,h6⟩:=Nu ps xs T _ I h
      refine⟨(y,ys),h3,⟨⟨V.dX Q,?_⟩,h4⟩,by simp[jP,Hu 1 0,h5],λaj ρ a w aE ρ' hR Y L i hi U=>⟨?_,?_⟩⟩
      ·show Nat.beq ((g+2) % 2) 0=true;simp[*]
      ·have Hv:=hi 0 _ rfl;rw[Nat.add_zero]at Hv;have hx:=hR.aI x;rw[D.1]at hx;show RA _ _ _ _ (match L[i]? with|some (.aB _)=>.aG (nF i) 0|some (.sl _)=>.lf (.own [nF i])|none=>.undef) _;rw[Hv];have lY:=U 0 _ rfl;rw[Nat.add_zero]at lY;refine⟨hx.1,?_⟩;have I:=hx.2;simp only[cN]at I ⊢;rw[lY];exact I
      ·refine h6 aj ρ a w aE ρ' hR Y L (i+1) (λj z E=>?_) (λj O nN=>?_)
       ·rw[show i+1+j=i+(j+1) by omega];exact hi _ z E
       ·rw[show i+1+j=i+(j+1) by omega];exact U _ O nN
    ·cases h
  next T D I=>exact(uV D).elim
  ·cases C
 |[],_::_,J,k,C,h=>by cases C
 |_::_,[],J,k,C,h=>by cases C
end
def mM(c0:Nat):Nat->aa (V×ah Nat)->aa Nat
 |_,[]=>[]
 |n,(_,some q)::C=>q::mM c0 (n+1) C
 |n,(_,none)::C=>(c0+n)::mM c0 (n+1) C
def ze(c0:Nat):Nat->aa Mu->aa Nat
 |_,[]=>[]
 |pos,.aB r _ D::C=>r::(mM c0 (pos+1) D++ze c0 (pos+1+D.length) C)
 |pos,.sl q _::C=>q::ze c0 (pos+1) C
def uW:aa Nat->aa V->aa Nat
 |n::C,x::xs=>bif x.aD then uW C xs else n::uW C xs
 |_,_=>[]
def nO(c0:Nat):Nat->aa Mu->aa In->aa Nat
 |pos,.aB _ _ D::C,.aB xs::outs=>uW (mM c0 (pos+1) D) xs++nO c0 (pos+1+D.length) C outs
 |pos,.sl _ _::C,.sl _::outs=>nO c0 (pos+1) C outs
 |_,_,_=>[]
def pq(ns cn:aa Nat):aa Nat->aa Lf->aa V->aa Lf
 |n::C,l::D,x::xs=>(bif x.plain then .v x else bif x.aD then l.bE ns cn else .own [n])::pq ns cn C D xs
 |_,_,_=>[]
def tF:aa Nat->aa V->aa (Nat×aY)
 |n::C,x::xs=>bif x.aD then tF C xs else (n,.sl x)::tF C xs
 |_,_=>[]
def lA(ns cn:aa Nat)(c0:Nat):Nat->aa Mu->aa In->aa (Nat×aY)
 |pos,.aB r cs D::C,.aB xs::outs=>(r,.aB (pq ns cn (mM c0 (pos+1) D) cs xs))::(tF (mM c0 (pos+1) D) xs++lA ns cn c0 (pos+1+D.length) C outs)
 |pos,.sl q _::C,.sl y::outs=>bif y.jM then (q,.sl y)::lA ns cn c0 (pos+1) C outs else lA ns cn c0 (pos+1) C outs
 |_,_,_=>[]
def Nv:aa Nat->Bool
 |[]=>true
 |n::l=>!cx n l&&Nv l
def abu:In->Bool
 |.aB xs=>xs.all λx=>x.aD ||x.loc
 |.sl y=>y.loc
def iz:ah Tmp->Nat
 |some d=>1000000000100000+1000*d
 |none=>90000
def mN{X:Type}(N:Nat)(σ:S)(C:ah Tmp)(D:fW)(k:S->ah X):ah X:=
 match C with
 |none=>k σ
 | some d=>bif Nat.blt d N then (match D with
  | .one p=>(match so (p.1,lu (1000000000100000+1000*d) p.2)with
   |some y=>k ((iH (1000000000100000+1000*d) σ p.2).set d y)
   |none=>none)
  |.cR ps=>k ((lz (1000000000100000+1000*d) σ ps).set d (.cR (ov (1000000000100000+1000*d) ps))))else none
def Bd(N:Nat)(C:aa Mu)(outs:aa In)(cn:aa Nat):Bool:=
 Nv cn&&(C.all λD=>!cx D.root cn)&&(cn.all λn=>Nat.blt n N ||Nat.ble 60000 n)&&outs.all abu
def zf{X:Type}(N:Nat)(σ:S)(C:ah Tmp)(D:aa Mu)(ns cn:aa Nat)(E:fW)(outs:aa In)(k:S->ah X):ah X:=
 bif Bd N D outs cn then mN N (σ.bE ns cn (lA ns cn (iz C) E.len D outs)) C E k else none
def l6{X:Type}(N:Nat)(σ:S)(D:ah Tmp)(c:nM)(args:aa Operand)(k:S->ah X):ah X:=
 match jr σ c.ps args with
 | some C=>bif once (kC 0 C)&&Nat.ble C.length 40 then
   iy σ ((kC 0 C).map (·.1)) c.ps args C λx=>(match c.F x with
    |some y=>zf N σ D C ((kC 0 C).map (·.1)) (nO (iz D) (fe c.ro y.1).len C (iR (eH c.ps) y.2)) (fe c.ro y.1) (iR (eH c.ps) y.2) k
    |none=>none)else none
 |none=>none
section
variable {P:Program} {w w':World} {w0:Wd} {B N:Nat} {aj dg aE:bG} {ρ eD ρ':Nat->Loc} {σ:S} {a:Act} {X:Type} {d:Nat} {r:X} {ns cn:aa Nat} {o:Oper} {rs:aa Nat} {en:aa (Nat×Nat)}
def abv{n:Nat}:∀ {l:aa (Nat×Nat)},cx n (l.map (·.1))=false -> l.lookup n=none
 |[],_=>rfl
 | p :: l,h=>by
  simp[List.map_cons,cx,oS]at h;rw[List.lookup_cons];have:(n==p.1)=false:=by
   cases hb:n==p.1 with
   |false=>rfl
   |true =>simp_all
  rw[this];exact abv h.2
def anx{b:Nat}{k:aa Nat}{n m:Nat}(h:aj b=some k)(C:k.getLast?=some n)(D:en.lookup n=some m):eG aj en id b=some (k.dropLast++[m]):=by
 simp[eG,h,C,D]
def anz(C:∀ b k,aj b=some k -> k≠[]):Bc (en.map (·.1)) aj (eG aj en id):=by
 refine⟨λb h=>wE h,λb k h=>⟨C b k h,λhl=>?_⟩⟩
 simp[eG,h];cases D:k.getLast? with
 |none=>rfl
 | some n=>
  simp[cF,D]at hl;simp[abv hl]
def Vd{m:Nat -> ah aY}:∀ (cs:aa Lf) (C:aa (V×ah Nat)),rB m cs=some C -> C.length=cs.length /\ ∀ (j:Nat) l,cs[j]?=some l -> ∃ v,C[j]?=some v/\uT m l=some v
 |[],C,h=>by injection h with h;subst h;exact⟨rfl,λj l hl=>by simp at hl⟩
 | c :: cs,C,h=>by
  unfold rB at h;split at h
  ·rename_i v D I E;injection h with h;subst h;obtain⟨J,L⟩:=Vd cs D E
   grind
  ·cases h
def anA{l:Lf}{v:V}{E:ah Nat}(h:uT σ.m l=some (v,E))(hR:Rl w0 N aj ρ σ a w)(D:Bc ns aj aE){u:Value}(I:dA w w0.heap.size aj ρ l u):
  (E=none /\ ∀B' J,RV w B' aE J v u) \/ (∃q,E=some q/\v.aD=false/\RV w w0.heap.size aj [q] v u):=by
 unfold uT at h;split at h
 ·simp at h;obtain⟨rfl,rfl⟩:=h;exact .inl ⟨rfl,λB' J=>I.2.out D.none D.rest (.inl I.1)⟩
 ·rename_i q;split at h
  ·rename_i y Q;have L:=hR.root q _ Q;generalize C:aY.sl y=x at L;cases L with
   |aB=>cases C
   |mp=>cases C
   |gh=>cases C
   | sl T y' U Y=>
    injection C with C;subst C;have Z:T=u:=by
     have h2:=I.2;simp only[cN,U]at h2;simp_all
    subst Z;cases O:y.aD with
    | true=>
     rw[O,ak]at h;obtain⟨rfl,rfl⟩:=h;exact .inl ⟨rfl,λB' J=>Y.out D.none D.rest (.inl O)⟩
    |false =>grind
  ·cases h
 ·cases h
def abw{i:Nat}{v:V}{q:Nat}:∀ (D:aa (V×ah Nat)) (C j:Nat),D[j]?=some (v,some q) -> (q,60000+1000*i+(C+j))∈DR i C D
 |[],C,j,h=>by simp at h
 | (I,E) :: D,C,j,h=>by
  cases j with
  | zero=>
   obtain⟨rfl,rfl⟩:=h;exact .head _
  | succ j=>
   have:=abw (i:=i) D (C+1) j (by simpa using h);rw[show C+1+j=C+(j+1) by omega]at this;cases E with
   |none=>exact this
   |some J=>exact .tail _ this
def Ve{i:Nat}:∀ (cs:aa V) (C:Nat),(za i C cs).length=cs.length
 |[],_=>rfl
 |c::cs,C=>by simp[za,Ve cs]
def RV.mF{q:aa Nat}{x:V}{u:Value}(h:RV w B aj q x u)(C:x.plain=false)(D:x.jM=true):mF u=true:=by
 cases h<;>first|rfl|cases C|cases D
def Wk.Vf{x y:V}(h:Wk x y)(C:x.aD=false):y.aD=false:=by
 cases h with
 |same=>exact C
 |nil=>cases C
 |q=>exact C
 |gr t o D E l I J=>simp[V.aD];omega
def Vg(hR:Rl w0 N aj ρ σ a w)(hS:Bc ns aj (eG aj en id)):∀ (I:aa Mu) (L:aa In) (i:Nat),(∀ p∈kC i I,en.lookup p.1=some p.2) -> (∀ j E,I[j]?=some E -> rs[i+j]?=some E.root) -> (∀ E∈I,zd σ E) -> Ht I L -> i+I.length <= 40 ->
  pg w w.heap.size (eG aj en id) (wH w ρ rs) i L
 |[],[],_,_,_,_,_,_=>trivial
 |[],_::_,_,_,_,_,h,_=>h.elim
 |.aB _ _ _::_,[],_,_,_,_,h,_=>h.elim
 |.sl _ _::_,[],_,_,_,_,h,_=>h.elim
 |.aB _ _ _::_,.sl _::_,_,_,_,_,h,_=>h.elim
 |.sl _ _::_,.aB _::_,_,_,_,_,h,_=>h.elim
 | .aB r cs vs :: I,.aB xs :: L,i,O,U,Y,hrel,hi=>by
  obtain⟨hm,hg,hlen⟩:=Y _ (.head _);obtain⟨⟨hw,hx⟩,Be⟩:=hrel;obtain⟨g1,g2⟩:=Vd cs vs hg;have Q:=U 0 _ rfl;rw[Nat.add_zero]at Q;simp only[List.length_cons]at hi;have qY:xs.length=cs.length:=by rw[<- hw.1,dB,g1]
  have Z:=hR.root r _ hm;generalize C:aY.aB cs=z at Z;cases Z with
  |sl=>cases C
  |mp=>cases C
  |gh=>cases C
  | aB b off cells e eV us dj hl hh hs hc=>
   injection C with C;subst C;have o8:∀ (j:Nat) x,xs[j]?=some x -> cells[off+j]?=some (us j)/\RV w w.heap.size (eG aj en id) [nC i j x] x (us j)/\(x.plain=false -> wH w ρ rs (nC i j x) = .dM (us j)):=by
    intro j x J;have v5:j<cs.length:=by rw[<- qY];exact(dW.1 J).1
    obtain⟨v,hv,Hw⟩:=g2 j _ (bX v5);obtain⟨c1,T⟩:=hc j _ (bX v5);obtain⟨v,qo⟩:=v;have Vh:Wk v x:=hw.2 j v x (by rw[dz,hv];rfl) J;obtain⟨Hx,MY⟩:=hx x (fT J)
    refine⟨c1,?_,λD=>?_⟩
    ·rcases anA Hw hR hS T with ⟨rfl,h1⟩ | ⟨q,rfl,hf,h1⟩
     ·exact(h1 _ _).wk Vh
     ·have U6:=Vh.Vf hf;have hq:=O _ (.tail _ (List.mem_append_left _ (abw vs 0 j hv)));rw[fj]at hq;have h2:=(RV.eG (nm:=id) (p:=[]) h1 hq).wk Vh;have e1:nC i j x=60000+1000*i+j:=by simp[nC,U6]
      rw[e1];exact h2.reB MY
    ·exact anq Q (by omega) (by omega) dj (by rw[cell_of_row w b _ cells _ _ hh];exact c1)
   refine⟨.aB b off cells e _ us ((Hs Q (by omega)).trans dj) ?_ hh (by rw[Ve,qY];exact hs) (λj z C=>?_),λj x J D=>?_,Vg hR hS I L (i+1) (λp D=>O p (.tail _ (List.mem_append_right _ D))) (λj E Bf=>?_) (λE h=>Y E (.tail _ h)) Be (by omega)⟩
   ·exact anx hl rfl (O _ (.head _))
   ·have J:j<xs.length:=by rw[<- Ve (i:=i) xs 0];exact(dW.1 C).1
    have DT:=U9 (i:=i) xs 0 j _ (bX J);rw[C]at DT;injection DT with DT;subst DT;rw[fj];obtain⟨c1,T,c3⟩:=o8 j _ (bX J);refine⟨c1,?_⟩;cases D:(xs[j]).plain with
    | true=>
     have e1:yZ i j xs[j] = .v xs[j]:=by simp[yZ,D]
     rw[e1];exact⟨V.GP D,T.th D⟩
    | false=>
     have e1:yZ i j xs[j] = .own [nC i j xs[j]]:=by simp[yZ,D]
     rw[e1];exact⟨T.mF D (hx _ (cU _)).1,by simp only[cN,c3 D]⟩
   ·obtain⟨c1,T,c3⟩:=o8 j x J;exact .sl _ x (c3 D) T
   ·have:=U (j+1) E (by simpa using Bf);rw[show i+(j+1)=i+1+j by omega]at this;exact this
 | .sl q y :: I,.sl y' :: L,i,O,U,Y,hrel,hi=>by
  obtain⟨hm,hf⟩:=Y _ (.head _);obtain⟨⟨hw,hx⟩,Be⟩:=hrel;have Q:=U 0 _ rfl;rw[Nat.add_zero]at Q;simp only[List.length_cons]at hi;have Z:=hR.root q _ hm;generalize C:aY.sl y=z at Z;cases Z with
  |aB=>cases C
  |mp=>cases C
  |gh=>cases C
  | sl v y0 dj hr=>
   injection C with C;subst C
   refine⟨.sl v y' ((Hs Q (by omega)).trans dj) ?_,Vg hR hS I L (i+1) (λp D=>O p (.tail _ D)) (λj E Bf=>?_) (λE h=>Y E (.tail _ h)) Be (by omega)⟩
   ·exact((RV.eG (p:=[]) hr (O _ (.head _))).wk hw).reB hx
   ·have:=U (j+1) E (by simpa using Bf);rw[show i+(j+1)=i+1+j by omega]at this;exact this
end
def Vi:Loc->Nat×Nat
 |.aB b off=>(b,off)
 |.dM _=>(0,0)
 |.cc _=>(0,0)
def zg(w:World)(b off:Nat):Nat->aa Nat->aa V->aa (Nat×Value)
 |j,n::C,x::xs=>bif x.aD then zg w b off (j+1) C xs else (n,(w.cell? ⟨b,off+j,none⟩).getD undef)::zg w b off (j+1) C xs
 |_,_,_=>[]
def sx(w:World)(ρ:Nat->Loc)(c0:Nat):Nat->aa Mu->aa In->aa (Nat×Value)
 |pos,.aB r _ D::C,.aB xs::outs=>zg w (Vi (ρ r)).1 (Vi (ρ r)).2 0 (mM c0 (pos+1) D) xs++sx w ρ c0 (pos+1+D.length) C outs
 |pos,.sl _ _::C,.sl _::outs=>sx w ρ c0 (pos+1) C outs
 |_,_,_=>[]
def abx(l:aa (Nat×Value))(ρ:Nat->Loc):Nat->Loc:=λn=>match l.lookup n with
 |some v=>.dM v
 |none=>ρ n
def Vj{w:World}{b off:Nat}:∀ (C:aa Nat) (xs:aa V) (j:Nat),(zg w b off j C xs).map (·.1)=uW C xs
 |[],[],_=>rfl
 |[],_::_,_=>rfl
 |_::_,[],_=>rfl
 | n :: C,x :: xs,j=>by
  simp[zg,uW];cases x.aD with
  |true=>exact Vj C xs _
  |false=>simp;rw[Vj]
def Nw{w:World}{ρ:Nat -> Loc}{c0:Nat}:∀ (C:aa Mu) (outs:aa In) (D:Nat),(sx w ρ c0 D C outs).map (·.1)=nO c0 D C outs
 | .aB r _ E :: C,.aB xs :: outs,D=>by
  simp[sx,nO,List.map_append];rw[Vj,Nw]
 | .sl _ _ :: C,.sl _ :: outs,D=>by
  simp only[sx,nO];exact Nw C outs _
 |[],_,_=>by simp[sx,nO]
 |.aB _ _ _::_,[],_=>rfl
 |.sl _ _::_,[],_=>rfl
 |.aB _ _ _::_,.sl _::_,_=>rfl
 |.sl _ _::_,.aB _::_,_=>rfl
def aby{n:Nat}:∀ {l:aa (Nat×Value)},cx n (l.map (·.1))=false -> l.lookup n=none
 |[],_=>rfl
 | p :: l,h=>by
  simp[List.map_cons,cx,oS]at h;rw[List.lookup_cons];cases hb:n==p.1 with
  |false=>exact aby h.2
  |true =>simp_all
def abz:∀ {l:aa (Nat×Value)},Nv (l.map (·.1))=true -> ∀ p∈l,l.lookup p.1=some p.2
 |[],_,p,hp=>by cases hp
 | q :: l,h,p,hp=>by
  simp[List.map_cons,Nv,aO,gT]at h;rw[List.lookup_cons];rcases gf.1 hp with rfl|hp
  ·simp
  ·cases hb:p.1==q.1 with
   |false=>exact abz h.2 p hp
   | true=>
    have e:p.1=q.1:=by simpa using hb
    exact absurd (List.mem_map_of_mem (f:=(·.1)) hp) (by rw[e];exact abr h.1)
def Hy{c0:Nat}:∀ (C:aa (V×ah Nat)) (n:Nat),(mM c0 n C).length=C.length
 |[],_=>rfl
 |(_,some _)::C,n=>by simp[mM,Hy]
 |(_,none)::C,n=>by simp[mM,Hy C]
def abA{ns cn:aa Nat}:∀ (D:aa Nat) (C:aa Lf) (xs:aa V),D.length=C.length -> xs.length=C.length -> (pq ns cn D C xs).length=C.length /\
  ∀(j:Nat) z,(pq ns cn D C xs)[j]?=some z -> ∃n l x,D[j]?=some n/\C[j]?=some l/\xs[j]?=some x/\z=(bif x.plain then .v x else bif x.aD then l.bE ns cn else .own [n])
 |[],[],[],_,_=>⟨rfl,λj z E=>by simp[pq]at E⟩
 | n :: D,l :: C,x :: xs,I,J=>by
  obtain⟨L,O⟩:=abA (ns:=ns) (cn:=cn) D C xs (by simpa using I) (by simpa using J)
  refine⟨by simp[pq,L],λj z E=>?_⟩
  cases j with
  |zero=>simp[pq,List.getElem?_cons_zero,iE]at E;exact⟨n,l,x,rfl,rfl,rfl,E.symm⟩
  |succ j=>exact O j z (by simpa [pq]using E)
def abC:∀ (C:aa Nat) (xs:aa V),∀ p∈tF C xs,∃ (j:Nat) (x:V),C[j]?=some p.1/\xs[j]?=some x/\x.aD=false/\p.2 = .sl x
 |[],[],p,hp=>by cases hp
 |[],_::_,p,hp=>by cases hp
 | n :: C,x :: xs,p,hp=>by
  simp[tF]at hp;have rest:p∈tF C xs -> ∃ (j:Nat) (y:V),(n :: C)[j]?=some p.1/\(x :: xs)[j]?=some y/\y.aD=false/\p.2 = .sl y:=λhp=>by
   obtain⟨j,y,E,I,J,L⟩:=abC C xs p hp;exact⟨j+1,y,by simpa using E,by simpa using I,J,L⟩
  cases D:x.aD with
  |true=>grind
  | false=>
   rw[D]at hp;rcases gf.1 hp with rfl|hp
   ·exact⟨0,x,rfl,rfl,D,rfl⟩
   ·grind
def abD{w:World}{b off n:Nat}{x:V}:∀ (D:aa Nat) (xs:aa V) (C j:Nat),D[j]?=some n -> xs[j]?=some x -> x.aD=false -> (n,(w.cell? ⟨b,off+(C+j),none⟩).getD undef)∈zg w b off C D xs
 |[],_,_,j,h,_,_=>by simp at h
 | m :: D,y :: xs,C,j,E,I,J=>by
  cases j with
  | zero=>
   simp at E I;subst E I;simp only[zg,J];simp_all
  | succ j=>
   have:=abD (w:=w) (b:=b) (off:=off) D xs (C+1) j (by simpa using E) (by simpa using I) J;rw[show C+1+j=C+(j+1) by omega]at this;simp[zg]
   grind
section
variable {P:Program} {w w':World} {w0:Wd} {B N:Nat} {aj dg aE:bG} {ρ eD ρ':Nat->Loc} {σ:S} {a:Act} {X:Type} {d:Nat} {r:X} {ns cn:aa Nat} {o:Oper} {rs:aa Nat} {en:aa (Nat×Nat)} {nm Ny:Nat->Nat} {c0:Nat}
def RV.Bg{q:aa Nat}{x:V}{v:Value}(h:RV w B aj q x v){B':Nat}(hB:B' <= B)(hl:∀ b,B <= b -> aE b=aj b)(Q:∀ b k,aj b=some k -> aE b=some k)(J:x.loc=true):RV w B' aE q x v:=by
 induction h with
 |int=>exact .int _ _ _
 |bool=>exact .bool _ _
 |str=>exact .str _ _
 |nil=>exact .nil _
 |cS=>exact .cS _ _ _
 |cZ=>exact .cZ _ _ _ _ _ (by first|assumption|omega)
 |de=>exact .de _ _ _ _ _ (by first|assumption|omega)
 | aD q t o T l b off cap u L D hb U Y E Z I=>
  have wB:o=1:=by
   match o,L,J with
   |1,_,_=>rfl
  subst wB;have O:=U rfl
  refine .aD _ _ _ _ _ _ _ _ u L ((hl b O).trans D) hb (λ_=>Nat.le_trans hB O) Y E (λi h j x C=>I i h j x C ?_)
  have:=vW t 1 l[i] x (fT C);cases x with
  | sl t' o' q' l'=>
   have:o'=1:=by simpa [V.gr]using this
   subst this;rfl
  |_=>rfl
 | own q t o T l b cap cs u D hh hs hn hm E Z I=>
  exact .own _ _ _ _ _ _ _ cs u (Q b q D) hh hs hn hm E (λi h j x C=>I i h j x C (abk J l[i] x (fT C)))
def jC.Bg{nm:Nat -> Nat}:∀ (ps:aa Pt) (off:Nat) (C:aa Value) {B':Nat},jC w B aj nm off ps C -> B' <= B -> (∀ b,B <= b -> aE b=aj b) -> (∀ b k,aj b=some k -> aE b=some k) -> (∀ n,off <= n -> n<off+(ps.map λp=>p.2.length).sum -> nm n=Ny n) -> jC w B' aE Ny off ps C
 |[],_,[],_,h,_,_,_,_=>h
 | p :: ps,off,v :: C,B',h,hB,hl,I,D=>by
  obtain⟨⟨J,us,O,Q,T⟩,U⟩:=h;simp only[List.map_cons,List.sum_cons]at D
  refine⟨⟨J,us,O,Q,λj x E=>?_⟩,jC.Bg ps _ C U hB hl I (λn h1 h2=>D n (by omega) (by omega))⟩
  obtain⟨L,Y,Z⟩:=T j x E;have hj:j<p.2.length:=(dW.1 E).1;refine⟨L,Y,?_⟩;show RV w B' aE [Ny (off+j)] x L;rw[<- D (off+j) (by omega) (by omega)];exact Z.Bg hB hl I (cI.1 J x (fT E))
def Vk(hR:Rl w0 N aj ρ σ a w)(hv:rA w w' aj dg ρ eD ns cn)(lZ:∀ b k,aE b=some k -> dg b=some k)(p9:∀ b,w.heap.size <= b -> dg b=aE b)(hB:w0.heap.size <= w.heap.size):
  ∀(E:aa Mu) (ins outs:aa In) (i C:Nat),(∀j D,E[j]?=some D -> rs[i+j]?=some D.root) -> (∀D∈E,zd σ D) -> Ht E ins -> i+E.length <= 40 -> Hp w w' aE (wH w ρ rs) nm i C ins outs ->
  (∀k n,(ze c0 C E)[k]?=some n -> nm (C+k)=n) -> (∀p∈sx w' ρ c0 C E outs,eD p.1 = .dM p.2) -> (∀D∈E,cx D.root cn=false) -> outs.all abu=true -> ∀p∈lA ns cn c0 C E outs,eF w' w0.heap.size dg eD p.1 p.2
 |[],[],[],_,_,_,_,_,_,_,_,_,_,_,p,hp=>by simp[lA]at hp
 |[],[],_::_,_,_,_,_,_,_,h,_,_,_,_,_,_=>h.elim
 |[],_::_,_,_,_,_,_,h,_,_,_,_,_,_,_,_=>h.elim
 |.aB _ _ _::_,[],_,_,_,_,_,h,_,_,_,_,_,_,_,_=>h.elim
 |.sl _ _::_,[],_,_,_,_,_,h,_,_,_,_,_,_,_,_=>h.elim
 |.aB _ _ _::_,.sl _::_,_,_,_,_,_,h,_,_,_,_,_,_,_,_=>h.elim
 |.sl _ _::_,.aB _::_,_,_,_,_,_,h,_,_,_,_,_,_,_,_=>h.elim
 |.aB _ _ _::_,.aB _::_,[],_,_,_,_,_,_,h,_,_,_,_,_,_=>h.elim
 |.sl _ _::_,.sl _::_,[],_,_,_,_,_,_,h,_,_,_,_,_,_=>h.elim
 |.aB _ _ _::_,.aB _::_,.sl _::_,_,_,_,_,_,_,h,_,_,_,_,_,_=>h.elim
 |.sl _ _::_,.sl _::_,.aB _::_,_,_,_,_,_,_,h,_,_,_,_,_,_=>h.elim
 | .aB r cs I :: E,.aB xs0 :: ins,.aB xs :: outs,i,C,nK,nN,hrel,hi,hO,qj,Bh,o9,Q,p,hp=>by
  obtain⟨hm,hg,hlen⟩:=nN _ (.head _);obtain⟨⟨hw,hx⟩,Be⟩:=hrel;obtain⟨g1,g2⟩:=Vd cs I hg;have om:=nK 0 _ rfl;rw[Nat.add_zero]at om;simp only[List.length_cons]at hi;have Vl:xs0.length=cs.length:=by rw[<- hw.1,dB,g1]
  obtain⟨⟨b,off,cells,wG,e,e',T,h2,h3,h4,h5,h6,h7⟩,Vm⟩:=hO;have gF:=hR.root r _ hm;generalize U:aY.aB cs=z at gF;cases gF with
  |sl=>cases U
  |mp=>cases U
  |gh=>cases U
  | aB b0 O abE e0 eV us dj hl hh hs hc=>
   injection U with U;subst U;rw[Hs om (by omega)]at T;have T:ρ r = .aB b off:=T;rw[dj]at T;injection T with e1 e2;subst e1 e2;have anB:abE=cells:=by
    rw[hh]at h2;injection h2 with h2;injection h2
   subst anB;have lY:=o9 _ (.head _);have DU:eD r = .aB b0 O:=(hv.eC r lY).trans dj;have tu:nm C=r:=by have:=qj 0 r rfl;rwa [Nat.add_zero]at this
   have anC:∀ (j:Nat) n,(mM c0 (C+1) I)[j]?=some n -> nm (C+1+j)=n:=by
    intro j n Y;have hj:j<(mM c0 (C+1) I).length:=(dW.1 Y).1;have:=qj (j+1) n (by simp only[ze,List.getElem?_cons_succ];rw[List.getElem?_append_left hj];exact Y);rw[show C+1+j=C+(j+1) by omega];exact this
   have o8:∀ (j:Nat) x,xs[j]?=some x -> ∃ u,wG[O+j]?=some u/\w'.cell? ⟨b0,O+j,none⟩=some u/\((x.plain=true /\ ∀ (w:World) (B:Nat) (aj:bG) (q:aa Nat),RV w B aj q x u) \/ (x.plain=false/\x.aD=true/\abE[O+j]?=some u) \/ (x.aD=false/\RV w' w.heap.size aE [nm (C+1+j)] x u)):=by
    intro j x hj;obtain⟨u,Z,hd⟩:=h7 j x hj;exact⟨u,Z,by rw[cell_of_row w' b0 _ wG _ _ h3];exact Z,hd⟩
   have yO:∀ (j:Nat) n x u,(mM c0 (C+1) I)[j]?=some n -> xs[j]?=some x -> x.aD=false -> w'.cell? ⟨b0,O+j,none⟩=some u -> eD n = .dM u:=by
    intro j n x u Y hxj hf Z;have yY:=abD (w:=w') (b:=b0) (off:=O) _ xs 0 j Y hxj hf;rw[fj,Z]at yY;exact Bh (n,u) (by simp only[sx,dj,Vi];exact List.mem_append_left _ yY)
   simp only[lA]at hp;rcases gf.1 hp with rfl|hp
   ·obtain⟨k1,k2⟩:=abA (ns:=ns) (cn:=cn) (mM c0 (C+1) I) cs xs (by rw[Hy,g1]) (by rw[h6,Vl])
    refine .aB b0 O wG e' _ (λj=>wG.getD (O+j) undef) DU (lZ _ _ (by rw[h4,tu])) h3 (by show O+(pq _ _ _ _ _).length <= _;rw[k1,<- Vl,<- h6];exact h5) (λj z U=>?_)
    obtain⟨n,l,x,n1,n2,n3,rfl⟩:=k2 j z U;obtain⟨u,Z,Vn,hd⟩:=o8 j x n3;have eu:wG.getD (O+j) undef=u:=by rw[ij,Z];rfl
    rw[eu];refine⟨Z,?_⟩;rcases hd with ⟨J,L⟩|⟨J,L,d3⟩|⟨J,L⟩
    ·rw[J,ak];exact⟨V.GP J,L _ _ _ _⟩
    ·rw[J,L,au,ak];obtain⟨c1,c2⟩:=hc j l n2;rw[c1]at d3;injection d3 with d3;rw[<- d3];exact c2.jd hv
    ·have yX:x.plain=false:=by
      cases yX:x.plain with
      |false=>rfl
      |true=>rw[V.GP yX]at J;cases J
     rw[yX,J,au,au];exact⟨L.Uc J,by simp only[cN,yO j n x u n1 n3 J Vn]⟩
   ·rcases List.mem_append.1 hp with hp | hp
    ·obtain⟨j,x,n1,n2,n3,n4⟩:=abC _ _ p hp;obtain⟨u,Z,Vn,hd⟩:=o8 j x n2;rw[n4];refine .sl u x (yO j p.1 x u n1 n2 n3 Vn) ?_;rcases hd with ⟨J,L⟩ | ⟨J,L,d3⟩ | ⟨J,L⟩
     ·simp[*]
     ·rw[n3]at L;cases L
     ·rw[anC j _ n1]at L;refine L.Bg hB p9 lZ ?_;rw[List.all_cons,aO]at Q;have:=cI.1 Q.1 x (fT n2)
      rwa [n3,Bool.false_or]at this
    ·rw[List.all_cons,aO]at Q
     refine Vk hR hv lZ p9 hB E ins outs (i+1) (C+1+I.length) (λj D Bf=>?_) (λD h=>nN D (.tail _ h)) Be (by omega) ?_ (λk n Y=>?_) (λp hp=>Bh p ?_) (λD h=>o9 D (.tail _ h)) Q.2 p hp
     ·have:=nK (j+1) D (by simpa using Bf);rw[show i+(j+1)=i+1+j by omega]at this;exact this
     ·rw[g1,<- Vl];exact Vm
     ·have:=qj (1+I.length+k) n (by
       rw[show 1+I.length+k=(I.length+k)+1 by omega];simp only[ze,List.getElem?_cons_succ];rw[List.getElem?_append_right (by rw[Hy];omega),Hy];rw[show I.length+k-I.length=k by omega];exact Y)
      rw[show C+1+I.length+k=C+(1+I.length+k) by omega];exact this
     ·simp only[sx];exact List.mem_append_right _ hp
 | .sl q y0 :: E,.sl y1 :: ins,.sl y :: outs,i,C,nK,nN,hrel,hi,hO,qj,Bh,o9,Q,p,hp=>by
  obtain⟨hm,hf⟩:=nN _ (.head _);obtain⟨_,Be⟩:=hrel;have om:=nK 0 _ rfl;rw[Nat.add_zero]at om;simp only[List.length_cons]at hi;obtain⟨hO1,Vm⟩:=hO;rw[List.all_cons,aO]at Q;have tu:nm C=q:=by have:=qj 0 q rfl;rwa [Nat.add_zero]at this
  have hp:(p=(q,.sl y)/\y.jM=true) \/ p∈lA ns cn c0 (C+1) E outs:=by
   simp only[lA]at hp;cases hy:y.jM with
   |false=>rw[hy]at hp;exact .inr hp
   | true=>
    rw[hy]at hp;rcases gf.1 hp with h|h
    ·grind
    ·simp[*]
  rcases hp with ⟨rfl,hy⟩|hp
  ·obtain⟨v,T,h2⟩:=hO1.resolve_left (by rintro rfl;cases hy);rw[Hs om (by omega)]at T;rw[tu]at h2;exact .sl v y ((hv.eC q (o9 _ (.head _))).trans T) (h2.Bg hB p9 lZ Q.1)
  ·refine Vk hR hv lZ p9 hB E ins outs (i+1) (C+1) (λj D Bf=>?_) (λD h=>nN D (.tail _ h)) Be (by omega) Vm (λk n Y=>?_) (λp hp=>Bh p hp) (λD h=>o9 D (.tail _ h)) Q.2 p hp
   ·have:=nK (j+1) D (by simpa using Bf);rw[show i+(j+1)=i+1+j by omega]at this;exact this
   ·have:=qj (k+1) n (by simpa [ze]using Y);rw[show C+1+k=C+(k+1) by omega];exact this
end
end Go.Proofs.YtglnbhiaknohlaaGreat
