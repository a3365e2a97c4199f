/-
  Running the program over pure contents, and that it follows (part 2). Nothing here is a claim.
-/
import Derived.Laws.StructEq
import Derived.Test.YtglnbhiaknohlaaGreatV1
set_option linter.unusedSimpArgs false
namespace Go.Proofs.YtglnbhiaknohlaaGreat
set_option linter.defProp false
open Go.RowKit
set_option linter.unusedVariables false
section
variable {P:Program} {w w':World} {w0:Wd} {B N:Nat} {ah aE:bG} {ρ ρ':Nat->Loc} {σ:S} {a:Act} {X:Type} {d:Nat} {r:X}
def RV.under{k:aa Nat}{x:V}{v:Value}{n:Nat}(h:RV w B ah k x v)(hk:1<k.length \/ x.aF=true)(T:w.heap.size <= w'.heap.size)(hb:∀ b,b<w.heap.size -> ah b≠some [n] -> w'.heap[b]?=w.heap[b]?)(hl:∀ b,b<w.heap.size -> aE b=ah b):RV w' B aE k x v:=by
 induction h with
 |int=>exact .int _ _ _
 |bool=>exact .bool _ _
 |str=>exact .str _ _
 |nil=>exact .nil _
 |cS=>exact .cS _ _ _
 |cW=>exact .cW _ _ _ _ _ (by first|assumption|omega)
 |de=>exact .de _ _ _ _ _ (by first|assumption|omega)
 | aF q t o U l b off cap u O E C Y Z I hr J=>
  have L:ah b≠some [n]:=by rw[E];simp
  exact .aF _ _ _ _ _ _ _ _ u O ((hl b C).trans E) (kI C T) Y Z (λi h j x D=>(kJ (a:=⟨b,_,none⟩) (hb b C L)).trans (I i h j x D)) (λi h j x D=>J i h j x D (.inr (jM t o l[i] O j x D)))
 | own q t o U l b cap cs u E Q hs hn hm I hr J=>
  have C:=(gd.1 Q).1;have hq:1<q.length:=by
   rcases hk with hk|hk
   ·exact hk
   ·simp[V.aF]at hk;omega
  have L:ah b≠some [n]:=by
   grind
  exact .own _ _ _ _ _ _ _ cs u ((hl b C).trans E) ((hb b C L).trans Q) hs hn hm I (λi h j x D=>J i h j x D (.inl (by simp)))
def tP(w:World)(B:Nat)(ah:bG)(n C:Nat)(t:TC)(o:Nat)(l:aa (T t))(D:aa Value):Prop:=
 ∀i (hi:i<l.length) j x,(enc t o l[i])[j]?=some x->∃v,D[i*aD t+j]?=some v/\RV w B ah (j::(C+i)::aD t::[n]) x v
def RV.amr{n:Nat}{t:TC}{o:Nat}{C:Bool}{l:aa (T t)}{u:Value}(h:RV w B ah [n] (.sl t (o+2) C l) u){B':Nat}(hB:∀ b,ah b=some [n] -> B' <= b):
  ∃xs,w.ownsRow B' (tid t) (aD t) u l.length xs/\(∀b,u.ownBlock=some b -> ah b=some [n])/\(C=true -> u.ownBlock≠none)/\tP w B ah n 0 t o l xs:=by
 cases h with
 |cW=>omega
 |de=>omega
 |cS=>exact⟨[],⟨by simp,.inl ⟨rfl,rfl⟩⟩,by simp[Value.ownBlock],by simp,λi hi=>by simp at hi⟩
 |aF _ _ _ _ _ _ _ _ _ U=>omega
 | own _ _ _ _ _ b cap cs us hl D E I J Y Z=>
  refine⟨cs.toList.take _,⟨?_,.inr ⟨b,cap,cs,rfl,hB b hl,D,I,J.1,E,rfl⟩⟩,λL O=>?_,λ_=>by simp[Value.ownBlock],λi hi j x Q=>?_⟩
  ·simp_all
  ·have:b=L:=by simpa [Value.ownBlock]using O
   simp_all
  ·have hj:j<aD t:=by have:=(dQ.1 Q).1;rwa [jZ]at this
   have dZ:i*aD t+j<l.length*aD t:=by
    have:(i+1)*aD t <= l.length*aD t:=iN _ hi;rw[gH]at this;omega
   grind
def tP.append{n:Nat}{t:TC}{o:Nat}{l l2:aa (T t)}{xs ys:aa Value}(h:tP w B ah n 0 t o l xs)(E:tP w B ah n l.length t o l2 ys)(hl:xs.length=l.length*aD t):tP w B ah n 0 t o (l++l2) (xs++ys):=by
 intro i hi j x C;by_cases D:i<l.length
 ·rw[List.getElem_append_left D]at C;obtain⟨v,I,r⟩:=h i D j x C
  grind
 ·rw[List.getElem_append_right (by omega)]at C;have J:i-l.length<l2.length:=by rw[o8]at hi;omega
  obtain⟨v,I,r⟩:=E _ J j x C;refine⟨v,?_,?_⟩
  ·have e:i*aD t+j=xs.length+((i-l.length)*aD t+j):=by
    rw[ Nat.sub_mul];have:l.length*aD t <= i*aD t:=iN _ (by omega);omega
   grind
  ·grind
def tP.under{n C:Nat}{t:TC}{o:Nat}{l:aa (T t)}{D:aa Value}(h:tP w B ah n C t o l D)(E:w.heap.size<=w'.heap.size)(hb:∀ b,b<w.heap.size->ah b≠some [n]->w'.heap[b]?=w.heap[b]?)(hl:∀ b,b<w.heap.size->aE b=ah b):tP w' B aE n C t o l D:=
 λi hi j x I=>let ⟨v,J,r⟩:=h i hi j x I;⟨v,J,r.under (.inl (by simp)) E hb hl⟩
def aaO{n:Nat}{t:TC}{o:Nat}{l:aa (T t)}{u:Value}{xs:aa Value}{B':Nat}(h:w.ownsRow B' (tid t) (aD t) u l.length xs)(D:tP w B ah n 0 t o l xs)(hl:∀ b,u.ownBlock=some b -> ah b=some [n]):
  RV w B ah [n] (.sl t (o+2) false l) u:=by
 rcases h.2 with ⟨rfl,E⟩|⟨b,cap,cs,rfl,hB,I,J,L,O,Q⟩
 ·have:=List.eq_nil_of_length_eq_zero E;subst this;exact .cS _ _ _
 ·have U:∀ i _ j x,(enc t o l[i])[j]?=some x -> ∃ v,cs[i*aD t+j]?=some v/\RV w B ah (j :: i :: aD t :: [n]) x v:=by
   intro i hi j x C;obtain⟨v,Y,r⟩:=D i hi j x C
   grind
  refine .own [n] t o false l b cap cs (λi j=>(cs[i*aD t+j]?).getD undef) (hl b rfl) I O J ⟨L,λh=>by cases h⟩ (λi hi j x C=>?_) (λi hi j x C=>?_)
  ·grind
  ·grind
def Rl.ams{t e ty:TypeId}{C:TC}{i:TypeInfo}{z:Value}{rr o m c:Nat}{q:Bool}{l l2:aa (T C)}{u:Value}{ad:aj Addr}{news:aa Value}(h:Rl w0 N ah ρ σ a w)(hF:w0.F rr=none)(iY:P.underlying t=some (.slice e))(ht:tid C=e)(hi:P.info? e=some i)(hz:i.zero=some z)
  (gx:i.size=aD C) (lI:i.bytes <= 65536) (pN:z.cells.size=aD C) (hd:RV w w0.heap.size ah [rr] (.sl C (o+2) q l) u) (G6:Reads w w.heap.size (aD C) ad m news) (pO:∀v∈news,v.oneCell'=true) (hm:m=l2.length)
  (G7:tP w w0.heap.size ah rr l.length C o l2 news) (hlen:l.length+l2.length<1073741824):
  ∃D w' aE,(Builtin.append_ #[t,t] ty #[u,.slice ad m c]).run P w = .ok D w'/\Rl w0 N aE (bV ρ rr (.dI D)) ((σ.drop rr).root rr (.sl (.sl C (o+2) false (l++l2)))) a w'/\mQ D=true:=by
 subst ht hm;obtain⟨xs,yW,U,G5,jm⟩:=hd.amr (B':=0) (λb _=>iO b);have gz:(l.length+l2.length)*i.bytes <= 140737488355328:=by
  have h1:(l.length+l2.length)*i.bytes <= 1073741824*65536:=Nat.mul_le_mul (by omega) lI;omega
 obtain⟨D,w',ew,J,I,me⟩:=SS (P:=P) w 0 t ty (tid C) i z (aD C) i.bytes iY hi hz gx rfl pN (pE C) u l.length xs yW _ ad l2.length c news G6 pO (by unfold maxLen;omega) gz (iO _);have G8:(l++l2).length=l.length+l2.length:=o8;rw[<- G8]at J;have Be:=jm.append G7 yW.1;have fW:mQ D=true:=by rcases J.2 with ⟨rfl,_⟩|⟨_,_,_,rfl,_⟩<;>rfl
 have L:Below 0 w w':=(Below.refl 0 w).grown I (iO _) (λ_ _=>iO _);have sL:jl w0 w w':=⟨L.os,L.tape,L.output,L.size,λk E hL=>I.block k (kI E h.below.size) (λY=>by
  rcases(h.cX k _ (U k Y.symm)).1 with h1|h1
  ·exact absurd E (Nat.not_lt.2 h1)
  ·exact h1 hL)⟩
 have O:∀b,b<w.heap.size -> ah b≠some [rr] -> w'.heap[b]?=w.heap[b]?:=λb hb eU=>I.block b hb (λY=>eU (U b Y.symm))
 by_cases Q:D.ownBlock=some w.heap.size
 ·have dZ:w.heap.size<w'.heap.size:=by
   rcases J.2 with ⟨rfl,_⟩|⟨b,cap,cs,rfl,_,hh,_⟩
   ·cases Q
   ·have:b=w.heap.size:=by simpa [Value.ownBlock]using Q
    grind
  have Bi:∀b,b<w.heap.size -> bV ah w.heap.size (some [rr]) b=ah b:=λb hb=>cF _ _ _ (by omega)
  refine⟨D,w',bV ah w.heap.size (some [rr]),ew,h.yU hF sL ⟨I.size,O,Bi,λb hb=>(h.cX b [] hb).2.2 rfl⟩ (λb k hb E=>?_) (λr Z=>cF _ _ _ Z) (.sl D _ (cg _ _ _) (aaO J (Be.under I.size O Bi) (λb hb=>?_))),fW⟩
  ·by_cases e:b=w.heap.size
   ·subst e;rw[cg]at E
    grind
   ·rw[cF _ _ _ e]at E;have:=(h.cX b k E).2.1;omega
  ·rw[Q]at hb;injection hb with hb;subst hb;exact cg _ _ _
 ·have Uf:D.ownBlock=u.ownBlock:=by
   rcases me with me|me
   ·exact me
   ·exact absurd me Q
  refine⟨D,w',ah,ew,h.yU hF sL ⟨I.size,O,λ_ _=>rfl,λb hb=>(h.cX b [] hb).2.2 rfl⟩ (λb k hb E=>?_) (λr Z=>cF _ _ _ Z) (.sl D _ (cg _ _ _) (aaO J (Be.under I.size O (λ_ _=>rfl)) (λb hb=>U b (by rw[<- Uf];exact hb)))),fW⟩
  have:=(h.cX b k E).2.1;omega
end
def aBW{X:Type}(N:Nat)(σ:S)(C:aj Tmp)(c x y:A)(k:S->aj X):aj X:=
 match c with
 |.lf (.v (.bool b))=>bif b then iB N σ C x k else iB N σ C y k
 |_=>none
def yZ{X:Type}(P:Program)(s:TypeId)(x:A)(f:Nat)(k:A->aj X):aj X:=
 match G0 P s f,x with
 | some C,.agg cs=>(match jv P C.type,DP P C.type with
  |some n,some true=>if C.offset+n<=cs.length then k (.agg ((cs.drop C.offset).take n))else none
  | some _,some false=>(match cs[C.offset]? with
   |some y=>k (.lf y)
   |none=>none)
  |_,_=>none)
 |_,_=>none
def Bj{X:Type}(C:Bool)(x y:A)(k:A->aj X):aj X:=
 match x,y with
 |.lf (.v (.int D a)),.lf (.v (.int _ b))=>k (.lf (.v (.int D (bif C then (if b > a then b else a)else (if b<a then b else a)))))
 |_,_=>none
def Bk{X:Type}(P:Program)(t:TypeId)(x i:A)(k:A->aj X):aj X:=
 match x,i with
 | .lf (.v (.str s)),.lf (.v (.int _ iv))=>(match P.underlying t with
  |some .string=>if h:0<=iv/\iv.toNat<s.size then k (.lf (.v (.int .u8 ((s[iv.toNat]'h.2).toNat:Int))))else none
  |_=>none)
 |_,_=>none
def wK{X:Type}(x:aj A)(d:Int)(k:Int->aj X):aj X:=
 match x with
 |none=>k d
 |some (.lf (.v (.int _ n)))=>k n
 |_=>none
def za{X:Type}(P:Program)(t:TypeId)(x:A)(lo hi:aj A)(k:A->aj X):aj X:=
 match x with
 | .lf (.v (.str s))=>(match P.underlying t with
  |some .string=>wK lo 0 λl=>wK hi (s.size:Int) λh=>if 0<=l/\l<=h/\h<=(s.size:Int)then k (.lf (.v (.str (s.extract l.toNat h.toNat))))else none
  |_=>none)
 | .lf (.v (.sl C g D l))=>(match qy P t with
  | some e=>(match jv P e with
   |some n=>if n=aD C then (bif Nat.blt g 2 then wK lo 0 λa=>wK hi (l.length:Int) λb=>if 0<=a/\a<=b/\b<=(l.length:Int)then k (.lf (.v (.sl C g false ((l.take b.toNat).drop a.toNat))))else none else none)else none
   |none=>none)
  |none=>none)
 |_=>none
def zb(P:Program)(C D:TypeId):Bool:=
 match P.underlying C,P.underlying D with
 | some (.slice e),some .string=>(match P.underlying e with
  |some (.int .u8)=>true
  |_=>false)
 |_,_=>false
def wL{X:Type}(P:Program)(C D:TypeId)(z:V)(k:A->aj X):aj X:=
 match z with
 |.sl .u8 _ _ l=>bif zb P C D then k (.lf (.v (.str (strOfNums l))))else none
 |.nil=>bif zb P C D then k (.lf (.v (.str (strOfNums []))))else none
 |_=>none
def ox{X:Type}(P:Program)(σ:S)(C D:TypeId)(x:A)(k:A->aj X):aj X:=
 match x with
 | .lf (.v (.int _ n))=>(match P.underlying C,P.underlying D with
  |some _,some (.int E)=>k (.lf (.v (.int E (E.wrap n))))
  |_,_=>none)
 |.lf y=>iS σ y λz=>wL P C D z k
 |_=>none
section
variable {P:Program} {w w':World} {w0:Wd} {B N:Nat} {ah aE:bG} {ρ ρ':Nat->Loc} {σ:S} {a:Act} {X:Type} {d:Nat} {r:X} {o:Oper}
def aBX{α:Type}(f:α -> aa Value)(s:Nat)(C:∀ x,(f x).length=s)(l:aa α):(l.flatMap f).length=l.length*s:=by
 induction l with
 |nil=>simp
 |cons a l D=>grind
def amt{α:Type}(f:α -> aa Value)(s:Nat)(D:∀ x,(f x).length=s):∀ (l:aa α) (k:Nat) (C:k<l.length) (j:Nat),j<s -> (l.flatMap f)[k*s+j]?=(f l[k])[j]?:=by
 intro l
 induction l with
 |nil=>simp_all
 | cons a l E=>
  intro k C j I;rw[List.flatMap_cons];cases k with
  |zero=>grind
  |succ k =>grind
def aaP(z:Array Value)(s n:Nat)(C:z.size=s)(E:0<s):(madeCells z (n*s)).toList=(List.replicate n z.toList).flatten:=by
 have e:(List.replicate n z.toList).flatten=(List.replicate n ()).flatMap (λ_=>z.toList):=by
  rw[List.flatMap_def,List.map_replicate]
 rw[e];have hl:((List.replicate n ()).flatMap (λ_=>z.toList)).length=n*s:=by
  simp_all
 apply List.ext_getElem?;intro i;rcases Nat.lt_or_ge i _ with hi|hi
 ·have I:i / s<n:=Nat.div_lt_of_lt_mul (by rw[Nat.mul_comm];exact hi);have J:i % s<s:=Nat.mod_lt _ E;have L:i=i / s*s+i % s:=by rw[Nat.mul_comm];exact(Nat.div_add_mod i s).symm
  have D:=amt (λ_=>z.toList) s (λ_=>by simpa using C) (List.replicate n ()) (i / s) (by simpa using I) (i % s) J;rw[<- L]at D;rw[D];have O:i % s<z.size:=by omega
  simp only[madeCells,Array.toList_map,Array.toList_range,dw,List.getElem?_range hi,jj,C];simp[O]
 ·rw[List.getElem?_eq_none (by rw[lW,size_madeCells];exact hi),List.getElem?_eq_none (by rw[hl];exact hi)]
def amu{t:TypeId}{len:Nat}{parts:Array (Nat×Operand)}{k:S -> aj X}(h:Bh P N σ d t len parts.toList k=some r):∃ dV,k dV=some r /\ ∀ ah ρ a w,Rl w0 N ah ρ σ a w ->
  ∃w' aE ρ' v,(Instr.buildSlice t len (parts.map λ(i,x)=>(i,a.eval x))).run P w = .ok v w'/\Rl w0 N aE ρ' dV (a.put (some d) v) w':=by
 unfold Bh at h;split at h
 ·rename_i e C rE;obtain⟨iY,ht,i,hi,T,lI⟩:=yV rE;split at h
  ·rename_i z hz;cases O:(Nat.beq (full C) 0&&Nat.beq z.cells.size (aD C)&&Nat.blt (len*aD C) 16777217)with
   |false=>rw[O]at h;cases h
   | true=>
    rw[O,ak]at h;simp only[aM]at O;have hf:=ck O.1.1;have pN:=ck O.1.2;have hsm:len*aD C<16777217:=by have:=cI O.2;omega
    have pM:i.zero=some z:=by unfold zeroOf at hz;simpa [hi]using hz
    split at h
    ·rename_i cs kj;split at h
     ·rename_i vs l9;split at h
      ·rename_i l hl;obtain⟨hd,h⟩:=pL h
       refine⟨_,h,λah ρ a w hR=>?_⟩
       obtain⟨Nd,Ba,jm⟩:=Uk C 0 len vs l hl;have Ul:dU w w0.heap.size ah ρ (List.replicate len (z.cells.toList.map iT)).flatten (madeCells z.cells (len*aD C)):=by
        have e1:(List.replicate len (z.cells.toList.map iT)).flatten=((List.replicate len z.cells.toList).flatten).map iT:=by
         rw[List.map_flatten,List.map_replicate]
        rw[e1,<- aaP z.cells (aD C) len pN (pE C)]
        refine⟨by simp,λj x D=>?_⟩
        rw[dw]at D;cases I:(madeCells z.cells (len*aD C)).toList[j]? with
        |none=>rw[I]at D;cases D
        | some v=>
         rw[I]at D;injection D with D;subst D;exact⟨v,by simpa using I,M5 v⟩
       obtain⟨J,Z,gM⟩:=Nb (w:=w) (B:=w0.heap.size) (ah:=ah) (ρ:=ρ) _ _ _ (parts.toList.map λp=>(p.1,a.eval p.2)) cs kj Ul (by simp) (λj p q L U=>by
        rw[dw]at L U;cases D:parts.toList[j]? with
        |none=>rw[D]at L;cases L
        | some x=>
         rw[D]at L U;injection L with L;injection U with U;subst L U;exact⟨rfl,hR.aI x.2⟩)
       have aaQ:=Nc cs vs l9;have amv:J.size=len*aD C:=by rw[gM.1,aaQ,dh,Ba]
       have ew:(Instr.buildSlice t len (parts.map λ(i,x)=>(i,a.eval x))).run P w = .ok (.slice (some ⟨w.heap.size,0,none⟩) len len) (w.alloc (.cells J e)):=by
        have Um:(parts.map λ(i,x)=>(i,a.eval x)).toList=parts.toList.map λp=>(p.1,a.eval p.2):=by simp
        by_cases h0:len*aD C=0
        ·have hm:madeCells z.cells (len*aD C) = #[]:=by rw[h0];simp[madeCells]
         rw[hm]at Z;have Un:len*i.size=0:=by rw[T];exact h0
         rw[<- T]at Z;have e0:∀f:Nat -> Value,Array.map f (Array.range 0) = #[]:=λf=>by simp
         simp only[Instr.buildSlice,fq,gT iY,sizeOf,typeInfo];simp[hi,Un];rw[e0,Z];simp[newRow]
        ·exact run_buildSlice (P:=P) w t e len _ J i z iY hi pM (by rw[T];omega) (by rw[T];exact h0) (by rw[T,Um];exact Z)
       refine⟨_,bV ah w.heap.size (some [d]),bV ρ d (.dI (.slice (some ⟨w.heap.size,0,none⟩) len len)),_,ew,(hR.DT (hR.di d (.inl hd)) (λr Y=>cF _ _ _ Y) (.sl _ _ (cg _ _ _) ?_)).set ⟨rfl,by simp[cH,cg]⟩ hd⟩
       have Bl:∀ E (Q:E<l.length) j x,(enc C 0 l[E])[j]?=some x -> ∃ v,J[E*aD C+j]?=some v /\ ∀ (w':World) (B':Nat) (aE:bG) (q':aa Nat),RV w' B' aE q' x v:=by
        intro E Q j x D;obtain⟨y,hy,hw⟩:=jm E Q j x D;obtain⟨v,I,Y⟩:=gM.2 (E*aD C+j) (.v y) (by rw[aaQ,dw,hy];rfl);exact⟨v,I,λw' B' aE q'=>(Y.2.wk hw).tL (yQ C 0 l[E] hf x (ga D))⟩
       have:=RV.own (w:=w.alloc (.cells J e)) (B:=w0.heap.size) (ah:=bV ah w.heap.size (some [d])) [d] C 0 true l w.heap.size len J (λi j=>(J[i*aD C+j]?).getD undef)
        (cg _ _ _) (by rw[ht];exact heap_alloc_new w _) amv (by omega) ⟨by have:=Nat.le_mul_of_pos_right len (pE C);unfold maxLen;omega,λ_=>Nd.symm⟩ (λE Q j x D=>?_) (λE Q j x D=>?_)
       ·rw[Nd]at this;exact this
       ·obtain⟨v,I,_⟩:=Bl E Q j x D;rw[I];rfl
       ·obtain⟨v,I,Y⟩:=Bl E Q j x D;rw[I];exact Y _ _ _ _
      ·cases h
     ·cases h
    ·cases h
  ·cases h
 ·cases h
def aaR{C:Bool}{x y:A}{k:A->aj X}(h:Bj C x y k=some r):∃ z,k z=some r/\∀ (w:World) (B:Nat) (ah:bG) (ρ:Nat->Loc) (t ty:TypeId) (u v:Value),RA w B ah ρ x u->RA w B ah ρ y v->
  ∃D,((bif C then Builtin.max_ #[t,t] ty #[u,v]else Builtin.min_ #[t,t] ty #[u,v]):Sem Value).run P w = .ok D w/\RA w B ah ρ z D:=by
 unfold Bj at h;split at h
 ·refine⟨_,h,λw B ah ρ t ty u v E I=>?_⟩
  obtain rfl:=E.2.gO;obtain rfl:=I.2.gO;cases C with
  |true=>exact⟨_,by simp[Builtin.max_,Builtin.max2],rfl,.int _ _ _⟩
  |false=>exact⟨_,by simp[Builtin.min_,Builtin.min2],rfl,.int _ _ _⟩
 ·cases h
def amw{t:TypeId}{x i:A}{k:A->aj X}(h:Bk P t x i k=some r):∃ z,k z=some r/\∀ (w:World) (B:Nat) (ah:bG) (ρ:Nat->Loc) (u v:Value),RA w B ah ρ x u->RA w B ah ρ i v->
  ∃C,(Instr.index t u v).run P w = .ok C w/\RA w B ah ρ z C:=by
 unfold Bk at h;split at h
 ·rename_i s J iv;split at h
  ·rename_i D;split at h
   ·rename_i hb
    refine⟨_,h,λw B ah ρ u v E I=>?_⟩
    obtain rfl:=E.2.wE;obtain rfl:=I.2.gO;exact⟨_,by simp[Instr.index,asIntOf,gT D,hb.1,hb.2],rfl,.int _ _ _⟩
   ·cases h
  ·cases h
 ·cases h
def aaS{C D:TypeId}(h:zb P C D=true):∃ e,P.underlying C=some (.slice e)/\P.underlying D=some .string/\P.underlying e=some (.int .u8):=by
 unfold zb at h
 grind
def aaT(l:aa Int)(i:Nat)(hi:i<l.length):l.getD i 0=l[i]:=by rw[en,bO hi];rfl
def RV.toStr{I J e:TypeId}(O:P.underlying I=some (.slice e))(Q:P.underlying J=some .string)(U:P.underlying e=some (.int .u8)){o:Nat}{qn:Bool}{l:aa (T .u8)}{q:aa Nat}{B:Nat}{u:Value}(h:RV w B ah q (.sl .u8 o qn l) u):
  (convert I J u).run P w = .ok (.string (strOfNums l)) w:=by
 generalize C:V.sl .u8 o qn l=y at h;cases h with
 |int=>cases C
 |bool=>cases C
 |str=>cases C
 |nil=>cases C
 | cS q t Y=>
  injection C with D Z e3 E;subst D;obtain rfl:=eq_of_heq E;rw[run_convert_bytes_nil w I e O U 0 0 J Q];rfl
 | cW q t Y A c ho=>
  injection C with D Z e3 E;subst D;obtain rfl:=eq_of_heq E;have hl:=run_loadCells_list (P:=P) w A [] (λj v hj=>by simp at hj);rw[run_convert_bytes_string w I J e _ 0 c O U Q];rfl
 | de q t Y A c ho=>
  injection C with D Z e3 E;subst D;obtain rfl:=eq_of_heq E;have hl:(loadCells A 0).run P w = .ok (([]:aa Int).map (Value.int .u8)).toArray w:=run_loadCells_list (P:=P) w A [] (λj v hj=>by simp at hj);rw[run_convert_bytes_string w I J e _ 0 c O U Q,run_bytesToString w A 0 c [] hl];rfl
 | aF q t Y qn' l' b off cap uu ho hl hb h1 pG hc hr=>
  injection C with D Z e3 E;subst D;obtain rfl:=eq_of_heq E
  refine run_convert_bytes_arg w I e O U b off _ cap l rfl (λi hi=>?_) J Q
  have L:=hc i hi 0 (.int .u8 l[i]) rfl;have h3:=(hr i hi 0 (.int .u8 l[i]) rfl).gO;simp only[aD,Nat.mul_one,Nat.add_zero]at L;have hg:=aaT (show aa Int from l) i hi;rw[L,h3];exact bF (λz=>some (Value.int .u8 z)) hg.symm
 | own q t Y qn' l' b cap cs uu hl hh nM hn hm hc hr=>
  injection C with D Z e3 E;subst D;obtain rfl:=eq_of_heq E
  refine run_convert_bytes_arg w I e O U b 0 _ cap l rfl (λi hi=>?_) J Q
  have L:=hc i hi 0 (.int .u8 l[i]) rfl;have h3:=(hr i hi 0 (.int .u8 l[i]) rfl).gO;simp only[aD,Nat.mul_one,Nat.add_zero]at L;have hg:=aaT (show aa Int from l) i hi;rw[h3]at L;have h4:w.cell? ⟨b,0+i,none⟩=some (.int .u8 l[i]):=by simp[World.cell?,hh,L]
  rw[h4];exact bF (λz=>some (Value.int .u8 z)) hg.symm
def amx{E I:TypeId}{x:A}{k:A -> aj X}(h:ox P σ E I x k=some r):∃ z,k z=some r /\ ∀ ah ρ a w,Rl w0 N ah ρ σ a w -> ∀ u,RA w w0.heap.size ah ρ x u ->
  ∃Y,(convert E I u).run P w = .ok Y w/\RA w w0.heap.size ah ρ z Y:=by
 unfold ox at h;split at h
 ·rename_i kk n;split at h
  ·rename_i d1 kd Z hd
   refine⟨_,h,λah ρ a w _ u C=>?_⟩
   obtain rfl:=C.2.gO;exact⟨_,by simp[convert,gT Z,gT hd,Conv.intToInt],rfl,.int _ _ _⟩
  ·cases h
 ·rename_i y _;have key:∃ z,(∀ ah ρ a w,Rl w0 N ah ρ σ a w -> ∀ u,dy w w0.heap.size ah ρ y u -> ∃ q,RV w w0.heap.size ah q z u)/\wL P E I z k=some r:=by
   cases y with
   |v z=>exact⟨z,λah ρ a w _ u C=>⟨[],C.2⟩,h⟩
   |dead=>cases h
   | own q=>
    obtain⟨z,L,h⟩:=sF q _ h
    refine⟨z,λah ρ a w hR u C=>?_,h⟩
    obtain⟨v,hv,O⟩:=L.ok hR.root;have h3:=C.2
    grind
  obtain⟨z,L,D⟩:=key;clear h;unfold wL at D;split at D
  ·rename_i o qn l;cases J:zb P E I with
   |false=>simp_all
   | true=>
    rw[J]at D;obtain⟨e,Q,T,U⟩:=aaS J
    refine⟨_,D,λah ρ a w hR u C=>?_⟩
    obtain⟨q,O⟩:=L ah ρ a w hR u C;exact⟨_,O.toStr Q T U,rfl,.str _ _⟩
  ·cases J:zb P E I with
   |false=>simp_all
   | true=>
    rw[J,ak]at D;obtain⟨e,Q,T,U⟩:=aaS J
    refine⟨_,D,λah ρ a w hR u C=>?_⟩
    obtain⟨q,O⟩:=L ah ρ a w hR u C;cases O;exact⟨_,by rw[run_convert_bytes_nil w E e Q U 0 0 I T];rfl,rfl,.str _ _⟩
  ·cases D
 ·cases h
def amy{s:TypeId}{x:A}{f:Nat}{k:A -> aj X}(h:yZ P s x f k=some r):∃ z,k z=some r /\ ∀ (w:World) (B:Nat) (ah:bG) (ρ:Nat -> Loc) (u:Value),RA w B ah ρ x u ->
  ∃T,(Instr.field s u f).run P w = .ok T w/\RA w B ah ρ z T:=by
 unfold yZ at h;split at h
 ·rename_i E cs I;have lJ:∃ J,P.underlying s=some (.struct J)/\J[f]?=some E:=by
   unfold G0 at I;split at I
   ·simp_all
   ·cases I
  obtain⟨J,U,Y⟩:=lJ;split at h
  ·rename_i n L C;split at h
   ·rename_i hle
    refine⟨_,h,λw B ah ρ u D=>?_⟩
    obtain⟨us,rfl,hR⟩:=D;have O:(isAgg E.type).run P w = .ok true w:=by
     unfold DP at C;split at C
     next fs' D=>unfold isAgg;rw[fq,gT D];rfl
     next c e D=>unfold isAgg;rw[fq,gT D];rfl
     ·cases C
     ·cases C
    unfold jv at L;cases hi:P.info? E.type with
    |none=>simp_all
    | some i=>
     have A6:i.size=n:=by simpa [hi]using L
     refine⟨.agg (us.extract E.offset (E.offset+n)),by simp[Instr.field,gT U,Y,asAgg,part,fq,O,sizeOf,typeInfo,hi,A6],_,rfl,?_,λj y Q=>?_⟩
     ·have:=hR.1
      grind
     ·obtain⟨hj,Hg⟩:=MV _ _ _ _ _ Q;obtain⟨v,Z,hr⟩:=hR.2 _ y Hg
      grind
   ·cases h
  ·rename_i n L C;split at h
   ·rename_i y Q
    refine⟨_,h,λw B ah ρ u D=>?_⟩
    obtain⟨us,rfl,hR⟩:=D;obtain⟨v,Z,hr⟩:=hR.2 _ y Q;have O:(isAgg E.type).run P w = .ok false w:=by
     unfold DP at C;split at C
     ·cases C
     ·cases C
     next d hs ha D=>unfold isAgg;rw[fq,gT D];simp_all
     ·cases C
    exact⟨v,by simp[Instr.field,gT U,Y,asAgg,part,fq,O,Z],hr⟩
   ·cases h
  ·cases h
 ·cases h
end
def V.val:V->Value
 |.int k n=>.int k n
 |.bool b=>.bool b
 |.str s=>.string s
 |_=>undef
def Nf:TypeDesc->V->V->aj Bool
 |.int _,.int k a,.int C b=>if k=C then some (a==b)else none
 |.bool,.bool a,.bool b=>some (a==b)
 |.string,.str a,.str b=>some (a.toList==b.toList)
 |_,_,_=>none
def Hh(P:Program)(g:TypeId->aa V->aa V->aj Bool)(xs ys:aa V):aa Field->aj Bool
 |[]=>some true
 | f :: C=>bif f.name == "_" then Hh P g xs ys C else (match jv P f.type with
  | some n=>bif Nat.ble (f.offset+n) xs.length then (match g f.type ((xs.drop f.offset).take n) ((ys.drop f.offset).take n),Hh P g xs ys C with
   |some a,some b=>some (a&&b)
   |_,_=>none)else none
  |none=>none)
def zc(P:Program):Nat->TypeId->aa V->aa V->aj Bool
 |0,_,_,_=>none
 | n+1,t,xs,ys=>match P.underlying t with
  |some (.struct C)=>bif P.stoodInHeld t ||!Nat.beq xs.length ys.length then none else Hh P (zc P n) xs ys C.toList
  | some d=>(match xs,ys with
   |[x],[y]=>Nf d x y
   |_,_=>none)
  |none=>none
def Ng:BinOp->aj Bool
 |.eql=>some false
 |.neq=>some true
 |_=>none
def jn{α:Type}:aa α->Bool
 |[]=>true
 |_=>false
def isStr(P:Program)(t:TypeId):Bool:=match P.underlying t with
 |some (.struct _)=>true
 |_=>false
def mT{X:Type}(P:Program)(σ:S)(op:BinOp)(t:TypeId)(x y:A)(k:A->aj X):aj X:=
 match Ng op,x,y with
 | some C,.agg cs,.agg D=>(match rB cs,rB D with
  | some xs,some ys=>bif P.eqGuardType P.depth t || !isStr P t then none else (match zc P 20 t xs ys with
   |some b=>k (.lf (.v (.bool (bif C then !b else b))))
   |none=>none)
  |_,_=>none)
 | some C,.lf l,.lf (.v .nil)=>(match qy P t with
  | some _=>iS σ l λz=>(match z with
   |.nil=>k (.lf (.v (.bool (bif C then false else true))))
   |.sl _ _ true _=>k (.lf (.v (.bool (bif C then true else false))))
   |.sl _ _ false l=>bif jn l then none else k (.lf (.v (.bool (bif C then true else false))))
   |_=>none)
  |none=>none)
 |_,_,_=>vK x λa=>vK y λb=>nN P t op a b λz=>k (.lf (.v z))
section
variable {P:Program} {w w':World} {w0:Wd} {B N:Nat} {ah aE:bG} {ρ ρ':Nat->Loc} {σ:S} {a:Act} {X:Type} {d:Nat} {r:X} {o:Oper}
def amz{D:TypeDesc}{x y:V}{b:Bool}{t:TypeId}{n:Nat}(C:P.underlying t=some D)(h:Nf D x y=some b):(Op.equalIn (n+1) t x.val y.val).run P w = .ok b w:=by
 unfold Nf at h;split at h
 ·split at h
  next I _ a k J E=>subst E;injection h with h;subst h;exact run_equalIn_int w n t _ _ _ _ C
  ·cases h
 ·injection h with h;subst h;exact run_equalIn_bool' w n t _ _ C
 ·injection h with h;subst h;exact run_equalIn_string w n t _ _ C
 ·cases h
def tQ(P:Program)(t:TypeId)(xs:aa V)(u:Value):Prop:=
 match P.underlying t with
 |some (.struct _)=>u = .agg (xs.map V.val).toArray
 |_=>∃x,xs=[x]/\u=x.val
def aaU{t:TypeId}{n off:Nat}{xs:aa V}(J:jv P t=some n)(hle:off+n <= xs.length)(L:∃ d,P.underlying t=some d/\(∀ c e,d ≠ .array c e)/\((∀ C,d ≠ .struct C) -> n=1)):
  ∃u,(part t (xs.map V.val).toArray off).run P w = .ok u w/\tQ P t ((xs.drop off).take n) u:=by
 obtain⟨d,D,O,Q⟩:=L;unfold jv at J;cases hi:P.info? t with
 |none=>grind
 | some i=>
  have T:i.size=n:=by simpa [hi]using J
  by_cases E:∃C,d = .struct C
  ·obtain⟨C,rfl⟩:=E;have I:(isAgg t).run P w = .ok true w:=by
    unfold isAgg;rw[fq,gT D];rfl
   refine⟨.agg ((xs.map V.val).toArray.extract off (off+n)),by simp[part,fq,I,sizeOf,typeInfo,hi,T],?_⟩;unfold tQ;rw[D];simp only;congr 1;apply Array.ext';simp[List.map_drop,List.map_take]
  ·have I:(isAgg t).run P w = .ok false w:=by
    unfold isAgg;rw[fq,gT D w];cases d<;>first|rfl|(exfalso;exact E ⟨_,rfl⟩)|(exfalso;exact O _ _ rfl)
   have U:n=1:=Q λC e=>E ⟨C,e⟩
   subst U;have Y:off<xs.length:=by omega
   have Z:(xs.map V.val).toArray[off]?=some (xs[off]).val:=by simp[Y]
   refine⟨(xs[off]).val,by simp[part,fq,I,Z],?_⟩;have e1:(xs.drop off).take 1=[xs[off]]:=by
    rw[List.drop_eq_getElem_cons];rfl
   unfold tQ;rw[D];split
   ·grind
   ·grind
def amA{n:Nat}{t:TypeId}{xs ys:aa V}{b:Bool}(h:zc P n t xs ys=some b):∃ d,P.underlying t=some d/\(∀ c e,d ≠ .array c e)/\((∀ C,d ≠ .struct C) -> xs.length=1):=by
 cases n with
 |zero=>cases h
 | succ n=>
  unfold zc at h;split at h
  ·simp_all
  ·rename_i d I D;split at h
   next x y=>exact⟨d,D,(λc e E=>by subst E;simp[Nf]at h),λ_=>rfl⟩
   ·cases h
  ·cases h
def Uo{n:Nat}{xs ys:aa V}(hlen:xs.length=ys.length)(I:∀ t xs ys b,zc P n t xs ys=some b -> ∀ u v,tQ P t xs u -> tQ P t ys v -> ∀ k,(Op.equalIn (k+n) t u v).run P w = .ok b w)(k:Nat):∀ (C:aa Field) (b:Bool),Hh P (zc P n) xs ys C=some b ->
  (Op.eqFields (k+n) (xs.map V.val).toArray (ys.map V.val).toArray C).run P w = .ok b w
 | [],b,h=>by
  injection h with h;subst h;simp[Op.eqFields]
 | f :: C,b,h=>by
  unfold Hh at h;cases D:f.name == "_" with
  | true=>
   rw[D]at h;have:f.name = "_":=by simpa using D
   simp[Op.eqFields,this,not_true];exact Uo hlen I k C b h
  | false=>
   rw[D,aq]at h;have Z:f.name ≠ "_":=by simpa using D
   split at h
   ·rename_i s J;cases E:Nat.ble (f.offset+s) xs.length with
    |false=>simp_all
    | true=>
     rw[E,ak]at h;have E:=cI E;split at h
     ·rename_i c e L h2;injection h with h;subst h;obtain⟨O,Q,T,U⟩:=amA L;have Y:((xs.drop f.offset).take s).length=s:=by simp;omega
      obtain⟨u,Hi,Hj⟩:=aaU (w:=w) J E ⟨O,Q,T,λh=>Y.symm.trans (U h)⟩;obtain⟨v,Hl,wM⟩:=aaU (w:=w) (xs:=ys) (off:=f.offset) J (by omega) ⟨O,Q,T,λh=>Y.symm.trans (U h)⟩;have hr:=I _ _ _ c L u v Hj wM k;have Nh:=Uo hlen I k C e h2;simp only[Op.eqFields,Z,ne_eq,not_false_eq_true,if_true,fq,Hi,Hl,hr,kL];cases c
      ·simp
      ·simp_all
     ·cases h
   ·cases h
def aaV:∀ (n:Nat) (t:TypeId) (xs ys:aa V) (b:Bool),zc P n t xs ys=some b -> ∀ u v,tQ P t xs u -> tQ P t ys v -> ∀ k,(Op.equalIn (k+n) t u v).run P w = .ok b w
 |0,t,xs,ys,b,h=>by cases h
 | n+1,t,xs,ys,b,h=>by
  intro u v C D k;unfold zc at h;split at h
  ·rename_i O I;cases E:(P.stoodInHeld t || !Nat.beq xs.length ys.length)with
   |true=>simp_all
   | false=>
    rw[E,aq]at h;rw[o9,Bool.not_eq_false']at E;have hlen:=ck E.2;unfold tQ at C D;rw[I]at C D;simp only at C D;subst C D;have Q:P.fieldsOf t=O:=by simp[Program.fieldsOf,I]
    rw[<- Nat.add_assoc,run_equalIn_struct w (k+n) t _ _ (by rw[Q];exact I) E.1,Q];exact Uo hlen (aaV n) k O.toList b h
  ·rename_i d U T;split at h
   ·rename_i x y;unfold tQ at C D;rw[T]at C D;split at C
    ·simp_all
    ·split at D
     ·simp_all
     ·obtain⟨Y,J,rfl⟩:=C;obtain⟨Z,L,rfl⟩:=D;injection J with J;injection L with L;subst J L;exact amz T h
   ·cases h
  ·cases h
def aaW{cs:aa Lf}{xs:aa V}(h:rB cs=some xs){u:Value}(D:RA w B ah ρ (.agg cs) u):u = .agg (xs.map V.val).toArray:=by
 obtain⟨e,E⟩:=MW _ _ h;obtain⟨us,rfl,Q,I⟩:=D;congr 1;apply Array.ext';apply List.ext_getElem?;intro j;rw[ dw,oc];cases C:xs[j]? with
 |none =>simp_all
 | some x=>
  obtain⟨v,J,L⟩:=I j _ (by rw[e,dw,C];rfl);rw[J];have:=E x (ga C);have O:=L.2;cases O<;>first|rfl|cases this
def DW{op:BinOp}{C:Bool}(D:Ng op=some C){t e:TypeId}(E:P.underlying t=some (.slice e))(I J:Operand)(A:aj Addr)(n c:Nat):
  (do eqGuard op t I J (.slice A n c) (.slice none 0 0);binOp op t (.slice A n c) (.slice none 0 0):Sem Value).run P w = .ok (.bool (bif C then !A.isNone else A.isNone)) w:=by
 have L:(Op.equal t (.slice A n c) (.slice none 0 0)).run P w = .ok A.isNone w:=by
  have h:∀ d,(Op.equalIn (d+1) t (.slice A n c) (.slice none 0 0)).run P w = .ok A.isNone w:=by
   intro d;cases A<;>simp[Op.equalIn,gT E]
  exact h 9999
 cases op<;>simp[Ng]at D<;>subst D<;>simp[eqGuard,binOp,L]
def amB{op:BinOp}{t:TypeId}{x y:A}{k:A -> aj X}(h:mT P σ op t x y k=some r):∃ z,k z=some r /\ ∀ ah ρ a w,Rl w0 N ah ρ σ a w -> ∀ C D u v,RA w w0.heap.size ah ρ x u -> RA w w0.heap.size ah ρ y v ->
  ∃U,(do eqGuard op t C D u v;binOp op t u v:Sem Value).run P w = .ok U w/\RA w w0.heap.size ah ρ z U:=by
 unfold mT at h;split at h
 ·rename_i L cs ds J;split at h
  ·rename_i xs ys rC Ho;cases Y:(P.eqGuardType P.depth t || !isStr P t)with
   |true=>simp_all
   | false=>
    rw[Y,aq]at h;rw[o9,Bool.not_eq_false']at Y;obtain⟨Y,lJ⟩:=Y;split at h
    ·rename_i b hb
     refine⟨_,h,λah ρ a w hR C D u v E I=>?_⟩
     have E:=aaW rC E;have I:=aaW Ho I;subst E I;have hs:∃ fs,P.underlying t=some (.struct fs):=by
      unfold isStr at lJ;split at lJ
      ·simp_all
      ·cases lJ
     obtain⟨fs,Hp⟩:=hs;have Q:=aaV (w:=w) 20 t xs ys b hb (.agg (xs.map V.val).toArray) (.agg (ys.map V.val).toArray) (by unfold tQ;rw[Hp]) (by unfold tQ;rw[Hp]) 9980;refine⟨.bool (bif L then !b else b),?_,rfl,.bool _ _⟩;rw[fq,run_eqGuard_agg w op t C D _ _ Y,kL];cases op<;>simp[Ng]at J<;>subst J
     ·rw[run_eql_struct,Q];rfl
     ·rw[run_neq_struct,Q];rfl
    ·cases h
  ·cases h
 ·rename_i L l J;split at h
  ·rename_i e he;have T:P.underlying t=some (.slice e):=by
    unfold qy at he;split at he
    ·simp_all
    ·cases he
   obtain⟨z,hz,O⟩:=Uh (w0:=w0) (N:=N) h;clear h;split at O
   ·refine⟨_,O,λah ρ a w hR C D u v E I=>?_⟩
    obtain⟨q,Z⟩:=hz ah ρ a w hR u E;cases Z;cases I.2;exact⟨_,DW J T C D none 0 0,rfl,by cases L<;>exact .bool _ _⟩
   ·refine⟨_,O,λah ρ a w hR C D u v E I=>?_⟩
    obtain⟨q,Z⟩:=hz ah ρ a w hR u E;cases I.2;cases Z with
    |aF _ _ _ _ _ b off cap us ho hl hb h1 pG hc Q=>exact⟨_,DW J T C D _ _ _,rfl,by cases L<;>exact .bool _ _⟩
    |own=>exact⟨_,DW J T C D _ _ _,rfl,by cases L<;>exact .bool _ _⟩
    |de=>exact⟨_,DW J T C D _ _ _,rfl,by cases L<;>exact .bool _ _⟩
   ·rename_i U o' l';cases hl:jn l' with
    |true=>simp_all
    | false=>
     rw[hl,aq]at O
     refine⟨_,O,λah ρ a w hR C D u v E I=>?_⟩
     obtain⟨q,Z⟩:=hz ah ρ a w hR u E;cases I.2;cases Z with
     |cS=>cases hl
     |cW=>cases hl
     |aF _ _ _ _ _ b off cap us ho Bi hb h1 pG hc Q=>exact⟨_,DW J T C D _ _ _,rfl,by cases L<;>exact .bool _ _⟩
     |own=>exact⟨_,DW J T C D _ _ _,rfl,by cases L<;>exact .bool _ _⟩
   ·cases O
  ·cases h
 ·obtain⟨u0,hx,h1⟩:=MU h;obtain⟨v0,hy,O⟩:=MU h1;obtain⟨z,h3,hp,hs⟩:=al4 O;subst hx hy
  refine⟨_,h3,λah ρ a w hR C D u v E I=>?_⟩
  obtain⟨U,ew,Q⟩:=hs w _ ah C D [] [] _ _ E.2 I.2;exact⟨U,ew,V.GZ hp,Q⟩
/-! Parts of slices that nobody writes. -/
def DX{x:aj A}{C:Int}{k:Int->aj X}(h:wK x C k=some r):∃ n,k n=some r/\(∀ (E:Type) (D:Int->aj E),wK x C D=D n)/\((x=none/\n=C)\/∃ I,x=some (.lf (.v (.int I n)))):=by
 unfold wK at h;split at h
 ·exact⟨_,h,λ_ _=>rfl,.inl ⟨rfl,rfl⟩⟩
 ·exact⟨_,h,λ_ _=>rfl,.inr ⟨_,rfl⟩⟩
 ·cases h
def amC{t:TypeId}{x:A}{lo hi:aj A}{k:A -> aj X}(h:za P t x lo hi k=some r):∃ y,k y=some r/\(∀ (J:Type) (I:A -> aj J),za P t x lo hi I=I y) /\
  ((∃ (s:ByteArray) (l h:Int),x = .lf (.v (.str s))/\P.underlying t=some .string/\((lo=none/\l=0) \/ ∃ C,lo=some (.lf (.v (.int C l))))/\((hi=none/\h=s.size) \/ ∃ C,hi=some (.lf (.v (.int C h))))/\0 <= l/\l <= h/\h <= (s.size:Int)/\y = .lf (.v (.str (s.extract l.toNat h.toNat)))) \/
   ∃(E:TC) (g:Nat) (L:Bool) (xs:aa (T E)) (e:TypeId) (l h:Int),x = .lf (.v (.sl E g L xs))/\qy P t=some e/\jv P e=some (aD E)/\g<2/\((lo=none/\l=0) \/ ∃C,lo=some (.lf (.v (.int C l))))/\((hi=none/\h=xs.length) \/ ∃C,hi=some (.lf (.v (.int C h))))/\0 <= l/\l <= h/\h <= (xs.length:Int)/\y = .lf (.v (.sl E g false ((xs.take h.toNat).drop l.toNat)))):=by
 unfold za at h;split at h
 ·rename_i s;split at h
  ·rename_i Z;obtain⟨l,O,d1,Q⟩:=DX h;obtain⟨m,D,d2,U⟩:=DX O;split at D
   ·rename_i hb
    refine⟨_,D,λJ I=>?_,.inl ⟨s,l,m,rfl,Z,Q,U,hb.1,hb.2.1,hb.2.2,rfl⟩⟩
    simp[za,Z];simp_all
   ·cases D
  ·cases h
 ·rename_i E g L xs;split at h
  ·rename_i e he;split at h
   ·rename_i n hn;split at h
    ·rename_i Bb;subst Bb;cases Y:Nat.blt g 2 with
     |false=>simp_all
     | true=>
      rw[Y,ak]at h;obtain⟨l,O,d1,Q⟩:=DX h;obtain⟨m,D,d2,U⟩:=DX O;split at D
      ·rename_i hb
       refine⟨_,D,λJ I=>?_,.inr ⟨E,g,L,xs,e,l,m,rfl,he,hn,cI Y,Q,U,hb.1,hb.2.1,hb.2.2,rfl⟩⟩
       simp[za,he,hn,if_true,Y,ak];simp_all
      ·cases D
    ·cases h
   ·cases h
  ·cases h
 ·cases h
def aaX{t:TypeId}{x:A}{lo hi:aj A}{k:A->aj X}(h:za P t x lo hi k=some r):∃ y,k y=some r/\(∀ (X':Type) (k':A->aj X'),za P t x lo hi k'=k' y)/\
  ∀ (w:World) (B:Nat) (ah:bG) (ρ:Nat->Loc) (u:Value) (O C:aj Value),RA w B ah ρ x u->(∀ a,lo=some a->∃ v,O=some v/\RA w B ah ρ a v)->(lo=none->O=none)->(∀ a,hi=some a->∃ v,C=some v/\RA w B ah ρ a v)->(hi=none->C=none)->
   ∃t',(Instr.sliceAt t u O C none).run P w = .ok t' w/\RA w B ah ρ y t':=by
 obtain⟨y,h1,hd,hc⟩:=amC h
 refine⟨y,h1,hd,λw B ah ρ u O C T sJ mc Ni DY=>?_⟩
 have bl:∀ {o:aj A} {E:aj Value} {n U:Int},(∀ a,o=some a->∃ v,E=some v/\RA w B ah ρ a v)->(o=none->E=none)->((o=none/\n=U)\/∃ I,o=some (.lf (.v (.int I n))))->(E=none/\n=U)\/∃ I,E=some (.int I n):=by
  intro o E n U g1 g2 g3;rcases g3 with ⟨e,e'⟩|⟨I,e⟩
  ·exact .inl ⟨g2 e,e'⟩
  ·obtain⟨v,C,hr⟩:=g1 _ e;exact .inr ⟨I,by rw[C,hr.2.gO]⟩
 rcases hc with ⟨s,l,m,rfl,J,Y,Z,b1,b2,b3,rfl⟩|⟨tc,g,qn,xs,e,l,m,rfl,D,hn,hg,Y,Z,b1,b2,b3,rfl⟩
 ·have h5:=bl sJ mc Y;have h6:=bl Ni DY Z;obtain rfl:=T.2.wE;have em:(m.toNat:Int)=m:=Int.toNat_of_nonneg (by omega);refine⟨.string (s.extract l.toNat m.toNat),?_,rfl,.str _ _⟩;rw[run_sliceAt_string w t _ _ _ _ J];have hb0:0<=m:=by omega
  rcases h5 with ⟨rfl,h7⟩|⟨kl,rfl⟩<;>rcases h6 with ⟨rfl,h8⟩|⟨kh,rfl⟩
  all_goals simp_all [Instr.slice,gT J,Instr.sliceBounds,run_sliceBound]
 ·have h5:=bl sJ mc Y;have h6:=bl Ni DY Z;have J:P.underlying t=some (.slice e):=by
   unfold qy at D;split at D
   next e' uY=>injection D with D;rw[<-D];exact uY
   ·cases D
  have jm:P.elem t=e:=by simp[Program.elem,J]
  have L:P.underlying t=some (.slice (P.elem t)):=by rw[jm];exact J
  have Q:(sizeOf (P.elem t)).run P w = .ok (aD tc) w:=by
   unfold jv at hn;cases hi:P.info? e with
   |none=>simp[hi]at hn
   | some i=>
    have:i.size=aD tc:=by simpa [hi]using hn
    simp[sizeOf,typeInfo,jm,hi,this]
  have mR:∃ A n c,u = .slice A n c:=by
   cases T.2 with
   |cS=>exact⟨_,_,_,rfl⟩
   |cW=>exact⟨_,_,_,rfl⟩
   |de=>exact⟨_,_,_,rfl⟩
   |aF=>exact⟨_,_,_,rfl⟩
   |own=>exact⟨_,_,_,rfl⟩
  obtain⟨A,n,c,rfl⟩:=mR;obtain⟨hp,DZ,Up⟩:=T.2.part (a:=l.toNat) (h:=m.toNat) hg (by omega) (by omega);refine⟨_,?_,by simp[V.aF,hg],hp⟩;rw[run_sliceAt_slice w t _ _ _ _ L];rcases h5 with ⟨rfl,rfl⟩|⟨kl,rfl⟩<;>rcases h6 with ⟨rfl,rfl⟩|⟨kh,rfl⟩
  ·rw[run_slice_all w t A n c L,Q,DZ];simp
  ·rw[run_slice_h w t A n c L kh m (by omega) (by omega),Q];simp
  ·rw[run_slice_l w t A n c L kl l (by omega) (by omega),Q,DZ];simp
  ·rw[run_slice_lh w t A n c L kl kh l m (by omega) (by omega) (by omega),Q];simp
/-! Parts of slices that are owned. -/
def Hq{X:Type}(n:Nat)(q:aa Nat)(C:aj Nat)(lo hi:aj A)(y:V)(k:A->aj X):aj X:=
 match y with
 |.sl D _ _ l=>if n=aD D then wK lo 0 λa=>wK hi ((C.getD l.length:Nat):Int) λb=>if 0<=a/\a<=b/\b<=(l.length:Int)then k (.view q n a.toNat b.toNat)else none else none
 |_=>none
def oy{X:Type}(P:Program)(σ:S)(t:TypeId)(q:aa Nat)(C:aj Nat)(lo hi:aj A)(k:A->aj X):aj X:=
 match qy P t with
 | some e=>(match jv P e with
  |some n=>gn σ.m q λy=>Hq n q C lo hi y k
  |none=>none)
 |none=>none
def rH{X:Type}(P:Program)(σ:S)(t:TypeId)(x:A)(lo hi:aj A)(k:A->aj X):aj X:=
 match x with
 |.lf (.own q)=>oy P σ t q none lo hi k
 |.view q _ 0 j=>oy P σ t q (some j) lo hi k
 |x=>za P t x lo hi k
def aaY{n:Nat}{q:aa Nat}{D:aj Nat}{lo hi:aj A}{y:V}{k:A -> aj X}(h:Hq n q D lo hi y k=some r):∃ (C:TC) (g:Nat) (E:Bool) (xs:aa (T C)) (l h:Int),y = .sl C g E xs/\n=aD C /\
  ((lo=none/\l=0) \/ ∃I,lo=some (.lf (.v (.int I l))))/\((hi=none/\h=((D.getD xs.length:Nat):Int)) \/ ∃I,hi=some (.lf (.v (.int I h))))/\0 <= l/\l <= h/\h <= (xs.length:Int)/\k (.view q n l.toNat h.toNat)=some r /\
  ∀(O:Type) (J:A -> aj O),Hq n q D lo hi y J=J (.view q n l.toNat h.toNat):=by
 unfold Hq at h;split at h
 ·rename_i C g E xs;split at h
  ·rename_i Q;obtain⟨l,U,d1,Y⟩:=DX h;obtain⟨m,L,d2,Z⟩:=DX U;split at L
   ·rename_i hb
    refine⟨C,g,E,xs,l,m,rfl,Q,Y,Z,hb.1,hb.2.1,hb.2.2,L,λO J=>?_⟩
    simp[Hq,br Q];simp_all
   ·cases L
  ·cases h
 ·cases h
def aaZ{t:TypeId}{q:aa Nat}{U:aj Nat}{lo hi:aj A}{k:A -> aj X}(h:oy P σ t q U lo hi k=some r):∃ y,k y=some r /\
  ∀ ah ρ a w,Rl w0 N ah ρ σ a w -> ∀ (D:aj Addr) (n c C:Nat) (O E:aj Value),cH w ah ρ q=some (.slice D n c) -> C=U.getD n -> C <= n -> (∀ a,lo=some a -> ∃ v,O=some v/\RA w w0.heap.size ah ρ a v) -> (lo=none -> O=none) -> (∀ a,hi=some a -> ∃ v,E=some v/\RA w w0.heap.size ah ρ a v) -> (hi=none -> E=none) ->
   ∃t',(Instr.sliceAt t (.slice D C c) O E none).run P w = .ok t' w/\RA w w0.heap.size ah ρ y t':=by
 unfold oy at h;split at h
 ·rename_i e Y;split at h
  ·rename_i n hn;obtain⟨y0,Uq,h2⟩:=sF q _ h;obtain⟨tc,g,qn,xs,l,m,rfl,Bb,e1,e2,b1,b2,b3,h3,_⟩:=aaY h2
   refine⟨_,h3,λah ρ a w hR D n' c C O E pI Ur hle sJ mc Ni DY=>?_⟩
   have bl:∀ {o:aj A} {I:aj Value} {n Z:Int},(∀ a,o=some a -> ∃ v,I=some v/\RA w w0.heap.size ah ρ a v) -> (o=none -> I=none) -> ((o=none/\n=Z) \/ ∃ J,o=some (.lf (.v (.int J n)))) -> (I=none/\n=Z) \/ ∃ J,I=some (.int J n):=by
    intro o I n Z g1 g2 g3;rcases g3 with ⟨e,e'⟩|⟨J,e⟩
    ·grind
    ·obtain⟨v,E,hr⟩:=g1 _ e;exact .inr ⟨J,by rw[E,hr.2.gO]⟩
   have h5:=bl sJ mc e1;have h6:=bl Ni DY e2;have iY:P.underlying t=some (.slice e):=by
    unfold qy at Y;split at Y
    ·grind
    ·cases Y
   have jm:P.elem t=e:=by simp[Program.elem,iY]
   have L:P.underlying t=some (.slice (P.elem t)):=by rw[jm];exact iY
   have Q:(sizeOf (P.elem t)).run P w = .ok n w:=by
    unfold jv at hn;cases hi:P.info? e with
    |none=>grind
    | some i=>
     have:i.size=n:=by simpa [hi]using hn
     simp[sizeOf,typeInfo,jm,hi,this]
   obtain⟨v0,T,mh⟩:=Uq.ok hR.root;rw[pI]at T;injection T with T;subst T;have hf:RV w 0 (λ_=>none) [] (.sl tc 0 qn xs) (.slice D n' c):=mh.gL;obtain⟨hp,DZ,Up⟩:=hf.part (a:=l.toNat) (h:=m.toNat) (by omega) (by omega) (by omega);have amD:((U.getD xs.length:Nat):Int)=(C:Int):=by rw[Ur,DZ]
   rw[amD]at h6;refine⟨sliced D l.toNat m.toNat c n,?_,D,n',c,pI,by omega,by omega,rfl⟩;rw[run_sliceAt_slice w t _ _ _ _ L];rcases h5 with ⟨rfl,rfl⟩|⟨kl,rfl⟩<;>rcases h6 with ⟨rfl,rfl⟩|⟨kh,rfl⟩
   ·rw[run_slice_all w t D C c L,Q];simp
   ·rw[run_slice_h w t D C c L kh m (by omega) (by omega),Q];simp
   ·rw[run_slice_l w t D C c L kl l (by omega) (by omega),Q];simp
   ·rw[run_slice_lh w t D C c L kl kh l m (by omega) (by omega) (by omega),Q];simp
  ·cases h
 ·cases h
def amE{t:TypeId}{x:A}{lo hi:aj A}{k:A -> aj X}(h:rH P σ t x lo hi k=some r):∃ y,k y=some r /\
  ∀ ah ρ a w,Rl w0 N ah ρ σ a w -> ∀ (u:Value) (C D:aj Value),RA w w0.heap.size ah ρ x u -> (∀ a,lo=some a -> ∃ v,C=some v/\RA w w0.heap.size ah ρ a v) -> (lo=none -> C=none) -> (∀ a,hi=some a -> ∃ v,D=some v/\RA w w0.heap.size ah ρ a v) -> (hi=none -> D=none) ->
   ∃U,(Instr.sliceAt t u C D none).run P w = .ok U w/\RA w w0.heap.size ah ρ y U:=by
 unfold rH at h;split at h
 ·rename_i q;obtain⟨y,E,I⟩:=aaZ h
  refine⟨y,E,λah ρ a w hR u C D J L O Q T=>?_⟩
  have Y:∃ A n c,u = .slice A n c:=by
   have:=J.1;cases u<;>first|cases this;done|exact⟨_,_,_,rfl⟩
  obtain⟨A,n,c,rfl⟩:=Y;exact I ah ρ a w hR A n c n C D J.2 rfl (eB _) L O Q T
 ·rename_i q s j;obtain⟨y,E,I⟩:=aaZ h
  refine⟨y,E,λah ρ a w hR u C D J L O Q T=>?_⟩
  obtain⟨A,n,c,Z,_,a2,rfl⟩:=J;have e:sliced A 0 j c s = .slice A j c:=by cases A<;>simp[sliced,Addr.add]
  rw[e];exact I ah ρ a w hR A n c j C D Z rfl a2 L O Q T
 ·obtain⟨y,E,_,I⟩:=aaX h;exact⟨y,E,λah ρ a w _ u C D=>I w _ ah ρ u C D⟩
end
abbrev Pt:=Bool×aa V
def PV(w:World)(B:Nat)(ah:bG)(key:Nat->aa Nat)(p:Pt)(u:Value):Prop:=
 ∃us:Array Value,(match p.1 with|true=>u = .agg us|false=>us = #[u])/\us.size=p.2.length/\∀(j:Nat) x,p.2[j]?=some x->∃v,us[j]?=some v/\RV w B ah (key j) x v
def zd(w:World)(cs:aa V)(u:Value):Prop:=
 ∃b off,u = .pointer (some ⟨b,off,none⟩)/\b<w.heap.size/\∀(j:Nat) x,cs[j]?=some x->∃v,w.cell? ⟨b,off+j,none⟩=some v/\RV w w.heap.size (λ_=>none) [] x v
inductive PA (w:World):Pt->Value->Prop
 |v (p:Pt) (u:Value) (h:PV w w.heap.size (λ_=>none) (λ_=>[]) p u):PA w p u
 |p (c:V) (cs:List V) (u:Value) (h:zd w (c::cs) u):PA w (false,.bool true::c::cs) u
 |f (g:Nat) (c:V) (cs:List V) (u:Value) (h:zd w (c::cs) u):PA w (false,.bool false::.int .i64 (g:Int)::c::cs) (.func (.func g) #[] #[u])
def vf(w:World)(args:aa Pt)(bX:Array Value):Prop:=
 bX.size=args.length/\∀(i:Nat) p,args[i]?=some p->∃u,bX[i]?=some u/\PA w p u
def PA.pv{w:World}{x:V}{u:Value}(h:PA w (false,[x]) u):PV w w.heap.size (λ_=>none) (λ_=>[]) (false,[x]) u:=by
 cases h with
 |v _ _ h=>exact h
def PA.pvS{w:World}{xs:aa V}{u:Value}(h:PA w (true,xs) u):PV w w.heap.size (λ_=>none) (λ_=>[]) (true,xs) u:=by
 cases h with
 |v _ _ h=>exact h
inductive gp where
 |one (p:Pt)
 |cQ (ps:List Pt)
def ze(t:TC):Nat->Bool
 |0=>false
 |1=>true
 |o+2=>Nat.ble (full t) o ||Nat.beq (o % 2) 1
def V.loc:V->Bool
 |.sl t o _ _=>ze t o
 |_=>true
def jO(w:World)(B:Nat)(ah:bG)(nm:Nat->Nat):Nat->aa Pt->aa Value->Prop
 |_,[],[]=>True
 |off,p::ps,v::C=>(p.2.all V.loc=true/\PV w B ah (λj=>[nm (off+j)]) p v)/\jO w B ah nm (off+p.2.length) ps C
 |_,_,_=>False
def rI(w:World)(B:Nat)(ah:bG)(nm:Nat->Nat):gp->Value->Prop
 |.one p,v=>jO w B ah nm 0 [p] [v]
 |.cQ ps,v=>∃C:Array Value,v = .tuple C/\jO w B ah nm 0 ps C.toList
structure jx where
 run:(X:Type)->List Pt->(gp->Option X)->Option X
def iZ(P:Program)(f:Nat)(c:jx):Prop:=
 ∀ (X:Type) (args:aa Pt) (k:gp->aj X) (r:X),c.run X args k=some r->∃ C,k C=some r/\(∀ (D:Type) (E:gp->aj D),c.run D args E=E C)/\∀ (nm:Nat->Nat) (w:World) (bX:Array Value),vf w args bX->Hd w (λ_=>none)->
  Calls P f bX w λe w'=>∃v aE,e = .returned v/\Below w.heap.size w w'/\(∀b k,aE b=some k->w.heap.size<=b/\b<w'.heap.size/\k≠[])/\rI w' w.heap.size aE nm C v
def qC{X:Type}(σ:S):aa Lf->(aa V->aj X)->aj X
 |[],k=>k []
 |x::xs,k=>iS σ x λy=>qC σ xs λys=>k (y.gL::ys)
def oz{X:Type}(σ:S)(x:A)(k:Pt->aj X):aj X:=
 match x with
 |.lf y=>qC σ [y] λC=>k (false,C)
 |.agg ys=>qC σ ys λC=>k (true,C)
 |.view q s i j=>tN σ q s i j λy=>k (false,[y])
 |.hJ (c::cs)=>k (false,.bool true::c.gL::cs.map V.gL)
 |_=>none
def sN{X:Type}(σ:S)(x:A)(k:Pt->aj X):aj X:=
 match x with
 |.hJ (c::cs)=>k (false,.bool true::c.gL::cs.map V.gL)
 |.kO f (c::cs)=>k (false,.bool false::.int .i64 (f:Int)::c.gL::cs.map V.gL)
 | .aG r j=>(match σ.m r with
  | some (.aB cs)=>qC σ (cs.drop j) λC=>(match C with
   |c::cs=>k (false,.bool true::c::cs)
   |[]=>none)
  |_=>none)
 | .fn f [(r,j)]=>(match σ.m r with
  | some (.aB cs)=>qC σ (cs.drop j) λC=>(match C with
   |c::cs=>k (false,.bool false::.int .i64 (f:Int)::c::cs)
   |[]=>none)
  |_=>none)
 |x=>oz σ x k
def qD{X:Type}(σ:S):aa Operand->(aa Pt->aj X)->aj X
 |[],k=>k []
 |x::xs,k=>sN σ (aI σ x) λp=>qD σ xs λps=>k (p::ps)
def mU{X:Type}(σ:S):aa Operand->(aa Pt->aj X)->aj X
 |[],k=>k []
 |x::xs,k=>oz σ (aI σ x) λp=>mU σ xs λps=>k (p::ps)
def lK(c:Nat):aa V->aa Lf
 |[]=>[]
 |x::xs=>(bif x.aF then .v x else .own [c])::lK (c+1) xs
def iU(c:Nat)(σ:S):aa V->S
 |[]=>σ
 |x::xs=>iU (c+1) (bif x.aF then σ else (σ.drop c).root c (.sl x)) xs
def oA(c:Nat):aa Pt->aa (Bool×aa Lf)
 |[]=>[]
 |p::ps=>(p.1,lK c p.2)::oA (c+p.2.length) ps
def lM(c:Nat)(σ:S):aa Pt->S
 |[]=>σ
 |p::ps=>lM (c+p.2.length) (iU c σ p.2) ps
def rJ{X:Type}(N:Nat)(σ:S)(d:Nat)(c:jx)(args:aa Operand)(k:S->aj X):aj X:=
 bif Nat.blt d N then qD σ args λps=>c.run X ps λC=>(match C with
  | .one p=>(match sH (p.1,lK (1000000000100000+1000*d) p.2)with
   |some y=>k ((iU (1000000000100000+1000*d) σ p.2).set d y)
   |none=>none)
  |.cQ ps=>k ((lM (1000000000100000+1000*d) σ ps).set d (.cQ (oA (1000000000100000+1000*d) ps))))else none
def zf{X:Type}(N:Nat)(σ:S)(d:Nat)(c:jx)(args:aa Operand)(k:S->aj X):aj X:=
 bif Nat.blt d N then mU σ args λps=>c.run X ps λC=>(match C with
  | .one p=>(match sH (p.1,lK (1000000000100000+1000*d) p.2)with
   |some y=>k ((iU (1000000000100000+1000*d) σ p.2).set d y)
   |none=>none)
  |.cQ ps=>k ((lM (1000000000100000+1000*d) σ ps).set d (.cQ (oA (1000000000100000+1000*d) ps))))else none
section
variable {P:Program} {w w':World} {w0:Wd} {B N:Nat} {ah aE:bG} {ρ ρ':Nat->Loc} {σ:S} {a:Act} {X:Type} {d:Nat} {r:X} {o:Oper}
def Hr:∀ (xs:aa Lf) (k:aa V -> aj X),qC σ xs k=some r -> ∃ C,k C=some r/\C.length=xs.length /\ ∀ ah ρ a w,Rl w0 N ah ρ σ a w -> ∀ (j:Nat) x y u,xs[j]?=some x -> C[j]?=some y -> dy w w0.heap.size ah ρ x u -> RV w w.heap.size (λ_=>none) [] y u
 |[],k,h=>⟨[],h,rfl,λ_ _ _ _ _ j x y u I=>by simp at I⟩
 | x :: xs,k,h=>by
  obtain⟨y,J,L⟩:=Uh h;obtain⟨ys,O,hl,U⟩:=Hr xs _ L
  refine⟨y.gL::ys,O,by simp[hl],λah ρ a w hR j Y Z u D E Q=>?_⟩
  cases j with
  | zero=>
   simp at D E;subst D E;obtain⟨q,T⟩:=J ah ρ a w hR u Q;exact T.gL
  |succ j=>grind
def aa0{D C:Nat}{cs:aa Lf}{E:aa V}(Q:σ.m D=some (.aB cs))(hl:E.length=(cs.drop C).length)
  (T:∀ah ρ a w,Rl w0 N ah ρ σ a w->∀(j:Nat) x y u,(cs.drop C)[j]?=some x->E[j]?=some y->dy w w0.heap.size ah ρ x u->RV w w.heap.size (λ_=>none) [] y u)
  {ah:bG} {ρ:Nat->Loc} {a:Act} {w:World} {u:Value} (hR:Rl w0 N ah ρ σ a w) (U:RA w w0.heap.size ah ρ (.aG D C) u):zd w E u:=by
 obtain⟨b,off,Y,rfl⟩:=U;cases hR.root D _ Q with
 | aB b' A9 cells e _ us I mj J hs Z=>
  rw[Y]at I;injection I with q1 q2;subst q1 q2
  refine⟨b,off+C,rfl,(gd.1 J).1,λj x L=>?_⟩
  have hj:j<(cs.drop C).length:=by rw[<-hl];exact(dQ.1 L).1
  have O:=bO hj;have amF:cs[C+j]?=some (cs.drop C)[j]:=by rw[<-List.getElem?_drop];exact O
  obtain⟨k1,k2⟩:=Z _ _ amF;refine⟨us (C+j),?_,T ah ρ a w hR j _ x _ O L k2⟩;rw[Nat.add_assoc,cell_of_row w b _ cells _ _ J];exact k1
def Us{cs:aa V}{u:Value}(E:RF w B ah cs u):zd w (cs.map V.gL) u:=by
 obtain⟨b,off,rfl,I,Q,J⟩:=E
 refine⟨b,off,rfl,I,λj x C=>?_⟩
 rw[dw]at C;cases D:cs[j]? with
 |none=>simp_all
 | some y=>
  rw[D]at C;injection C with C;subst C;obtain⟨_,v,L,O⟩:=J j y D;exact⟨v,L,O.gL⟩
def aa1{x:A}{k:Pt -> aj X}(h:oz σ x k=some r):∃ p,k p=some r /\ ∀ ah ρ a w,Rl w0 N ah ρ σ a w -> ∀ u,RA w w0.heap.size ah ρ x u -> PA w p u:=by
 unfold oz at h;split at h
 ·rename_i y;obtain⟨O,E,hl,J⟩:=Hr (w0:=w0) (N:=N) _ _ h
  refine⟨_,E,λah ρ a w hR u C=>.v _ _ ⟨#[u],rfl,by simp[hl],λj x D=>?_⟩⟩
  have I:j=0:=by
   grind
  subst I;exact⟨u,rfl,J ah ρ a w hR 0 y x u rfl D C⟩
 ·rename_i ys;obtain⟨O,E,hl,J⟩:=Hr (w0:=w0) (N:=N) _ _ h
  refine⟨_,E,λah ρ a w hR u C=>?_⟩
  obtain⟨us,rfl,L⟩:=C
  refine .v _ _ ⟨us,rfl,by rw[hl];exact L.1,λj x D=>?_⟩
  have I:j<ys.length:=by rw[<- hl];exact(dQ.1 D).1
  obtain⟨v,T,U⟩:=L.2 j _ (bO I)
  grind
 ·obtain⟨z,E,_,Q⟩:=aau h
  refine⟨_,E,λah ρ a w hR u C=>.v _ _ ⟨#[u],rfl,rfl,λj x D=>?_⟩⟩
  cases j with
  | zero=>
   simp at D;subst D;exact⟨u,rfl,Q _ _ _ _ _ _ hR u C _⟩
  |succ j=>simp at D
 next c cs=>exact⟨_,h,λah ρ a w hR u C=>.p _ _ _ (Us C)⟩
 ·cases h
def amG{x:A}{k:Pt -> aj X}(h:sN σ x k=some r):∃ p,k p=some r /\ ∀ ah ρ a w,Rl w0 N ah ρ σ a w -> ∀ u,RA w w0.heap.size ah ρ x u -> PA w p u:=by
 unfold sN at h;split at h
 ·rename_i c cs
  refine⟨_,h,λah ρ a w hR u C=>?_⟩
  exact .p _ _ _ (Us C)
 ·rename_i f c cs
  refine⟨_,h,λah ρ a w hR u C=>?_⟩
  obtain⟨pv,rfl,E⟩:=C;exact .f _ _ _ _ (Us E)
 ·rename_i O L;split at h
  ·rename_i cs I;obtain⟨Q,D,hl,J⟩:=Hr (w0:=w0) (N:=N) _ _ h;split at D
   ·rename_i c eZ
    refine⟨_,D,λah ρ a w hR u C=>?_⟩
    exact .p _ _ _ (aa0 I hl J hR C)
   ·cases D
  ·cases h
 ·rename_i f O L;split at h
  ·rename_i cs I;obtain⟨Q,D,hl,J⟩:=Hr (w0:=w0) (N:=N) _ _ h;split at D
   ·rename_i c eZ
    refine⟨_,D,λah ρ a w hR u C=>?_⟩
    obtain⟨ps,rfl,U,E⟩:=C;obtain⟨b,off,T,Y⟩:=E 0 _ rfl;have e:ps = #[.pointer (some ⟨b,off+L,none⟩)]:=by
     grind
    subst e;exact .f _ _ _ _ (aa0 I hl J hR ⟨b,off,T,rfl⟩)
   ·cases D
  ·cases h
 ·exact aa1 h
def aa2:∀ (xs:aa Operand) (k:aa Pt -> aj X),qD σ xs k=some r -> ∃ ps,k ps=some r /\ ∀ ah ρ a w,Rl w0 N ah ρ σ a w -> vf w ps (xs.map a.eval).toArray
 |[],k,h=>⟨[],h,λ_ _ _ _ _=>⟨rfl,λi p C=>by simp at C⟩⟩
 | x :: xs,k,h=>by
  obtain⟨p,I,C⟩:=amG h;obtain⟨ps,J,E⟩:=aa2 xs _ I
  refine⟨p::ps,J,λah ρ a w hR=>⟨?_,λi q D=>?_⟩⟩
  ·have:=(E ah ρ a w hR).1;simp_all
  ·cases i with
   | zero=>
    simp at D;subst D;exact⟨_,rfl,C ah ρ a w hR _ (hR.aI x)⟩
   | succ i=>
    obtain⟨u,L,O⟩:=(E ah ρ a w hR).2 i q (by simpa using D)
    grind
def Ut:∀ (xs:aa Operand) (k:aa Pt -> aj X),mU σ xs k=some r -> ∃ ps,k ps=some r /\ ∀ ah ρ a w,Rl w0 N ah ρ σ a w -> vf w ps (xs.map a.eval).toArray
 |[],k,h=>⟨[],h,λ_ _ _ _ _=>⟨rfl,λi p C=>by simp at C⟩⟩
 | x :: xs,k,h=>by
  obtain⟨p,I,C⟩:=aa1 h;obtain⟨ps,J,E⟩:=Ut xs _ I
  refine⟨p::ps,J,λah ρ a w hR=>⟨?_,λi q D=>?_⟩⟩
  ·have:=(E ah ρ a w hR).1;simp_all
  ·cases i with
   | zero=>
    simp at D;subst D;exact⟨_,rfl,C ah ρ a w hR _ (hR.aI x)⟩
   | succ i=>
    obtain⟨u,L,O⟩:=(E ah ρ a w hR).2 i q (by simpa using D)
    grind
def aa3{t:TC}{o:Nat}(h:ze t (o+2)=true)(x:T t):∀ y∈enc t o x,y.loc=true:=by
 intro y D;have I:=wu t o x y D;cases y with
 | sl E C q l=>
  have J:C=o:=by simpa [V.gr]using I
  subst J;have L:full E+2 <= full t:=cI (MP t C x _ D);show ze E C=true;simp only[ze,ei]at h;rcases h with h|h
  ·have h:=cI h
   match C,h with
   |0,h=>omega
   |1,h=>rfl
   | n+2,h=>
    simp only[ze,ei];left;exact iP (by omega)
  ·have h:=ck h
   match C,h with
   |0,h=>omega
   |1,h=>rfl
   | n+2,h=>
    simp only[ze,ei];simp_all
 |_=>rfl
def RV.home{q:aa Nat}{x:V}{v:Value}(h:RV w B ah q x v){B':Nat}(hB:B' <= B)(hl:∀ b,B <= b -> aE b=ah b)(Q:∀ b k,ah b=some k -> B <= b)(J:x.loc=true):RV w B' aE q x v:=by
 induction h with
 |int=>exact .int _ _ _
 |bool=>exact .bool _ _
 |str=>exact .str _ _
 |nil=>exact .nil _
 |cS=>exact .cS _ _ _
 |cW=>exact .cW _ _ _ _ _ (by first|assumption|omega)
 |de=>exact .de _ _ _ _ _ (by first|assumption|omega)
 | aF q t o T l b off cap u L D hb U Y E Z I=>
  have wN:o=1:=by
   match o,L,J with
   |1,_,_=>rfl
  subst wN;have O:=U rfl
  refine .aF _ _ _ _ _ _ _ _ u L ((hl b O).trans D) hb (λ_=>Nat.le_trans hB O) Y E (λi h j x C=>I i h j x C ?_)
  have:=wu t 1 l[i] x (ga C);cases x with
  | sl t' o' q' l'=>
   have:o'=1:=by simpa [V.gr]using this
   subst this;rfl
  |_=>rfl
 | own q t o T l b cap cs u D hh hs hn hm E Z I=>
  exact .own _ _ _ _ _ _ _ cs u ((hl b (Q b q D)).trans D) hh hs hn hm E (λi h j x C=>I i h j x C (aa3 J l[i] x (ga C)))
def Uu:∀ (xs:aa V) (c:Nat) (σ:S) (ρ:Nat -> Loc) (us:aa Value),60000 <= c -> Rl w0 N ah ρ σ a w -> us.length=xs.length -> (∀ (j:Nat) x u,xs[j]?=some x -> us[j]?=some u -> RV w w0.heap.size ah [c+j] x u) ->
  ∃ρ',Rl w0 N ah ρ' (iU c σ xs) a w/\(∀r,r<c -> ρ' r=ρ r) /\ ∀(j:Nat) x u,(lK c xs)[j]?=some x -> us[j]?=some u -> dy w w0.heap.size ah ρ' x u
 |[],c,σ,ρ,us,_,h,hl,E=>⟨ρ,h,λ_ _=>rfl,λj x u T=>by simp[lK]at T⟩
 | x :: xs,c,σ,ρ,us,Z,h,hl,E=>by
  cases us with
  |nil=>simp at hl
  | cons u us=>
   have J:=E 0 x u rfl rfl;rw[Nat.add_zero]at J;have Y:∀ (j:Nat) L O,xs[j]?=some L -> us[j]?=some O -> RV w w0.heap.size ah [c+1+j] L O:=λj L O T hu=>by
    have:=E (j+1) L O (by simpa using T) (by simpa using hu)
    grind
   cases C:x.aF with
   | true=>
    obtain⟨ρ',U,Q,wO⟩:=Uu xs (c+1) σ ρ us (by omega) h (by simpa using hl) Y
    refine⟨ρ',?_,λr E=>Q r (by omega),λj y v D I=>?_⟩
    ·simp[iU,C];exact U
    ·simp only[lK,C,ak]at D;cases j with
     | zero=>
      simp at D I;subst D I;exact⟨C,J.key C⟩
     |succ j=>grind
   | false=>
    have fW:=J.TP C;obtain⟨ρ',U,Q,wO⟩:=Uu xs (c+1) _ _ us (by omega) (h.new (d:=c) (x:=.sl x) (.dI u) (.sl u x (cg _ _ _) J) (h.di c (.inr Z))) (by simpa using hl) Y
    refine⟨ρ',?_,λr E=>?_,λj y v D I=>?_⟩
    ·simp[iU,C];exact U
    ·rw[Q r (by omega)];exact cF _ _ _ (by omega)
    ·simp only[lK,C,aq]at D;cases j with
     | zero=>
      simp at D I;subst D I;refine⟨fW,?_⟩;have:ρ' c = .dI u:=by rw[Q c (by omega)];exact cg _ _ _
      simp[cH,this]
     |succ j=>grind
def amH(xs:aa V):∀ c,(lK c xs).length=xs.length:=by
 induction xs with
 |nil=>intro c;rfl
 |cons x xs C=>intro c;simp[lK,C]
end
def enters(P:Program)(f:Nat):Prop:=∃fn,P.funcs[f]?=some fn/\(fn.name == "runtime.NumGoroutine")=false/\fn.body.isNone=false
/-! What a function gives back. -/
def Nj:A->aj (Bool×aa Lf)
 |.lf x=>some (false,[x])
 |.agg xs=>some (true,xs)
 |_=>none
def rK{X:Type}(P:Program)(σ:S):aa ResultVar->(aa (Bool×aa Lf)->aj X)->aj X
 |[],k=>k []
 | .tmp t :: rest,k=>(match Nj (σ.t t)with
  |some p=>rK P σ rest λps=>k (p::ps)
  |none=>none)
 | .cell p ty :: rest,k=>jw P σ ty (σ.t p) λx=>(match Nj x with
  |some p=>rK P σ rest λps=>k (p::ps)
  |none=>none)
def Uv(m:Nat->aj aZ):Lf->aj (V×aj Nat)
 |.v x=>bif x.loc&&x.aF then some (x,none)else none
 | .own [r]=>match m r with
  |some (.sl y)=>bif y.loc then some (y,some r)else none
  |_=>none
 |_=>none
def Hs(m:Nat->aj aZ)(off:Nat):aa Lf->aj (aa V×aa (Nat×Nat))
 |[]=>some ([],[])
 | x :: xs=>match Uv m x,Hs m (off+1) xs with
  |some (y,none),some (ys,rs)=>some (y::ys,rs)
  |some (y,some r),some (ys,rs)=>some (y::ys,(r,off)::rs)
  |_,_=>none
def D0(m:Nat->aj aZ)(off:Nat):aa (Bool×aa Lf)->aj (aa Pt×aa (Nat×Nat))
 |[]=>some ([],[])
 | p :: ps=>match Hs m off p.2,D0 m (off+p.2.length) ps with
  |some (C,rs),some (D,E)=>some ((p.1,C)::D,rs++E)
  |_,_=>none
def once(rs:aa (Nat×Nat)):Bool:=rs.all λp=>(rs.lookup p.1).any λn=>Nat.beq n p.2
def Ht{X:Type}(P:Program)(σ:S)(fn:Array ResultVar)(k:gp->aj X):aj X:=
 rK P σ fn.toList λps=>match D0 σ.m 0 ps with
  | some (qs,rs)=>bif once rs then (match qs with
   |[p]=>k (.one p)
   |qs=>k (.cQ qs))else none
  |none=>none
section
variable {P:Program} {w w':World} {w0:Wd} {B N:Nat} {ah aE:bG} {ρ ρ':Nat->Loc} {σ:S} {a:Act} {X:Type} {d:Nat} {r:X} {o:Oper}
def aa4:∀ (xs:aa V) (c:Nat) (j:Nat) x u,(lK c xs)[j]?=some x -> dy w B ah ρ x u -> (∀ r,r<c+xs.length -> ρ' r=ρ r) -> dy w B ah ρ' x u
 |[],c,j,x,u,D,_,_=>by simp[lK]at D
 | y :: ys,c,j,x,u,D,C,E=>by
  cases j with
  | zero=>
   simp[lK,List.getElem?_cons_zero,iy]at D;subst D;cases I:y.aF with
   |true=>rw[I]at C;simp;exact C
   | false=>
    rw[I]at C;refine⟨C.1,?_⟩;have:=C.2;simp[cH,E c (by simp)]at this ⊢;exact this
  | succ j=>
   exact aa4 ys _ j x u D C (λr h=>E r (by simp;omega))
def PV.cells{key:Nat -> aa Nat}{p:Pt}{u:Value}(h:PV w B ah key p u):∃ us:aa Value,us.length=p.2.length/\(∀ (j:Nat) x v,p.2[j]?=some x -> us[j]?=some v -> RV w B ah (key j) x v) /\
  ∀(ρ:Nat -> Loc) (C:aa Lf),C.length=p.2.length -> (∀(j:Nat) x v,C[j]?=some x -> us[j]?=some v -> dy w B ah ρ x v) -> RP w B ah ρ (p.1,C) u:=by
 obtain⟨us,D,E,Q⟩:=h;obtain⟨b,xs⟩:=p
 refine⟨us.toList,by simpa using E,λj x v I T=>?_,λρ C hl O=>?_⟩
 ·grind
 ·have J:dU w B ah ρ C us:=⟨by rw[E,hl],λj x I=>by
   have L:j<us.size:=by rw[E,<- hl];exact(dQ.1 I).1
   exact⟨us[j],Array.getElem?_eq_getElem L,O j x _ I (by rw[oc,Array.getElem?_eq_getElem L])⟩⟩
  cases b with
  |true=>exact⟨us,D,J⟩
  |false=>have D:=D;subst D;exact J
def Hu:∀ (ps:aa Pt) (c0 off:Nat) (σ:S) (ρ:Nat -> Loc) (C:aa Value),60000 <= c0 -> Rl w0 N ah ρ σ a w -> jO w w0.heap.size ah (λn=>c0+n) off ps C ->
  ∃ρ',Rl w0 N ah ρ' (lM (c0+off) σ ps) a w/\(∀r,r<c0+off -> ρ' r=ρ r)/\C.length=(oA (c0+off) ps).length /\ ∀(i:Nat) p v,(oA (c0+off) ps)[i]?=some p -> C[i]?=some v -> RP w w0.heap.size ah ρ' p v
 | [],c0,off,σ,ρ,C,_,h,D=>by
  cases C with
  |nil=>exact⟨ρ,h,λ_ _=>rfl,rfl,λi p v L=>by simp[oA]at L⟩
  |cons v C=>exact D.elim
 | p :: ps,c0,off,σ,ρ,C,U,h,D=>by
  cases C with
  |nil=>exact D.elim
  | cons v C=>
   obtain⟨⟨_,L⟩,D⟩:=D;obtain⟨us,hl,Y,Z⟩:=L.cells;obtain⟨D1,h1,Uw,wO⟩:=Uu p.2 (c0+off) σ ρ us (by omega) h hl (λj x u I E=>by
    have:RV w _ ah [c0+(off+j)] x u:=Y j x u I E;rw[<- Nat.add_assoc]at this;exact this)
   obtain⟨eH,Q,O,hlen,T⟩:=Hu ps c0 (off+p.2.length) (iU (c0+off) σ p.2) D1 C U h1 D;rw[<- Nat.add_assoc]at Q O hlen T
   refine⟨eH,Q,λr D=>(O r (by omega)).trans (Uw r D),by simp[oA,hlen],λi q u J E=>?_⟩
   cases i with
   | zero=>
    simp[oA,List.getElem?_cons_zero,iy]at J E;subst J E
    refine Z eH _ (amH _ _) (λj x u I E=>aa4 p.2 _ j x u I (wO j x u I E) O)
   | succ i=>
    simp[ List.getElem?_cons_succ]at J E;exact T i q u J E
def jO.home{nm:Nat -> Nat}:∀ (ps:aa Pt) (off:Nat) (C:aa Value) {B':Nat},jO w B ah nm off ps C -> B' <= B -> (∀ b,B <= b -> aE b=ah b) -> (∀ b k,ah b=some k -> B <= b) -> jO w B' aE nm off ps C
 |[],_,[],_,h,_,_,_=>h
 | p :: ps,off,v :: C,B',h,hB,hl,D=>by
  obtain⟨⟨E,us,J,L,O⟩,Q⟩:=h
  refine⟨⟨E,us,J,L,λj x I=>?_⟩,jO.home ps _ C Q hB hl D⟩
  obtain⟨T,U,Y⟩:=O j x I;exact⟨T,U,Y.home hB hl D (cE.1 E x (ga I))⟩
def Nk(w:World)(o:Oper)(a:Act)(f:Nat)(args:Array Operand)(D:Array TypeId)(E:o.op = .call { callee:=.value (.func f),args,argTypes:=D })(I:enters P f):(execOp a.eval o).run P w = .ok (.enter f (args.map a.eval)) w:=by
 obtain⟨fn,J,L,C⟩:=I;have O:¬ fn.name = "runtime.NumGoroutine":=by simpa using L
 have Q:¬ fn.body=none:=by intro e;rw[e]at C;cases C
 simp[execOp,E,resolve,Act.eval,Deferred.ofValue,invoke,callFunc,Sem.run,J,O,Q]
def aa5{f:Nat}{args:Array Operand}{jy:Array TypeId}{c:jx}{k:S -> aj X}(ho:o.op = .call { callee:=.value (.func f),args,argTypes:=jy })(hd:o.dst=some d)(he:enters P f)(hc:iZ P f c)(D2:d<N){ps:aa Pt}(mV:∀ ah ρ a w,Rl w0 N ah ρ σ a w -> vf w ps (args.toList.map a.eval).toArray)
  (h2:(c.run X ps λE=>(match E with
  | .one p=>(match sH (p.1,lK (1000000000100000+1000*d) p.2)with
   |some y=>k ((iU (1000000000100000+1000*d) σ p.2).set d y)
   |none=>none)
  |.cQ ps=>k ((lM (1000000000100000+1000*d) σ ps).set d (.cQ (oA (1000000000100000+1000*d) ps)))))=some r):∃dV,k dV=some r/\l8 P w0 N o σ dV:=by
 obtain⟨E,I,_,Hv⟩:=hc X ps _ r h2;have step:∀ a w K Q ah ρ,Rl w0 N ah ρ σ a w -> (∀ v w' aE,Below w.heap.size w w' -> Rl w0 N aE ρ σ a w' -> rI w' w0.heap.size aE (λn=>1000000000100000+1000*d+n) E v -> K (a.put o.dst v) w') -> o.wp P a w K Q:=by
  intro a w K Q ah ρ hR J;unfold Oper.wp;rw[Nk w o a f args jy ho he,Oper.upon_enter];have wP:(args.map a.eval)=(args.toList.map a.eval).toArray:=by apply Array.ext';rw[Array.toList_map]
  rw[wP]
  refine(Hv (λn=>1000000000100000+1000*d+n) w _ (mV ah ρ a w hR) (w0.on hR.below (λ_ _ h=>by cases h))).mono λe w' rL=>?_
  obtain⟨v,D3,rfl,L,mj,C⟩:=rL;have hB:=hR.below.size;let dg:bG:=λb=>if b<w.heap.size then ah b else D3 b
  have e1:∀b,b<w.heap.size -> dg b=ah b:=λb hb=>br hb
  have e2:∀b,w.heap.size <= b -> dg b=D3 b:=λb hb=>bE
  refine J v w' dg L (hR.grow L e1 (λb k hb O=>?_)) ?_
  ·grind
  ·cases E with
   |one p=>exact jO.home [p] 0 [v] C hB e2 (λb k O=>(mj b k O).1)
   | cQ T=>
    obtain⟨D,e,U⟩:=C;exact⟨D,e,jO.home T 0 _ U hB e2 (λb k O=>(mj b k O).1)⟩
 cases E with
 | one p=>
  simp only at I;split at I
  ·rename_i y hy
   refine⟨_,I,λa w K Q hR J=>?_⟩
   obtain⟨ah,ρ,hR⟩:=hR
   refine step a w K Q ah ρ hR λv w' aE L Y C=>?_
   obtain⟨ρ',Z,_,_,qE⟩:=Hu [p] (1000000000100000+1000*d) 0 σ ρ [v] (by omega) Y C;rw[hd];have Ux:=qE 0 _ v rfl rfl;exact J _ _ ⟨aE,ρ',Z.set (T4 hy Ux) D2⟩
  ·cases I
 | cQ T=>
  refine⟨_,I,λa w K Q hR J=>?_⟩
  obtain⟨ah,ρ,hR⟩:=hR
  refine step a w K Q ah ρ hR λv w' aE L Y C=>?_
  obtain⟨D,rfl,U⟩:=C;obtain⟨ρ',Z,_,hlen,qE⟩:=Hu T (1000000000100000+1000*d) 0 σ ρ D.toList (by omega) Y U;rw[hd]
  refine J _ _ ⟨aE,ρ',Z.set ⟨D,rfl,by simpa using hlen,λj p hp=>?_⟩ D2⟩
  have hj:j<D.size:=by
   grind
  exact⟨D[j],Array.getElem?_eq_getElem hj,qE j p _ hp (by rw[oc,Array.getElem?_eq_getElem hj])⟩
def amI{f:Nat}{args:Array Operand}{E:Array TypeId}{c:jx}{k:S -> aj X}(I:o.op = .call { callee:=.value (.func f),args,argTypes:=E })(J:o.dst=some d)(L:enters P f)(O:iZ P f c)(h:zf N σ d c args.toList k=some r):∃ C,k C=some r/\l8 P w0 N o σ C:=by
 unfold zf at h;cases D:Nat.blt d N with
 |false=>simp_all
 | true=>
  rw[D]at h;obtain⟨ps,Q,T⟩:=Ut _ _ h;exact aa5 I J L O (cI D) T Q
def amJ{f:Nat}{args:Array Operand}{E:Array TypeId}{c:jx}{k:S -> aj X}(I:o.op = .call { callee:=.value (.func f),args,argTypes:=E })(J:o.dst=some d)(L:enters P f)(O:iZ P f c)(h:rJ N σ d c args.toList k=some r):∃ C,k C=some r/\l8 P w0 N o σ C:=by
 unfold rJ at h;cases D:Nat.blt d N with
 |false=>simp_all
 | true=>
  rw[D]at h;obtain⟨ps,Q,T⟩:=aa2 _ _ h;exact aa5 I J L O (cI D) T Q
end
def eN(ah:bG)(rs:aa (Nat×Nat))(nm:Nat->Nat):bG:=λb=>
 match ah b with
 |none=>none
 | some k=>match k.getLast? with
  |none=>none
  |some r=>(rs.lookup r).map λn=>k.dropLast++[nm n]
section
variable {P:Program} {w w':World} {w0:Wd} {B N:Nat} {ah aE:bG} {ρ ρ':Nat->Loc} {σ:S} {a:Act} {X:Type} {d:Nat} {r:X} {rs:aa (Nat×Nat)} {nm:Nat->Nat}
def RV.Hw{q:aa Nat}{x:V}{v:Value}(h:RV w B ah q x v)(L:x.aF=true)(hl:∀ b,ah b=none->aE b=none):RV w B aE q x v:=by
 induction h with
 |int=>exact .int _ _ _
 |bool=>exact .bool _ _
 |str=>exact .str _ _
 |nil=>exact .nil _
 |cS=>exact .cS _ _ _
 |cW=>exact .cW _ _ _ _ _ (by first|assumption|omega)
 |de=>exact .de _ _ _ _ _ (by first|assumption|omega)
 | aF q t o O l b off cap u C D hb Q T E U I=>
  exact .aF _ _ _ _ _ _ _ _ u C (hl b D) hb Q T E (λi h j x J=>I i h j x J (jM t o l[i] C j x J))
 |own q t o O l b cap cs u D Y Z hn hm E U I=>simp[V.aF]at L;omega
def wQ{b:Nat}(h:ah b=none):eN ah rs nm b=none:=by simp[eN,h]
def RV.eN{p:aa Nat}{r n:Nat}{x:V}{v:Value}(h:RV w B ah (p++[r]) x v)(O:rs.lookup r=some n):RV w B (eN ah rs nm) (p++[nm n]) x v:=by
 generalize Q:p++[r]=q at h
 induction h generalizing p with
 |int=>exact .int _ _ _
 |bool=>exact .bool _ _
 |str=>exact .str _ _
 |nil=>exact .nil _
 |cS=>exact .cS _ _ _
 |cW=>exact .cW _ _ _ _ _ (by first|assumption|omega)
 |de=>exact .de _ _ _ _ _ (by first|assumption|omega)
 | aF q t o T l b off cap u I D hb U Y E J L=>
  exact .aF _ _ _ _ _ _ _ _ u I (wQ D) hb U Y E (λi h j x C=>(J i h j x C).Hw (jM t o l[i] I j x C) (λb=>wQ))
 | own q t o T l b cap cs u D Z hs hn hm E J L=>
  subst Q
  refine .own _ _ _ _ _ _ _ cs u ?_ Z hs hn hm E (λi h j x C=>L i h j x C (p:=j::i::aD t::p) rfl)
  simp[Proofs.YtglnbhiaknohlaaGreat.eN,D,O]
def Uy{m:Nat -> aj aZ}:∀ (xs:aa Lf) (off:Nat) (ys:aa V) (E:aa (Nat×Nat)),Hs m off xs=some (ys,E) -> ys.length=xs.length /\ ∀ (j:Nat) x,xs[j]?=some x -> ∃ y,ys[j]?=some y/\y.loc=true/\((x = .v y/\y.aF=true) \/ ∃ r,x = .own [r]/\m r=some (.sl y)/\(r,off+j)∈E)
 | [],off,ys,E,h=>by
  simp only[Hs,iy,Prod.mk.injEq]at h;obtain⟨rfl,rfl⟩:=h;exact⟨rfl,λj x C=>by simp at C⟩
 | x :: xs,off,ys,E,h=>by
  have T:∀ y z,Uv m x=some (y,z) -> y.loc=true/\((z=none/\x = .v y/\y.aF=true) \/ ∃ r,z=some r/\x = .own [r]/\m r=some (.sl y)):=by
   intro y z D;unfold Uv at D
   grind
  unfold Hs at h;split at h
  ·rename_i y I J L O;simp only[iy,Prod.mk.injEq]at h;obtain⟨rfl,rfl⟩:=h;obtain⟨Q,U⟩:=Uy xs (off+1) I J O
   refine⟨by simp[Q],λj Y C=>?_⟩
   cases j with
   | zero=>
    simp at C;subst C;obtain⟨hl,D|⟨r,D,_⟩⟩:=T y none L
    ·simp_all
    ·cases D
   |succ j =>grind
  ·rename_i y r I J L O;simp only[iy,Prod.mk.injEq]at h;obtain⟨rfl,rfl⟩:=h;obtain⟨Q,U⟩:=Uy xs (off+1) I J O
   refine⟨by simp[Q],λj Y C=>?_⟩
   cases j with
   | zero=>
    simp at C;subst C;obtain⟨hl,D|⟨Z,D,e1,e2⟩⟩:=T y (some r) L
    ·cases D.1
    ·simp_all
   |succ j =>grind
  ·cases h
def Uz{m:Nat -> aj aZ}(hm:∀ r x,m r=some x -> eM w B ah ρ r x):∀ (ps:aa (Bool×aa Lf)) (off:Nat) (I:aa Pt) (J:aa (Nat×Nat)) (C:aa Value),D0 m off ps=some (I,J) -> (∀ p∈J,rs.lookup p.1=some p.2) -> C.length=ps.length ->
  (∀(i:Nat) p v,ps[i]?=some p -> C[i]?=some v -> RP w B ah ρ p v) -> jO w B (eN ah rs nm) nm off I C
 | [],off,I,J,C,h,_,hl,_=>by
  have:C=[]:=List.eq_nil_of_length_eq_zero hl;subst this;simp only[D0,iy,Prod.mk.injEq]at h;obtain⟨rfl,rfl⟩:=h;trivial
 | p :: ps,off,I,J,C,h,nP,hl,hp=>by
  cases C with
  |nil=>simp at hl
  | cons v C=>
   unfold D0 at h;split at h
   ·rename_i ys rs1 qs' rs2 h1 h2;simp only[iy,Prod.mk.injEq]at h;obtain⟨rfl,rfl⟩:=h;obtain⟨hlen,Mx⟩:=Uy _ _ _ _ h1;have Nh:=Uz hm ps _ qs' rs2 C h2 (λq U=>nP q (List.mem_append_right _ U)) (by simpa using hl) (λi q u U Y=>hp (i+1) q u (by simpa using U) (by simpa using Y));have zg:=hp 0 p v rfl rfl;have key:∀ us:Array Value,dU w B ah ρ p.2 us -> (us.size=ys.length /\ ∀ (j:Nat) x,ys[j]?=some x -> ∃ u,us[j]?=some u/\RV w B (eN ah rs nm) [nm (off+j)] x u):=by
     intro us L
     refine⟨by rw[hlen];exact L.1,λj y O=>?_⟩
     have Q:j<p.2.length:=by rw[<- hlen];exact(dQ.1 O).1
     obtain⟨y',E,D4,hz⟩:=Mx j _ (bO Q);rw[O]at E;injection E with E;subst E;obtain⟨u,Y,T⟩:=L.2 j _ (bO Q);refine⟨u,Y,?_⟩;rcases hz with ⟨e,hf⟩|⟨r,e,hmr,zh⟩
     ·rw[e]at T;exact(T.2.Hw hf (λb=>wQ)).key hf
     ·rw[e]at T;have gP:=hm r _ hmr;generalize D:aZ.sl y=z at gP;cases gP with
      |aB=>cases D
      |mp=>cases D
      |gh=>cases D
      | sl v' y' dz mS=>
       injection D with D;subst D;have UA:v'=u:=by
        have h4:=T.2;simp only[cH,dz]at h4;simp_all
       subst UA;exact RV.eN (p:=[]) mS (nP (r,off+j) (List.mem_append_left _ zh))
    refine⟨⟨?_,?_⟩,?_⟩
    ·rw[cE];intro y O;obtain⟨j,Q⟩:=List.mem_iff_getElem?.1 O;have wC:j<p.2.length:=by rw[<- hlen];exact(dQ.1 Q).1
     obtain⟨y',E,D4,_⟩:=Mx j _ (bO wC);simp_all
    ·obtain⟨b,xs⟩:=p;cases b with
     | true=>
      obtain⟨us,e,L⟩:=zg;obtain⟨Z,k2⟩:=key us L;exact⟨us,e,Z,k2⟩
     | false=>
      obtain⟨Z,k2⟩:=key #[v] zg;exact⟨#[v],rfl,Z,k2⟩
    ·grind
   ·cases h
def amK{t:TypeId}{x:A}{k:A->aj X}(h:jw P σ t x k=some r){u:Value}(C:RA w B ah ρ x u):∃ ad,u = .pointer (some ad):=by
 unfold jw at h;split at h
 ·cases h
 ·split at h
  ·obtain⟨b,off,_,rfl⟩:=C;exact⟨_,rfl⟩
  ·obtain⟨b,off,rfl,_⟩:=C;exact⟨_,rfl⟩
  ·obtain⟨ad,rfl,_⟩:=C;exact⟨_,rfl⟩
  ·cases h
def aa6{x:A}{p:Bool×aa Lf}(h:Nj x=some p){u:Value}(D:RA w B ah ρ x u):RP w B ah ρ p u:=by
 unfold Nj at h;split at h
 ·injection h with h;subst h
  refine⟨rfl,λj y C=>?_⟩
  cases j with
  |zero=>simp at C;subst C;exact⟨u,rfl,D⟩
  |succ j=>simp at C
 ·injection h with h;subst h;exact D
 ·cases h
def rM(tmps:Array Value):ResultVar->Sem Value
 |.tmp t=>pure (tmps.getD t undef)
 |.cell a t=>do loadVar t (<-asAddr (tmps.getD a undef))
def Hx:∀ (l:aa ResultVar) (k:aa (Bool×aa Lf) -> aj X),rK P σ l k=some r -> ∃ ps,k ps=some r /\ ∀ ah ρ a w,Rl w0 N ah ρ σ a w -> ∃ C,(l.mapM (rM a.tmps)).run P w = .ok C w/\C.length=ps.length /\ ∀ (i:Nat) p v,ps[i]?=some p -> C[i]?=some v -> RP w w0.heap.size ah ρ p v
 |[],k,h=>⟨[],h,λ_ _ _ _ _=>⟨[],rfl,rfl,λi p v D=>by simp at D⟩⟩
 | .tmp t :: rest,k,h=>by
  simp only[rK]at h;split at h
  ·rename_i p D;obtain⟨ps,L,O⟩:=Hx rest _ h
   refine⟨p::ps,L,λah ρ a w hR=>?_⟩
   obtain⟨C,Q,hl,Y⟩:=O ah ρ a w hR
   refine⟨a.tmps.getD t undef::C,?_,by simp[hl],λi q u E I=>?_⟩
   ·rw[List.mapM_cons];simp[rM,Sem.run_pure,kL,fq,Q]
   ·cases i with
    |zero=>simp only[List.getElem?_cons_zero,iy]at E I;subst E I;exact aa6 D (hR.tmp t)
    |succ i=>grind
  ·cases h
 | .cell c ty :: rest,k,h=>by
  simp only[rK]at h;obtain⟨y,T,Z⟩:=aaw (w0:=w0) (N:=N) h;split at T
  ·rename_i p D;obtain⟨ps,L,O⟩:=Hx rest _ T
   refine⟨p::ps,L,λah ρ a w hR=>?_⟩
   obtain⟨C,Q,hl,Y⟩:=O ah ρ a w hR;obtain⟨v,J,wM⟩:=Z ah ρ a w hR _ (hR.tmp c);obtain⟨ad,U⟩:=amK h (hR.tmp c);rw[U]at J;have J:(loadVar ty ad).run P w = .ok v w:=by
    simpa [Instr.loadAt,Instr.sureAddr]using J
   refine⟨v::C,?_,by simp[hl],λi q u E I=>?_⟩
   ·rw[List.mapM_cons];simp[rM,U,asAddr,Sem.run_pure,kL,fq,Q,J]
   ·cases i with
    |zero=>simp at E I;subst E I;exact aa6 D wM
    |succ i=>grind
  ·cases T
def amL{fn:Func}{k:gp -> aj X}(h:Ht P σ fn.results k=some r):∃ U,k U=some r /\ ∀ ah ρ a w,Rl w0 N ah ρ σ a w -> ∀ nm,∃ v aE,(results fn a.tmps).run P w = .ok v w/\(∀ b k,aE b=some k -> (w0.heap.size <= b \/ w0.L b≠none)/\b<w.heap.size/\k≠[])/\rI w w0.heap.size aE nm U v:=by
 unfold Ht at h;obtain⟨ps,I,qE⟩:=Hx (w0:=w0) (N:=N) _ _ h;clear h;split at I
 ·rename_i O rs UB;cases Y:once rs with
  |false=>grind
  | true=>
   rw[Y,ak]at I;have nP:∀ p∈rs,rs.lookup p.1=some p.2:=by
    intro p hp;have:=cE.1 Y p hp;obtain⟨n,hn,he⟩:=(Option.any_eq_true _ _).1 this;simp_all
   have core:∀ ah ρ a w,Rl w0 N ah ρ σ a w -> ∀ nm:Nat -> Nat,∃ C:aa Value,(fn.results.mapM (rM a.tmps)).run P w = .ok C.toArray w/\(∀ b k,eN ah rs nm b=some k -> (w0.heap.size <= b \/ w0.L b≠none)/\b<w.heap.size/\k≠[])/\jO w w0.heap.size (eN ah rs nm) nm 0 O C:=by
    intro ah ρ a w hR nm;obtain⟨C,J,hl,hv⟩:=qE ah ρ a w hR
    refine⟨C,?_,λb k E=>?_,Uz hR.root ps 0 O rs C UB nP hl hv⟩
    ·rw[Array.mapM_eq_mapM_toList];simp[J]
    ·unfold eN at E;split at E
     ·cases E
     ·rename_i k' sM;have:=hR.cX b k' sM;split at E
      ·cases E
      ·cases Z:rs.lookup _ with
       |none=>rw[Z]at E;cases E
       | some n=>
        rw[Z]at E;injection E with E;subst E;simp_all
   have ko:∀ (tmps:Array Value),results fn tmps=(do let C <- fn.results.mapM (rM tmps);pure (if h:C.size=1 then C[0]else .tuple C)):=λtmps=>by
    unfold results;congr 1
   split at I
   ·rename_i p
    refine⟨_,I,λah ρ a w hR nm=>?_⟩
    obtain⟨C,J,Q,D⟩:=core ah ρ a w hR nm
    match C,D with
    |[v],D=>exact⟨v,_,by rw[ko,fq,J];rfl,Q,D⟩
    |[],D=>exact D.elim
    |_::_::_,D=>exact D.2.elim
   ·rename_i T
    refine⟨_,I,λah ρ a w hR nm=>?_⟩
    obtain⟨C,J,Q,D⟩:=core ah ρ a w hR nm;have gx:C.toArray.size≠1:=by
     intro e
     match O,C,D,T with
     |[q],[v],_,T=>exact T q rfl
     |[],[v],D,_=>exact D.elim
     |_::_::_,[v],D,_=>exact D.2.elim
    refine⟨.tuple C.toArray,_,?_,Q,C.toArray,rfl,D⟩;rw[ko,fq,J,kL];simp only[gx,dif_neg,not_false_eq_true,Sem.run_pure]
 ·cases I
end
inductive In where
 |aB (cs:List V)
 |sl (y:V)
def nF(i:Nat):Nat:=20000+1000*i
def nC(i j:Nat)(x:V):Nat:=bif x.aF then 20001+1000*i+j else 60000+1000*i+j
def zi(i j:Nat)(x:V):Lf:=bif x.plain then .v x else .own [nC i j x]
def zj(i:Nat):Nat->aa V->aa Lf
 |_,[]=>[]
 |j,x::xs=>zi i j x::zj i (j+1) xs
def UC(i:Nat):Nat->aa V->(Nat->aj aZ)->(Nat->aj aZ)
 |_,[],m=>m
 |j,x::xs,m=>UC i (j+1) xs (bif x.plain then m else bV m (nC i j x) (some (.sl x)))
def Nl:Nat->aa In->(Nat->aj aZ)->(Nat->aj aZ)
 |_,[],m=>m
 |i,.aB cs::r,m=>Nl (i+1) r (UC i 0 cs (bV m (nF i) (some (.aB (zj i 0 cs)))))
 |i,.sl y::r,m=>Nl (i+1) r (bV m (nF i) (some (.sl y)))
inductive Ar where
 |pt (p:Pt)
 |mut (i off:Nat)
def UD(C:aa In):Ar->A
 |.pt (false,[x])=>.lf (.v x)
 |.pt (true,xs)=>.agg (xs.map .v)
 |.pt (false,.bool false::.int .i64 g::c::cs)=>.kO g.toNat (c::cs)
 |.pt _=>.undef
 | .mut i off=>match C[i]? with
  |some (.aB _)=>.aG (nF i) off
  |some (.sl _)=>.lf (.own [nF i])
  |none=>.undef
def wR(C:aa In)(args:aa Ar):S:=⟨λk=>match args[k]? with
 |some x=>UD C x
 |none=>.undef,Nl 0 C (λ_=>none)⟩
def rN(w w':World)(aE:bG)(ρ:Nat->Loc)(nm:Nat->Nat):Nat->Nat->aa In->aa In->Prop
 |_,_,[],[]=>True
 | i,D,.aB cs :: r,.aB eZ :: I=>(∃ b off cells J e O,ρ (nF i) = .aB b off/\w.heap[b]?=some (.cells cells e (0,0))/\w'.heap[b]?=some (.cells J O (0,0))/\aE b=some [nm D]/\off+eZ.length<=J.size/\eZ.length=cs.length/\
   ∀(j:Nat) C,eZ[j]?=some C->∃u,J[off+j]?=some u/\((C.plain=true/\∀(w:World) (B:Nat) (ah:bG) (q:aa Nat),RV w B ah q C u)\/(C = .nil/\u = .slice none 0 0/\∃E,cs[j]?=some E/\E.aF=false)\/(C.plain=false/\C.aF=true/\C.ki=true/\(∃E,cs[j]?=some E/\Wk E C)/\cells[off+j]?=some u)\/(C.aF=false/\RV w' w.heap.size aE [nm (D+1+j)] C u)))/\
   rN w w' aE ρ nm (i+1) (D+1+cs.length) r I
 |i,D,.sl y::r,.sl L::I=>(L = .nil\/∃v,ρ (nF i) = .dI v/\RV w' w.heap.size aE [nm D] L v)/\rN w w' aE ρ nm (i+1) (D+1) r I
 |_,_,_,_=>False
def Hy(w w':World)(aE:bG)(ρ:Nat->Loc)(nm:Nat->Nat):Nat->Nat->aa In->aa In->Prop
 |_,_,[],[]=>True
 | i,D,.aB cs :: r,.aB eZ :: E=>(∃ b off cells I e L,ρ (nF i) = .aB b off/\w.heap[b]?=some (.cells cells e (0,0))/\w'.heap[b]?=some (.cells I L (0,0))/\aE b=some [nm D]/\off+eZ.length<=I.size/\eZ.length=cs.length/\
   ∀(j:Nat) C,eZ[j]?=some C->∃u,I[off+j]?=some u/\((C.plain=true/\∀(w:World) (B:Nat) (ah:bG) (q:aa Nat),RV w B ah q C u)\/(C.plain=false/\C.aF=true/\cells[off+j]?=some u)\/(C.aF=false/\RV w' w.heap.size aE [nm (D+1+j)] C u)))/\
   Hy w w' aE ρ nm (i+1) (D+1+cs.length) r E
 |i,D,.sl y::r,.sl J::E=>(J = .nil\/∃v,ρ (nF i) = .dI v/\RV w' w.heap.size aE [nm D] J v)/\Hy w w' aE ρ nm (i+1) (D+1) r E
 |_,_,_,_=>False
def gp.len:gp->Nat
 |.one p=>p.2.length
 |.cQ ps=>(ps.map λp=>p.2.length).sum
def pR(w:World)(B:Nat)(ah:bG)(ρ:Nat->Loc):Nat->aa In->Prop
 |_,[]=>True
 |i,.aB cs::r=>eM w B ah ρ (nF i) (.aB (zj i 0 cs))/\(∀(j:Nat) x,cs[j]?=some x->x.plain=false->eM w B ah ρ (nC i j x) (.sl x))/\pR w B ah ρ (i+1) r
 |i,.sl y::r=>eM w B ah ρ (nF i) (.sl y)/\pR w B ah ρ (i+1) r
/-! The end: what is given back,and what the written parameters hold. -/
def UE(m:Nat->aj aZ)(i j:Nat)(C:V):Lf->aj (V×aj Nat)
 |.v x=>bif x.plain then some (x,none)else (bif !x.ki && !C.aF then some (.nil,none)else none)
 | .own [r]=>match m r with
  |some (.sl y)=>bif y.aF then (bif !C.plain&&(C.aF&&C.ki)&&Nat.beq r (20001+1000*i+j)&&Nat.blt r 60000 then some (C,none)else none)else (bif y.loc then some (y,some r)else none)
  |_=>none
 |_=>none
def Bm(m:Nat->aj aZ)(i C:Nat):Nat->aa V->aa Lf->aj (aa V×aa (Nat×Nat))
 |_,[],[]=>some ([],[])
 | j,D :: xs,l :: E=>match UE m i j D l,Bm m i C (j+1) xs E with
  |some (y,none),some (ys,rs)=>some (y::ys,rs)
  |some (y,some r),some (ys,rs)=>some (y::ys,(r,C+1+j)::rs)
  |_,_=>none
 |_,_,_=>none
def V.gone:V->Bool
 |.sl _ o _ _=>Nat.ble 1000000 o
 |_=>false
def zk(m:Nat->aj aZ):Nat->Nat->aa In->aj (aa In×aa (Nat×Nat))
 |_,_,[]=>some ([],[])
 | i,C,.aB cs :: r=>match bif Nat.blt (nF i) 60000 then m (nF i)else none with
  | some (.aB I)=>match Bm m i C 0 cs I,zk m (i+1) (C+1+cs.length) r with
   |some (eZ,rs),some (os,D)=>some (.aB eZ::os,(nF i,C)::(rs++D))
   |_,_=>none
  |_=>none
 | i,C,.sl J :: r=>bif J.gone then (match zk m (i+1) (C+1) r with
   |some (os,D)=>some (.sl .nil::os,D)
   |none=>none)else match bif Nat.blt (nF i) 60000 then m (nF i)else none with
  | some (.sl E)=>bif E.loc && !E.aF then (match zk m (i+1) (C+1) r with
   |some (os,D)=>some (.sl E::os,(nF i,C)::D)
   |none=>none)else none
  |_=>none
def Hz{X:Type}(P:Program)(σ:S)(fn:Array ResultVar)(C:aa In)(k:aa In->gp->aj X):aj X:=
 rK P σ fn.toList λps=>match D0 σ.m 0 ps with
  | some (qs,rs)=>match zk σ.m 0 (qs.map λp=>p.2.length).sum C with
   | some (os,D)=>bif once (rs++D)then (match qs with
    |[p]=>k os (.one p)
    |qs=>k os (.cQ qs))else none
   |none=>none
  |none=>none
/-! Types of parameters and results. -/
def ja:aa (Bool×TC×Nat)->Type
 |[]=>af
 |[(_,t,_)]=>T t
 |(_,t,_)::r=>T t×ja r
def tR:(l:aa (Bool×TC×Nat))->ja l->aa Pt
 |[],_=>[]
 |[(b,t,g)],x=>[(b,enc t g x)]
 |(b,t,g)::q::r,x=>(b,enc t g x.1)::tR (q::r) x.2
def qF:(l:aa (Bool×TC×Nat))->aa Pt->aj (ja l)
 |[],[]=>some ()
 |[(b,t,g)],[(C,D)]=>bif b==C then dec t g D else none
 | (b,t,g) :: q :: r,(C,D) :: ps=>bif b==C then (match dec t g D,qF (q :: r) ps with
  |some x,some xs=>some (x,xs)
  |_,_=>none)else none
 |_,_=>none
def mm(l:aa (Bool×TC×Nat)):gp->aj (ja l)
 |.one p=>qF l [p]
 |.cQ ps=>bif Nat.beq ps.length 1 then none else qF l ps
def ff(l:aa (Bool×TC×Nat))(x:ja l):gp:=
 match tR l x with
 |[p]=>.one p
 |ps=>.cQ ps
inductive PK where
 |v (b:Bool) (t:TC)
 |p (t:TC) (g off:Nat)
 |s (t:TC) (g:Nat)
def kP:aa PK->Type
 |[]=>af
 |.v _ t::r=>T t×kP r
 |.p t _ _::r=>T t×kP r
 |.s t _::r=>aa (T t)×kP r
def rO:aa (Bool×TC×Nat)->Type
 |[]=>af
 |(true,t,_)::r=>T t×rO r
 |(false,t,_)::r=>aa (T t)×rO r
def jb:(l:aa (Bool×TC×Nat))->rO l->aa In
 |[],_=>[]
 |(true,t,g)::r,x=>.aB (enc t g x.1)::jb r x.2
 |(false,t,g)::r,x=>.sl (bif Nat.ble 1000000 g then .nil else .sl t (g+2) false x.1)::jb r x.2
def eO:aa PK->aa (Bool×TC×Nat)
 |[]=>[]
 |.v _ _::r=>eO r
 |.p t g _::r=>(true,t,g)::eO r
 |.s t g::r=>(false,t,g)::eO r
def nQ:(l:aa PK)->kP l->aa In
 |[],_=>[]
 |.v _ _::r,x=>nQ r x.2
 |.p t g _::r,x=>.aB (enc t g x.1)::nQ r x.2
 |.s t g::r,x=>.sl (.sl t (g+2) false x.1)::nQ r x.2
def kr:(l:aa PK)->Nat->kP l->aa Ar
 |[],_,_=>[]
 |.v b t::r,i,x=>.pt (b,enc t 0 x.1)::kr r i x.2
 |.p _ _ off::r,i,x=>.mut i off::kr r (i+1) x.2
 |.s _ _::r,i,x=>.mut i 0::kr r (i+1) x.2
structure nR where
 ps:List PK
 ro:List (Bool×TC×Nat)
 F:kP ps->Option (ja ro×rO (eO ps))
def vg(P:Program)(f:Nat)(c:nR):Prop:=
 ∀ x y,c.F x=some y->∀ (nm:Nat->Nat) (w:World) (ah:bG) (ρ:Nat->Loc) (bX:Array Value),pR w w.heap.size ah ρ 0 (nQ c.ps x)->(∀ b k,ah b=some k->b<w.heap.size/\k≠[])->
     bX.size=c.ps.length->(∀i,RA w w.heap.size ah ρ ((wR (nQ c.ps x) (kr c.ps 0 x)).t i) (bX.getD i undef))->∀C:Hd w ah,
     Calls P f bX w λe w'=>∃v aE,e = .returned v/\jl ⟨w,ah,λ_=>none,C,λ_ _=>rfl⟩ w w'/\(∀b k,aE b=some k->(w.heap.size<=b\/ah b≠none)/\b<w'.heap.size/\k≠[])/\rI w' w.heap.size aE nm (ff c.ro y.1) v/\Hy w w' aE ρ nm 0 (ff c.ro y.1).len (nQ c.ps x) (jb (eO c.ps) y.2)
def HA(w:World)(ρ:Nat->Loc):Nat->aa In->Prop
 |_,[]=>True
 |i,.aB cs::r=>(∃b off cells e,ρ (nF i) = .aB b off/\w.heap[b]?=some (.cells cells e (0,0))/\∀(j:Nat) x,cs[j]?=some x->x.plain=false->x.aF=true->∃u,cells[off+j]?=some u/\ρ (20001+1000*i+j) = .dI u)/\HA w ρ (i+1) r
 |i,.sl y::r=>(∃v,ρ (nF i) = .dI v)/\HA w ρ (i+1) r
section
variable {P:Program} {w w':World} {w0:Wd} {B N:Nat} {ah aE:bG} {ρ ρ':Nat->Loc} {σ:S} {a:Act} {X:Type} {d:Nat} {r:X} {rs:aa (Nat×Nat)} {nm:Nat->Nat}
def UF{m:Nat -> aj aZ}{i pos:Nat}:∀ (xs:aa V) (L:aa Lf) (D:Nat) (ys:aa V) (O:aa (Nat×Nat)),Bm m i pos D xs L=some (ys,O) -> ys.length=xs.length/\L.length=xs.length /\
  ∀(j:Nat) y,ys[j]?=some y -> ∃l x0,L[j]?=some l/\xs[j]?=some x0/\((l = .v y/\y.plain=true) \/ (l = .v .nil/\y = .nil/\x0.aF=false) \/ (l = .own [20001+1000*i+(D+j)]/\y=x0/\y.plain=false/\(y.aF&&y.ki)=true/\20001+1000*i+(D+j)<60000) \/ (∃q,l = .own [q]/\m q=some (.sl y)/\y.aF=false/\(q,pos+1+(D+j))∈O))
 | [],[],D,ys,O,h=>by
  simp only[Bm,iy,Prod.mk.injEq]at h;obtain⟨rfl,rfl⟩:=h;exact⟨rfl,rfl,λj y T=>by simp at T⟩
 |[],_::_,D,ys,O,h=>by simp[Bm]at h
 |_::_,[],D,ys,O,h=>by simp[Bm]at h
 | x0 :: xs,l :: L,D,ys,O,h=>by
  have hc:∀ y z,UE m i D x0 l=some (y,z) -> (z=none/\l = .v y/\y.plain=true) \/ (z=none/\l = .v .nil/\y = .nil/\x0.aF=false) \/ (z=none/\l = .own [20001+1000*i+D]/\y=x0/\y.plain=false/\(y.aF&&y.ki)=true/\20001+1000*i+D<60000) \/ (∃ q,z=some q/\l = .own [q]/\m q=some (.sl y)/\y.aF=false):=by
   intro y z C;unfold UE at C;split at C
   ·rename_i x;cases hp:x.plain with
    | false=>
     rw[hp,aq]at C;cases hb:(!x.ki && !x0.aF)with
     |false=>rw[hb]at C;cases C
     | true=>
      rw[hb,ak]at C;simp only[iy,Prod.mk.injEq]at C;obtain⟨rfl,rfl⟩:=C;rw[aM,gy,gy]at hb;have hx:x = .nil:=by
       cases x<;>first|rfl|(exact absurd hb.1 (by simp[V.ki]))
      subst hx;exact .inr (.inl ⟨rfl,rfl,rfl,hb.2⟩)
    |true =>grind
   ·rename_i q;split at C
    ·rename_i y1 hy1;cases hf:y1.aF with
     | true=>
      rw[hf,ak]at C;cases hb:(!x0.plain&&(x0.aF&&x0.ki)&&Nat.beq q (20001+1000*i+D)&&Nat.blt q 60000)with
      |false=>rw[hb]at C;cases C
      | true=>
       rw[hb,ak]at C;simp only[iy,Prod.mk.injEq]at C;obtain⟨rfl,rfl⟩:=C;rw[aM,aM,aM,gy]at hb;obtain⟨⟨⟨b1,b2⟩,b3⟩,b4⟩:=hb;obtain rfl:=ck b3;exact .inr (.inr (.inl ⟨rfl,rfl,rfl,b1,b2,by have:=cI b4;omega⟩))
     | false=>
      rw[hf,aq]at C;cases hl:y1.loc with
      |false=>rw[hl]at C;cases C
      |true =>grind
    ·cases C
   ·cases C
  unfold Bm at h;split at h
  ·rename_i y UG UH T Ho;simp only[iy,Prod.mk.injEq]at h;obtain⟨rfl,rfl⟩:=h;obtain⟨h1,h2,h3⟩:=UF xs L (D+1) UG UH Ho
   refine⟨by simp[h1],by simp[h2],λj y' E=>?_⟩
   cases j with
   | zero=>
    simp at E;subst E;refine⟨l,x0,rfl,rfl,?_⟩;rcases hc y none T with ⟨_,I,J⟩|⟨_,I,J,Q⟩|⟨_,I,J,Q,e4,e5⟩|⟨q,U,_⟩
    ·simp[*]
    ·simp[*]
    ·exact .inr (.inr (.inl ⟨I,J,Q,e4,e5⟩))
    ·cases U
   | succ j=>
    obtain⟨l',x',g1,g2,Y⟩:=h3 j y' (by simpa using E);rw[show D+1+j=D+(j+1) by omega]at Y;exact⟨l',x',by simpa using g1,by simpa using g2,Y⟩
  ·rename_i y q UG UH T Ho;simp only[iy,Prod.mk.injEq]at h;obtain⟨rfl,rfl⟩:=h;obtain⟨h1,h2,h3⟩:=UF xs L (D+1) UG UH Ho
   refine⟨by simp[h1],by simp[h2],λj y' E=>?_⟩
   cases j with
   | zero=>
    simp at E;subst E;refine⟨l,x0,rfl,rfl,?_⟩;rcases hc y (some q) T with ⟨Z,_⟩|⟨Z,_⟩|⟨Z,_⟩|⟨q',U,I,J,Q⟩
    ·cases Z
    ·cases Z
    ·cases Z
    ·injection U with U;subst U;exact .inr (.inr (.inr ⟨q,I,J,Q,.head _⟩))
   | succ j=>
    obtain⟨l',x',g1,g2,Y⟩:=h3 j y' (by simpa using E);rw[show D+1+j=D+(j+1) by omega]at Y;exact⟨l',x',by simpa using g1,by simpa using g2,Y.imp id (λg=>g.imp id (λg=>g.imp id λ⟨q',I,J,Q,e4⟩=>⟨q',I,J,Q,.tail _ e4⟩))⟩
  ·cases h
def Nm{w1:World}{UI:Nat -> Loc}{m:Nat -> aj aZ}(L:∀ r,20000 <= r -> r<60000 -> ρ r=UI r)(O:∀ r x,m r=some x -> eM w w1.heap.size ah ρ r x):
  ∀(ins:aa In) (i T:Nat) (outs:aa In) (U:aa (Nat×Nat)),zk m i T ins=some (outs,U) -> (∀p∈U,rs.lookup p.1=some p.2) -> HA w1 UI i ins -> rN w1 w (eN ah rs nm) UI nm i T ins outs
 | [],i,T,outs,U,h,I,Y=>by
  simp only[zk,iy,Prod.mk.injEq]at h;obtain⟨rfl,rfl⟩:=h;trivial
 | .aB cs :: r,i,T,outs,U,h,I,Y=>by
  unfold zk at h;cases hi:Nat.blt (nF i) 60000 with
  |false=>grind
  | true=>
   rw[hi,ak]at h;have hi:=cI hi;split at h
   ·rename_i ls UJ;split at h
    ·rename_i eZ rs1 os Z h1 h2;simp only[iy,Prod.mk.injEq]at h;obtain⟨rfl,rfl⟩:=h;obtain⟨⟨b,off,cells,e,aa7,Ur,tS⟩,Nn⟩:=Y;obtain⟨k1,k2,k3⟩:=UF _ _ _ _ _ h1
     refine⟨?_,Nm L O r (i+1) _ os Z h2 (λp D=>I p (.tail _ (List.mem_append_right _ D))) Nn⟩
     have J:=O _ _ UJ;have UK:=L (nF i) (by unfold nF;omega) (by omega);generalize C:aZ.aB ls=x at J;cases J with
     |sl=>cases C
     |mp=>cases C
     |gh=>cases C
     | aB b' A9 wS e' ls' us E hl hh hs hc=>
      injection C with C;subst C;rw[UK,aa7]at E;injection E with e1 e2;subst e1 e2
      refine⟨b,off,cells,wS,e,e',aa7,Ur,hh,?_,by rw[k1,<- k2];exact hs,k1,λj y hy=>?_⟩
      ·have:=I _ (List.Mem.head _);simp[eN,hl,this]
      ·obtain⟨l,x0,g1,g2,g3⟩:=k3 j y hy;obtain⟨c1,c2⟩:=hc j l g1;refine⟨_,c1,?_⟩;rw[fo]at g3;rcases g3 with ⟨rfl,D⟩ | ⟨rfl,rfl,M9⟩ | ⟨rfl,rfl,D,Hp,dZ⟩ | ⟨q,rfl,hq,hf,zh⟩
       ·exact .inl ⟨D,λ_ _ _ _=>c2.2.tL D⟩
       ·exact .inr (.inl ⟨rfl,by have h9:=c2.2;generalize us j=u9 at h9 ⊢;cases h9;rfl,x0,g2,M9⟩)
       ·rw[aM]at Hp;obtain⟨hf,Np⟩:=Hp;obtain⟨u,hu,amM⟩:=tS j y g2 D hf;refine .inr (.inr (.inl ⟨D,hf,Np,⟨y,g2,.same _⟩,?_⟩));have Q:=c2.2;have UL:=L (20001+1000*i+j) (by omega) dZ;simp only[cH,UL,amM]at Q;simp_all
       ·refine .inr (.inr (.inr ⟨hf,?_⟩));have J:=O _ _ hq;generalize C:aZ.sl y=x at J;cases J with
        |aB=>cases C
        |mp=>cases C
        |gh=>cases C
        | sl v y' E hr=>
         injection C with C;subst C;have Q:=c2.2;simp only[cH,E]at Q;injection Q with Q;rw[<- Q];exact RV.eN (p:=[]) hr (I _ (.tail _ (List.mem_append_left _ zh)))
    ·cases h
   ·cases h
 | .sl y :: r,i,T,outs,U,h,I,Y=>by
  unfold zk at h;cases hg:y.gone with
  | true=>
   rw[hg,ak]at h;split at h
   next os Z h2=>simp at h;obtain⟨rfl,rfl⟩:=h;exact⟨.inl rfl,Nm L O r _ _ os Z h2 I Y.2⟩
   ·cases h
  |false=>
  rw[hg,aq]at h;cases hi:Nat.blt (nF i) 60000 with
  |false=>grind
  | true=>
   rw[hi,ak]at h;have hi:=cI hi;split at h
   ·rename_i y' Hg;cases hl:(y'.loc && !y'.aF)with
    |false=>grind
    | true=>
     rw[hl,ak]at h;split at h
     ·rename_i os Z h2;simp only[iy,Prod.mk.injEq]at h;obtain⟨rfl,rfl⟩:=h;obtain⟨⟨v,hv⟩,Nn⟩:=Y
      refine⟨.inr ⟨v,hv,?_⟩,Nm L O r (i+1) _ os Z h2 (λp D=>I p (.tail _ D)) Nn⟩
      have UK:=L (nF i) (by unfold nF;omega) (by omega);have J:=O _ _ Hg;generalize C:aZ.sl y'=x at J;cases J with
      |aB=>cases C
      |mp=>cases C
      |gh=>cases C
      | sl v' y'' E hr=>
       injection C with C;subst C;rw[UK,hv]at E;injection E with E;subst E;exact RV.eN (p:=[]) hr (I _ (.head _))
     ·cases h
   ·cases h
def amN{w1:World}{Q:Nat -> Loc}{fn:Func}{J:aa In}{k:aa In -> gp -> aj X}(hw:w0.w=w1)(hF:∀ r,20000 <= r -> r<60000 -> w0.F r=some (Q r))(he:HA w1 Q 0 J)(h:Hz P σ fn.results J k=some r):
  ∃outs res,k outs res=some r /\ ∀ah ρ a w,Rl w0 N ah ρ σ a w -> ∀nm,∃v aE,(results fn a.tmps).run P w = .ok v w/\(∀b k,aE b=some k -> (w0.heap.size <= b \/ w0.L b≠none)/\b<w.heap.size/\k≠[])/\rI w w0.heap.size aE nm res v/\rN w1 w aE Q nm 0 res.len J outs:=by
 unfold Hz at h;obtain⟨ps,E,qE⟩:=Hx (w0:=w0) (N:=N) _ _ h;clear h;split at E
 ·rename_i Y UM UB;split at E
  ·rename_i os UN hos;cases Z:once (UM++UN)with
   |false=>rw[Z]at E;cases E
   | true=>
    rw[Z,ak]at E;generalize aa8:UM++UN=rs at Z;have nP:∀ p∈rs,rs.lookup p.1=some p.2:=by
     intro p T;have:=cE.1 Z p T;obtain⟨n,hn,he⟩:=(Option.any_eq_true _ _).1 this;simp_all
    have core:∀ ah ρ a w,Rl w0 N ah ρ σ a w -> ∀ nm:Nat -> Nat,∃ C:aa Value,(fn.results.mapM (rM a.tmps)).run P w = .ok C.toArray w/\(∀ b k,eN ah rs nm b=some k -> (w0.heap.size <= b \/ w0.L b≠none)/\b<w.heap.size/\k≠[])/\jO w w0.heap.size (eN ah rs nm) nm 0 Y C /\
      rN w1 w (eN ah rs nm) Q nm 0 (Y.map λp=>p.2.length).sum J os:=by
     intro ah ρ a w hR nm;obtain⟨C,U,hl,hv⟩:=qE ah ρ a w hR
     refine⟨C,?_,λb k I=>?_,Uz hR.root ps 0 Y UM C UB (λp T=>nP p (by rw[<- aa8];exact List.mem_append_left _ T)) hl hv,
      Nm (λr h1 E=>hR.fix r _ (hF r h1 E)) (by rw[<- hw];exact hR.root) J 0 _ os UN hos (λp T=>nP p (by rw[<- aa8];exact List.mem_append_right _ T)) he⟩
     ·rw[Array.mapM_eq_mapM_toList];simp[U]
     ·unfold eN at I;split at I
      ·cases I
      ·rename_i k' sM;have:=hR.cX b k' sM;split at I
       ·cases I
       ·cases zl:rs.lookup _ with
        |none=>rw[zl]at I;cases I
        | some n=>
         rw[zl]at I;injection I with I;subst I;simp_all
    have ko:∀ (tmps:Array Value),results fn tmps=(do let C <- fn.results.mapM (rM tmps);pure (if h:C.size=1 then C[0]else .tuple C)):=λtmps=>by
     unfold results;congr 1
    split at E
    ·rename_i p
     refine⟨_,_,E,λah ρ a w hR nm=>?_⟩
     obtain⟨C,U,mj,D,O⟩:=core ah ρ a w hR nm;have O:rN w1 w (eN ah rs nm) Q nm 0 (gp.one p).len J os:=by simpa [gp.len]using O
     match C,D with
     |[v],D=>exact⟨v,_,by rw[ko,fq,U];rfl,mj,D,O⟩
     |[],D=>exact D.elim
     |_::_::_,D=>exact D.2.elim
    ·rename_i eU
     refine⟨_,_,E,λah ρ a w hR nm=>?_⟩
     obtain⟨C,U,mj,D,O⟩:=core ah ρ a w hR nm;have gx:C.toArray.size≠1:=by
      intro e;clear O;have e:C.length=1:=by simpa using e
      match Y,C,D,eU,e with
      |[q],[v],_,eU,_=>exact eU q rfl
      |[],[v],D,_,_=>exact D.elim
      |_::_::_,[v],D,_,_=>exact D.2.elim
     refine⟨.tuple C.toArray,_,?_,mj,⟨C.toArray,rfl,D⟩,O⟩;rw[ko,fq,U,kL];simp only[gx,dif_neg,not_false_eq_true,Sem.run_pure]
  ·cases E
 ·cases E
def aa9{i:Nat}:∀ (cs:aa V) (D:Nat) (m:Nat -> aj aZ) (r:Nat) (x:aZ),UC i D cs m r=some x -> m r=some x \/ ∃ j y,cs[j]?=some y/\y.plain=false/\r=nC i (D+j) y/\x = .sl y
 |[],D,m,r,x,h=>.inl h
 | c :: cs,D,m,r,x,h=>by
  rcases aa9 cs _ _ r x h with C|⟨j,y,C,J,L,O⟩
  ·cases E:c.plain with
   |true=>simp_all
   | false=>
    rw[E,aq]at C;by_cases I:r=nC i D c
    ·subst I;rw[cg]at C;injection C with C;exact .inr ⟨0,c,rfl,E,rfl,C.symm⟩
    ·rw[cF _ _ _ I]at C;simp_all
  ·exact .inr ⟨j+1,y,by simpa using C,J,by rw[L];congr 1;omega,O⟩
def pR.roots:∀ (C:aa In) (i:Nat) (m:Nat -> aj aZ),pR w B ah ρ i C -> (∀ r x,m r=some x -> eM w B ah ρ r x) -> ∀ r x,Nl i C m r=some x -> eM w B ah ρ r x
 |[],i,m,_,I,r,x,h=>I r x h
 | .aB cs :: C,i,m,J,I,r,x,h=>by
  obtain⟨Q,T,L⟩:=J
  refine pR.roots C _ _ L (λr x E=>?_) r x h
  rcases aa9 cs 0 _ r x E with O|⟨j,y,U,Y,Z,g4⟩
  ·by_cases D:r=nF i
   ·subst D;rw[cg]at O;simp_all
   ·rw[cF _ _ _ D]at O;simp_all
  ·simp_all
 | .sl y :: C,i,m,J,I,r,x,h=>by
  obtain⟨Q,L⟩:=J
  refine pR.roots C _ _ L (λr x E=>?_) r x h
  by_cases D:r=nF i
  ·subst D;rw[cg]at E;simp_all
  ·rw[cF _ _ _ D]at E;simp_all
def UO{i:Nat}:∀ (cs:aa V) (C j:Nat) x,cs[j]?=some x->(zj i C cs)[j]?=some (zi i (C+j) x)
 |[],C,j,x,h=>by simp at h
 |c::cs,C,0,x,h=>by simp at h;subst h;rfl
 | c :: cs,C,j+1,x,h=>by
  simp only[zj,List.getElem?_cons_succ];rw[UO cs (C+1) j x (by simpa using h)];congr 2;omega
def pR.UP:∀ (C:aa In) (i:Nat),pR w B ah ρ i C -> HA w ρ i C
 |[],_,_=>trivial
 | .aB cs :: C,i,I=>by
  obtain⟨E,_,J⟩:=I;refine⟨?_,pR.UP C (i+1) J⟩;generalize D:aZ.aB (zj i 0 cs)=x at E;cases E with
  |sl=>cases D
  |mp=>cases D
  |gh=>cases D
  | aB b off cells e ls us Q hl T hs U=>
   injection D with D;subst D
   refine⟨b,off,cells,e,Q,T,λj x Y Z hf=>?_⟩
   obtain⟨c1,L⟩:=U j _ (UO cs 0 j x Y);rw[fo]at L;refine⟨_,c1,?_⟩;have e1:zi i j x = .own [20001+1000*i+j]:=by simp[zi,Z,nC,hf]
   rw[e1]at L;have O:=L.2;simp only[cH]at O;split at O
   ·simp_all
   ·cases O
 | .sl y :: C,i,I=>by
  obtain⟨E,J⟩:=I;refine⟨?_,pR.UP C (i+1) J⟩;cases E with
  |sl v y' Q hr=>simp_all
end
def cu(n:Nat):aa Nat->Bool
 |[]=>false
 |m::l=>Nat.beq n m ||cu n l
def tT{n:Nat}:∀ {l:aa Nat},cu n l=true ↔ n∈l
 |[]=>by simp[cu]
 | m :: l=>by
  simp only[cu,ei,fQ,tT];simp_all
def aba{n:Nat}{l:aa Nat}(h:cu n l=false):n ∉ l:=λk=>by rw[tT.2 k]at h;cases h
def cJ(k l:aa Nat):Bool:=match k.getLast? with
 |some r=>cu r l
 |none=>false
def Lf.bH(ns cn:aa Nat):Lf->Lf
 |.own k=>bif cJ k cn ||(cJ k ns && !(Nat.beq k.length 1))then .dead else .own k
 |x=>x
def A.bH(ns cn:aa Nat):A->A
 |.lf x=>.lf (x.bH ns cn)
 |.agg cs=>.agg (cs.map (Lf.bH ns cn))
 |.cQ xs=>.cQ (xs.map λp=>(p.1,p.2.map (Lf.bH ns cn)))
 |.ptr k=>bif cJ k cn ||cJ k ns then .undef else .ptr k
 |.aG r j=>bif cu r cn then .undef else .aG r j
 |.pk r n=>bif cu r cn then .undef else .pk r n
 |.view k s i j=>bif cJ k cn ||cJ k ns then .undef else .view k s i j
 |.fn f cap=>bif cap.any (λp=>cu p.1 cn)then .undef else .fn f cap
 |x=>x
def aZ.bH(ns cn:aa Nat):aZ->aZ
 |.aB cs=>.aB (cs.map (Lf.bH ns cn))
 |.gh xs=>.gh (xs.map (A.bH ns cn))
 |x=>x
def S.bH(σ:S)(ns cn:aa Nat)(nr:aa (Nat×aZ)):S:=⟨λk=>(σ.t k).bH ns cn,λr=>match nr.lookup r with
 |some x=>some x
 |none=>bif cu r ns ||cu r cn then none else (σ.m r).map (aZ.bH ns cn)⟩
structure rP (w w':World) (ah dg:bG) (ρ eH:Nat->Loc) (ns cn:List Nat):Prop where
 size:w.heap.size<=w'.heap.size
 same:∀b,b<w.heap.size->(∀k,ah b=some k->cJ k ns=false)->w'.heap[b]?=w.heap[b]?/\dg b=ah b
 eG:∀r,cu r cn=false->eH r=ρ r
 ah:∀b k,ah b=some k->b<w.heap.size/\k≠[]
section
variable {P:Program} {w w':World} {w0:Wd} {B N:Nat} {ah dg aE:bG} {ρ eH:Nat->Loc} {σ:S} {a:Act} {X:Type} {d:Nat} {r:X} {ns cn:aa Nat}
def Bn{j i s:Nat}{q l:aa Nat}(h:q≠[]):cJ (j :: i :: s :: q) l=cJ q l:=by
 cases q with
 |nil=>simp_all
 |cons x q=>simp[cJ]
def RV.jo(E:rP w w' ah dg ρ eH ns cn){q:aa Nat}{x:V}{v:Value}(h:RV w B ah q x v)(hq:cJ q ns=false \/ x.aF=true):RV w' B dg q x v:=by
 induction h with
 |int=>exact .int _ _ _
 |bool=>exact .bool _ _
 |str=>exact .str _ _
 |nil=>exact .nil _
 |cS=>exact .cS _ _ _
 |cW=>exact .cW _ _ _ _ _ (by first|assumption|omega)
 |de=>exact .de _ _ _ _ _ (by first|assumption|omega)
 | aF q t o U l b off cap u Q hl hb Y Z I hr J=>
  obtain⟨L,O⟩:=E.same b hb (λk C=>by rw[hl]at C;cases C);exact .aF _ _ _ _ _ _ _ _ u Q (O.trans hl) (kI hb E.size) Y Z (λi h j x D=>(kJ L).trans (I i h j x D)) (λi h j x D=>J i h j x D (.inr (jM t o l[i] Q j x D)))
 | own q t o U l b cap cs u hl hh hs hn hm I hr J=>
  have T:cJ q ns=false:=by
   rcases hq with hq|hq
   ·exact hq
   ·simp[V.aF]at hq;omega
  have eU:=(E.ah b q hl).2;obtain⟨L,O⟩:=E.same b (E.ah b q hl).1 (λk C=>by rw[hl]at C;injection C with C;subst C;exact T);exact .own _ _ _ _ _ _ _ cs u (O.trans hl) (L.trans hh) hs hn hm I (λi h j x D=>J i h j x D (.inl (by rw[Bn eU];exact T)))
def UQ(D:rP w w' ah dg ρ eH ns cn):∀ (k:aa Nat) (ad:Addr),cJ k ns=false -> cJ k cn=false -> addrAt w ah ρ k=some ad -> addrAt w' dg eH k=some ad
 |[],_,_,_,h=>by simp[addrAt]at h
 |[_],_,_,_,h=>by simp[addrAt]at h
 |[_,_],_,_,_,h=>by simp[addrAt]at h
 |[_,_,_],_,_,_,h=>by simp[addrAt]at h
 | [j,i,s,r],_,E,I,h=>by
  have E:cJ [r] ns=false:=by rwa [Bn (by simp)]at E
  have I:cu r cn=false:=by rw[Bn (by simp)]at I;exact I
  simp only[addrAt]at h ⊢;rw[D.eG r I];split at h
  ·rename_i v b n c hr;split at h
   next hl=>obtain⟨_,J⟩:=D.same b (D.ah b _ hl).1 (λk C=>by rw[hl]at C;injection C with C;subst C;exact E);rw[br (J.trans hl)];exact h
   ·cases h
  ·cases h
 | j :: i :: s :: x :: y :: q,ad,E,I,h=>by
  rw[Bn (by simp)]at E I;simp only[addrAt]at h ⊢;cases L:addrAt w ah ρ (x::y::q)with
  |none=>grind
  | some O=>
   rw[UQ D _ _ E I L];rw[L]at h;cases T:w.cell? O with
   |none=>grind
   | some v=>
    obtain⟨j',i',s',U,C,Q,_,_⟩:=wA _ _ L;have Y:U≠[]:=(D.ah _ _ Q).2;have Z:cJ U ns=false:=by
     rw[C,Bn Y]at E;exact E
    obtain⟨e1,_⟩:=D.same O.block (D.ah _ _ Q).1 (λk C=>by rw[Q]at C;injection C with C;subst C;exact Z);have e:w'.cell? O=some v:=(kJ e1).trans T;simp only[Option.bind_some,T]at h;simp only[Option.bind_some,e];split at h
    ·split at h
     next hl=>obtain⟨_,J⟩:=D.same _ (D.ah _ _ hl).1 (λk C=>by rw[hl]at C;injection C with C;subst C;exact E);rw[br (J.trans hl)];exact h
     ·cases h
    ·cases h
def abb(E:rP w w' ah dg ρ eH ns cn)(k:aa Nat)(u:Value)(C:k.length=1 \/ cJ k ns=false)(I:cJ k cn=false)(h:cH w ah ρ k=some u):cH w' dg eH k=some u:=by
 match k,C,I,h with
 | [r],_,I,h=>
  simp[cH]at h ⊢;rw[E.eG r I];exact h
 | x :: y :: q,C,I,h=>
  have C:cJ (x :: y :: q) ns=false:=by
   simp_all
  simp[cH]at h ⊢;cases J:addrAt w ah ρ _ with
  |none=>rw[J]at h;cases h
  | some ad=>
   rw[UQ E _ _ C I J];rw[J]at h;obtain⟨U,Y,Z,O,D,L,_,_⟩:=wA _ _ J;have Q:O≠[]:=(E.ah _ _ L).2;rw[D,Bn Q]at C;obtain⟨T,_⟩:=E.same ad.block (E.ah _ _ L).1 (λk D=>by rw[L]at D;injection D with D;subst D;exact C);exact(kJ T).trans h
def dy.jo(C:rP w w' ah dg ρ eH ns cn){x:Lf}{u:Value}(h:dy w B ah ρ x u):dy w' B dg eH (x.bH ns cn) u:=by
 cases x with
 |v x=>exact⟨h.1,h.2.jo C (.inr h.1)⟩
 |dead=>trivial
 | own k=>
  have e:Lf.bH ns cn (.own k)=(bif cJ k cn ||(cJ k ns && !(Nat.beq k.length 1))then .dead else .own k):=rfl;rw[e];cases hb:(cJ k cn ||(cJ k ns && !(Nat.beq _ 1)))with
  |true=>trivial
  | false=>
   rw[o9]at hb;refine⟨h.1,abb C k u ?_ hb.1 h.2⟩;have hb:=hb.2;cases D:cJ k ns with
   |false=>simp_all
   |true =>simp_all
def dU.jo(E:rP w w' ah dg ρ eH ns cn){cs:aa Lf}{us:Array Value}(h:dU w B ah ρ cs us):dU w' B dg eH (cs.map (Lf.bH ns cn)) us:=by
 refine⟨by rw[dh];exact h.1,λj x C=>?_⟩
 rw[dw]at C;cases D:cs[j]? with
 |none=>simp_all
 | some y=>
  rw[D]at C;injection C with C;subst C;obtain⟨u,I,r⟩:=h.2 j y D;exact⟨u,I,r.jo E⟩
def RP.jo(C:rP w w' ah dg ρ eH ns cn){p:Bool×aa Lf}{u:Value}(h:RP w B ah ρ p u):RP w' B dg eH (p.1,p.2.map (Lf.bH ns cn)) u:=by
 obtain⟨b,cs⟩:=p;cases b with
 |true=>obtain⟨us,e,h⟩:=h;exact⟨us,e,h.jo C⟩
 |false=>exact dU.jo C h
def RA.jo(C:rP w w' ah dg ρ eH ns cn){x:A}{u:Value}(h:RA w B ah ρ x u):RA w' B dg eH (x.bH ns cn) u:=by
 cases x with
 |undef=>trivial
 |skip=>exact h
 |lf x=>exact dy.jo C h
 |agg cs=>exact RP.jo C (p:=(true,cs)) h
 | cQ xs=>
  obtain⟨us,e,O,h⟩:=h
  refine⟨us,e,by rw[dh];exact O,λj p D=>?_⟩
  rw[dw]at D;cases Y:xs[j]? with
  |none=>simp_all
  | some y=>
   rw[Y]at D;injection D with D;subst D;obtain⟨v,E,r⟩:=h j y Y;exact⟨v,E,r.jo C⟩
 | ptr k=>
  have e:A.bH ns cn (.ptr k)=(bif cJ k cn ||cJ k ns then .undef else .ptr k):=rfl;rw[e];cases hb:(cJ k cn ||cJ k ns)with
  |true=>trivial
  | false=>
   rw[o9]at hb;obtain⟨ad,e,h⟩:=h;exact⟨ad,e,UQ C k ad hb.2 hb.1 h⟩
 | view k s i j=>
  have e:A.bH ns cn (.view k s i j)=(bif cJ k cn ||cJ k ns then .undef else .view k s i j):=rfl;rw[e];cases hb:(cJ k cn ||cJ k ns)with
  |true=>trivial
  | false=>
   rw[o9]at hb;obtain⟨A,n,c,h,g⟩:=h;exact⟨A,n,c,abb C k _ (.inr hb.2) hb.1 h,g⟩
 | pk r n=>
  have e:A.bH ns cn (.pk r n)=(bif cu r cn then .undef else .pk r n):=rfl;rw[e];cases hb:cu r cn with
  |true=>trivial
  | false=>
   obtain⟨b,e,h⟩:=h;exact⟨b,(C.eG r hb).trans e,h⟩
 | aG r j=>
  have e:A.bH ns cn (.aG r j)=(bif cu r cn then .undef else .aG r j):=rfl;rw[e];cases hb:cu r cn with
  |true=>trivial
  | false=>
   obtain⟨b,off,e,h⟩:=h;exact⟨b,off,(C.eG r hb).trans e,h⟩
 | hJ cs=>
  obtain⟨b,off,e,hb,hl,h⟩:=h;obtain⟨Q,I⟩:=C.same b hb (λk J=>by rw[hl]at J;cases J)
  refine⟨b,off,e,kI hb C.size,I.trans hl,λj x T=>?_⟩
  obtain⟨L,v,E,U⟩:=h j x T;exact⟨L,v,(kJ (a:=⟨b,_,none⟩) Q).trans E,U.jo C (.inr L)⟩
 | kO f cs=>
  obtain⟨pv,Z,h⟩:=h;refine⟨pv,Z,?_⟩;obtain⟨b,off,e,hb,hl,h⟩:=h;obtain⟨Q,I⟩:=C.same b hb (λk J=>by rw[hl]at J;cases J)
  refine⟨b,off,e,kI hb C.size,I.trans hl,λj x T=>?_⟩
  obtain⟨L,v,E,U⟩:=h j x T;exact⟨L,v,(kJ Q).trans E,U.jo C (.inr L)⟩
 | fn f cap=>
  have e:A.bH ns cn (.fn f cap)=(bif cap.any (λp=>cu p.1 cn)then .undef else .fn f cap):=rfl;rw[e];cases hb:cap.any (λp=>cu p.1 cn)with
  |true=>trivial
  | false=>
   obtain⟨vs,e,O,h⟩:=h
   refine⟨vs,e,O,λj p D=>?_⟩
   obtain⟨b,off,I,h2⟩:=h j p D;have:=kK.1 hb p (ga D);exact⟨b,off,(C.eG _ (by simpa using this)).trans I,h2⟩
def eM.jo(C:rP w w' ah dg ρ eH ns cn){n:Nat}{x:aZ}(h:eM w B ah ρ n x)(Q:cu n ns=false)(O:cu n cn=false):eM w' B dg eH n (x.bH ns cn):=by
 cases h with
 | aB b off cells e cs us E hl T hs Z=>
  obtain⟨U,Y⟩:=C.same b (C.ah b _ hl).1 (λk D=>by rw[hl]at D;injection D with D;subst D;exact Q)
  refine .aB b off cells e _ us ((C.eG n O).trans E) (Y.trans hl) (U.trans T) (by rw[dh];exact hs) (λj x I=>?_)
  rw[dw]at I;cases J:cs[j]? with
  |none=>simp_all
  | some y=>
   rw[J]at I;injection I with I;subst I;exact⟨(Z j y J).1,(Z j y J).2.jo C⟩
 |sl v y E hr=>exact .sl v y ((C.eG n O).trans E) (hr.jo C (.inl Q))
 | mp b c es l E hl T he=>
  obtain⟨U,Y⟩:=C.same b (C.ah b _ hl).1 (λk D=>by rw[hl]at D;injection D with D;subst D;exact Q);exact .mp b c es l ((C.eG n O).trans E) (Y.trans hl) (U.trans T) he
 | gh us xs E I=>
  refine .gh us _ ((C.eG n O).trans E) (λj x L=>?_)
  rw[dw]at L;cases J:xs[j]? with
  |none=>simp_all
  | some y=>
   rw[J]at L;injection L with L;subst L;exact(I j y J).jo C
def Rl.jo(h:Rl w0 N ah ρ σ a w)(D:rP w w' ah dg ρ eH ns cn)(hb:jl w0 w w')(hl:∀ b k,dg b=some k -> (w0.heap.size <= b \/ w0.L b≠none)/\b<w'.heap.size/\k≠[])(O:∀ r,cu r cn=true -> w0.F r=none){nr:aa (Nat×aZ)}
  (Q:∀r x,nr.lookup r=some x -> eM w' w0.heap.size dg eH r x):Rl w0 N dg eH (σ.bH ns cn nr) a w':=by
 refine⟨h.below.trans hb,hl,λr x C=>?_,λk=>(h.tmp k).jo D,h.size,h.defers,λr l I=>?_,h.di⟩
 ·simp only[S.bH]at C;split at C
  ·simp_all
  ·cases hm:(cu r ns || cu r cn)with
   |true=>simp_all
   | false=>
    rw[hm]at C;rw[o9]at hm;cases E:σ.m r with
    |none=>simp_all
    | some y=>
     rw[E]at C;injection C with C;subst C;exact(h.root r y E).jo D hm.1 hm.2
 ·have J:cu r cn=false:=by
   grind
  exact(D.eG r J).trans (h.fix r l I)
end
inductive Mu where
 |aB (r:Nat) (cs:List Lf) (vs:List (V×Option Nat))
 |sl (q:Nat) (y:V)
def Mu.root:Mu->Nat
 |.aB r _ _=>r
 |.sl q _=>q
def vh(m:Nat->aj aZ):Lf->aj (V×aj Nat)
 |.v x=>some (x.gL,none)
 | .own [q]=>match m q with
  |some (.sl y)=>bif y.aF then some (y.gL,none)else some (y,some q)
  |_=>none
 |_=>none
def rQ(m:Nat->aj aZ):aa Lf->aj (aa (V×aj Nat))
 |[]=>some []
 | l :: C=>match vh m l,rQ m C with
  |some v,some D=>some (v::D)
  |_,_=>none
def vi(σ:S):PK->A->aj (aj Mu)
 |.v _ _,_=>some none
 | .p _ _ off,.aG r j=>(match (bif Nat.beq j off then σ.m r else none)with
  | some (.aB cs)=>(match rQ σ.m cs with
   |some C=>bif Nat.blt cs.length 999 then some (some (.aB r cs C))else none
   |none=>none)
  |_=>none)
 | .s _ _,.lf (.own [q])=>(match σ.m q with
  |some (.sl y)=>bif y.aF then none else some (some (.sl q y))
  |_=>none)
 |_,_=>none
def jz(σ:S):aa PK->aa Operand->aj (aa Mu)
 |[],[]=>some []
 | p :: ps,x :: xs=>(match vi σ p (aI σ x),jz σ ps xs with
  |some (some D),some C=>some (D::C)
  |some none,some C=>some C
  |_,_=>none)
 |_,_=>none
def D5(i:Nat):Nat->aa (V×aj Nat)->aa (Nat×Nat)
 |_,[]=>[]
 |j,(_,some q)::C=>(q,60000+1000*i+j)::D5 i (j+1) C
 |j,(_,none)::C=>D5 i (j+1) C
def kQ:Nat->aa Mu->aa (Nat×Nat)
 |_,[]=>[]
 |i,.aB r _ D::C=>(r,nF i)::(D5 i 0 D++kQ (i+1) C)
 |i,.sl q _::C=>(q,nF i)::kQ (i+1) C
def Nq(ns:aa Nat):Lf->Bool
 |.own k=>!cJ k ns
 |_=>true
def pS{X:Type}(σ:S)(ns:aa Nat):aa Lf->(aa V->aj X)->aj X
 |[],k=>k []
 |x::xs,k=>bif Nq ns x then iS σ x λy=>pS σ ns xs λys=>k (y.gL::ys)else none
def oB{X:Type}(σ:S)(ns:aa Nat)(x:A)(k:Pt->aj X):aj X:=
 match x with
 |.lf y=>pS σ ns [y] λC=>k (false,C)
 |.agg ys=>pS σ ns ys λC=>k (true,C)
 |.kO f (c::cs)=>k (false,.bool false::.int .i64 (f:Int)::c.gL::cs.map V.gL)
 | .fn f [(r,j)]=>bif cu r ns then none else (match σ.m r with
  | some (.aB cs)=>(match rB (cs.drop j)with
   |some (c::C)=>k (false,.bool false::.int .i64 (f:Int)::c::C)
   |_=>none)
  |_=>none)
 |_=>none
def iD{X:Type}(σ:S)(ns:aa Nat):(ps:aa PK)->aa Operand->aa Mu->(kP ps->aj X)->aj X
 |[],[],[],k=>k ()
 | .v b t :: ps,x :: xs,C,k=>oB σ ns (aI σ x) λp=>bif p.1==b then (match dec t 0 p.2 with
  |some y=>iD σ ns ps xs C λys=>k (y,ys)
  |none=>none)else none
 | .p t g _ :: ps,_ :: xs,.aB _ _ D :: C,k=>(match (bif Nat.beq (g % 2) 0 then dec t g (D.map (·.1))else none)with
  |some y=>iD σ ns ps xs C λys=>k (y,ys)
  |none=>none)
 | .s t g :: ps,_ :: xs,.sl _ y :: C,k=>(match (bif Nat.beq (g % 2) 0 then y.dR t (g+2)else none)with
  |some z=>iD σ ns ps xs C λys=>k (z,ys)
  |none=>none)
 |_,_,_,_=>none
def wT(w:World)(ρ:Nat->Loc)(rs:aa Nat):Nat->Loc:=λn=>
 if n<60000 then (if (n-20000) % 1000=0 then ρ (rs.getD ((n-20000) / 1000) 0)else (match ρ (rs.getD ((n-20000) / 1000) 0)with
  |.aB b off=>.dI ((w.cell? ⟨b,off+((n-20000) % 1000-1),none⟩).getD undef)
  |.dI v=>.dI v
  |.bX us=>.bX us))
 else (match ρ (rs.getD ((n-60000) / 1000) 0)with
  |.aB b off=>.dI ((w.cell? ⟨b,off+(n-60000) % 1000,none⟩).getD undef)
  |.dI v=>.dI v
  |.bX us=>.bX us)
def HB{w:World}{ρ:Nat -> Loc}{rs:aa Nat}{i r:Nat}(h:rs[i]?=some r)(hi:i<40):wT w ρ rs (nF i)=ρ r:=by
 have C:nF i<60000:=by unfold nF;omega
 have D:(nF i-20000) % 1000=0:=by unfold nF;omega
 have E:(nF i-20000) / 1000=i:=by unfold nF;omega
 have I:rs.getD i 0=r:=by rw[en,h];rfl
 unfold wT;simp_all
def amO{w:World}{ρ:Nat -> Loc}{rs:aa Nat}{i j r b off:Nat}{u:Value}{x:V}(h:rs[i]?=some r)(hi:i<40)(C:j<999)(D:ρ r = .aB b off)(E:w.cell? ⟨b,off+j,none⟩=some u):wT w ρ rs (nC i j x) = .dI u:=by
 have I:rs.getD i 0=r:=by rw[en,h];rfl
 unfold wT nC;cases x.aF with
 |true =>grind
 |false =>grind
def V.Nr:V->Bool
 |.sl _ o _ _=>Nat.beq (o % 2) 0
 |_=>true
section
variable {P:Program} {w w':World} {w0:Wd} {B N:Nat} {ah dg aE:bG} {ρ eH:Nat->Loc} {σ:S} {a:Act} {X:Type} {d:Nat} {r:X} {ns cn:aa Nat}
def RV.reB{B':Nat}{q:aa Nat}{x:V}{v:Value}(h:RV w B ah q x v)(D:x.Nr=true):RV w B' ah q x v:=by
 induction h with
 |int=>exact .int _ _ _
 |bool=>exact .bool _ _
 |str=>exact .str _ _
 |nil=>exact .nil _
 |cS=>exact .cS _ _ _
 |cW=>exact .cW _ _ _ _ _ (by first|assumption|omega)
 |de=>exact .de _ _ _ _ _ (by first|assumption|omega)
 | aF q t o L l b off cap u O hl hb h1 Q E T I=>
  have D:=ck D;have U:o=0:=by omega
  subst U
  refine .aF _ _ _ _ _ _ _ _ u O hl hb (by omega) Q E (λi h j x C=>I i h j x C ?_)
  have:=wu t 0 l[i] x (ga C);cases x with
  | sl Y J Z l'=>
   have:J=0:=by simpa [V.gr]using this
   subst this;rfl
  |_=>rfl
 | own q t o L l b cap cs u hl hh hs hn hm E T I=>
  have D:=ck D
  refine .own _ _ _ _ _ _ _ cs u hl hh hs hn hm E (λi h j x C=>I i h j x C ?_)
  have:=wu t o l[i] x (ga C);cases x with
  | sl Y J Z l'=>
   have:J=o:=by simpa [V.gr]using this
   show Nat.beq _ 0=true;simp_all
  |_=>rfl
def RV.out{q I:aa Nat}{x:V}{v:Value}(h:RV w B ah q x v)(Q:∀ b,ah b=none -> aE b=none)(T:∀ b k,ah b=some k -> k≠[]/\(cJ k ns=false -> aE b=none))(hq:x.aF=true \/ cJ q ns=false){B':Nat}:RV w B' aE I x.gL v:=by
 induction h generalizing I with
 |int=>exact .int _ _ _
 |bool=>exact .bool _ _
 |str=>exact .str _ _
 |nil=>exact .nil _
 |cS=>exact .cS _ _ _
 |cW=>exact .cW _ _ _ _ _ (by first|assumption|omega)
 |de=>exact .de _ _ _ _ _ (by first|assumption|omega)
 | aF q t o U l b off cap u Y hl hb h1' Z J hr E=>
  refine .aF _ _ _ _ _ _ _ _ u (by omega) (Q b hl) hb (by omega) Z (λi h j x C=>?_) (λi h j x C=>?_)
  ·obtain⟨y,D,_⟩:=wz t o l[i] j x C;simp_all
  ·obtain⟨y,D,rfl⟩:=wz t o l[i] j x C;exact E i h j y D (.inl (jM t o l[i] Y j y D))
 | own q t o U l b cap cs u hl L hs hn hm J hr E=>
  have O:cJ q ns=false:=by
   rcases hq with hq|hq
   ·simp[V.aF]at hq;omega
   ·exact hq
  obtain⟨eU,qA⟩:=T b q hl
  refine .aF _ _ _ _ _ _ _ _ u (by omega) (qA O) (gd.1 L).1 (by omega) hn (λi h j x C=>?_) (λi h j x C=>?_)
  ·obtain⟨y,D,_⟩:=wz t o l[i] j x C;have:=J i h j y D;rw[fo,cell_of_row w b _ cs _ _ L];exact this
  ·obtain⟨y,D,rfl⟩:=wz t o l[i] j x C;exact E i h j y D (.inr (by rw[Bn eU];exact O))
def amP{x:Lf}{k:V -> aj X}(h:iS σ x k=some r):∃ y,k y=some r /\ ∀ ah ρ a w,Rl w0 N ah ρ σ a w -> ∀ u,dy w w0.heap.size ah ρ x u -> ∃ q,(x = .own q \/ y.aF=true)/\RV w w0.heap.size ah q y u:=by
 cases x with
 |v y=>exact⟨y,h,λah ρ a w hR u C=>⟨[],.inr C.1,C.2⟩⟩
 |dead=>cases h
 | own q=>
  obtain⟨y,D,E⟩:=sF q k h
  refine⟨y,E,λah ρ a w hR u C=>⟨q,.inl rfl,?_⟩⟩
  obtain⟨v,I,J⟩:=D.ok hR.root;have:v=u:=by
   have L:=C.2;simp_all
  simp_all
structure Bo (ns:List Nat) (ah aE:bG):Prop where
 none:∀b,ah b=none->aE b=none
 rest:∀b k,ah b=some k->k≠[]/\(cJ k ns=false->aE b=Option.none)
def UR:∀ (xs:aa Lf) (k:aa V -> aj X),pS σ ns xs k=some r -> ∃ C,k C=some r/\C.length=xs.length /\ ∀ ah ρ a w aE,Rl w0 N ah ρ σ a w -> Bo ns ah aE -> ∀ (j:Nat) x y u,xs[j]?=some x -> C[j]?=some y -> dy w w0.heap.size ah ρ x u -> RV w w.heap.size aE [] y u
 |[],k,h=>⟨[],h,rfl,λ_ _ _ _ _ _ _ j x y u L=>by simp at L⟩
 | x :: xs,k,h=>by
  unfold pS at h;cases D:Nq ns x with
  |false=>simp_all
  | true=>
   rw[D,ak]at h;obtain⟨y,O,Q⟩:=amP (w0:=w0) (N:=N) h;obtain⟨ys,T,hl,Z⟩:=UR xs _ O
   refine⟨y.gL::ys,T,by simp[hl],λah ρ a w aE hR E j x' y' u I J U=>?_⟩
   cases j with
   | zero=>
    simp at I J;subst I J;obtain⟨q,hq,Y⟩:=Q ah ρ a w hR u U;refine Y.out E.none E.rest ?_;rcases hq with rfl|hq
    ·exact .inr (by simpa [Nq]using D)
    ·simp_all
   |succ j=>grind
inductive PM (w:World) (aE:bG):Pt->Value->Prop
 |v (p:Pt) (u:Value) (h:PV w w.heap.size aE (λ_=>[]) p u):PM w aE p u
 |f (g:Nat) (c:V) (cs:List V) (u:Value) (h:RF w w.heap.size aE (c::cs) u):PM w aE (false,.bool false::.int .i64 (g:Int)::c::cs) (.func (.func g) #[] #[u])
def amQ{g:Nat}{c:V}{cs ys:aa V}(hl:(V.bool false :: .int .i64 (g:Int) :: c :: cs).length=ys.length)(h:∀ (j:Nat) x z,(V.bool false :: .int .i64 (g:Int) :: c :: cs)[j]?=some x -> ys[j]?=some z -> Wk x z):∃ C eZ,ys = .bool false :: .int .i64 (g:Int) :: C :: eZ/\bW (c :: cs) (C :: eZ):=by
 match ys,hl,h with
 | a :: b :: C :: eZ,hl,h=>
  have D:=h 0 _ a rfl rfl;have E:=h 1 _ b rfl rfl;cases D;cases E;exact⟨C,eZ,rfl,by simpa using hl,λj x z I J=>h (j+2) x z (by simpa using I) (by simpa using J)⟩
def RF.rR{cs C:aa V}{u:Value}(h:RF w B ah cs u)(E:bW cs C)(J:∀ (j:Nat) z,C[j]?=some z->z.aF=true):RF w B ah C u:=by
 obtain⟨b,off,rfl,hb,hl,L⟩:=h
 refine⟨b,off,rfl,hb,hl,λj x D=>?_⟩
 have I:j<cs.length:=by rw[E.1];exact(dQ.1 D).1
 obtain⟨_,v,O,Q⟩:=L j _ (bO I);exact⟨J j x D,v,O,Q.wk (E.2 j _ x (bO I) D)⟩
def RF.gL{cs:aa V}{u:Value}(h:RF w B ah cs u)(D:∀ b,ah b=none -> aE b=none)(I:∀ b k,ah b=some k -> k≠[]/\(cJ k ns=false -> aE b=none)){B':Nat}:RF w B' aE (cs.map V.gL) u:=by
 obtain⟨b,off,rfl,hb,hl,J⟩:=h
 refine⟨b,off,rfl,hb,D b hl,λj x C=>?_⟩
 rw[dw]at C;cases E:cs[j]? with
 |none=>simp_all
 | some y=>
  rw[E]at C;injection C with C;subst C;obtain⟨L,v,O,Q⟩:=J j y E;exact⟨V.alX y,v,O,Q.out D I (.inl L)⟩
def amR{x:A}{k:Pt -> aj X}(h:oB σ ns x k=some r):∃ p,k p=some r /\ ∀ ah ρ a w aE,Rl w0 N ah ρ σ a w -> Bo ns ah aE -> ∀ u,RA w w0.heap.size ah ρ x u -> PM w aE p u:=by
 unfold oB at h;split at h
 ·rename_i y;obtain⟨Q,J,hl,L⟩:=UR (w0:=w0) (N:=N) _ _ h
  refine⟨_,J,λah ρ a w aE hR C u D=>.v _ _ ⟨#[u],rfl,by simp[hl],λj x E=>?_⟩⟩
  have I:j=0:=by
   grind
  subst I;exact⟨u,rfl,L ah ρ a w aE hR C 0 y x u rfl E D⟩
 ·rename_i ys;obtain⟨Q,J,hl,L⟩:=UR (w0:=w0) (N:=N) _ _ h
  refine⟨_,J,λah ρ a w aE hR C u D=>?_⟩
  obtain⟨us,rfl,O⟩:=D
  refine .v _ _ ⟨us,rfl,by rw[hl];exact O.1,λj x E=>?_⟩
  have I:j<ys.length:=by rw[<- hl];exact(dQ.1 E).1
  obtain⟨v,hv,hU⟩:=O.2 j _ (bO I);exact⟨v,hv,L ah ρ a w aE hR C j _ x v (bO I) E hU⟩
 ·rename_i f c cs
  refine⟨_,h,λah ρ a w aE hR C u D=>?_⟩
  obtain⟨pv,rfl,oC⟩:=D;exact .f f _ _ _ (oC.gL C.none C.rest)
 ·rename_i f T j;cases U:cu T ns with
  |true=>grind
  | false=>
   rw[U,aq]at h;split at h
   ·rename_i cs hm;split at h
    ·rename_i c Q uX;obtain⟨e,hp⟩:=MW _ _ uX
     refine⟨_,h,λah ρ a w aE hR C u D=>?_⟩
     obtain⟨us,rfl,mR,pG⟩:=D;obtain⟨b,off,dz,Y⟩:=pG 0 _ rfl;have Y:us[0]?=some (.pointer (some ⟨b,off+j,none⟩)):=Y;have aBY:us.size=1:=mR;have amS:us = #[.pointer (some ⟨b,off+j,none⟩)]:=by
      apply Array.ext';apply List.ext_getElem?;intro i;cases i with
      |zero=>grind
      |succ i=>grind
     subst amS;refine .f f _ _ _ ?_;cases hR.root T _ hm with
     | aB b' A9 cells e' _ M1 Z mj hh O hc=>
      rw[dz]at Z;injection Z with q1 q2;subst q1 q2
      refine⟨b,off+j,rfl,(gd.1 hh).1,(C.rest b _ mj).2 (by simpa [cJ]using U),λi x E=>?_⟩
      have hpx:=hp x (ga E);have hcd:(cs.drop j)[i]?=some (.v x):=by rw[e,dw,E];rfl
      rw[List.getElem?_drop]at hcd;obtain⟨k1,k2⟩:=hc _ _ hcd;refine⟨(by cases x<;>first|rfl|cases hpx),M1 (j+i),?_,k2.2.tL hpx⟩;rw[Nat.add_assoc,cell_of_row w b _ cells _ _ hh];exact k1
    ·cases h
   ·cases h
 ·cases h
def zm(σ:S):Mu->Prop
 |.aB r cs C=>σ.m r=some (.aB cs)/\rQ σ.m cs=some C/\cs.length<999
 |.sl q y=>σ.m q=some (.sl y)/\y.aF=false
def HC:aa Mu->aa In->Prop
 |[],[]=>True
 |.aB _ _ I::C,.aB xs::D=>(bW (I.map (·.1)) xs/\∀x∈xs,x.ki=true/\x.Nr=true)/\HC C D
 |.sl _ y::C,.sl E::D=>(Wk y E/\E.Nr=true)/\HC C D
 |_,_=>False
def D6(w:World)(B:Nat)(ah:bG)(ρ:Nat->Loc)(C:aa In):aa Ar->aa Value->Prop
 |[],[]=>True
 |x::xs,v::D=>RA w B ah ρ (UD C x) v/\D6 w B ah ρ C xs D
 |_,_=>False
def D6.get{D:aa In}:∀ (xs:aa Ar) (C:aa Value),D6 w B ah ρ D xs C -> C.length=xs.length /\ ∀ i,RA w B ah ρ ((wR D xs).t i) (C.toArray.getD i undef)
 |[],[],_=>⟨rfl,λi=>trivial⟩
 | x :: xs,v :: C,h=>by
  obtain⟨E,I⟩:=D6.get xs C h.2
  refine⟨by simp[E],λi=>?_⟩
  cases i with
  |zero=>exact h.1
  | succ i=>
   have:=I i;simp at this ⊢;exact this
def amT{t:TC}{g:Nat}{x:T t}(D:Nat.beq (g % 2) 0=true):∀ y∈enc t g x,y.ki=true/\y.Nr=true:=by
 intro y C;refine⟨TO t g x y C,?_⟩;have:=wu t g x y C;cases y with
 | sl I E J L=>
  have:E=g:=by simpa [V.gr]using this
  subst this;exact D
 |_=>rfl
def amU(σ:S):PK->A->aj Mu->Prop
 |.v _ _,_,none=>True
 |.p _ _ off,x,some (.aB r cs C)=>x = .aG r off/\zm σ (.aB r cs C)
 |.s _ _,x,some (.sl q y)=>x = .lf (.own [q])/\zm σ (.sl q y)
 |_,_,_=>False
def vj{p:PK}{x:A}{z:aj Mu}(h:vi σ p x=some z):amU σ p x z:=by
 cases p with
 | v b t=>
  injection h with h;subst h;trivial
 | p t g off=>
  cases x with
  | aG r j=>
   have h:(match (bif Nat.beq j off then σ.m r else none)with
    | some (.aB cs)=>(match rQ σ.m cs with
     |some E=>bif Nat.blt cs.length 999 then some _ else none
     |none=>none)
    |_=>none)=some z:=h
   cases C:Nat.beq j off with
   |false=>rw[C]at h;cases h
   | true=>
    obtain rfl:=ck C;rw[C,ak]at h;split at h
    ·rename_i cs I;split at h
     ·rename_i E J;cases hl:Nat.blt cs.length 999 with
      |false=>rw[hl]at h;cases h
      | true=>
       rw[hl]at h;injection h with h;subst h;exact⟨rfl,I,J,by have:=cI hl;omega⟩
     ·cases h
    ·cases h
  |_=>cases h
 | s t g=>
  have L:(∃ q,x = .lf (.own [q])):=by
   unfold vi at h;split at h
   next e=>cases e
   next e=>cases e
   ·simp[*]
   ·cases h
  obtain⟨q,rfl⟩:=L;have h:(match σ.m q with
   |some (.sl y)=>bif y.aF then none else some _
   |_=>none)=some z:=h
  split at h
  ·rename_i y O;cases D:y.aF with
   |true=>rw[D]at h;cases h
   | false=>
    rw[D]at h;injection h with h;subst h;exact⟨rfl,O,D⟩
  ·cases h
def Ns:∀ (ps:aa PK) (xs:aa Operand) (D:aa Mu),jz σ ps xs=some D -> ∀ J∈D,zm σ J
 |[],[],D,h=>by injection h with h;subst h;simp
 | p :: ps,x :: xs,D,h=>by
  unfold jz at h;split at h
  ·rename_i J E C I;injection h with h;subst h;have L:=Ns ps xs E I;have C:=vj C;intro z hz;rcases fQ.1 hz with rfl | hz
   ·cases p with
    |v=>exact C.elim
    | p=>
     cases z with
     |aB=>exact C.2
     |sl=>exact C.elim
    | s=>
     cases z with
     |aB=>exact C.elim
     |sl=>exact C.2
   ·simp_all
  next E C I=>injection h with h;subst h;exact Ns ps xs E I
  ·cases h
 |[],_::_,D,h=>by cases h
 |_::_,[],D,h=>by cases h
def HD:∀ {ps:aa PK} (i C:Nat) (x:kP ps),(kr ps i x).length=(kr ps C x).length
 |[],_,_,_=>rfl
 |.v _ _::ps,i,C,x=>by simp[kr,lY];rw[HD]
 |.p _ _ _::ps,i,C,x=>by simp only[kr,lY];rw[HD (i+1) (C+1)]
 |.s _ _::ps,i,C,x=>by simp only[kr,lY];rw[HD (i+1) (C+1)]
def Nt:∀ (ps:aa PK) (xs:aa Operand) (J:aa Mu) (k:kP ps -> aj X),jz σ ps xs=some J -> iD σ ns ps xs J k=some r -> ∃ x,k x=some r/\HC J (nQ ps x)/\(kr ps 0 x).length=xs.length /\
  ∀ah ρ a w aE ρ',Rl w0 N ah ρ σ a w -> Bo ns ah aE -> ∀(L:aa In) (i:Nat),(∀j z,(nQ ps x)[j]?=some z -> L[i+j]?=some z) -> (∀j O,J[j]?=some O -> ρ' (nF (i+j))=ρ O.root) -> D6 w w.heap.size aE ρ' L (kr ps i x) (xs.map a.eval)
 | [],[],J,k,C,h=>by
  injection C with C;subst C;exact⟨(),h,trivial,rfl,λ_ _ _ _ _ _ _ _ _ _ _ _=>trivial⟩
 | .v b t :: ps,x :: xs,J,k,C,h=>by
  have sG:jz σ ps xs=some J:=by
   unfold jz at C;split at C
   next O T D I=>exact(vj D).elim
   next T D I=>rw[I];exact C
   ·cases C
  unfold iD at h;obtain⟨p,I,hp⟩:=amR (w0:=w0) (N:=N) h;cases hb:p.1==b with
  |false=>rw[hb]at I;cases I
  | true=>
   rw[hb,ak]at I;have hb:p.1=b:=by simpa using hb
   subst hb;split at I
   ·rename_i y Q;obtain⟨ys,h3,h4,h5,h6⟩:=Nt ps xs J _ sG I
    refine⟨(y,ys),h3,h4,?_,λah ρ a w aE ρ' hR Y L i hi U=>⟨?_,h6 ah ρ a w aE ρ' hR Y L i hi U⟩⟩
    ·simp[kr,h5]
    ·have oC:=hp ah ρ a w aE hR Y _ (hR.aI x);have hk:=l6 t 0 p.2 y Q;generalize a.eval x=ux at oC ⊢;rcases oC with ⟨_,_,us,hu,hs,hr⟩ | ⟨g,c,cs,pv,oC⟩
     case f=>
      have he:∀(j:Nat) z,(enc t 0 y)[j]?=some z -> z.aF=true:=λj z E=>jM t 0 y (by omega) j z E
      obtain⟨c',eZ,e,hw⟩:=amQ hk.1 hk.2;rw[e]at he ⊢;exact⟨pv,rfl,oC.rR hw λj z E=>he (j+2) z (by simpa using E)⟩
     have pP:∀ (j:Nat) z,(enc t 0 y)[j]?=some z -> ∃ v,us[j]?=some v/\z.aF=true/\RV w w.heap.size aE [] z v:=by
      intro j z E;have hj:j<p.2.length:=by rw[hk.1];exact(dQ.1 E).1
      obtain⟨v,hv,hU⟩:=hr j _ (bO hj);exact⟨v,hv,jM t 0 y (by omega) j z E,hU.wk (hk.2 j _ z (bO hj) E)⟩
     have hlen:us.size=(enc t 0 y).length:=hs.trans hk.1;obtain⟨b,vs⟩:=p;cases b with
     | true=>
      show RA _ _ _ _ (.agg ((enc t 0 y).map .v)) _
      refine⟨us,hu,by rw[dh];exact hlen,λj z E=>?_⟩
      rw[dw]at E;cases DQ:(enc t 0 y)[j]? with
      |none=>rw[DQ]at E;cases E
      | some z'=>
       rw[DQ]at E;injection E with E;subst E;obtain⟨v,hv,g1,g2⟩:=pP j z' DQ;exact⟨v,hv,g1,g2⟩
     | false=>
      have hu:us = #[ux]:=hu;subst hu;show RA _ _ _ _ (UD L (.pt (false,enc t 0 y))) _
      match he:enc t 0 y,pP,hlen with
      | [z],pP,_=>
       obtain⟨v,hv,g1,g2⟩:=pP 0 z rfl;have:ux=v:=by simpa using hv
       rw[this];exact⟨g1,g2⟩
      |[],_,_=>trivial
      |_::_::_,_,hlen=>exact absurd hlen (by simp)
   ·cases I
 | .p t g off :: ps,x :: xs,J,k,C,h=>by
  unfold jz at C;split at C
  ·rename_i O T D I;injection C with C;subst C;have D:=vj D;cases O with
   |sl=>exact D.elim
   | aB r cs vs=>
    have D:aI σ x = .aG r off/\zm σ (.aB r cs vs):=D;unfold iD at h;split at h
    ·rename_i y Q;cases Z:Nat.beq (g % 2) 0 with
     |false=>rw[Z]at Q;cases Q
     | true=>
      rw[Z,ak]at Q;obtain⟨ys,h3,h4,h5,h6⟩:=Nt ps xs T _ I h
      refine⟨(y,ys),h3,⟨⟨l6 t g _ y Q,amT Z⟩,h4⟩,by simp[kr,HD 1 0,h5],λah ρ a w aE ρ' hR Y L i hi U=>⟨?_,?_⟩⟩
      ·have HE:=hi 0 _ rfl;rw[Nat.add_zero]at HE;have hx:=hR.aI x;rw[D.1]at hx;obtain⟨b,o,e1,e2⟩:=hx;show RA _ _ _ _ (match L[i]? with|some (.aB _)=>.aG (nF i) off|some (.sl _)=>.lf (.own [nF i])|none=>.undef) _;rw[HE];have mh:=U 0 _ rfl;rw[Nat.add_zero]at mh;exact⟨b,o,mh.trans e1,e2⟩
      ·refine h6 ah ρ a w aE ρ' hR Y L (i+1) (λj z E=>?_) (λj O nS=>?_)
       ·rw[show i+1+j=i+(j+1) by omega];exact hi _ z E
       ·rw[show i+1+j=i+(j+1) by omega];exact U _ O nS
    ·cases h
  next T D I=>exact(vj D).elim
  ·cases C
 | .s t g :: ps,x :: xs,J,k,C,h=>by
  unfold jz at C;split at C
  ·rename_i O T D I;injection C with C;subst C;have D:=vj D;cases O with
   |aB=>exact D.elim
   | sl q y0=>
    have D:aI σ x = .lf (.own [q])/\zm σ (.sl q y0):=D;unfold iD at h;split at h
    ·rename_i y Q;cases Z:Nat.beq (g % 2) 0 with
     |false=>rw[Z]at Q;cases Q
     | true=>
      rw[Z,ak]at Q;obtain⟨ys,h3,h4,h5,h6⟩:=Nt ps xs T _ I h
      refine⟨(y,ys),h3,⟨⟨V.eo Q,?_⟩,h4⟩,by simp[kr,HD 1 0,h5],λah ρ a w aE ρ' hR Y L i hi U=>⟨?_,?_⟩⟩
      ·show Nat.beq ((g+2) % 2) 0=true;simp[*]
      ·have HE:=hi 0 _ rfl;rw[Nat.add_zero]at HE;have hx:=hR.aI x;rw[D.1]at hx;show RA _ _ _ _ (match L[i]? with|some (.aB _)=>.aG (nF i) 0|some (.sl _)=>.lf (.own [nF i])|none=>.undef) _;rw[HE];have mh:=U 0 _ rfl;rw[Nat.add_zero]at mh;refine⟨hx.1,?_⟩;have I:=hx.2;simp only[cH]at I ⊢;rw[mh];exact I
      ·refine h6 ah ρ a w aE ρ' hR Y L (i+1) (λj z E=>?_) (λj O nS=>?_)
       ·rw[show i+1+j=i+(j+1) by omega];exact hi _ z E
       ·rw[show i+1+j=i+(j+1) by omega];exact U _ O nS
    ·cases h
  next T D I=>exact(vj D).elim
  ·cases C
 |[],_::_,J,k,C,h=>by cases C
 |_::_,[],J,k,C,h=>by cases C
end
def mW(c0:Nat):Nat->aa (V×aj Nat)->aa Nat
 |_,[]=>[]
 |n,(_,some q)::C=>q::mW c0 (n+1) C
 |n,(_,none)::C=>(c0+n)::mW c0 (n+1) C
def zn(c0:Nat):Nat->aa Mu->aa Nat
 |_,[]=>[]
 |pos,.aB r _ D::C=>r::(mW c0 (pos+1) D++zn c0 (pos+1+D.length) C)
 |pos,.sl q _::C=>q::zn c0 (pos+1) C
def vk:aa Nat->aa V->aa Nat
 |n::C,x::xs=>bif x.aF then vk C xs else n::vk C xs
 |_,_=>[]
def nT(c0:Nat):Nat->aa Mu->aa In->aa Nat
 |pos,.aB _ _ D::C,.aB xs::outs=>vk (mW c0 (pos+1) D) xs++nT c0 (pos+1+D.length) C outs
 |pos,.sl _ _::C,.sl _::outs=>nT c0 (pos+1) C outs
 |_,_,_=>[]
def pT(ns cn:aa Nat):aa Nat->aa Lf->aa V->aa Lf
 |n::C,l::D,x::xs=>(bif x.plain then .v x else bif x.aF then l.bH ns cn else .own [n])::pT ns cn C D xs
 |_,_,_=>[]
def tU:aa Nat->aa V->aa (Nat×aZ)
 |n::C,x::xs=>bif x.aF then tU C xs else (n,.sl x)::tU C xs
 |_,_=>[]
def lN(ns cn:aa Nat)(c0:Nat):Nat->aa Mu->aa In->aa (Nat×aZ)
 |pos,.aB r cs D::C,.aB xs::outs=>(r,.aB (pT ns cn (mW c0 (pos+1) D) cs xs))::(tU (mW c0 (pos+1) D) xs++lN ns cn c0 (pos+1+D.length) C outs)
 |pos,.sl q _::C,.sl y::outs=>bif y.ki then (q,.sl y)::lN ns cn c0 (pos+1) C outs else lN ns cn c0 (pos+1) C outs
 |_,_,_=>[]
def Nu:aa Nat->Bool
 |[]=>true
 |n::l=>!cu n l&&Nu l
def abc:In->Bool
 |.aB xs=>xs.all λx=>x.aF ||x.loc
 |.sl y=>y.loc
def iE:aj Tmp->Nat
 |some d=>1000000000100000+1000*d
 |none=>90000
def mX{X:Type}(N:Nat)(σ:S)(C:aj Tmp)(D:gp)(k:S->aj X):aj X:=
 match C with
 |none=>k σ
 | some d=>bif Nat.blt d N then (match D with
  | .one p=>(match sH (p.1,lK (1000000000100000+1000*d) p.2)with
   |some y=>k ((iU (1000000000100000+1000*d) σ p.2).set d y)
   |none=>none)
  |.cQ ps=>k ((lM (1000000000100000+1000*d) σ ps).set d (.cQ (oA (1000000000100000+1000*d) ps))))else none
def Bp(N:Nat)(C:aa Mu)(outs:aa In)(cn:aa Nat):Bool:=
 Nu cn&&(C.all λD=>!cu D.root cn)&&(cn.all λn=>Nat.blt n N ||Nat.ble 60000 n)&&outs.all abc
def zo{X:Type}(N:Nat)(σ:S)(C:aj Tmp)(D:aa Mu)(ns cn:aa Nat)(E:gp)(outs:aa In)(k:S->aj X):aj X:=
 bif Bp N D outs cn then mX N (σ.bH ns cn (lN ns cn (iE C) E.len D outs)) C E k else none
def mq{X:Type}(N:Nat)(σ:S)(D:aj Tmp)(c:nR)(args:aa Operand)(k:S->aj X):aj X:=
 match jz σ c.ps args with
 | some C=>bif once (kQ 0 C)&&Nat.ble C.length 40 then
   iD σ ((kQ 0 C).map (·.1)) c.ps args C λx=>(match c.F x with
    |some y=>zo N σ D C ((kQ 0 C).map (·.1)) (nT (iE D) (ff c.ro y.1).len C (jb (eO c.ps) y.2)) (ff c.ro y.1) (jb (eO c.ps) y.2) k
    |none=>none)else none
 |none=>none
section
variable {P:Program} {w w':World} {w0:Wd} {B N:Nat} {ah dg aE:bG} {ρ eH ρ':Nat->Loc} {σ:S} {a:Act} {X:Type} {d:Nat} {r:X} {ns cn:aa Nat} {o:Oper} {rs:aa Nat} {eC:aa (Nat×Nat)}
def abd{n:Nat}:∀ {l:aa (Nat×Nat)},cu n (l.map (·.1))=false -> l.lookup n=none
 |[],_=>rfl
 | p :: l,h=>by
  simp[List.map_cons,cu,o9]at h;rw[List.lookup_cons];have:(n==p.1)=false:=by
   cases hb:n==p.1 with
   |false=>rfl
   |true =>simp_all
  rw[this];exact abd h.2
def amV{b:Nat}{k:aa Nat}{n m:Nat}(h:ah b=some k)(C:k.getLast?=some n)(D:eC.lookup n=some m):eN ah eC id b=some (k.dropLast++[m]):=by
 simp[eN,h,C,D]
def amW(C:∀ b k,ah b=some k -> k≠[]):Bo (eC.map (·.1)) ah (eN ah eC id):=by
 refine⟨λb h=>wQ h,λb k h=>⟨C b k h,λhl=>?_⟩⟩
 simp[eN,h];cases D:k.getLast? with
 |none=>rfl
 | some n=>
  simp[cJ,D]at hl;simp[abd hl]
def US{m:Nat -> aj aZ}:∀ (cs:aa Lf) (C:aa (V×aj Nat)),rQ m cs=some C -> C.length=cs.length /\ ∀ (j:Nat) l,cs[j]?=some l -> ∃ v,C[j]?=some v/\vh m l=some v
 |[],C,h=>by injection h with h;subst h;exact⟨rfl,λj l hl=>by simp at hl⟩
 | c :: cs,C,h=>by
  unfold rQ at h;split at h
  ·rename_i v D I E;injection h with h;subst h;obtain⟨J,L⟩:=US cs D E
   grind
  ·cases h
def amX{l:Lf}{v:V}{E:aj Nat}(h:vh σ.m l=some (v,E))(hR:Rl w0 N ah ρ σ a w)(D:Bo ns ah aE){u:Value}(I:dy w w0.heap.size ah ρ l u):
  (E=none /\ ∀B' J,RV w B' aE J v u) \/ (∃q,E=some q/\v.aF=false/\RV w w0.heap.size ah [q] v u):=by
 unfold vh at h;split at h
 ·simp at h;obtain⟨rfl,rfl⟩:=h;exact .inl ⟨rfl,λB' J=>I.2.out D.none D.rest (.inl I.1)⟩
 ·rename_i q;split at h
  ·rename_i y Q;have L:=hR.root q _ Q;generalize C:aZ.sl y=x at L;cases L with
   |aB=>cases C
   |mp=>cases C
   |gh=>cases C
   | sl T y' U Y=>
    injection C with C;subst C;have Z:T=u:=by
     have h2:=I.2;simp only[cH,U]at h2;simp_all
    subst Z;cases O:y.aF with
    | true=>
     rw[O,ak]at h;obtain⟨rfl,rfl⟩:=h;exact .inl ⟨rfl,λB' J=>Y.out D.none D.rest (.inl O)⟩
    |false =>grind
  ·cases h
 ·cases h
def abe{i:Nat}{v:V}{q:Nat}:∀ (D:aa (V×aj Nat)) (C j:Nat),D[j]?=some (v,some q) -> (q,60000+1000*i+(C+j))∈D5 i C D
 |[],C,j,h=>by simp at h
 | (I,E) :: D,C,j,h=>by
  cases j with
  | zero=>
   obtain⟨rfl,rfl⟩:=h;exact .head _
  | succ j=>
   have:=abe (i:=i) D (C+1) j (by simpa using h);rw[show C+1+j=C+(j+1) by omega]at this;cases E with
   |none=>exact this
   |some J=>exact .tail _ this
def UT{i:Nat}:∀ (cs:aa V) (C:Nat),(zj i C cs).length=cs.length
 |[],_=>rfl
 |c::cs,C=>by simp[zj,UT cs]
def RV.mQ{q:aa Nat}{x:V}{u:Value}(h:RV w B ah q x u)(C:x.plain=false)(D:x.ki=true):mQ u=true:=by
 cases h<;>first|rfl|cases C|cases D
def Wk.UU{x y:V}(h:Wk x y)(C:x.aF=false):y.aF=false:=by
 cases h with
 |same=>exact C
 |nil=>cases C
 |q=>exact C
 |gr t o D E l I J=>simp[V.aF];omega
def UW(hR:Rl w0 N ah ρ σ a w)(hS:Bo ns ah (eN ah eC id)):∀ (I:aa Mu) (L:aa In) (i:Nat),(∀ p∈kQ i I,eC.lookup p.1=some p.2) -> (∀ j E,I[j]?=some E -> rs[i+j]?=some E.root) -> (∀ E∈I,zm σ E) -> HC I L -> i+I.length <= 40 ->
  pR w w.heap.size (eN ah eC id) (wT w ρ rs) i L
 |[],[],_,_,_,_,_,_=>trivial
 |[],_::_,_,_,_,_,h,_=>h.elim
 |.aB _ _ _::_,[],_,_,_,_,h,_=>h.elim
 |.sl _ _::_,[],_,_,_,_,h,_=>h.elim
 |.aB _ _ _::_,.sl _::_,_,_,_,_,h,_=>h.elim
 |.sl _ _::_,.aB _::_,_,_,_,_,h,_=>h.elim
 | .aB r cs vs :: I,.aB xs :: L,i,O,U,Y,hrel,hi=>by
  obtain⟨hm,hg,hlen⟩:=Y _ (.head _);obtain⟨⟨hw,hx⟩,Bq⟩:=hrel;obtain⟨g1,g2⟩:=US cs vs hg;have Q:=U 0 _ rfl;rw[Nat.add_zero]at Q;simp only[lY]at hi;have rC:xs.length=cs.length:=by rw[<- hw.1,dh,g1]
  have Z:=hR.root r _ hm;generalize C:aZ.aB cs=z at Z;cases Z with
  |sl=>cases C
  |mp=>cases C
  |gh=>cases C
  | aB b off cells e eZ us dz hl hh hs hc=>
   injection C with C;subst C;have pP:∀ (j:Nat) x,xs[j]?=some x -> cells[off+j]?=some (us j)/\RV w w.heap.size (eN ah eC id) [nC i j x] x (us j)/\(x.plain=false -> wT w ρ rs (nC i j x) = .dI (us j)):=by
    intro j x J;have wC:j<cs.length:=by rw[<- rC];exact(dQ.1 J).1
    obtain⟨v,hv,HF⟩:=g2 j _ (bO wC);obtain⟨c1,T⟩:=hc j _ (bO wC);obtain⟨v,qo⟩:=v;have UX:Wk v x:=hw.2 j v x (by rw[dw,hv];rfl) J;obtain⟨UY,MX⟩:=hx x (ga J)
    refine⟨c1,?_,λD=>?_⟩
    ·rcases amX HF hR hS T with ⟨rfl,h1⟩ | ⟨q,rfl,hf,h1⟩
     ·exact(h1 _ _).wk UX
     ·have UL:=UX.UU hf;have hq:=O _ (.tail _ (List.mem_append_left _ (abe vs 0 j hv)));rw[fo]at hq;have h2:=(RV.eN (nm:=id) (p:=[]) h1 hq).wk UX;have e1:nC i j x=60000+1000*i+j:=by simp[nC,UL]
      rw[e1];exact h2.reB MX
    ·exact amO Q (by omega) (by omega) dz (by rw[cell_of_row w b _ cells _ _ hh];exact c1)
   refine⟨.aB b off cells e _ us ((HB Q (by omega)).trans dz) ?_ hh (by rw[UT,rC];exact hs) (λj z C=>?_),λj x J D=>?_,UW hR hS I L (i+1) (λp D=>O p (.tail _ (List.mem_append_right _ D))) (λj E Br=>?_) (λE h=>Y E (.tail _ h)) Bq (by omega)⟩
   ·exact amV hl rfl (O _ (.head _))
   ·have J:j<xs.length:=by rw[<- UT (i:=i) xs 0];exact(dQ.1 C).1
    have D7:=UO (i:=i) xs 0 j _ (bO J);rw[C]at D7;injection D7 with D7;subst D7;rw[fo];obtain⟨c1,T,c3⟩:=pP j _ (bO J);refine⟨c1,?_⟩;cases D:(xs[j]).plain with
    | true=>
     have e1:zi i j xs[j] = .v xs[j]:=by simp[zi,D]
     rw[e1];exact⟨V.GZ D,T.tL D⟩
    | false=>
     have e1:zi i j xs[j] = .own [nC i j xs[j]]:=by simp[zi,D]
     rw[e1];exact⟨T.mQ D (hx _ (cO _)).1,by simp only[cH,c3 D]⟩
   ·obtain⟨c1,T,c3⟩:=pP j x J;exact .sl _ x (c3 D) T
   ·have:=U (j+1) E (by simpa using Br);rw[show i+(j+1)=i+1+j by omega]at this;exact this
 | .sl q y :: I,.sl y' :: L,i,O,U,Y,hrel,hi=>by
  obtain⟨hm,hf⟩:=Y _ (.head _);obtain⟨⟨hw,hx⟩,Bq⟩:=hrel;have Q:=U 0 _ rfl;rw[Nat.add_zero]at Q;simp only[lY]at hi;have Z:=hR.root q _ hm;generalize C:aZ.sl y=z at Z;cases Z with
  |aB=>cases C
  |mp=>cases C
  |gh=>cases C
  | sl v y0 dz hr=>
   injection C with C;subst C
   refine⟨.sl v y' ((HB Q (by omega)).trans dz) ?_,UW hR hS I L (i+1) (λp D=>O p (.tail _ D)) (λj E Br=>?_) (λE h=>Y E (.tail _ h)) Bq (by omega)⟩
   ·exact((RV.eN (p:=[]) hr (O _ (.head _))).wk hw).reB hx
   ·have:=U (j+1) E (by simpa using Br);rw[show i+(j+1)=i+1+j by omega]at this;exact this
end
def UZ:Loc->Nat×Nat
 |.aB b off=>(b,off)
 |.dI _=>(0,0)
 |.bX _=>(0,0)
def zp(w:World)(b off:Nat):Nat->aa Nat->aa V->aa (Nat×Value)
 |j,n::C,x::xs=>bif x.aF then zp w b off (j+1) C xs else (n,(w.cell? ⟨b,off+j,none⟩).getD undef)::zp w b off (j+1) C xs
 |_,_,_=>[]
def sO(w:World)(ρ:Nat->Loc)(c0:Nat):Nat->aa Mu->aa In->aa (Nat×Value)
 |pos,.aB r _ D::C,.aB xs::outs=>zp w (UZ (ρ r)).1 (UZ (ρ r)).2 0 (mW c0 (pos+1) D) xs++sO w ρ c0 (pos+1+D.length) C outs
 |pos,.sl _ _::C,.sl _::outs=>sO w ρ c0 (pos+1) C outs
 |_,_,_=>[]
def abf(l:aa (Nat×Value))(ρ:Nat->Loc):Nat->Loc:=λn=>match l.lookup n with
 |some v=>.dI v
 |none=>ρ n
def U0{w:World}{b off:Nat}:∀ (C:aa Nat) (xs:aa V) (j:Nat),(zp w b off j C xs).map (·.1)=vk C xs
 |[],[],_=>rfl
 |[],_::_,_=>rfl
 |_::_,[],_=>rfl
 | n :: C,x :: xs,j=>by
  simp[zp,vk];cases x.aF with
  |true=>exact U0 C xs _
  |false=>simp;rw[U0]
def Nv{w:World}{ρ:Nat -> Loc}{c0:Nat}:∀ (C:aa Mu) (outs:aa In) (D:Nat),(sO w ρ c0 D C outs).map (·.1)=nT c0 D C outs
 | .aB r _ E :: C,.aB xs :: outs,D=>by
  simp[sO,nT,lZ];rw[U0,Nv]
 | .sl _ _ :: C,.sl _ :: outs,D=>by
  simp only[sO,nT];exact Nv C outs _
 |[],_,_=>by simp[sO,nT]
 |.aB _ _ _::_,[],_=>rfl
 |.sl _ _::_,[],_=>rfl
 |.aB _ _ _::_,.sl _::_,_=>rfl
 |.sl _ _::_,.aB _::_,_=>rfl
def abg{n:Nat}:∀ {l:aa (Nat×Value)},cu n (l.map (·.1))=false -> l.lookup n=none
 |[],_=>rfl
 | p :: l,h=>by
  simp[List.map_cons,cu,o9]at h;rw[List.lookup_cons];cases hb:n==p.1 with
  |false=>exact abg h.2
  |true =>simp_all
def abh:∀ {l:aa (Nat×Value)},Nu (l.map (·.1))=true -> ∀ p∈l,l.lookup p.1=some p.2
 |[],_,p,hp=>by cases hp
 | q :: l,h,p,hp=>by
  simp[List.map_cons,Nu,aM,gy]at h;rw[List.lookup_cons];rcases fQ.1 hp with rfl|hp
  ·simp
  ·cases hb:p.1==q.1 with
   |false=>exact abh h.2 p hp
   | true=>
    have e:p.1=q.1:=by simpa using hb
    exact absurd (List.mem_map_of_mem (f:=(·.1)) hp) (by rw[e];exact aba h.1)
def HG{c0:Nat}:∀ (C:aa (V×aj Nat)) (n:Nat),(mW c0 n C).length=C.length
 |[],_=>rfl
 |(_,some _)::C,n=>by simp[mW,HG]
 |(_,none)::C,n=>by simp[mW,HG C]
def abi{ns cn:aa Nat}:∀ (D:aa Nat) (C:aa Lf) (xs:aa V),D.length=C.length -> xs.length=C.length -> (pT ns cn D C xs).length=C.length /\
  ∀(j:Nat) z,(pT ns cn D C xs)[j]?=some z -> ∃n l x,D[j]?=some n/\C[j]?=some l/\xs[j]?=some x/\z=(bif x.plain then .v x else bif x.aF then l.bH ns cn else .own [n])
 |[],[],[],_,_=>⟨rfl,λj z E=>by simp[pT]at E⟩
 | n :: D,l :: C,x :: xs,I,J=>by
  obtain⟨L,O⟩:=abi (ns:=ns) (cn:=cn) D C xs (by simpa using I) (by simpa using J)
  refine⟨by simp[pT,L],λj z E=>?_⟩
  cases j with
  |zero=>simp[pT,List.getElem?_cons_zero,iy]at E;exact⟨n,l,x,rfl,rfl,rfl,E.symm⟩
  |succ j=>exact O j z (by simpa [pT]using E)
def abj:∀ (C:aa Nat) (xs:aa V),∀ p∈tU C xs,∃ (j:Nat) (x:V),C[j]?=some p.1/\xs[j]?=some x/\x.aF=false/\p.2 = .sl x
 |[],[],p,hp=>by cases hp
 |[],_::_,p,hp=>by cases hp
 | n :: C,x :: xs,p,hp=>by
  simp[tU]at hp;have rest:p∈tU C xs -> ∃ (j:Nat) (y:V),(n :: C)[j]?=some p.1/\(x :: xs)[j]?=some y/\y.aF=false/\p.2 = .sl y:=λhp=>by
   obtain⟨j,y,E,I,J,L⟩:=abj C xs p hp;exact⟨j+1,y,by simpa using E,by simpa using I,J,L⟩
  cases D:x.aF with
  |true=>grind
  | false=>
   rw[D]at hp;rcases fQ.1 hp with rfl|hp
   ·exact⟨0,x,rfl,rfl,D,rfl⟩
   ·grind
def abk{w:World}{b off n:Nat}{x:V}:∀ (D:aa Nat) (xs:aa V) (C j:Nat),D[j]?=some n -> xs[j]?=some x -> x.aF=false -> (n,(w.cell? ⟨b,off+(C+j),none⟩).getD undef)∈zp w b off C D xs
 |[],_,_,j,h,_,_=>by simp at h
 | m :: D,y :: xs,C,j,E,I,J=>by
  cases j with
  | zero=>
   simp at E I;subst E I;simp only[zp,J];simp_all
  | succ j=>
   have:=abk (w:=w) (b:=b) (off:=off) D xs (C+1) j (by simpa using E) (by simpa using I) J;rw[show C+1+j=C+(j+1) by omega]at this;simp[zp]
   grind
section
variable {P:Program} {w w':World} {w0:Wd} {B N:Nat} {ah dg aE:bG} {ρ eH ρ':Nat->Loc} {σ:S} {a:Act} {X:Type} {d:Nat} {r:X} {ns cn:aa Nat} {o:Oper} {rs:aa Nat} {eC:aa (Nat×Nat)} {nm Nw:Nat->Nat} {c0:Nat}
def RV.Bt{q:aa Nat}{x:V}{v:Value}(h:RV w B ah q x v){B':Nat}(hB:B' <= B)(hl:∀ b,B <= b -> aE b=ah b)(Q:∀ b k,ah b=some k -> aE b=some k)(J:x.loc=true):RV w B' aE q x v:=by
 induction h with
 |int=>exact .int _ _ _
 |bool=>exact .bool _ _
 |str=>exact .str _ _
 |nil=>exact .nil _
 |cS=>exact .cS _ _ _
 |cW=>exact .cW _ _ _ _ _ (by first|assumption|omega)
 |de=>exact .de _ _ _ _ _ (by first|assumption|omega)
 | aF q t o T l b off cap u L D hb U Y E Z I=>
  have wN:o=1:=by
   match o,L,J with
   |1,_,_=>rfl
  subst wN;have O:=U rfl
  refine .aF _ _ _ _ _ _ _ _ u L ((hl b O).trans D) hb (λ_=>Nat.le_trans hB O) Y E (λi h j x C=>I i h j x C ?_)
  have:=wu t 1 l[i] x (ga C);cases x with
  | sl t' o' q' l'=>
   have:o'=1:=by simpa [V.gr]using this
   subst this;rfl
  |_=>rfl
 | own q t o T l b cap cs u D hh hs hn hm E Z I=>
  exact .own _ _ _ _ _ _ _ cs u (Q b q D) hh hs hn hm E (λi h j x C=>I i h j x C (aa3 J l[i] x (ga C)))
def jO.Bt{nm:Nat -> Nat}:∀ (ps:aa Pt) (off:Nat) (C:aa Value) {B':Nat},jO w B ah nm off ps C -> B' <= B -> (∀ b,B <= b -> aE b=ah b) -> (∀ b k,ah b=some k -> aE b=some k) -> (∀ n,off <= n -> n<off+(ps.map λp=>p.2.length).sum -> nm n=Nw n) -> jO w B' aE Nw off ps C
 |[],_,[],_,h,_,_,_,_=>h
 | p :: ps,off,v :: C,B',h,hB,hl,I,D=>by
  obtain⟨⟨J,us,O,Q,T⟩,U⟩:=h;simp only[List.map_cons,List.sum_cons]at D
  refine⟨⟨J,us,O,Q,λj x E=>?_⟩,jO.Bt ps _ C U hB hl I (λn h1 h2=>D n (by omega) (by omega))⟩
  obtain⟨L,Y,Z⟩:=T j x E;have hj:j<p.2.length:=(dQ.1 E).1;refine⟨L,Y,?_⟩;show RV w B' aE [Nw (off+j)] x L;rw[<- D (off+j) (by omega) (by omega)];exact Z.Bt hB hl I (cE.1 J x (ga E))
def U1(hR:Rl w0 N ah ρ σ a w)(hv:rP w w' ah dg ρ eH ns cn)(mj:∀ b k,aE b=some k -> dg b=some k)(nK:∀ b,w.heap.size <= b -> dg b=aE b)(hB:w0.heap.size <= w.heap.size):
  ∀(E:aa Mu) (ins outs:aa In) (i C:Nat),(∀j D,E[j]?=some D -> rs[i+j]?=some D.root) -> (∀D∈E,zm σ D) -> HC E ins -> i+E.length <= 40 -> Hy w w' aE (wT w ρ rs) nm i C ins outs ->
  (∀k n,(zn c0 C E)[k]?=some n -> nm (C+k)=n) -> (∀p∈sO w' ρ c0 C E outs,eH p.1 = .dI p.2) -> (∀D∈E,cu D.root cn=false) -> outs.all abc=true -> ∀p∈lN ns cn c0 C E outs,eM w' w0.heap.size dg eH p.1 p.2
 |[],[],[],_,_,_,_,_,_,_,_,_,_,_,p,hp=>by simp[lN]at hp
 |[],[],_::_,_,_,_,_,_,_,h,_,_,_,_,_,_=>h.elim
 |[],_::_,_,_,_,_,_,h,_,_,_,_,_,_,_,_=>h.elim
 |.aB _ _ _::_,[],_,_,_,_,_,h,_,_,_,_,_,_,_,_=>h.elim
 |.sl _ _::_,[],_,_,_,_,_,h,_,_,_,_,_,_,_,_=>h.elim
 |.aB _ _ _::_,.sl _::_,_,_,_,_,_,h,_,_,_,_,_,_,_,_=>h.elim
 |.sl _ _::_,.aB _::_,_,_,_,_,_,h,_,_,_,_,_,_,_,_=>h.elim
 |.aB _ _ _::_,.aB _::_,[],_,_,_,_,_,_,h,_,_,_,_,_,_=>h.elim
 |.sl _ _::_,.sl _::_,[],_,_,_,_,_,_,h,_,_,_,_,_,_=>h.elim
 |.aB _ _ _::_,.aB _::_,.sl _::_,_,_,_,_,_,_,h,_,_,_,_,_,_=>h.elim
 |.sl _ _::_,.sl _::_,.aB _::_,_,_,_,_,_,_,h,_,_,_,_,_,_=>h.elim
 | .aB r cs I :: E,.aB xs0 :: ins,.aB xs :: outs,i,C,nP,nS,hrel,hi,hO,qG,Bu,pQ,Q,p,hp=>by
  obtain⟨hm,hg,hlen⟩:=nS _ (.head _);obtain⟨⟨hw,hx⟩,Bq⟩:=hrel;obtain⟨g1,g2⟩:=US cs I hg;have ow:=nP 0 _ rfl;rw[Nat.add_zero]at ow;simp only[lY]at hi;have U2:xs0.length=cs.length:=by rw[<- hw.1,dh,g1]
  obtain⟨⟨b,off,cells,wS,e,e',T,h2,h3,h4,h5,h6,h7⟩,U3⟩:=hO;have gP:=hR.root r _ hm;generalize U:aZ.aB cs=z at gP;cases gP with
  |sl=>cases U
  |mp=>cases U
  |gh=>cases U
  | aB b0 O abl e0 eZ us dz hl hh hs hc=>
   injection U with U;subst U;rw[HB ow (by omega)]at T;have T:ρ r = .aB b off:=T;rw[dz]at T;injection T with e1 e2;subst e1 e2;have amY:abl=cells:=by
    rw[hh]at h2;injection h2 with h2;injection h2
   subst amY;have mh:=pQ _ (.head _);have D8:eH r = .aB b0 O:=(hv.eG r mh).trans dz;have tO:nm C=r:=by have:=qG 0 r rfl;rwa [Nat.add_zero]at this
   have amZ:∀ (j:Nat) n,(mW c0 (C+1) I)[j]?=some n -> nm (C+1+j)=n:=by
    intro j n Y;have hj:j<(mW c0 (C+1) I).length:=(dQ.1 Y).1;have:=qG (j+1) n (by simp only[zn,List.getElem?_cons_succ];rw[List.getElem?_append_left hj];exact Y);rw[show C+1+j=C+(j+1) by omega];exact this
   have pP:∀ (j:Nat) x,xs[j]?=some x -> ∃ u,wS[O+j]?=some u/\w'.cell? ⟨b0,O+j,none⟩=some u/\((x.plain=true /\ ∀ (w:World) (B:Nat) (ah:bG) (q:aa Nat),RV w B ah q x u) \/ (x.plain=false/\x.aF=true/\abl[O+j]?=some u) \/ (x.aF=false/\RV w' w.heap.size aE [nm (C+1+j)] x u)):=by
    intro j x hj;obtain⟨u,Z,hd⟩:=h7 j x hj;exact⟨u,Z,by rw[cell_of_row w' b0 _ wS _ _ h3];exact Z,hd⟩
   have yW:∀ (j:Nat) n x u,(mW c0 (C+1) I)[j]?=some n -> xs[j]?=some x -> x.aF=false -> w'.cell? ⟨b0,O+j,none⟩=some u -> eH n = .dI u:=by
    intro j n x u Y hxj hf Z;have zh:=abk (w:=w') (b:=b0) (off:=O) _ xs 0 j Y hxj hf;rw[fo,Z]at zh;exact Bu (n,u) (by simp only[sO,dz,UZ];exact List.mem_append_left _ zh)
   simp only[lN]at hp;rcases fQ.1 hp with rfl|hp
   ·obtain⟨k1,k2⟩:=abi (ns:=ns) (cn:=cn) (mW c0 (C+1) I) cs xs (by rw[HG,g1]) (by rw[h6,U2])
    refine .aB b0 O wS e' _ (λj=>wS.getD (O+j) undef) D8 (mj _ _ (by rw[h4,tO])) h3 (by show O+(pT _ _ _ _ _).length <= _;rw[k1,<- U2,<- h6];exact h5) (λj z U=>?_)
    obtain⟨n,l,x,n1,n2,n3,rfl⟩:=k2 j z U;obtain⟨u,Z,U4,hd⟩:=pP j x n3;have eu:wS.getD (O+j) undef=u:=by rw[iu,Z];rfl
    rw[eu];refine⟨Z,?_⟩;rcases hd with ⟨J,L⟩|⟨J,L,d3⟩|⟨J,L⟩
    ·rw[J,ak];exact⟨V.GZ J,L _ _ _ _⟩
    ·rw[J,L,aq,ak];obtain⟨c1,c2⟩:=hc j l n2;rw[c1]at d3;injection d3 with d3;rw[<- d3];exact c2.jo hv
    ·have zg:x.plain=false:=by
      cases zg:x.plain with
      |false=>rfl
      |true=>rw[V.GZ zg]at J;cases J
     rw[zg,J,aq,aq];exact⟨L.TP J,by simp only[cH,yW j n x u n1 n3 J U4]⟩
   ·rcases List.mem_append.1 hp with hp | hp
    ·obtain⟨j,x,n1,n2,n3,n4⟩:=abj _ _ p hp;obtain⟨u,Z,U4,hd⟩:=pP j x n2;rw[n4];refine .sl u x (yW j p.1 x u n1 n2 n3 U4) ?_;rcases hd with ⟨J,L⟩ | ⟨J,L,d3⟩ | ⟨J,L⟩
     ·simp[*]
     ·rw[n3]at L;cases L
     ·rw[amZ j _ n1]at L;refine L.Bt hB nK mj ?_;rw[List.all_cons,aM]at Q;have:=cE.1 Q.1 x (ga n2)
      rwa [n3,Bool.false_or]at this
    ·rw[List.all_cons,aM]at Q
     refine U1 hR hv mj nK hB E ins outs (i+1) (C+1+I.length) (λj D Br=>?_) (λD h=>nS D (.tail _ h)) Bq (by omega) ?_ (λk n Y=>?_) (λp hp=>Bu p ?_) (λD h=>pQ D (.tail _ h)) Q.2 p hp
     ·have:=nP (j+1) D (by simpa using Br);rw[show i+(j+1)=i+1+j by omega]at this;exact this
     ·rw[g1,<- U2];exact U3
     ·have:=qG (1+I.length+k) n (by
       rw[show 1+I.length+k=(I.length+k)+1 by omega];simp only[zn,List.getElem?_cons_succ];rw[List.getElem?_append_right (by rw[HG];omega),HG];rw[show I.length+k-I.length=k by omega];exact Y)
      rw[show C+1+I.length+k=C+(1+I.length+k) by omega];exact this
     ·simp only[sO];exact List.mem_append_right _ hp
 | .sl q y0 :: E,.sl y1 :: ins,.sl y :: outs,i,C,nP,nS,hrel,hi,hO,qG,Bu,pQ,Q,p,hp=>by
  obtain⟨hm,hf⟩:=nS _ (.head _);obtain⟨_,Bq⟩:=hrel;have ow:=nP 0 _ rfl;rw[Nat.add_zero]at ow;simp only[lY]at hi;obtain⟨hO1,U3⟩:=hO;rw[List.all_cons,aM]at Q;have tO:nm C=q:=by have:=qG 0 q rfl;rwa [Nat.add_zero]at this
  have hp:(p=(q,.sl y)/\y.ki=true) \/ p∈lN ns cn c0 (C+1) E outs:=by
   simp only[lN]at hp;cases hy:y.ki with
   |false=>rw[hy]at hp;exact .inr hp
   | true=>
    rw[hy]at hp;rcases fQ.1 hp with h|h
    ·grind
    ·simp[*]
  rcases hp with ⟨rfl,hy⟩|hp
  ·obtain⟨v,T,h2⟩:=hO1.resolve_left (by rintro rfl;cases hy);rw[HB ow (by omega)]at T;rw[tO]at h2;exact .sl v y ((hv.eG q (pQ _ (.head _))).trans T) (h2.Bt hB nK mj Q.1)
  ·refine U1 hR hv mj nK hB E ins outs (i+1) (C+1) (λj D Br=>?_) (λD h=>nS D (.tail _ h)) Bq (by omega) U3 (λk n Y=>?_) (λp hp=>Bu p hp) (λD h=>pQ D (.tail _ h)) Q.2 p hp
   ·have:=nP (j+1) D (by simpa using Br);rw[show i+(j+1)=i+1+j by omega]at this;exact this
   ·have:=qG (k+1) n (by simpa [zn]using Y);rw[show C+1+k=C+(k+1) by omega];exact this
end
end Go.Proofs.YtglnbhiaknohlaaGreat
