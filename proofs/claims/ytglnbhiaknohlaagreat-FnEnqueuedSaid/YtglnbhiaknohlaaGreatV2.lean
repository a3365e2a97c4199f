/-
  Running the program over pure contents, and that it follows (part 2). Nothing here is a claim.
-/
import Derived.Laws.StructEq
import Derived.Test.YtglnbhiaknohlaaGreatV1
set_option linter.unusedSimpArgs false
namespace Go.Proofs.YtglnbhiaknohlaaGreat
open Go.RowKit
set_option linter.unusedVariables false
section
variable {P:Program} {w w':World} {w0:Wd} {B N:Nat} {ah aD:bA} {ρ ρ':Nat->Loc} {σ:S} {a:Act} {X:Type} {d:Nat} {r:X}
theorem RV.under{k:aa Nat}{x:V}{v:Value}{n:Nat}(h:RV w B ah k x v)(hk:1<k.length\/x.aA=true)(U:w.heap.size<=w'.heap.size)(hb:∀ b,b<w.heap.size->ah b≠some [n]->w'.heap[b]?=w.heap[b]?)(hl:∀ b,b<w.heap.size->aD b=ah b):RV w' B aD k x v:=by
 induction h with
 |int=>exact .int _ _ _
 |bool=>exact .bool _ _
 |str=>exact .str _ _
 |nil=>exact .nil _
 |cG=>exact .cG _ _ _
 |cL=>exact .cL _ _ _ _ _ (by first|assumption|omega)
 |cV=>exact .cV _ _ _ _ _ (by first|assumption|omega)
 | aA q t o Y l b off cap u O E C Z mP I hr J=>
  have L:ah b≠some [n]:=by rw[E];simp
  exact .aA _ _ _ _ _ _ _ _ u O ((hl b C).trans E) (jD C U) Z mP (λi h j x D=>(jZ (a:=⟨b,_,none⟩) (hb b C L)).trans (I i h j x D)) (λi h j x D=>J i h j x D (.inr (jr t o l[i] O j x D)))
 | own q t o Y l b cap cs u E Q hs hn hm I hr J=>
  have C:b<w.heap.size:=(fl.1 Q).1;have T:1<q.length:=by
   rcases hk with hk|hk
   ·exact hk
   ·simp[V.aA]at hk;omega
  have L:ah b≠some [n]:=by
   rw[E];intro e;injection e with e;rw[e]at T;simp at T
  exact .own _ _ _ _ _ _ _ cs u ((hl b C).trans E) ((hb b C L).trans Q) hs hn hm I (λi h j x D=>J i h j x D (.inl (by simp)))
def r7(w:World)(B:Nat)(ah:bA)(n C:Nat)(t:TC)(o:Nat)(l:aa (T t))(D:aa Value):Prop:=
 ∀i (hi:i<l.length) j x,(enc t o l[i])[j]?=some x->∃v,D[i*aC t+j]?=some v/\RV w B ah (j::(C+i)::aC t::[n]) x v
theorem RV.aib{n:Nat}{t:TC}{o:Nat}{D:Bool}{l:aa (T t)}{u:Value}(h:RV w B ah [n] (.sl t (o+2) D l) u){B':Nat}(hB:∀ b,ah b=some [n]->B'<=b):
  ∃xs,w.ownsRow B' (tid t) (aC t) u l.length xs/\(∀b,u.ownBlock=some b->ah b=some [n])/\(D=true->u.ownBlock≠none)/\r7 w B ah n 0 t o l xs:=by
 cases h with
 |cL=>omega
 |cV=>omega
 |cG=>exact⟨[],⟨by simp,.inl ⟨rfl,rfl⟩⟩,by simp[Value.ownBlock],by simp,λi hi=>by simp at hi⟩
 |aA _ _ _ _ _ _ _ _ _ ho=>omega
 | own _ _ _ _ _ b cap cs us hl J E I L O Q=>
  refine⟨cs.toList.take (l.length*aC t),⟨?_,.inr ⟨b,cap,cs,rfl,hB b hl,J,I,L.1,E,rfl⟩⟩,λU Y=>?_,λ_=>by simp[Value.ownBlock],λi hi j x C=>?_⟩
  ·have Z:cs.toList.length=cap*aC t:=by rw[<-E];simp
   rw[fR,Z];have:=gS (aC t) I;omega
  ·have:b=U:=by simpa [Value.ownBlock]using Y
   subst this;exact hl
  ·have hj:j<aC t:=by have:=(c7.1 C).1;rwa [jn]at this
   have dn:i*aC t+j<l.length*aC t:=by
    have:(i+1)*aC t<=l.length*aC t:=gS _ hi;rw[fQ]at this;omega
   refine⟨us i j,?_,by rw[eN];exact Q i hi j x C⟩;rw[List.getElem?_take,bk dn,kX];exact O i hi j x C
theorem r7.append{n:Nat}{t:TC}{o:Nat}{l l2:aa (T t)}{xs ys:aa Value}(h:r7 w B ah n 0 t o l xs)(I:r7 w B ah n l.length t o l2 ys)(hl:xs.length=l.length*aC t):r7 w B ah n 0 t o (l++l2) (xs++ys):=by
 intro i hi j x C;have L:j<aC t:=by have:=(c7.1 C).1;rwa [jn]at this
 by_cases E:i<l.length
 ·rw[List.getElem_append_left E]at C;obtain⟨v,D,r⟩:=h i E j x C;refine⟨v,?_,r⟩;rw[List.getElem?_append_left (c7.1 D).1];exact D
 ·rw[List.getElem_append_right (by omega)]at C;have J:i-l.length<l2.length:=by rw[mK]at hi;omega
  obtain⟨v,D,r⟩:=I (i-l.length) J j x C;refine⟨v,?_,?_⟩
  ·have e:i*aC t+j=xs.length+((i-l.length)*aC t+j):=by
    rw[hl,Nat.sub_mul];have:l.length*aC t<=i*aC t:=gS _ (by omega);omega
   rw[e,List.getElem?_append_right (by omega),Nat.add_sub_cancel_left];exact D
  ·have e:0+i=l.length+(i-l.length):=by omega
   rw[e];exact r
theorem r7.under{n C:Nat}{t:TC}{o:Nat}{l:aa (T t)}{D:aa Value}(h:r7 w B ah n C t o l D)(E:w.heap.size<=w'.heap.size)(hb:∀ b,b<w.heap.size->ah b≠some [n]->w'.heap[b]?=w.heap[b]?)(hl:∀ b,b<w.heap.size->aD b=ah b):r7 w' B aD n C t o l D:=
 λi hi j x I=>let ⟨v,J,r⟩:=h i hi j x I;⟨v,J,r.under (.inl (by simp)) E hb hl⟩
theorem Xx{n:Nat}{t:TC}{o:Nat}{l:aa (T t)}{u:Value}{xs:aa Value}{B':Nat}(h:w.ownsRow B' (tid t) (aC t) u l.length xs)(I:r7 w B ah n 0 t o l xs)(hl:∀ b,u.ownBlock=some b->ah b=some [n]):
  RV w B ah [n] (.sl t (o+2) false l) u:=by
 rcases h.2 with ⟨rfl,J⟩|⟨b,cap,cs,rfl,hB,L,O,Q,U,Y⟩
 ·have:l=[]:=List.eq_nil_of_length_eq_zero J;subst this;exact .cG _ _ _
 ·have E:∀ i (hi:i<l.length) j x,(enc t o l[i])[j]?=some x->∃ v,cs[i*aC t+j]?=some v/\RV w B ah (j :: i :: aC t :: [n]) x v:=by
   intro i hi j x D;obtain⟨v,C,r⟩:=I i hi j x D;rw[eN]at r;refine⟨v,?_,r⟩;rw[<-Y,List.getElem?_take]at C;split at C
   ·rw[kX]at C;exact C
   ·cases C
  refine .own [n] t o false l b cap cs (λi j=>(cs[i*aC t+j]?).getD undef) (hl b rfl) L U O ⟨Q,λh=>by cases h⟩ (λi hi j x D=>?_) (λi hi j x D=>?_)
  ·obtain⟨v,C,_⟩:=E i hi j x D;rw[C];rfl
  ·obtain⟨v,C,r⟩:=E i hi j x D;rw[C];exact r
theorem Rl.aic{t e ty:TypeId}{C:TC}{i:TypeInfo}{z:Value}{rr o m c:Nat}{q:Bool}{l l2:aa (T C)}{u:Value}{ad:aj Addr}{news:aa Value}(h:Rl w0 N ah ρ σ a w)(hF:w0.F rr=none)(gq:P.underlying t=some (.slice e))(ht:tid C=e)(hi:P.info? e=some i)(hz:i.zero=some z)
  (fE:i.size=aC C) (jN:i.bytes<=65536) (ov:z.cells.size=aC C) (hd:RV w w0.heap.size ah [rr] (.sl C (o+2) q l) u) (E3:Reads w w.heap.size (aC C) ad m news) (ow:∀v∈news,v.oneCell'=true) (hm:m=l2.length)
  (zy:r7 w w0.heap.size ah rr l.length C o l2 news) (hlen:l.length+l2.length<1073741824):
  ∃D w' aD,(Builtin.append_ #[t,t] ty #[u,.slice ad m c]).run P w = .ok D w'/\Rl w0 N aD (bL ρ rr (.de D)) ((σ.drop rr).root rr (.sl (.sl C (o+2) false (l++l2)))) a w'/\kG D=true:=by
 subst ht hm;obtain⟨xs,r4,U,Cm,iH⟩:=hd.aib (B':=0) (λb _=>gn b);have iw:(l.length+l2.length)*i.bytes<=140737488355328:=by
  have h1:(l.length+l2.length)*i.bytes<=1073741824*65536:=Nat.mul_le_mul (by omega) jN;omega
 obtain⟨D,w',dB,J,I,iI⟩:=O6 (P:=P) w 0 t ty (tid C) i z (aC C) i.bytes gq hi hz fE rfl ov (od C) u l.length xs r4 _ ad l2.length c news E3 ow (by unfold maxLen;omega) iw (gn _);have uO:(l++l2).length=l.length+l2.length:=mK;rw[<-uO]at J;have tj:=iH.append zy r4.1;have fA:kG D=true:=by rcases J.2 with ⟨rfl,_⟩|⟨_,_,_,rfl,_⟩<;>rfl
 have L:Below 0 w w':=(Below.refl 0 w).grown I (gn _) (λ_ _=>gn _);have ox:iF w0 w w':=⟨L.os,L.tape,L.output,L.size,λk E hL=>I.block k (jD E h.below.size) (λY=>by
  rcases(h.cH k _ (U k Y.symm)).1 with h1|h1
  ·exact absurd E (Nat.not_lt.2 h1)
  ·exact h1 hL)⟩
 have O:∀b,b<w.heap.size->ah b≠some [rr]->w'.heap[b]?=w.heap[b]?:=λb hb dY=>I.block b hb (λY=>dY (U b Y.symm))
 by_cases Q:D.ownBlock=some w.heap.size
 ·have dn:w.heap.size<w'.heap.size:=by
   rcases J.2 with ⟨rfl,_⟩|⟨b,cap,cs,rfl,_,hh,_⟩
   ·cases Q
   ·have:b=w.heap.size:=by simpa [Value.ownBlock]using Q
    subst this;exact(fl.1 hh).1
  have zD:∀b,b<w.heap.size->bL ah w.heap.size (some [rr]) b=ah b:=λb hb=>cu _ _ _ (by omega)
  refine⟨D,w',bL ah w.heap.size (some [rr]),dB,h.ta hF ox ⟨I.size,O,zD,λb hb=>(h.cH b [] hb).2.2 rfl⟩ (λb k hb E=>?_) (λr Z=>cu _ _ _ Z) (.sl D _ (bO _ _ _) (Xx J (tj.under I.size O zD) (λb hb=>?_))),fA⟩
  ·by_cases e:b=w.heap.size
   ·subst e;rw[bO]at E;injection E with E;subst E;exact⟨dn,by simp⟩
   ·rw[cu _ _ _ e]at E;have:=(h.cH b k E).2.1;omega
  ·rw[Q]at hb;injection hb with hb;subst hb;exact bO _ _ _
 ·have E4:D.ownBlock=u.ownBlock:=by
   rcases iI with iI|iI
   ·exact iI
   ·exact absurd iI Q
  refine⟨D,w',ah,dB,h.ta hF ox ⟨I.size,O,λ_ _=>rfl,λb hb=>(h.cH b [] hb).2.2 rfl⟩ (λb k hb E=>?_) (λr Z=>cu _ _ _ Z) (.sl D _ (bO _ _ _) (Xx J (tj.under I.size O (λ_ _=>rfl)) (λb hb=>U b (by rw[<-E4];exact hb)))),fA⟩
  have:=(h.cH b k E).2.1;omega
end
def aw7{X:Type}(N:Nat)(σ:S)(C:aj Tmp)(c x y:A)(k:S->aj X):aj X:=
 match c with
 |.lf (.v (.bool b))=>bif b then gI N σ C x k else gI N σ C y k
 |_=>none
def uP{X:Type}(P:Program)(s:TypeId)(x:A)(f:Nat)(k:A->aj X):aj X:=
 match EW P s f,x with
 | some C,.agg cs=>(match ja P C.type,Cg P C.type with
  |some n,some true=>if C.offset+n<=cs.length then k (.agg ((cs.drop C.offset).take n))else none
  | some _,some false=>(match cs[C.offset]? with
   |some y=>k (.lf y)
   |none=>none)
  |_,_=>none)
 |_,_=>none
def zE{X:Type}(C:Bool)(x y:A)(k:A->aj X):aj X:=
 match x,y with
 |.lf (.v (.int D a)),.lf (.v (.int _ b))=>k (.lf (.v (.int D (bif C then (if b > a then b else a)else (if b<a then b else a)))))
 |_,_=>none
def xd{X:Type}(P:Program)(t:TypeId)(x i:A)(k:A->aj X):aj X:=
 match x,i with
 | .lf (.v (.str s)),.lf (.v (.int _ C))=>(match P.underlying t with
  |some .string=>if h:0<=C/\C.toNat<s.size then k (.lf (.v (.int .u8 ((s[C.toNat]'h.2).toNat:Int))))else none
  |_=>none)
 |_,_=>none
def uQ{X:Type}(x:aj A)(d:Int)(k:Int->aj X):aj X:=
 match x with
 |none=>k d
 |some (.lf (.v (.int _ n)))=>k n
 |_=>none
def xe{X:Type}(P:Program)(t:TypeId)(x:A)(lo hi:aj A)(k:A->aj X):aj X:=
 match x with
 | .lf (.v (.str s))=>(match P.underlying t with
  |some .string=>uQ lo 0 λl=>uQ hi (s.size:Int) λh=>if 0<=l/\l<=h/\h<=(s.size:Int)then k (.lf (.v (.str (s.extract l.toNat h.toNat))))else none
  |_=>none)
 | .lf (.v (.sl C g D l))=>(match o7 P t with
  | some e=>(match ja P e with
   |some n=>if n=aC C then (bif Nat.blt g 2 then uQ lo 0 λa=>uQ hi (l.length:Int) λb=>if 0<=a/\a<=b/\b<=(l.length:Int)then k (.lf (.v (.sl C g false ((l.take b.toNat).drop a.toNat))))else none else none)else none
   |none=>none)
  |none=>none)
 |_=>none
def xg(P:Program)(C D:TypeId):Bool:=
 match P.underlying C,P.underlying D with
 | some (.slice e),some .string=>(match P.underlying e with
  |some (.int .u8)=>true
  |_=>false)
 |_,_=>false
def uR{X:Type}(P:Program)(C D:TypeId)(z:V)(k:A->aj X):aj X:=
 match z with
 |.sl .u8 _ _ l=>bif xg P C D then k (.lf (.v (.str (strOfNums l))))else none
 |.nil=>bif xg P C D then k (.lf (.v (.str (strOfNums []))))else none
 |_=>none
def nJ{X:Type}(P:Program)(σ:S)(C D:TypeId)(x:A)(k:A->aj X):aj X:=
 match x with
 | .lf (.v (.int _ n))=>(match P.underlying C,P.underlying D with
  |some _,some (.int E)=>k (.lf (.v (.int E (E.wrap n))))
  |_,_=>none)
 |.lf y=>gJ σ y λz=>uR P C D z k
 |_=>none
section
variable {P:Program} {w w':World} {w0:Wd} {B N:Nat} {ah aD:bA} {ρ ρ':Nat->Loc} {σ:S} {a:Act} {X:Type} {d:Nat} {r:X} {o:Oper}
theorem aid{α:Type}(f:α->aa Value)(s:Nat)(C:∀ x,(f x).length=s)(l:aa α):(l.flatMap f).length=l.length*s:=by
 induction l with
 |nil=>simp
 |cons a l D=>rw[List.flatMap_cons,mK,C,D,kB,fQ];omega
theorem aie{α:Type}(f:α->aa Value)(s:Nat)(D:∀ x,(f x).length=s):∀ (l:aa α) (k:Nat) (C:k<l.length) (j:Nat),j<s->(l.flatMap f)[k*s+j]?=(f l[k])[j]?:=by
 intro l
 induction l with
 |nil=>intro k C;simp at C
 | cons a l I=>
  intro k C j E;rw[List.flatMap_cons];cases k with
  |zero=>rw[Nat.zero_mul,eN,List.getElem?_append_left (by rw[D];exact E)];rfl
  | succ k=>
   have e:(k+1)*s+j=s+(k*s+j):=by rw[fQ];omega
   rw[e,List.getElem?_append_right (by rw[D];omega),D,Nat.add_sub_cancel_left];exact I k (by simpa using C) j E
theorem Xy(z:Array Value)(s n:Nat)(C:z.size=s)(E:0<s):(madeCells z (n*s)).toList=(List.replicate n z.toList).flatten:=by
 have e:(List.replicate n z.toList).flatten=(List.replicate n ()).flatMap (λ_=>z.toList):=by
  rw[List.flatMap_def,List.map_replicate]
 rw[e];have hl:((List.replicate n ()).flatMap (λ_=>z.toList)).length=n*s:=by
  rw[aid (λ_=>z.toList) s (λ_=>by simpa using C)];simp
 apply List.ext_getElem?;intro i;rcases Nat.lt_or_ge i (n*s)with hi|hi
 ·have I:i / s<n:=Nat.div_lt_of_lt_mul (by rw[Nat.mul_comm];exact hi);have J:i % s<s:=Nat.mod_lt _ E;have L:i=i / s*s+i % s:=by rw[Nat.mul_comm];exact(Nat.div_add_mod i s).symm
  have D:=aie (λ_=>z.toList) s (λ_=>by simpa using C) (List.replicate n ()) (i / s) (by simpa using I) (i % s) J;rw[<-L]at D;rw[D];have O:i % s<z.size:=by omega
  simp only[madeCells,Array.toList_map,Array.toList_range,cO,List.getElem?_range hi,gF,C];simp[O]
 ·rw[List.getElem?_eq_none (by rw[ke,size_madeCells];exact hi),List.getElem?_eq_none (by rw[hl];exact hi)]
theorem aif{t:TypeId}{len:Nat}{parts:Array (Nat×Operand)}{k:S->aj X}(h:zC P N σ d t len parts.toList k=some r):∃ dG,k dG=some r/\∀ ah ρ a w,Rl w0 N ah ρ σ a w->
  ∃w' aD ρ' v,(Instr.buildSlice t len (parts.map λ(i,x)=>(i,a.eval x))).run P w = .ok v w'/\Rl w0 N aD ρ' dG (a.put (some d) v) w':=by
 unfold zC at h;split at h
 ·rename_i e C ot;obtain⟨gq,ht,i,hi,T,jN⟩:=w8 ot;split at h
  ·rename_i z hz;cases O:(Nat.beq (full C) 0&&Nat.beq z.cells.size (aC C)&&Nat.blt (len*aC C) 16777217)with
   |false=>rw[O]at h;cases h
   | true=>
    rw[O,ak]at h;simp only[aK]at O;have hf:=bQ O.1.1;have ov:=bQ O.1.2;have hsm:len*aC C<16777217:=by have:=cB O.2;omega
    have ou:i.zero=some z:=by unfold zeroOf at hz;simpa [hi]using hz
    split at h
    ·rename_i cs iQ;split at h
     ·rename_i vs kJ;split at h
      ·rename_i l hl;obtain⟨hd,h⟩:=oq h
       refine⟨_,h,λah ρ a w hR=>?_⟩
       obtain⟨Kt,zp,iH⟩:=QK C 0 len vs l hl;have QL:dg w w0.heap.size ah ρ (List.replicate len (z.cells.toList.map iy)).flatten (madeCells z.cells (len*aC C)):=by
        have e1:(List.replicate len (z.cells.toList.map iy)).flatten=((List.replicate len z.cells.toList).flatten).map iy:=by
         rw[List.map_flatten,List.map_replicate]
        rw[e1,<-Xy z.cells (aC C) len ov (od C)]
        refine⟨by simp,λj x D=>?_⟩
        rw[cO]at D;cases I:(madeCells z.cells (len*aC C)).toList[j]? with
        |none=>rw[I]at D;cases D
        | some v=>
         rw[I]at D;injection D with D;subst D;exact⟨v,by simpa using I,Kk v⟩
       obtain⟨J,Z,gf⟩:=Kq (w:=w) (B:=w0.heap.size) (ah:=ah) (ρ:=ρ) _ _ _ (parts.toList.map λp=>(p.1,a.eval p.2)) cs iQ QL (by simp) (λj p q L U=>by
        rw[cO]at L U;cases D:parts.toList[j]? with
        |none=>rw[D]at L;cases L
        | some x=>
         rw[D]at L U;injection L with L;injection U with U;subst L U;exact⟨rfl,hR.aE x.2⟩)
       have Xz:=Kr cs vs kJ;have aih:J.size=len*aC C:=by rw[gf.1,Xz,cZ,zp]
       have dB:(Instr.buildSlice t len (parts.map λ(i,x)=>(i,a.eval x))).run P w = .ok (.slice (some ⟨w.heap.size,0,none⟩) len len) (w.alloc (.cells J e)):=by
        have QM:(parts.map λ(i,x)=>(i,a.eval x)).toList=parts.toList.map λp=>(p.1,a.eval p.2):=by simp
        by_cases h0:len*aC C=0
        ·have hm:madeCells z.cells (len*aC C) = #[]:=by rw[h0];simp[madeCells]
         rw[hm]at Z;have QN:len*i.size=0:=by rw[T];exact h0
         rw[<-T]at Z;have e0:∀f:Nat->Value,Array.map f (Array.range 0) = #[]:=λf=>by simp
         simp only[Instr.buildSlice,eC,gy gq,iD,sizeOf,typeInfo];simp[hi,QN];rw[e0,Z];simp[newRow]
        ·exact run_buildSlice (P:=P) w t e len _ J i z gq hi ou (by rw[T];omega) (by rw[T];exact h0) (by rw[T,QM];exact Z)
       refine⟨_,bL ah w.heap.size (some [d]),bL ρ d (.de (.slice (some ⟨w.heap.size,0,none⟩) len len)),_,dB,(hR.Cj (hR.dm d (.inl hd)) (λr Y=>cu _ _ _ Y) (.sl _ _ (bO _ _ _) ?_)).set ⟨rfl,by simp[cm,bO]⟩ hd⟩
       have zF:∀ E (Q:E<l.length) j x,(enc C 0 l[E])[j]?=some x->∃ v,J[E*aC C+j]?=some v/\∀ (w':World) (B':Nat) (aD:bA) (q':aa Nat),RV w' B' aD q' x v:=by
        intro E Q j x D;obtain⟨y,hy,hw⟩:=iH E Q j x D;obtain⟨v,I,Y⟩:=gf.2 (E*aC C+j) (.v y) (by rw[Xz,cO,hy];rfl);exact⟨v,I,λw' B' aD q'=>(Y.2.wk hw).rX (wX C 0 l[E] hf x (fL D))⟩
       have:=RV.own (w:=w.alloc (.cells J e)) (B:=w0.heap.size) (ah:=bL ah w.heap.size (some [d])) [d] C 0 true l w.heap.size len J (λi j=>(J[i*aC C+j]?).getD undef)
        (bO _ _ _) (by rw[ht];exact heap_alloc_new w _) aih (by omega) ⟨by have:=Nat.le_mul_of_pos_right len (od C);unfold maxLen;omega,λ_=>Kt.symm⟩ (λE Q j x D=>?_) (λE Q j x D=>?_)
       ·rw[Kt]at this;exact this
       ·obtain⟨v,I,_⟩:=zF E Q j x D;rw[I];rfl
       ·obtain⟨v,I,Y⟩:=zF E Q j x D;rw[I];exact Y _ _ _ _
      ·cases h
     ·cases h
    ·cases h
  ·cases h
 ·cases h
theorem XA{C:Bool}{x y:A}{k:A->aj X}(h:zE C x y k=some r):∃ z,k z=some r/\∀ (w:World) (B:Nat) (ah:bA) (ρ:Nat->Loc) (t ty:TypeId) (u v:Value),RA w B ah ρ x u->RA w B ah ρ y v->
  ∃D,((bif C then Builtin.max_ #[t,t] ty #[u,v]else Builtin.min_ #[t,t] ty #[u,v]):Sem Value).run P w = .ok D w/\RA w B ah ρ z D:=by
 unfold zE at h;split at h
 ·refine⟨_,h,λw B ah ρ t ty u v E I=>?_⟩
  obtain rfl:=E.2.gp;obtain rfl:=I.2.gp;cases C with
  |true=>exact⟨_,by simp[Builtin.max_,Builtin.max2],rfl,.int _ _ _⟩
  |false=>exact⟨_,by simp[Builtin.min_,Builtin.min2],rfl,.int _ _ _⟩
 ·cases h
theorem aii{t:TypeId}{x i:A}{k:A->aj X}(h:xd P t x i k=some r):∃ z,k z=some r/\∀ (w:World) (B:Nat) (ah:bA) (ρ:Nat->Loc) (u v:Value),RA w B ah ρ x u->RA w B ah ρ i v->
  ∃C,(Instr.index t u v).run P w = .ok C w/\RA w B ah ρ z C:=by
 unfold xd at h;split at h
 ·rename_i s J L;split at h
  ·rename_i D;split at h
   ·rename_i hb
    refine⟨_,h,λw B ah ρ u v E I=>?_⟩
    obtain rfl:=E.2.uK;obtain rfl:=I.2.gp;exact⟨_,by simp[Instr.index,asIntOf,gy D,hb.1,hb.2],rfl,.int _ _ _⟩
   ·cases h
  ·cases h
 ·cases h
theorem XB{C D:TypeId}(h:xg P C D=true):∃ e,P.underlying C=some (.slice e)/\P.underlying D=some .string/\P.underlying e=some (.int .u8):=by
 unfold xg at h;split at h
 ·rename_i e E I;split at h
  next J=>exact⟨e,E,I,J⟩
  ·cases h
 ·cases h
theorem XC(l:aa Int)(i:Nat)(hi:i<l.length):l.getD i 0=l[i]:=by rw[eX,bK hi];rfl
theorem RV.toStr{I J e:TypeId}(O:P.underlying I=some (.slice e))(Q:P.underlying J=some .string)(U:P.underlying e=some (.int .u8)){o:Nat}{qn:Bool}{l:aa (T .u8)}{q:aa Nat}{B:Nat}{u:Value}(h:RV w B ah q (.sl .u8 o qn l) u):
  (convert I J u).run P w = .ok (.string (strOfNums l)) w:=by
 generalize C:V.sl .u8 o qn l=y at h;cases h with
 |int=>cases C
 |bool=>cases C
 |str=>cases C
 |nil=>cases C
 | cG q t Y=>
  injection C with D Z e3 E;subst D;obtain rfl:=eq_of_heq E;rw[run_convert_bytes_nil w I e O U 0 0 J Q];rfl
 | cL q t Y A c ho=>
  injection C with D Z e3 E;subst D;obtain rfl:=eq_of_heq E;have hl:(loadCells A 0).run P w = .ok (([]:aa Int).map (Value.int .u8)).toArray w:=run_loadCells_list (P:=P) w A [] (λj v hj=>by simp at hj);rw[run_convert_bytes_string w I J e _ 0 c O U Q,run_bytesToString w A 0 c [] hl];rfl
 | cV q t Y A c ho=>
  injection C with D Z e3 E;subst D;obtain rfl:=eq_of_heq E;have hl:(loadCells A 0).run P w = .ok (([]:aa Int).map (Value.int .u8)).toArray w:=run_loadCells_list (P:=P) w A [] (λj v hj=>by simp at hj);rw[run_convert_bytes_string w I J e _ 0 c O U Q,run_bytesToString w A 0 c [] hl];rfl
 | aA q t Y qn' l' b off cap uu ho hl hb h1 mP hc hr=>
  injection C with D Z e3 E;subst D;obtain rfl:=eq_of_heq E
  refine run_convert_bytes_arg w I e O U b off _ cap l rfl (λi hi=>?_) J Q
  have L:=hc i hi 0 (.int .u8 l[i]) rfl;have h3:=(hr i hi 0 (.int .u8 l[i]) rfl).gp;simp only[aC,Nat.mul_one,Nat.add_zero]at L;have hg:=XC (show aa Int from l) i hi;rw[L,h3];exact bD (λz=>some (Value.int .u8 z)) hg.symm
 | own q t Y qn' l' b cap cs uu hl hh mT hn hm hc hr=>
  injection C with D Z e3 E;subst D;obtain rfl:=eq_of_heq E
  refine run_convert_bytes_arg w I e O U b 0 _ cap l rfl (λi hi=>?_) J Q
  have L:=hc i hi 0 (.int .u8 l[i]) rfl;have h3:=(hr i hi 0 (.int .u8 l[i]) rfl).gp;simp only[aC,Nat.mul_one,Nat.add_zero]at L;have hg:=XC (show aa Int from l) i hi;rw[h3]at L;have h4:w.cell? ⟨b,0+i,none⟩=some (.int .u8 l[i]):=by simp[World.cell?,hh,L]
  rw[h4];exact bD (λz=>some (Value.int .u8 z)) hg.symm
theorem aij{I J:TypeId}{x:A}{k:A->aj X}(h:nJ P σ I J x k=some r):∃ z,k z=some r/\∀ ah ρ a w,Rl w0 N ah ρ σ a w->∀ u,RA w w0.heap.size ah ρ x u->
  ∃Z,(convert I J u).run P w = .ok Z w/\RA w w0.heap.size ah ρ z Z:=by
 unfold nJ at h;split at h
 ·rename_i kk n;split at h
  ·rename_i d1 kd hs hd
   refine⟨_,h,λah ρ a w _ u D=>?_⟩
   obtain rfl:=D.2.gp;exact⟨_,by simp[convert,gy hs,gy hd,Conv.intToInt],rfl,.int _ _ _⟩
  ·cases h
 ·rename_i y _;have key:∃ z,(∀ ah ρ a w,Rl w0 N ah ρ σ a w->∀ u,cQ w w0.heap.size ah ρ y u->∃ q,RV w w0.heap.size ah q z u)/\uR P I J z k=some r:=by
   cases y with
   |v z=>exact⟨z,λah ρ a w _ u D=>⟨[],D.2⟩,h⟩
   |dead=>cases h
   | own q=>
    obtain⟨z,O,h⟩:=qS q _ h
    refine⟨z,λah ρ a w hR u D=>?_,h⟩
    obtain⟨v,hv,L⟩:=O.ok hR.root;have Q:=D.2;rw[hv]at Q;injection Q with Q;subst Q;exact⟨q,L⟩
  obtain⟨z,O,C⟩:=key;clear h;unfold uR at C;split at C
  ·rename_i o qn l;cases E:xg P I J with
   |false=>rw[E]at C;cases C
   | true=>
    rw[E,ak]at C;obtain⟨e,T,U,Y⟩:=XB E
    refine⟨_,C,λah ρ a w hR u D=>?_⟩
    obtain⟨q,L⟩:=O ah ρ a w hR u D;exact⟨_,L.toStr T U Y,rfl,.str _ _⟩
  ·cases E:xg P I J with
   |false=>rw[E]at C;cases C
   | true=>
    rw[E,ak]at C;obtain⟨e,T,U,Y⟩:=XB E
    refine⟨_,C,λah ρ a w hR u D=>?_⟩
    obtain⟨q,L⟩:=O ah ρ a w hR u D;cases L;exact⟨_,by rw[run_convert_bytes_nil w I e T Y 0 0 J U];rfl,rfl,.str _ _⟩
  ·cases C
 ·cases h
theorem aik{s:TypeId}{x:A}{f:Nat}{k:A->aj X}(h:uP P s x f k=some r):∃ z,k z=some r/\∀ (w:World) (B:Nat) (ah:bA) (ρ:Nat->Loc) (u:Value),RA w B ah ρ x u->
  ∃Y,(Instr.field s u f).run P w = .ok Y w/\RA w B ah ρ z Y:=by
 unfold uP at h;split at h
 ·rename_i E cs J;have kL:∃ I,P.underlying s=some (.struct I)/\I[f]?=some E:=by
   unfold EW at J;split at J
   next I C=>exact⟨I,C,J⟩
   ·cases J
  obtain⟨I,Z,tw⟩:=kL;split at h
  ·rename_i n L D;split at h
   ·rename_i hle
    refine⟨_,h,λw B ah ρ u C=>?_⟩
    obtain⟨us,rfl,hR⟩:=C;have O:(isAgg E.type).run P w = .ok true w:=by
     unfold Cg at D;split at D
     next fs' C=>unfold isAgg;rw[eC,gy C w];rfl
     next c e C=>unfold isAgg;rw[eC,gy C w];rfl
     ·cases D
     ·cases D
    unfold ja at L;cases hi:P.info? E.type with
    |none=>simp[hi]at L
    | some i=>
     have zl:i.size=n:=by simpa [hi]using L
     refine⟨.agg (us.extract E.offset (E.offset+n)),by simp[Instr.field,gy Z,tw,asAgg,part,eC,O,sizeOf,typeInfo,hi,zl],_,rfl,?_,λj y Q=>?_⟩
     ·have:=hR.1;simp;omega
     ·obtain⟨hj,zG⟩:=Kb _ _ _ _ _ Q;obtain⟨v,T,U⟩:=hR.2 _ y zG;refine⟨v,?_,U⟩;rw[Array.getElem?_extract];have:=hR.1;rw[bk (by omega)];exact T
   ·cases h
  ·rename_i n L D;split at h
   ·rename_i y Q
    refine⟨_,h,λw B ah ρ u C=>?_⟩
    obtain⟨us,rfl,hR⟩:=C;obtain⟨v,T,U⟩:=hR.2 _ y Q;have O:(isAgg E.type).run P w = .ok false w:=by
     unfold Cg at D;split at D
     ·cases D
     ·cases D
     next d hs ha C=>unfold isAgg;rw[eC,gy C w];cases d<;>first|rfl|(rename_i x;exact absurd rfl (hs x))|(rename_i x y;exact absurd rfl (ha x y))|simp_all
     ·cases D
    exact⟨v,by simp[Instr.field,gy Z,tw,asAgg,part,eC,O,T],U⟩
   ·cases h
  ·cases h
 ·cases h
end
def V.val:V->Value
 |.int k n=>.int k n
 |.bool b=>.bool b
 |.str s=>.string s
 |_=>undef
def Ku:TypeDesc->V->V->aj Bool
 |.int _,.int k a,.int C b=>if k=C then some (a==b)else none
 |.bool,.bool a,.bool b=>some (a==b)
 |.string,.str a,.str b=>some (a.toList==b.toList)
 |_,_,_=>none
def E8(P:Program)(g:TypeId->aa V->aa V->aj Bool)(xs ys:aa V):aa Field->aj Bool
 |[]=>some true
 | f :: C=>bif f.name == "_" then E8 P g xs ys C else (match ja P f.type with
  | some n=>bif Nat.ble (f.offset+n) xs.length then (match g f.type ((xs.drop f.offset).take n) ((ys.drop f.offset).take n),E8 P g xs ys C with
   |some a,some b=>some (a&&b)
   |_,_=>none)else none
  |none=>none)
def xh(P:Program):Nat->TypeId->aa V->aa V->aj Bool
 |0,_,_,_=>none
 | n+1,t,xs,ys=>match P.underlying t with
  |some (.struct C)=>bif P.stoodInHeld t ||!Nat.beq xs.length ys.length then none else E8 P (xh P n) xs ys C.toList
  | some d=>(match xs,ys with
   |[x],[y]=>Ku d x y
   |_,_=>none)
  |none=>none
def Kv:BinOp->aj Bool
 |.eql=>some false
 |.neq=>some true
 |_=>none
def iR{α:Type}:aa α->Bool
 |[]=>true
 |_=>false
def isStr(P:Program)(t:TypeId):Bool:=match P.underlying t with
 |some (.struct _)=>true
 |_=>false
def kM{X:Type}(P:Program)(σ:S)(op:BinOp)(t:TypeId)(x y:A)(k:A->aj X):aj X:=
 match Kv op,x,y with
 | some C,.agg cs,.agg D=>(match qe cs,qe D with
  | some xs,some ys=>bif P.eqGuardType P.depth t || !isStr P t then none else (match xh P 20 t xs ys with
   |some b=>k (.lf (.v (.bool (bif C then !b else b))))
   |none=>none)
  |_,_=>none)
 | some C,.lf l,.lf (.v .nil)=>(match o7 P t with
  | some _=>gJ σ l λz=>(match z with
   |.nil=>k (.lf (.v (.bool (bif C then false else true))))
   |.sl _ _ true _=>k (.lf (.v (.bool (bif C then true else false))))
   |.sl _ _ false l=>bif iR l then none else k (.lf (.v (.bool (bif C then true else false))))
   |_=>none)
  |none=>none)
 |_,_,_=>vK x λa=>vK y λb=>l8 P t op a b λz=>k (.lf (.v z))
section
variable {P:Program} {w w':World} {w0:Wd} {B N:Nat} {ah aD:bA} {ρ ρ':Nat->Loc} {σ:S} {a:Act} {X:Type} {d:Nat} {r:X} {o:Oper}
theorem ail{D:TypeDesc}{x y:V}{b:Bool}{t:TypeId}{n:Nat}(C:P.underlying t=some D)(h:Ku D x y=some b):(Op.equalIn (n+1) t x.val y.val).run P w = .ok b w:=by
 unfold Ku at h;split at h
 ·split at h
  next I _ a k J E=>subst E;injection h with h;subst h;exact run_equalIn_int w n t _ _ _ _ C
  ·cases h
 ·injection h with h;subst h;exact run_equalIn_bool' w n t _ _ C
 ·injection h with h;subst h;exact run_equalIn_string w n t _ _ C
 ·cases h
def r8(P:Program)(t:TypeId)(xs:aa V)(u:Value):Prop:=
 match P.underlying t with
 |some (.struct _)=>u = .agg (xs.map V.val).toArray
 |_=>∃x,xs=[x]/\u=x.val
theorem XD{t:TypeId}{n off:Nat}{xs:aa V}(I:ja P t=some n)(hle:off+n<=xs.length)(O:∃ d,P.underlying t=some d/\(∀ c e,d ≠ .array c e)/\((∀ C,d ≠ .struct C)->n=1)):
  ∃u,(part t (xs.map V.val).toArray off).run P w = .ok u w/\r8 P t ((xs.drop off).take n) u:=by
 obtain⟨d,D,Q,T⟩:=O;unfold ja at I;cases hi:P.info? t with
 |none=>simp[hi]at I
 | some i=>
  have U:i.size=n:=by simpa [hi]using I
  by_cases E:∃C,d = .struct C
  ·obtain⟨C,rfl⟩:=E;have J:(isAgg t).run P w = .ok true w:=by
    unfold isAgg;rw[eC,gy D w];rfl
   refine⟨.agg ((xs.map V.val).toArray.extract off (off+n)),by simp[part,eC,J,sizeOf,typeInfo,hi,U],?_⟩;unfold r8;rw[D];simp only;congr 1;apply Array.ext';simp[List.map_drop,List.map_take]
  ·have J:(isAgg t).run P w = .ok false w:=by
    unfold isAgg;rw[eC,gy D w];cases d<;>first|rfl|(exfalso;exact E ⟨_,rfl⟩)|(exfalso;exact Q _ _ rfl)
   have Y:n=1:=T λC e=>E ⟨C,e⟩
   subst Y;have L:off<xs.length:=by omega
   have Z:(xs.map V.val).toArray[off]?=some (xs[off]).val:=by simp[L]
   refine⟨(xs[off]).val,by simp[part,eC,J,Z],?_⟩;have e1:(xs.drop off).take 1=[xs[off]]:=by
    rw[List.drop_eq_getElem_cons L];rfl
   unfold r8;rw[D];split
   next C e=>injection e with e;exact absurd ⟨C,e⟩ E
   ·exact⟨_,e1,rfl⟩
theorem aim{n:Nat}{t:TypeId}{xs ys:aa V}{b:Bool}(h:xh P n t xs ys=some b):∃ d,P.underlying t=some d/\(∀ c e,d ≠ .array c e)/\((∀ C,d ≠ .struct C)->xs.length=1):=by
 cases n with
 |zero=>cases h
 | succ n=>
  unfold xh at h;split at h
  next C D=>exact⟨_,D,(λc e h=>by cases h),λh=>absurd rfl (h C)⟩
  ·rename_i d J E;split at h
   next x y=>exact⟨d,E,(λc e I=>by subst I;simp[Ku]at h),λ_=>rfl⟩
   ·cases h
  ·cases h
theorem QO{n:Nat}{xs ys:aa V}(hlen:xs.length=ys.length)(I:∀ t xs ys b,xh P n t xs ys=some b->∀ u v,r8 P t xs u->r8 P t ys v->∀ k,(Op.equalIn (k+n) t u v).run P w = .ok b w)(k:Nat):∀ (C:aa Field) (b:Bool),E8 P (xh P n) xs ys C=some b->
  (Op.eqFields (k+n) (xs.map V.val).toArray (ys.map V.val).toArray C).run P w = .ok b w
 | [],b,h=>by
  injection h with h;subst h;simp[Op.eqFields]
 | f :: C,b,h=>by
  unfold E8 at h;cases E:f.name == "_" with
  | true=>
   rw[E,ak]at h;have:f.name = "_":=by simpa using E
   simp only[Op.eqFields,this,ne_eq,not_true,if_false];exact QO hlen I k C b h
  | false=>
   rw[E,aq]at h;have Z:f.name ≠ "_":=by simpa using E
   split at h
   ·rename_i s J;cases D:Nat.ble (f.offset+s) xs.length with
    |false=>rw[D]at h;cases h
    | true=>
     rw[D,ak]at h;have D:=cB D;split at h
     ·rename_i c e L h2;injection h with h;subst h;obtain⟨O,Q,T,U⟩:=aim L;have Y:((xs.drop f.offset).take s).length=s:=by simp;omega
      obtain⟨u,QS,QT⟩:=XD (w:=w) J D ⟨O,Q,T,λh=>Y.symm.trans (U h)⟩;obtain⟨v,E9,uS⟩:=XD (w:=w) (xs:=ys) (off:=f.offset) J (by omega) ⟨O,Q,T,λh=>Y.symm.trans (U h)⟩;have hr:=I _ _ _ c L u v QT uS k;have Cn:=QO hlen I k C e h2;simp only[Op.eqFields,Z,ne_eq,not_false_eq_true,if_true,eC,QS,E9,hr,iD];cases c
      ·simp
      ·simpa using Cn
     ·cases h
   ·cases h
theorem XE:∀ (n:Nat) (t:TypeId) (xs ys:aa V) (b:Bool),xh P n t xs ys=some b->∀ u v,r8 P t xs u->r8 P t ys v->∀ k,(Op.equalIn (k+n) t u v).run P w = .ok b w
 |0,t,xs,ys,b,h=>by cases h
 | n+1,t,xs,ys,b,h=>by
  intro u v C D k;unfold xh at h;split at h
  ·rename_i E J;cases I:(P.stoodInHeld t || !Nat.beq xs.length ys.length)with
   |true=>rw[I]at h;cases h
   | false=>
    rw[I,aq]at h;rw[lZ,Bool.not_eq_false']at I;have hlen:=bQ I.2;unfold r8 at C D;rw[J]at C D;simp only at C D;subst C D;have Q:P.fieldsOf t=E:=by simp[Program.fieldsOf,J]
    rw[<-Nat.add_assoc,run_equalIn_struct w (k+n) t _ _ (by rw[Q];exact J) I.1,Q];exact QO hlen (XE n) k E.toList b h
  ·rename_i d T U;split at h
   ·rename_i x y;unfold r8 at C D;rw[U]at C D;split at C
    next E e=>injection e with e;exact absurd e (T E)
    ·split at D
     next E e=>injection e with e;exact absurd e (T E)
     ·obtain⟨Y,L,rfl⟩:=C;obtain⟨Z,O,rfl⟩:=D;injection L with L;injection O with O;subst L O;exact ail U h
   ·cases h
  ·cases h
theorem XF{cs:aa Lf}{xs:aa V}(h:qe cs=some xs){u:Value}(D:RA w B ah ρ (.agg cs) u):u = .agg (xs.map V.val).toArray:=by
 obtain⟨e,E⟩:=Kc _ _ h;obtain⟨us,rfl,I,J⟩:=D;congr 1;apply Array.ext';apply List.ext_getElem?;intro j;rw[List.toList_toArray,cO,kX];cases C:xs[j]? with
 | none=>
  rw[Option.map_none];refine Array.getElem?_eq_none ?_;rw[I,e,cZ];exact List.getElem?_eq_none_iff.1 C
 | some x=>
  obtain⟨v,L,O⟩:=J j (.v x) (by rw[e,cO,C];rfl);rw[L,gF];congr 1;have:=E x (fL C);have Q:=O.2;cases Q<;>first|rfl|cases this
theorem Co{op:BinOp}{C:Bool}(D:Kv op=some C){t e:TypeId}(E:P.underlying t=some (.slice e))(I J:Operand)(A:aj Addr)(n c:Nat):
  (do eqGuard op t I J (.slice A n c) (.slice none 0 0);binOp op t (.slice A n c) (.slice none 0 0):Sem Value).run P w = .ok (.bool (bif C then !A.isNone else A.isNone)) w:=by
 have L:(Op.equal t (.slice A n c) (.slice none 0 0)).run P w = .ok A.isNone w:=by
  have h:∀ d,(Op.equalIn (d+1) t (.slice A n c) (.slice none 0 0)).run P w = .ok A.isNone w:=by
   intro d;cases A<;>simp[Op.equalIn,gy E]
  exact h 9999
 cases op<;>simp[Kv]at D<;>subst D<;>simp[eqGuard,binOp,L]
theorem ain{op:BinOp}{t:TypeId}{x y:A}{k:A->aj X}(h:kM P σ op t x y k=some r):∃ z,k z=some r/\∀ ah ρ a w,Rl w0 N ah ρ σ a w->∀ C D u v,RA w w0.heap.size ah ρ x u->RA w w0.heap.size ah ρ y v->
  ∃Z,(do eqGuard op t C D u v;binOp op t u v:Sem Value).run P w = .ok Z w/\RA w w0.heap.size ah ρ z Z:=by
 unfold kM at h;split at h
 ·rename_i O cs ds L;split at h
  ·rename_i xs ys qf Fa;cases Q:(P.eqGuardType P.depth t || !isStr P t)with
   |true=>rw[Q]at h;cases h
   | false=>
    rw[Q,aq]at h;rw[lZ,Bool.not_eq_false']at Q;obtain⟨Q,kL⟩:=Q;split at h
    ·rename_i b hb
     refine⟨_,h,λah ρ a w hR C D u v E I=>?_⟩
     have E:=XF qf E;have I:=XF Fa I;subst E I;have hs:∃ fs,P.underlying t=some (.struct fs):=by
      unfold isStr at kL;split at kL
      next fs tw=>exact⟨fs,tw⟩
      ·cases kL
     obtain⟨fs,tw⟩:=hs;have T:=XE (w:=w) 20 t xs ys b hb (.agg (xs.map V.val).toArray) (.agg (ys.map V.val).toArray) (by unfold r8;rw[tw]) (by unfold r8;rw[tw]) 9980;refine⟨.bool (bif O then !b else b),?_,rfl,.bool _ _⟩;rw[eC,run_eqGuard_agg w op t C D _ _ Q,iD];cases op<;>simp[Kv]at L<;>subst L
     ·rw[run_eql_struct,T];rfl
     ·rw[run_neq_struct,T];rfl
    ·cases h
  ·cases h
 ·rename_i O l L;split at h
  ·rename_i e U;have Y:P.underlying t=some (.slice e):=by
    unfold o7 at U;split at U
    next e' E=>injection U with U;rw[<-U];exact E
    ·cases U
   obtain⟨z,hz,J⟩:=QH (w0:=w0) (N:=N) h;clear h;split at J
   ·refine⟨_,J,λah ρ a w hR C D u v E I=>?_⟩
    obtain⟨q,hq⟩:=hz ah ρ a w hR u E;cases hq;cases I.2;exact⟨_,Co L Y C D none 0 0,rfl,by cases O<;>exact .bool _ _⟩
   ·refine⟨_,J,λah ρ a w hR C D u v E I=>?_⟩
    obtain⟨q,hq⟩:=hz ah ρ a w hR u E;cases I.2;cases hq with
    |aA _ _ _ _ _ b off cap us ho hl hb h1 mP hc T=>exact⟨_,Co L Y C D _ _ _,rfl,by cases O<;>exact .bool _ _⟩
    |own=>exact⟨_,Co L Y C D _ _ _,rfl,by cases O<;>exact .bool _ _⟩
    |cV=>exact⟨_,Co L Y C D _ _ _,rfl,by cases O<;>exact .bool _ _⟩
   ·rename_i Z o' l';cases hl:iR l' with
    |true=>rw[hl]at J;cases J
    | false=>
     rw[hl,aq]at J
     refine⟨_,J,λah ρ a w hR C D u v E I=>?_⟩
     obtain⟨q,hq⟩:=hz ah ρ a w hR u E;cases I.2;cases hq with
     |cG=>cases hl
     |cL=>cases hl
     |aA _ _ _ _ _ b off cap us ho zD hb h1 mP hc T=>exact⟨_,Co L Y C D _ _ _,rfl,by cases O<;>exact .bool _ _⟩
     |own=>exact⟨_,Co L Y C D _ _ _,rfl,by cases O<;>exact .bool _ _⟩
   ·cases J
  ·cases h
 ·obtain⟨u0,hx,h1⟩:=Ka h;obtain⟨v0,hy,J⟩:=Ka h1;obtain⟨z,h3,hp,hs⟩:=ahO J;subst hx hy
  refine⟨_,h3,λah ρ a w hR C D u v E I=>?_⟩
  obtain⟨Z,dB,T⟩:=hs w _ ah C D [] [] _ _ E.2 I.2;exact⟨Z,dB,V.EV hp,T⟩
/-! Parts of slices that nobody writes. -/
theorem Cp{x:aj A}{C:Int}{k:Int->aj X}(h:uQ x C k=some r):∃ n,k n=some r/\(∀ (E:Type) (D:Int->aj E),uQ x C D=D n)/\((x=none/\n=C)\/∃ I,x=some (.lf (.v (.int I n)))):=by
 unfold uQ at h;split at h
 ·exact⟨_,h,λ_ _=>rfl,.inl ⟨rfl,rfl⟩⟩
 ·exact⟨_,h,λ_ _=>rfl,.inr ⟨_,rfl⟩⟩
 ·cases h
theorem aio{t:TypeId}{x:A}{lo hi:aj A}{k:A->aj X}(h:xe P t x lo hi k=some r):∃ y,k y=some r/\(∀ (L:Type) (I:A->aj L),xe P t x lo hi I=I y)/\
  ((∃ (s:ByteArray) (l h:Int),x = .lf (.v (.str s))/\P.underlying t=some .string/\((lo=none/\l=0)\/∃ C,lo=some (.lf (.v (.int C l))))/\((hi=none/\h=s.size)\/∃ C,hi=some (.lf (.v (.int C h))))/\0<=l/\l<=h/\h<=(s.size:Int)/\y = .lf (.v (.str (s.extract l.toNat h.toNat))))\/
   ∃(E:TC) (g:Nat) (O:Bool) (xs:aa (T E)) (e:TypeId) (l h:Int),x = .lf (.v (.sl E g O xs))/\o7 P t=some e/\ja P e=some (aC E)/\g<2/\((lo=none/\l=0)\/∃C,lo=some (.lf (.v (.int C l))))/\((hi=none/\h=xs.length)\/∃C,hi=some (.lf (.v (.int C h))))/\0<=l/\l<=h/\h<=(xs.length:Int)/\y = .lf (.v (.sl E g false ((xs.take h.toNat).drop l.toNat)))):=by
 unfold xe at h;split at h
 ·rename_i s;split at h
  ·rename_i hu;obtain⟨l,Q,U,Y⟩:=Cp h;obtain⟨m,D,Z,e2⟩:=Cp Q;split at D
   ·rename_i hb
    refine⟨_,D,λL I=>?_,.inl ⟨s,l,m,rfl,hu,Y,e2,hb.1,hb.2.1,hb.2.2,rfl⟩⟩
    simp only[xe,hu];rw[U,Z,bk hb]
   ·cases D
  ·cases h
 ·rename_i E g O xs;split at h
  ·rename_i e he;split at h
   ·rename_i n hn;split at h
    ·rename_i w7;subst w7;cases J:Nat.blt g 2 with
     |false=>rw[J]at h;cases h
     | true=>
      rw[J,ak]at h;obtain⟨l,Q,U,Y⟩:=Cp h;obtain⟨m,D,Z,e2⟩:=Cp Q;split at D
      ·rename_i hb
       refine⟨_,D,λL I=>?_,.inr ⟨E,g,O,xs,e,l,m,rfl,he,hn,cB J,Y,e2,hb.1,hb.2.1,hb.2.2,rfl⟩⟩
       simp only[xe,he,hn,if_true,J,ak];rw[U,Z,bk hb]
      ·cases D
    ·cases h
   ·cases h
  ·cases h
 ·cases h
theorem XG{t:TypeId}{x:A}{lo hi:aj A}{k:A->aj X}(h:xe P t x lo hi k=some r):∃ y,k y=some r/\(∀ (X':Type) (k':A->aj X'),xe P t x lo hi k'=k' y)/\
  ∀ (w:World) (B:Nat) (ah:bA) (ρ:Nat->Loc) (u:Value) (O C:aj Value),RA w B ah ρ x u->(∀ a,lo=some a->∃ v,O=some v/\RA w B ah ρ a v)->(lo=none->O=none)->(∀ a,hi=some a->∃ v,C=some v/\RA w B ah ρ a v)->(hi=none->C=none)->
   ∃t',(Instr.sliceAt t u O C none).run P w = .ok t' w/\RA w B ah ρ y t':=by
 obtain⟨y,h1,hd,hc⟩:=aio h
 refine⟨y,h1,hd,λw B ah ρ u O C T th lD Kw Cq=>?_⟩
 have bl:∀ {o:aj A} {E:aj Value} {n U:Int},(∀ a,o=some a->∃ v,E=some v/\RA w B ah ρ a v)->(o=none->E=none)->((o=none/\n=U)\/∃ I,o=some (.lf (.v (.int I n))))->(E=none/\n=U)\/∃ I,E=some (.int I n):=by
  intro o E n U g1 g2 g3;rcases g3 with ⟨e,e'⟩|⟨I,e⟩
  ·exact .inl ⟨g2 e,e'⟩
  ·obtain⟨v,C,hr⟩:=g1 _ e;exact .inr ⟨I,by rw[C,hr.2.gp]⟩
 rcases hc with ⟨s,l,m,rfl,J,Y,Z,b1,b2,b3,rfl⟩|⟨tc,g,qn,xs,e,l,m,rfl,D,hn,hg,Y,Z,b1,b2,b3,rfl⟩
 ·have h5:=bl th lD Y;have h6:=bl Kw Cq Z;obtain rfl:=T.2.uK;have em:(m.toNat:Int)=m:=Int.toNat_of_nonneg (by omega);refine⟨.string (s.extract l.toNat m.toNat),?_,rfl,.str _ _⟩;rw[run_sliceAt_string w t _ _ _ _ J];have hb0:0<=m:=by omega
  rcases h5 with ⟨rfl,h7⟩|⟨kl,rfl⟩<;>rcases h6 with ⟨rfl,h8⟩|⟨kh,rfl⟩
  all_goals simp_all [Instr.slice,gy J,Instr.sliceBounds,run_sliceBound]
 ·have h5:=bl th lD Y;have h6:=bl Kw Cq Z;have J:P.underlying t=some (.slice e):=by
   unfold o7 at D;split at D
   next e' pg=>injection D with D;rw[<-D];exact pg
   ·cases D
  have iH:P.elem t=e:=by simp[Program.elem,J]
  have L:P.underlying t=some (.slice (P.elem t)):=by rw[iH];exact J
  have Q:(sizeOf (P.elem t)).run P w = .ok (aC tc) w:=by
   unfold ja at hn;cases hi:P.info? e with
   |none=>simp[hi]at hn
   | some i=>
    have:i.size=aC tc:=by simpa [hi]using hn
    simp[sizeOf,typeInfo,iH,hi,this]
  have kH:∃ A n c,u = .slice A n c:=by
   cases T.2 with
   |cG=>exact⟨_,_,_,rfl⟩
   |cL=>exact⟨_,_,_,rfl⟩
   |cV=>exact⟨_,_,_,rfl⟩
   |aA=>exact⟨_,_,_,rfl⟩
   |own=>exact⟨_,_,_,rfl⟩
  obtain⟨A,n,c,rfl⟩:=kH;obtain⟨hp,Cr,QU⟩:=T.2.part (a:=l.toNat) (h:=m.toNat) hg (by omega) (by omega);refine⟨_,?_,by simp[V.aA,hg],hp⟩;rw[run_sliceAt_slice w t _ _ _ _ L];rcases h5 with ⟨rfl,rfl⟩|⟨kl,rfl⟩<;>rcases h6 with ⟨rfl,rfl⟩|⟨kh,rfl⟩
  ·rw[run_slice_all w t A n c L,Q,Cr];simp
  ·rw[run_slice_h w t A n c L kh m (by omega) (by omega),Q];simp
  ·rw[run_slice_l w t A n c L kl l (by omega) (by omega),Q,Cr];simp
  ·rw[run_slice_lh w t A n c L kl kh l m (by omega) (by omega) (by omega),Q];simp
/-! Parts of slices that are owned. -/
def Fb{X:Type}(n:Nat)(q:aa Nat)(C:aj Nat)(lo hi:aj A)(y:V)(k:A->aj X):aj X:=
 match y with
 |.sl D _ _ l=>if n=aC D then uQ lo 0 λa=>uQ hi ((C.getD l.length:Nat):Int) λb=>if 0<=a/\a<=b/\b<=(l.length:Int)then k (.view q n a.toNat b.toNat)else none else none
 |_=>none
def nK{X:Type}(P:Program)(σ:S)(t:TypeId)(q:aa Nat)(C:aj Nat)(lo hi:aj A)(k:A->aj X):aj X:=
 match o7 P t with
 | some e=>(match ja P e with
  |some n=>fK σ.m q λy=>Fb n q C lo hi y k
  |none=>none)
 |none=>none
def qi{X:Type}(P:Program)(σ:S)(t:TypeId)(x:A)(lo hi:aj A)(k:A->aj X):aj X:=
 match x with
 |.lf (.own q)=>nK P σ t q none lo hi k
 |.view q _ 0 j=>nK P σ t q (some j) lo hi k
 |x=>xe P t x lo hi k
theorem XH{n:Nat}{q:aa Nat}{D:aj Nat}{lo hi:aj A}{y:V}{k:A->aj X}(h:Fb n q D lo hi y k=some r):∃ (C:TC) (g:Nat) (E:Bool) (xs:aa (T C)) (l h:Int),y = .sl C g E xs/\n=aC C/\
  ((lo=none/\l=0)\/∃I,lo=some (.lf (.v (.int I l))))/\((hi=none/\h=((D.getD xs.length:Nat):Int))\/∃I,hi=some (.lf (.v (.int I h))))/\0<=l/\l<=h/\h<=(xs.length:Int)/\k (.view q n l.toNat h.toNat)=some r/\
  ∀(O:Type) (J:A->aj O),Fb n q D lo hi y J=J (.view q n l.toNat h.toNat):=by
 unfold Fb at h;split at h
 ·rename_i C g E xs;split at h
  ·rename_i Q;obtain⟨l,U,Y,Z⟩:=Cp h;obtain⟨m,L,d2,e2⟩:=Cp U;split at L
   ·rename_i hb
    refine⟨C,g,E,xs,l,m,rfl,Q,Z,e2,hb.1,hb.2.1,hb.2.2,L,λO J=>?_⟩
    simp only[Fb,bk Q];rw[Y,d2,bk hb]
   ·cases L
  ·cases h
 ·cases h
theorem XI{t:TypeId}{q:aa Nat}{Y:aj Nat}{lo hi:aj A}{k:A->aj X}(h:nK P σ t q Y lo hi k=some r):∃ y,k y=some r/\
  ∀ ah ρ a w,Rl w0 N ah ρ σ a w->∀ (D:aj Addr) (n c C:Nat) (Q E:aj Value),cm w ah ρ q=some (.slice D n c)->C=Y.getD n->C<=n->(∀ a,lo=some a->∃ v,Q=some v/\RA w w0.heap.size ah ρ a v)->(lo=none->Q=none)->(∀ a,hi=some a->∃ v,E=some v/\RA w w0.heap.size ah ρ a v)->(hi=none->E=none)->
   ∃t',(Instr.sliceAt t (.slice D C c) Q E none).run P w = .ok t' w/\RA w w0.heap.size ah ρ y t':=by
 unfold nK at h;split at h
 ·rename_i e I;split at h
  ·rename_i n Z;obtain⟨y0,QV,h2⟩:=qS q _ h;obtain⟨tc,g,qn,xs,l,m,rfl,w7,e1,e2,b1,b2,b3,h3,_⟩:=XH h2
   refine⟨_,h3,λah ρ a w hR D n' c C Q E jM QW hle th lD Kw Cq=>?_⟩
   have bl:∀ {o:aj A} {J:aj Value} {n QX:Int},(∀ a,o=some a->∃ v,J=some v/\RA w w0.heap.size ah ρ a v)->(o=none->J=none)->((o=none/\n=QX)\/∃ L,o=some (.lf (.v (.int L n))))->(J=none/\n=QX)\/∃ L,J=some (.int L n):=by
    intro o J n QX g1 g2 g3;rcases g3 with ⟨e,e'⟩|⟨L,e⟩
    ·exact .inl ⟨g2 e,e'⟩
    ·obtain⟨v,E,hr⟩:=g1 _ e;exact .inr ⟨L,by rw[E,hr.2.gp]⟩
   have h5:=bl th lD e1;have h6:=bl Kw Cq e2;have gq:P.underlying t=some (.slice e):=by
    unfold o7 at I;split at I
    next e' pg=>injection I with I;rw[<-I];exact pg
    ·cases I
   have iH:P.elem t=e:=by simp[Program.elem,gq]
   have O:P.underlying t=some (.slice (P.elem t)):=by rw[iH];exact gq
   have T:(sizeOf (P.elem t)).run P w = .ok n w:=by
    unfold ja at Z;cases hi:P.info? e with
    |none=>simp[hi]at Z
    | some i=>
     have:i.size=n:=by simpa [hi]using Z
     simp[sizeOf,typeInfo,iH,hi,this]
   obtain⟨v0,U,lE⟩:=QV.ok hR.root;rw[jM]at U;injection U with U;subst U;have hf:RV w 0 (λ_=>none) [] (.sl tc 0 qn xs) (.slice D n' c):=lE.gd;obtain⟨hp,Cr,QU⟩:=hf.part (a:=l.toNat) (h:=m.toNat) (by omega) (by omega) (by omega);have aip:((Y.getD xs.length:Nat):Int)=(C:Int):=by rw[QW,Cr]
   rw[aip]at h6;refine⟨sliced D l.toNat m.toNat c n,?_,D,n',c,jM,by omega,by omega,rfl⟩;rw[run_sliceAt_slice w t _ _ _ _ O];rcases h5 with ⟨rfl,rfl⟩|⟨kl,rfl⟩<;>rcases h6 with ⟨rfl,rfl⟩|⟨kh,rfl⟩
   ·rw[run_slice_all w t D C c O,T];simp
   ·rw[run_slice_h w t D C c O kh m (by omega) (by omega),T];simp
   ·rw[run_slice_l w t D C c O kl l (by omega) (by omega),T];simp
   ·rw[run_slice_lh w t D C c O kl kh l m (by omega) (by omega) (by omega),T];simp
  ·cases h
 ·cases h
theorem aiq{t:TypeId}{x:A}{lo hi:aj A}{k:A->aj X}(h:qi P σ t x lo hi k=some r):∃ y,k y=some r/\
  ∀ ah ρ a w,Rl w0 N ah ρ σ a w->∀ (u:Value) (C D:aj Value),RA w w0.heap.size ah ρ x u->(∀ a,lo=some a->∃ v,C=some v/\RA w w0.heap.size ah ρ a v)->(lo=none->C=none)->(∀ a,hi=some a->∃ v,D=some v/\RA w w0.heap.size ah ρ a v)->(hi=none->D=none)->
   ∃U,(Instr.sliceAt t u C D none).run P w = .ok U w/\RA w w0.heap.size ah ρ y U:=by
 unfold qi at h;split at h
 ·rename_i q;obtain⟨y,E,I⟩:=XI (w0:=w0) (N:=N) h
  refine⟨y,E,λah ρ a w hR u C D J L O Q T=>?_⟩
  have Y:∃ A n c,u = .slice A n c:=by
   have:=J.1;cases u<;>first|cases this;done|exact⟨_,_,_,rfl⟩
  obtain⟨A,n,c,rfl⟩:=Y;exact I ah ρ a w hR A n c n C D J.2 rfl (dV _) L O Q T
 ·rename_i q s j;obtain⟨y,E,I⟩:=XI (w0:=w0) (N:=N) h
  refine⟨y,E,λah ρ a w hR u C D J L O Q T=>?_⟩
  obtain⟨A,n,c,Z,_,a2,rfl⟩:=J;have e:sliced A 0 j c s = .slice A j c:=by cases A<;>simp[sliced,Addr.add]
  rw[e];exact I ah ρ a w hR A n c j C D Z rfl a2 L O Q T
 ·obtain⟨y,E,_,I⟩:=XG h;exact⟨y,E,λah ρ a w _ u C D=>I w _ ah ρ u C D⟩
end
abbrev Pt:=Bool×aa V
def PV(w:World)(B:Nat)(ah:bA)(key:Nat->aa Nat)(p:Pt)(u:Value):Prop:=
 ∃us:Array Value,(match p.1 with|true=>u = .agg us|false=>us = #[u])/\us.size=p.2.length/\∀(j:Nat) x,p.2[j]?=some x->∃v,us[j]?=some v/\RV w B ah (key j) x v
def xj(w:World)(cs:aa V)(u:Value):Prop:=
 ∃b off,u = .pointer (some ⟨b,off,none⟩)/\b<w.heap.size/\∀(j:Nat) x,cs[j]?=some x->∃v,w.cell? ⟨b,off+j,none⟩=some v/\RV w w.heap.size (λ_=>none) [] x v
inductive PA (w:World):Pt->Value->Prop
 |v (p:Pt) (u:Value) (h:PV w w.heap.size (λ_=>none) (λ_=>[]) p u):PA w p u
 |p (c:V) (cs:List V) (u:Value) (h:xj w (c::cs) u):PA w (false,.bool true::c::cs) u
 |f (g:Nat) (c:V) (cs:List V) (u:Value) (h:xj w (c::cs) u):PA w (false,.bool false::.int .i64 (g:Int)::c::cs) (.func (.func g) #[] #[u])
def tA(w:World)(args:aa Pt)(bM:Array Value):Prop:=
 bM.size=args.length/\∀(i:Nat) p,args[i]?=some p->∃u,bM[i]?=some u/\PA w p u
theorem PA.pv{w:World}{x:V}{u:Value}(h:PA w (false,[x]) u):PV w w.heap.size (λ_=>none) (λ_=>[]) (false,[x]) u:=by
 cases h with
 |v _ _ h=>exact h
theorem PA.XJ{w:World}{xs:aa V}{u:Value}(h:PA w (true,xs) u):PV w w.heap.size (λ_=>none) (λ_=>[]) (true,xs) u:=by
 cases h with
 |v _ _ h=>exact h
inductive fS where
 |one (p:Pt)
 |ct (ps:List Pt)
def xk(t:TC):Nat->Bool
 |0=>false
 |1=>true
 |o+2=>Nat.ble (full t) o ||Nat.beq (o % 2) 1
def V.loc:V->Bool
 |.sl t o _ _=>xk t o
 |_=>true
def jb(w:World)(B:Nat)(ah:bA)(nm:Nat->Nat):Nat->aa Pt->aa Value->Prop
 |_,[],[]=>True
 |off,p::ps,v::C=>(p.2.all V.loc=true/\PV w B ah (λj=>[nm (off+j)]) p v)/\jb w B ah nm (off+p.2.length) ps C
 |_,_,_=>False
def qj(w:World)(B:Nat)(ah:bA)(nm:Nat->Nat):fS->Value->Prop
 |.one p,v=>jb w B ah nm 0 [p] [v]
 |.ct ps,v=>∃C:Array Value,v = .tuple C/\jb w B ah nm 0 ps C.toList
structure jc where
 run:(X:Type)->List Pt->(fS->Option X)->Option X
def iJ(P:Program)(f:Nat)(c:jc):Prop:=
 ∀ (X:Type) (args:aa Pt) (k:fS->aj X) (r:X),c.run X args k=some r->∃ res,k res=some r/\(∀ (C:Type) (D:fS->aj C),c.run C args D=D res)/\∀ (nm:Nat->Nat) (w:World) (bM:Array Value),tA w args bM->Hd w (λ_=>none)->
  Calls P f bM w λe w'=>∃v aD,e = .returned v/\Below w.heap.size w w'/\(∀b k,aD b=some k->w.heap.size<=b/\b<w'.heap.size/\k≠[])/\qj w' w.heap.size aD nm res v
def mV{X:Type}(σ:S):aa Lf->(aa V->aj X)->aj X
 |[],k=>k []
 |x::xs,k=>gJ σ x λy=>mV σ xs λys=>k (y.gd::ys)
def mb{X:Type}(σ:S)(x:A)(k:Pt->aj X):aj X:=
 match x with
 |.lf y=>mV σ [y] λC=>k (false,C)
 |.agg ys=>mV σ ys λC=>k (true,C)
 |.view q s i j=>qT σ q s i j λy=>k (false,[y])
 |.gG (c::cs)=>k (false,.bool true::c.gd::cs.map V.gd)
 |_=>none
def qX{X:Type}(σ:S)(x:A)(k:Pt->aj X):aj X:=
 match x with
 |.gG (c::cs)=>k (false,.bool true::c.gd::cs.map V.gd)
 |.ko f (c::cs)=>k (false,.bool false::.int .i64 (f:Int)::c.gd::cs.map V.gd)
 | .aH r j=>(match σ.m r with
  | some (.ax cs)=>mV σ (cs.drop j) λC=>(match C with
   |c::cs=>k (false,.bool true::c::cs)
   |[]=>none)
  |_=>none)
 | .fn f [(r,j)]=>(match σ.m r with
  | some (.ax cs)=>mV σ (cs.drop j) λC=>(match C with
   |c::cs=>k (false,.bool false::.int .i64 (f:Int)::c::cs)
   |[]=>none)
  |_=>none)
 |x=>mb σ x k
def mW{X:Type}(σ:S):aa Operand->(aa Pt->aj X)->aj X
 |[],k=>k []
 |x::xs,k=>qX σ (aE σ x) λp=>mW σ xs λps=>k (p::ps)
def jt{X:Type}(σ:S):aa Operand->(aa Pt->aj X)->aj X
 |[],k=>k []
 |x::xs,k=>mb σ (aE σ x) λp=>jt σ xs λps=>k (p::ps)
def jO(c:Nat):aa V->aa Lf
 |[]=>[]
 |x::xs=>(bif x.aA then .v x else .own [c])::jO (c+1) xs
def fO(c:Nat)(σ:S):aa V->S
 |[]=>σ
 |x::xs=>fO (c+1) (bif x.aA then σ else (σ.drop c).root c (.sl x)) xs
def kN(c:Nat):aa Pt->aa (Bool×aa Lf)
 |[]=>[]
 |p::ps=>(p.1,jO c p.2)::kN (c+p.2.length) ps
def iK(c:Nat)(σ:S):aa Pt->S
 |[]=>σ
 |p::ps=>iK (c+p.2.length) (fO c σ p.2) ps
def qk{X:Type}(N:Nat)(σ:S)(d:Nat)(c:jc)(args:aa Operand)(k:S->aj X):aj X:=
 bif Nat.blt d N then mW σ args λps=>c.run X ps λres=>(match res with
  | .one p=>(match qg (p.1,jO (1000000000100000+1000*d) p.2)with
   |some y=>k ((fO (1000000000100000+1000*d) σ p.2).set d y)
   |none=>none)
  |.ct ps=>k ((iK (1000000000100000+1000*d) σ ps).set d (.ct (kN (1000000000100000+1000*d) ps))))else none
def uT{X:Type}(N:Nat)(σ:S)(d:Nat)(c:jc)(args:aa Operand)(k:S->aj X):aj X:=
 bif Nat.blt d N then jt σ args λps=>c.run X ps λres=>(match res with
  | .one p=>(match qg (p.1,jO (1000000000100000+1000*d) p.2)with
   |some y=>k ((fO (1000000000100000+1000*d) σ p.2).set d y)
   |none=>none)
  |.ct ps=>k ((iK (1000000000100000+1000*d) σ ps).set d (.ct (kN (1000000000100000+1000*d) ps))))else none
section
variable {P:Program} {w w':World} {w0:Wd} {B N:Nat} {ah aD:bA} {ρ ρ':Nat->Loc} {σ:S} {a:Act} {X:Type} {d:Nat} {r:X} {o:Oper}
theorem Fc:∀ (xs:aa Lf) (k:aa V->aj X),mV σ xs k=some r->∃ C,k C=some r/\C.length=xs.length/\∀ ah ρ a w,Rl w0 N ah ρ σ a w->∀ (j:Nat) x y u,xs[j]?=some x->C[j]?=some y->cQ w w0.heap.size ah ρ x u->RV w w.heap.size (λ_=>none) [] y u
 |[],k,h=>⟨[],h,rfl,λ_ _ _ _ _ j x y u J=>by simp at J⟩
 | x :: xs,k,h=>by
  unfold mV at h;obtain⟨y,L,O⟩:=QH (w0:=w0) (N:=N) h;obtain⟨ys,Q,hl,T⟩:=Fc xs _ O
  refine⟨y.gd::ys,Q,by simp[hl],λah ρ a w hR j U Y u D E I=>?_⟩
  cases j with
  | zero=>
   simp at D E;subst D E;obtain⟨q,Z⟩:=L ah ρ a w hR u I;exact Z.gd
  |succ j=>exact T ah ρ a w hR j U Y u (by simpa using D) (by simpa using E) I
theorem XK{D C:Nat}{cs:aa Lf}{E:aa V}(Q:σ.m D=some (.ax cs))(hl:E.length=(cs.drop C).length)
  (T:∀ah ρ a w,Rl w0 N ah ρ σ a w->∀(j:Nat) x y u,(cs.drop C)[j]?=some x->E[j]?=some y->cQ w w0.heap.size ah ρ x u->RV w w.heap.size (λ_=>none) [] y u)
  {ah:bA} {ρ:Nat->Loc} {a:Act} {w:World} {u:Value} (hR:Rl w0 N ah ρ σ a w) (U:RA w w0.heap.size ah ρ (.aH D C) u):xj w E u:=by
 obtain⟨b,off,Y,rfl⟩:=U;cases hR.root D _ Q with
 | ax b' zo cells e _ us I nL J hs Z=>
  rw[Y]at I;injection I with q1 q2;subst q1 q2
  refine⟨b,off+C,rfl,(fl.1 J).1,λj x L=>?_⟩
  have hj:j<(cs.drop C).length:=by rw[<-hl];exact(c7.1 L).1
  have O:=bK hj;have air:cs[C+j]?=some (cs.drop C)[j]:=by rw[<-List.getElem?_drop];exact O
  obtain⟨k1,k2⟩:=Z _ _ air;refine⟨us (C+j),?_,T ah ρ a w hR j _ x _ O L k2⟩;rw[Nat.add_assoc,cell_of_row w b _ cells _ _ J];exact k1
theorem QY{cs:aa V}{u:Value}(E:RF w B ah cs u):xj w (cs.map V.gd) u:=by
 obtain⟨b,off,rfl,I,Q,J⟩:=E
 refine⟨b,off,rfl,I,λj x C=>?_⟩
 rw[cO]at C;cases D:cs[j]? with
 |none=>rw[D]at C;cases C
 | some y=>
  rw[D]at C;injection C with C;subst C;obtain⟨_,v,L,O⟩:=J j y D;exact⟨v,L,O.gd⟩
theorem XL{x:A}{k:Pt->aj X}(h:mb σ x k=some r):∃ p,k p=some r/\∀ ah ρ a w,Rl w0 N ah ρ σ a w->∀ u,RA w w0.heap.size ah ρ x u->PA w p u:=by
 unfold mb at h;split at h
 ·rename_i y;obtain⟨O,E,hl,J⟩:=Fc (w0:=w0) (N:=N) _ _ h
  refine⟨_,E,λah ρ a w hR u D=>.v _ _ ⟨#[u],rfl,by simp[hl],λj x C=>?_⟩⟩
  have I:j=0:=by
   have:=(c7.1 C).1;simp only[hl]at this
   simpa using this
  subst I;exact⟨u,rfl,J ah ρ a w hR 0 y x u rfl C D⟩
 ·rename_i ys;obtain⟨O,E,hl,J⟩:=Fc (w0:=w0) (N:=N) _ _ h
  refine⟨_,E,λah ρ a w hR u D=>?_⟩
  obtain⟨us,rfl,L⟩:=D
  refine .v _ _ ⟨us,rfl,by rw[hl];exact L.1,λj x C=>?_⟩
  have I:j<ys.length:=by rw[<-hl];exact(c7.1 C).1
  obtain⟨v,Q,T⟩:=L.2 j _ (bK I);exact⟨v,Q,J ah ρ a w hR j _ x v (bK I) C T⟩
 ·obtain⟨z,E,_,U⟩:=Xb h
  refine⟨_,E,λah ρ a w hR u D=>.v _ _ ⟨#[u],rfl,rfl,λj x C=>?_⟩⟩
  cases j with
  | zero=>
   simp at C;subst C;exact⟨u,rfl,U _ _ _ _ _ _ hR u D _⟩
  |succ j=>simp at C
 next c cs=>exact⟨_,h,λah ρ a w hR u D=>.p _ _ _ (QY D)⟩
 ·cases h
theorem ais{x:A}{k:Pt->aj X}(h:qX σ x k=some r):∃ p,k p=some r/\∀ ah ρ a w,Rl w0 N ah ρ σ a w->∀ u,RA w w0.heap.size ah ρ x u->PA w p u:=by
 unfold qX at h;split at h
 ·rename_i c cs
  refine⟨_,h,λah ρ a w hR u D=>?_⟩
  exact .p _ _ _ (QY D)
 ·rename_i f c cs
  refine⟨_,h,λah ρ a w hR u D=>?_⟩
  obtain⟨pv,rfl,E⟩:=D;exact .f _ _ _ _ (QY E)
 ·rename_i Q L;split at h
  ·rename_i cs I;obtain⟨T,C,hl,J⟩:=Fc (w0:=w0) (N:=N) _ _ h;split at C
   ·rename_i c eM
    refine⟨_,C,λah ρ a w hR u D=>?_⟩
    exact .p _ _ _ (XK I hl J hR D)
   ·cases C
  ·cases h
 ·rename_i f Q L;split at h
  ·rename_i cs I;obtain⟨T,C,hl,J⟩:=Fc (w0:=w0) (N:=N) _ _ h;split at C
   ·rename_i c eM
    refine⟨_,C,λah ρ a w hR u D=>?_⟩
    obtain⟨ps,rfl,U,E⟩:=D;obtain⟨b,off,Y,O⟩:=E 0 _ rfl;have e:ps = #[.pointer (some ⟨b,off+L,none⟩)]:=by
     apply Array.ext (by simpa using U);intro i Z C;have:i=0:=by simp at C;omega
     subst this;rw[Array.getElem?_eq_getElem Z]at O;injection O
    subst e;exact .f _ _ _ _ (XK I hl J hR ⟨b,off,Y,rfl⟩)
   ·cases C
  ·cases h
 ·exact XL h
theorem XM:∀ (xs:aa Operand) (k:aa Pt->aj X),mW σ xs k=some r->∃ ps,k ps=some r/\∀ ah ρ a w,Rl w0 N ah ρ σ a w->tA w ps (xs.map a.eval).toArray
 |[],k,h=>⟨[],h,λ_ _ _ _ _=>⟨rfl,λi p C=>by simp at C⟩⟩
 | x :: xs,k,h=>by
  unfold mW at h;obtain⟨p,I,C⟩:=ais (w0:=w0) (N:=N) h;obtain⟨ps,J,E⟩:=XM xs _ I
  refine⟨p::ps,J,λah ρ a w hR=>⟨?_,λi q D=>?_⟩⟩
  ·have:=(E ah ρ a w hR).1;simp at this;simp[this]
  ·cases i with
   | zero=>
    simp at D;subst D;exact⟨_,rfl,C ah ρ a w hR _ (hR.aE x)⟩
   | succ i=>
    obtain⟨u,L,O⟩:=(E ah ρ a w hR).2 i q (by simpa using D);exact⟨u,by simpa using L,O⟩
theorem QZ:∀ (xs:aa Operand) (k:aa Pt->aj X),jt σ xs k=some r->∃ ps,k ps=some r/\∀ ah ρ a w,Rl w0 N ah ρ σ a w->tA w ps (xs.map a.eval).toArray
 |[],k,h=>⟨[],h,λ_ _ _ _ _=>⟨rfl,λi p C=>by simp at C⟩⟩
 | x :: xs,k,h=>by
  unfold jt at h;obtain⟨p,I,C⟩:=XL (w0:=w0) (N:=N) h;obtain⟨ps,J,E⟩:=QZ xs _ I
  refine⟨p::ps,J,λah ρ a w hR=>⟨?_,λi q D=>?_⟩⟩
  ·have:=(E ah ρ a w hR).1;simp at this;simp[this]
  ·cases i with
   | zero=>
    simp at D;subst D;exact⟨_,rfl,C ah ρ a w hR _ (hR.aE x)⟩
   | succ i=>
    obtain⟨u,L,O⟩:=(E ah ρ a w hR).2 i q (by simpa using D);exact⟨u,by simpa using L,O⟩
theorem XN{t:TC}{o:Nat}(h:xk t (o+2)=true)(x:T t):∀ y∈enc t o x,y.loc=true:=by
 intro y D;have I:=uC t o x y D;cases y with
 | sl E C q l=>
  have J:C=o:=by simpa [V.gr]using I
  subst J;have L:full E+2<=full t:=cB (J4 t C x _ D);show xk E C=true;simp only[xk,dy]at h;rcases h with h|h
  ·have h:=cB h
   match C,h with
   |0,h=>omega
   |1,h=>rfl
   | n+2,h=>
    simp only[xk,dy];left;exact iE (by omega)
  ·have h:=bQ h
   match C,h with
   |0,h=>omega
   |1,h=>rfl
   | n+2,h=>
    simp only[xk,dy];right;have:n % 2=1:=by omega
    rw[this];rfl
 |_=>rfl
theorem RV.home{q:aa Nat}{x:V}{v:Value}(h:RV w B ah q x v){B':Nat}(hB:B'<=B)(hl:∀ b,B<=b->aD b=ah b)(Q:∀ b k,ah b=some k->B<=b)(D:x.loc=true):RV w B' aD q x v:=by
 induction h with
 |int=>exact .int _ _ _
 |bool=>exact .bool _ _
 |str=>exact .str _ _
 |nil=>exact .nil _
 |cG=>exact .cG _ _ _
 |cL=>exact .cL _ _ _ _ _ (by first|assumption|omega)
 |cV=>exact .cV _ _ _ _ _ (by first|assumption|omega)
 | aA q t o T l b off cap u I E hb U Y J Z L=>
  have uU:o=1:=by
   match o,I,D with
   |0,_,D=>cases D
   |1,_,_=>rfl
   |n+2,I,_=>omega
  subst uU;have O:=U rfl
  refine .aA _ _ _ _ _ _ _ _ u I ((hl b O).trans E) hb (λ_=>Nat.le_trans hB O) Y J (λi h j x C=>L i h j x C ?_)
  have:=uC t 1 l[i] x (fL C);cases x with
  | sl t' o' q' l'=>
   have:o'=1:=by simpa [V.gr]using this
   subst this;rfl
  |_=>rfl
 | own q t o T l b cap cs u E hh hs hn hm J Z L=>
  exact .own _ _ _ _ _ _ _ cs u ((hl b (Q b q E)).trans E) hh hs hn hm J (λi h j x C=>L i h j x C (XN D l[i] x (fL C)))
theorem Q0:∀ (xs:aa V) (c:Nat) (σ:S) (ρ:Nat->Loc) (us:aa Value),60000<=c->Rl w0 N ah ρ σ a w->us.length=xs.length->(∀ (j:Nat) x u,xs[j]?=some x->us[j]?=some u->RV w w0.heap.size ah [c+j] x u)->
  ∃ρ',Rl w0 N ah ρ' (fO c σ xs) a w/\(∀r,r<c->ρ' r=ρ r)/\∀(j:Nat) x u,(jO c xs)[j]?=some x->us[j]?=some u->cQ w w0.heap.size ah ρ' x u
 |[],c,σ,ρ,us,_,h,hl,I=>⟨ρ,h,λ_ _=>rfl,λj x u T=>by simp[jO]at T⟩
 | x :: xs,c,σ,ρ,us,hc,h,hl,I=>by
  cases us with
  |nil=>simp at hl
  | cons u us=>
   have J:=I 0 x u rfl rfl;rw[Nat.add_zero]at J;have Z:∀ (j:Nat) L O,xs[j]?=some L->us[j]?=some O->RV w w0.heap.size ah [c+1+j] L O:=λj L O T hu=>by
    have:=I (j+1) L O (by simpa using T) (by simpa using hu);rw[show c+1+j=c+(j+1) by omega];exact this
   cases D:x.aA with
   | true=>
    obtain⟨ρ',U,Q,Y⟩:=Q0 xs (c+1) σ ρ us (by omega) h (by simpa using hl) Z
    refine⟨ρ',?_,λr I=>Q r (by omega),λj y v C E=>?_⟩
    ·simp only[fO,D,ak];exact U
    ·simp only[jO,D,ak]at C;cases j with
     | zero=>
      simp at C E;subst C E;exact⟨D,J.key D⟩
     |succ j=>exact Y j y v (by simpa using C) (by simpa using E)
   | false=>
    have fA:=J.J5 D;obtain⟨ρ',U,Q,Y⟩:=Q0 xs (c+1) _ _ us (by omega) (h.new (d:=c) (x:=.sl x) (.de u) (.sl u x (bO _ _ _) J) (h.dm c (.inr hc))) (by simpa using hl) Z
    refine⟨ρ',?_,λr I=>?_,λj y v C E=>?_⟩
    ·simp only[fO,D,aq];exact U
    ·rw[Q r (by omega)];exact cu _ _ _ (by omega)
    ·simp only[jO,D,aq]at C;cases j with
     | zero=>
      simp at C E;subst C E;refine⟨fA,?_⟩;have:ρ' c = .de u:=by rw[Q c (by omega)];exact bO _ _ _
      simp[cm,this]
     |succ j=>exact Y j y v (by simpa using C) (by simpa using E)
theorem ait(xs:aa V):∀ c,(jO c xs).length=xs.length:=by
 induction xs with
 |nil=>intro c;rfl
 |cons x xs C=>intro c;simp[jO,C]
end
def enters(P:Program)(f:Nat):Prop:=∃fn,P.funcs[f]?=some fn/\(fn.name == "runtime.NumGoroutine")=false/\fn.body.isNone=false
/-! What a function gives back. -/
def Kx:A->aj (Bool×aa Lf)
 |.lf x=>some (false,[x])
 |.agg xs=>some (true,xs)
 |_=>none
def oA{X:Type}(P:Program)(σ:S):aa ResultVar->(aa (Bool×aa Lf)->aj X)->aj X
 |[],k=>k []
 | .tmp t :: rest,k=>(match Kx (σ.t t)with
  |some p=>oA P σ rest λps=>k (p::ps)
  |none=>none)
 | .cell p ty :: rest,k=>iG P σ ty (σ.t p) λx=>(match Kx x with
  |some p=>oA P σ rest λps=>k (p::ps)
  |none=>none)
def Q1(m:Nat->aj aP):Lf->aj (V×aj Nat)
 |.v x=>bif x.loc&&x.aA then some (x,none)else none
 | .own [r]=>match m r with
  |some (.sl y)=>bif y.loc then some (y,some r)else none
  |_=>none
 |_=>none
def Fe(m:Nat->aj aP)(off:Nat):aa Lf->aj (aa V×aa (Nat×Nat))
 |[]=>some ([],[])
 | x :: xs=>match Q1 m x,Fe m (off+1) xs with
  |some (y,none),some (ys,rs)=>some (y::ys,rs)
  |some (y,some r),some (ys,rs)=>some (y::ys,(r,off)::rs)
  |_,_=>none
def Cs(m:Nat->aj aP)(off:Nat):aa (Bool×aa Lf)->aj (aa Pt×aa (Nat×Nat))
 |[]=>some ([],[])
 | p :: ps=>match Fe m off p.2,Cs m (off+p.2.length) ps with
  |some (C,rs),some (D,E)=>some ((p.1,C)::D,rs++E)
  |_,_=>none
def once(rs:aa (Nat×Nat)):Bool:=rs.all λp=>(rs.lookup p.1).any λn=>Nat.beq n p.2
def Ff{X:Type}(P:Program)(σ:S)(fn:Array ResultVar)(k:fS->aj X):aj X:=
 oA P σ fn.toList λps=>match Cs σ.m 0 ps with
  | some (qs,rs)=>bif once rs then (match qs with
   |[p]=>k (.one p)
   |qs=>k (.ct qs))else none
  |none=>none
section
variable {P:Program} {w w':World} {w0:Wd} {B N:Nat} {ah aD:bA} {ρ ρ':Nat->Loc} {σ:S} {a:Act} {X:Type} {d:Nat} {r:X} {o:Oper}
theorem XO:∀ (xs:aa V) (c:Nat) (j:Nat) x u,(jO c xs)[j]?=some x->cQ w B ah ρ x u->(∀ r,r<c+xs.length->ρ' r=ρ r)->cQ w B ah ρ' x u
 |[],c,j,x,u,C,_,_=>by simp[jO]at C
 | y :: ys,c,j,x,u,C,D,E=>by
  cases j with
  | zero=>
   simp only[jO,List.getElem?_cons_zero,fh]at C;subst C;cases I:y.aA with
   |true=>rw[I,ak]at D;simp only[ak];exact D
   | false=>
    rw[I,aq]at D;simp only[aq];refine⟨D.1,?_⟩;have:=D.2;simp only[cm,E c (by simp)]at this ⊢;exact this
  | succ j=>
   simp only[jO,List.getElem?_cons_succ]at C;exact XO ys (c+1) j x u C D (λr h=>E r (by simp;omega))
theorem PV.cells{key:Nat->aa Nat}{p:Pt}{u:Value}(h:PV w B ah key p u):∃ us:aa Value,us.length=p.2.length/\(∀ (j:Nat) x v,p.2[j]?=some x->us[j]?=some v->RV w B ah (key j) x v)/\
  ∀(ρ:Nat->Loc) (C:aa Lf),C.length=p.2.length->(∀(j:Nat) x v,C[j]?=some x->us[j]?=some v->cQ w B ah ρ x v)->RP w B ah ρ (p.1,C) u:=by
 obtain⟨us,D,I,Q⟩:=h;obtain⟨b,xs⟩:=p
 refine⟨us.toList,by simpa using I,λj x v E J=>?_,λρ C hl T=>?_⟩
 ·obtain⟨U,Y,Z⟩:=Q j x E;have:U=v:=by
   rw[kX]at J;rw[Y]at J;injection J
  subst this;exact Z
 ·have L:dg w B ah ρ C us:=⟨by rw[I,hl],λj x E=>by
   have O:j<us.size:=by rw[I,<-hl];exact(c7.1 E).1
   exact⟨us[j],Array.getElem?_eq_getElem O,T j x _ E (by rw[kX,Array.getElem?_eq_getElem O])⟩⟩
  cases b with
  |true=>exact⟨us,D,L⟩
  |false=>have D:us = #[u]:=D;subst D;exact L
theorem Fg:∀ (ps:aa Pt) (c0 off:Nat) (σ:S) (ρ:Nat->Loc) (C:aa Value),60000<=c0->Rl w0 N ah ρ σ a w->jb w w0.heap.size ah (λn=>c0+n) off ps C->
  ∃ρ',Rl w0 N ah ρ' (iK (c0+off) σ ps) a w/\(∀r,r<c0+off->ρ' r=ρ r)/\C.length=(kN (c0+off) ps).length/\∀(i:Nat) p v,(kN (c0+off) ps)[i]?=some p->C[i]?=some v->RP w w0.heap.size ah ρ' p v
 | [],c0,off,σ,ρ,C,_,h,D=>by
  cases C with
  |nil=>exact⟨ρ,h,λ_ _=>rfl,rfl,λi p v L=>by simp[kN]at L⟩
  |cons v C=>exact D.elim
 | p :: ps,c0,off,σ,ρ,C,U,h,D=>by
  cases C with
  |nil=>exact D.elim
  | cons v C=>
   obtain⟨⟨_,L⟩,D⟩:=D;obtain⟨us,hl,Y,Z⟩:=L.cells;obtain⟨Ct,h1,Q2,zH⟩:=Q0 p.2 (c0+off) σ ρ us (by omega) h hl (λj x u I E=>by
    have:RV w w0.heap.size ah [c0+(off+j)] x u:=Y j x u I E;rw[<-Nat.add_assoc]at this;exact this)
   obtain⟨dZ,Q,O,hlen,T⟩:=Fg ps c0 (off+p.2.length) (fO (c0+off) σ p.2) Ct C U h1 D;rw[<-Nat.add_assoc]at Q O hlen T
   refine⟨dZ,Q,λr D=>(O r (by omega)).trans (Q2 r D),by simp[kN,hlen],λi q u J E=>?_⟩
   cases i with
   | zero=>
    simp only[kN,List.getElem?_cons_zero,fh]at J E;subst J E
    refine Z dZ _ (ait _ _) (λj x u I E=>XO p.2 (c0+off) j x u I (zH j x u I E) O)
   | succ i=>
    simp only[kN,List.getElem?_cons_succ]at J E;exact T i q u J E
theorem jb.home{nm:Nat->Nat}:∀ (ps:aa Pt) (off:Nat) (C:aa Value) {B':Nat},jb w B ah nm off ps C->B'<=B->(∀ b,B<=b->aD b=ah b)->(∀ b k,ah b=some k->B<=b)->jb w B' aD nm off ps C
 |[],_,[],_,h,_,_,_=>h
 |[],_,_::_,_,h,_,_,_=>h
 |_::_,_,[],_,h,_,_,_=>h
 | p :: ps,off,v :: C,B',h,hB,hl,D=>by
  obtain⟨⟨E,us,J,L,O⟩,Q⟩:=h
  refine⟨⟨E,us,J,L,λj x I=>?_⟩,jb.home ps _ C Q hB hl D⟩
  obtain⟨T,U,Y⟩:=O j x I;exact⟨T,U,Y.home hB hl D (cv.1 E x (fL I))⟩
theorem Ky(w:World)(o:Oper)(a:Act)(f:Nat)(args:Array Operand)(D:Array TypeId)(E:o.op = .call { callee:=.value (.func f),args,argTypes:=D })(I:enters P f):(execOp a.eval o).run P w = .ok (.enter f (args.map a.eval)) w:=by
 obtain⟨fn,J,L,C⟩:=I;have O:¬ fn.name = "runtime.NumGoroutine":=by simpa using L
 have Q:¬ fn.body=none:=by intro e;rw[e]at C;cases C
 simp[execOp,E,resolve,Act.eval,Deferred.ofValue,invoke,callFunc,eC,Sem.run,program,J,O,Q]
theorem XP{f:Nat}{args:Array Operand}{gW:Array TypeId}{c:jc}{k:S->aj X}(ho:o.op = .call { callee:=.value (.func f),args,argTypes:=gW })(hd:o.dst=some d)(he:enters P f)(hc:iJ P f c)(Cu:d<N){ps:aa Pt}(kO:∀ ah ρ a w,Rl w0 N ah ρ σ a w->tA w ps (args.toList.map a.eval).toArray)
  (h2:(c.run X ps λres=>(match res with
  | .one p=>(match qg (p.1,jO (1000000000100000+1000*d) p.2)with
   |some y=>k ((fO (1000000000100000+1000*d) σ p.2).set d y)
   |none=>none)
  |.ct ps=>k ((iK (1000000000100000+1000*d) σ ps).set d (.ct (kN (1000000000100000+1000*d) ps)))))=some r):∃dG,k dG=some r/\lA P w0 N o σ dG:=by
 obtain⟨res,I,_,Fh⟩:=hc X ps _ r h2;have step:∀ a w K Q ah ρ,Rl w0 N ah ρ σ a w->(∀ v w' aD,Below w.heap.size w w'->Rl w0 N aD ρ σ a w'->qj w' w0.heap.size aD (λn=>1000000000100000+1000*d+n) res v->K (a.put o.dst v) w')->o.wp P a w K Q:=by
  intro a w K Q ah ρ hR J;unfold Oper.wp;rw[Ky w o a f args gW ho he,Oper.upon_enter];have uV:(args.map a.eval)=(args.toList.map a.eval).toArray:=by apply Array.ext';rw[Array.toList_map]
  rw[uV]
  refine(Fh (λn=>1000000000100000+1000*d+n) w _ (kO ah ρ a w hR) (w0.on hR.below (λ_ _ h=>by cases h))).mono λe w' qm=>?_
  obtain⟨v,Cv,rfl,L,O,D⟩:=qm;have hB:=hR.below.size;let cW:bA:=λb=>if b<w.heap.size then ah b else Cv b
  have e1:∀b,b<w.heap.size->cW b=ah b:=λb hb=>bk hb
  have T:∀b,w.heap.size<=b->cW b=Cv b:=λb hb=>bB (by omega)
  refine J v w' cW L (hR.grow L e1 (λb k hb E=>?_)) ?_
  ·rw[T b hb]at E;exact(O b k E).2
  ·cases res with
   |one p=>exact jb.home [p] 0 [v] D hB T (λb k E=>(O b k E).1)
   | ct U=>
    obtain⟨C,e,Y⟩:=D;exact⟨C,e,jb.home U 0 C.toList Y hB T (λb k E=>(O b k E).1)⟩
 cases res with
 | one p=>
  simp only at I;split at I
  ·rename_i y hy
   refine⟨_,I,λa w K Q hR J=>?_⟩
   obtain⟨ah,ρ,hR⟩:=hR
   refine step a w K Q ah ρ hR λv w' aD L Z D=>?_
   obtain⟨ρ',jP,_,_,pq⟩:=Fg [p] (1000000000100000+1000*d) 0 σ ρ [v] (by omega) Z D;rw[hd];have Q3:=pq 0 _ v rfl rfl;exact J _ _ ⟨aD,ρ',jP.set (Qu hy Q3) Cu⟩
  ·cases I
 | ct U=>
  refine⟨_,I,λa w K Q hR J=>?_⟩
  obtain⟨ah,ρ,hR⟩:=hR
  refine step a w K Q ah ρ hR λv w' aD L Z D=>?_
  obtain⟨C,rfl,Y⟩:=D;obtain⟨ρ',jP,_,hlen,pq⟩:=Fg U (1000000000100000+1000*d) 0 σ ρ C.toList (by omega) Z Y;rw[hd]
  refine J _ _ ⟨aD,ρ',jP.set ⟨C,rfl,by simpa using hlen,λj p hp=>?_⟩ Cu⟩
  have hj:j<C.size:=by
   have:=(c7.1 hp).1;rw[Nat.add_zero]at hlen;rw[<-hlen]at this
   simpa using this
  exact⟨C[j],Array.getElem?_eq_getElem hj,pq j p _ hp (by rw[kX,Array.getElem?_eq_getElem hj])⟩
theorem aiu{f:Nat}{args:Array Operand}{E:Array TypeId}{c:jc}{k:S->aj X}(I:o.op = .call { callee:=.value (.func f),args,argTypes:=E })(J:o.dst=some d)(L:enters P f)(O:iJ P f c)(h:uT N σ d c args.toList k=some r):∃ D,k D=some r/\lA P w0 N o σ D:=by
 unfold uT at h;cases C:Nat.blt d N with
 |false=>rw[C]at h;cases h
 | true=>
  rw[C,ak]at h;obtain⟨ps,Q,T⟩:=QZ (w0:=w0) (N:=N) _ _ h;exact XP I J L O (cB C) T Q
theorem aiv{f:Nat}{args:Array Operand}{E:Array TypeId}{c:jc}{k:S->aj X}(I:o.op = .call { callee:=.value (.func f),args,argTypes:=E })(J:o.dst=some d)(L:enters P f)(O:iJ P f c)(h:qk N σ d c args.toList k=some r):∃ D,k D=some r/\lA P w0 N o σ D:=by
 unfold qk at h;cases C:Nat.blt d N with
 |false=>rw[C]at h;cases h
 | true=>
  rw[C,ak]at h;obtain⟨ps,Q,T⟩:=XM (w0:=w0) (N:=N) _ _ h;exact XP I J L O (cB C) T Q
end
def eA(ah:bA)(rs:aa (Nat×Nat))(nm:Nat->Nat):bA:=λb=>
 match ah b with
 |none=>none
 | some k=>match k.getLast? with
  |none=>none
  |some r=>(rs.lookup r).map λn=>k.dropLast++[nm n]
section
variable {P:Program} {w w':World} {w0:Wd} {B N:Nat} {ah aD:bA} {ρ ρ':Nat->Loc} {σ:S} {a:Act} {X:Type} {d:Nat} {r:X} {rs:aa (Nat×Nat)} {nm:Nat->Nat}
theorem RV.Fi{q:aa Nat}{x:V}{v:Value}(h:RV w B ah q x v)(L:x.aA=true)(hl:∀ b,ah b=none->aD b=none):RV w B aD q x v:=by
 induction h with
 |int=>exact .int _ _ _
 |bool=>exact .bool _ _
 |str=>exact .str _ _
 |nil=>exact .nil _
 |cG=>exact .cG _ _ _
 |cL=>exact .cL _ _ _ _ _ (by first|assumption|omega)
 |cV=>exact .cV _ _ _ _ _ (by first|assumption|omega)
 | aA q t o O l b off cap u C D hb Q T E U I=>
  exact .aA _ _ _ _ _ _ _ _ u C (hl b D) hb Q T E (λi h j x J=>I i h j x J (jr t o l[i] C j x J))
 |own q t o O l b cap cs u D Y Z hn hm E U I=>simp[V.aA]at L;omega
theorem uW{b:Nat}(h:ah b=none):eA ah rs nm b=none:=by simp[eA,h]
theorem RV.eA{p:aa Nat}{r n:Nat}{x:V}{v:Value}(h:RV w B ah (p++[r]) x v)(O:rs.lookup r=some n):RV w B (eA ah rs nm) (p++[nm n]) x v:=by
 generalize Q:p++[r]=q at h
 induction h generalizing p with
 |int=>exact .int _ _ _
 |bool=>exact .bool _ _
 |str=>exact .str _ _
 |nil=>exact .nil _
 |cG=>exact .cG _ _ _
 |cL=>exact .cL _ _ _ _ _ (by first|assumption|omega)
 |cV=>exact .cV _ _ _ _ _ (by first|assumption|omega)
 | aA q t o T l b off cap u I D hb U Y E J L=>
  exact .aA _ _ _ _ _ _ _ _ u I (uW D) hb U Y E (λi h j x C=>(J i h j x C).Fi (jr t o l[i] I j x C) (λb=>uW))
 | own q t o T l b cap cs u D Z hs hn hm E J L=>
  subst Q
  refine .own _ _ _ _ _ _ _ cs u ?_ Z hs hn hm E (λi h j x C=>L i h j x C (p:=j::i::aC t::p) rfl)
  simp[Proofs.YtglnbhiaknohlaaGreat.eA,D,O]
theorem Q4{m:Nat->aj aP}:∀ (xs:aa Lf) (off:Nat) (ys:aa V) (Q:aa (Nat×Nat)),Fe m off xs=some (ys,Q)->ys.length=xs.length/\∀ (j:Nat) x,xs[j]?=some x->∃ y,ys[j]?=some y/\y.loc=true/\((x = .v y/\y.aA=true)\/∃ r,x = .own [r]/\m r=some (.sl y)/\(r,off+j)∈Q)
 | [],off,ys,Q,h=>by
  simp only[Fe,fh,gT]at h;obtain⟨rfl,rfl⟩:=h;exact⟨rfl,λj x D=>by simp at D⟩
 | x :: xs,off,ys,Q,h=>by
  have hc:∀ y z,Q1 m x=some (y,z)->y.loc=true/\((z=none/\x = .v y/\y.aA=true)\/∃ r,z=some r/\x = .own [r]/\m r=some (.sl y)):=by
   intro y z C;unfold Q1 at C;split at C
   ·rename_i E;cases hl:(E.loc&&E.aA)with
    |false=>rw[hl]at C;cases C
    | true=>
     rw[hl,ak]at C;simp only[fh,gT]at C;obtain⟨rfl,rfl⟩:=C;rw[aK]at hl;exact⟨hl.1,.inl ⟨rfl,rfl,hl.2⟩⟩
   ·rename_i r;split at C
    ·rename_i I J;cases hl:I.loc with
     |false=>rw[hl]at C;cases C
     | true=>
      rw[hl,ak]at C;simp only[fh,gT]at C;obtain⟨rfl,rfl⟩:=C;exact⟨hl,.inr ⟨r,rfl,rfl,J⟩⟩
    ·cases C
   ·cases C
  unfold Fe at h;split at h
  ·rename_i y T U Y Z;simp only[fh,gT]at h;obtain⟨rfl,rfl⟩:=h;obtain⟨h1,h2⟩:=Q4 xs (off+1) T U Z
   refine⟨by simp[h1],λj E D=>?_⟩
   cases j with
   | zero=>
    simp at D;subst D;obtain⟨hl,C|⟨r,C,_⟩⟩:=hc y none Y
    ·exact⟨y,rfl,hl,.inl C.2⟩
    ·cases C
   | succ j=>
    obtain⟨I,J,hl,C⟩:=h2 j E (by simpa using D)
    refine⟨I,by simpa using J,hl,C.imp id λ⟨r,L,O,e3⟩=>⟨r,L,O,by rw[show off+(j+1)=off+1+j by omega];exact e3⟩⟩
  ·rename_i y r T U Y Z;simp only[fh,gT]at h;obtain⟨rfl,rfl⟩:=h;obtain⟨h1,h2⟩:=Q4 xs (off+1) T U Z
   refine⟨by simp[h1],λj E D=>?_⟩
   cases j with
   | zero=>
    simp at D;subst D;obtain⟨hl,C|⟨r',C,L,O⟩⟩:=hc y (some r) Y
    ·cases C.1
    ·injection C with C;subst C;exact⟨y,rfl,hl,.inr ⟨r,L,O,.head _⟩⟩
   | succ j=>
    obtain⟨I,J,hl,C⟩:=h2 j E (by simpa using D)
    refine⟨I,by simpa using J,hl,C.imp id λ⟨r,L,O,e3⟩=>⟨r,L,O,by rw[show off+(j+1)=off+1+j by omega];exact .tail _ e3⟩⟩
  ·cases h
theorem Q5{m:Nat->aj aP}(hm:∀ r x,m r=some x->dH w B ah ρ r x):∀ (ps:aa (Bool×aa Lf)) (off:Nat) (J:aa Pt) (L:aa (Nat×Nat)) (C:aa Value),Cs m off ps=some (J,L)->(∀ p∈L,rs.lookup p.1=some p.2)->C.length=ps.length->
  (∀(i:Nat) p v,ps[i]?=some p->C[i]?=some v->RP w B ah ρ p v)->jb w B (eA ah rs nm) nm off J C
 | [],off,J,L,C,h,_,hl,_=>by
  have:C=[]:=List.eq_nil_of_length_eq_zero hl;subst this;simp only[Cs,fh,gT]at h;obtain⟨rfl,rfl⟩:=h;trivial
 | p :: ps,off,J,L,C,h,mX,hl,hp=>by
  cases C with
  |nil=>simp at hl
  | cons v C=>
   unfold Cs at h;split at h
   ·rename_i ys rs1 qs' rs2 h1 h2;simp only[fh,gT]at h;obtain⟨rfl,rfl⟩:=h;obtain⟨hlen,JN⟩:=Q4 _ _ _ _ h1;have Cn:=Q5 hm ps _ qs' rs2 C h2 (λq U=>mX q (List.mem_append_right _ U)) (by simpa using hl) (λi q u U Y=>hp (i+1) q u (by simpa using U) (by simpa using Y));have xl:=hp 0 p v rfl rfl;have key:∀ us:Array Value,dg w B ah ρ p.2 us->(us.size=ys.length/\∀ (j:Nat) x,ys[j]?=some x->∃ u,us[j]?=some u/\RV w B (eA ah rs nm) [nm (off+j)] x u):=by
     intro us O
     refine⟨by rw[hlen];exact O.1,λj y Q=>?_⟩
     have I:j<p.2.length:=by rw[<-hlen];exact(c7.1 Q).1
     obtain⟨y',D,Fj,hz⟩:=JN j _ (bK I);rw[Q]at D;injection D with D;subst D;obtain⟨u,Y,T⟩:=O.2 j _ (bK I);refine⟨u,Y,?_⟩;rcases hz with ⟨e,hf⟩|⟨r,e,hmr,xm⟩
     ·rw[e]at T;exact(T.2.Fi hf (λb=>uW)).key hf
     ·rw[e]at T;have iz:=hm r _ hmr;generalize E:aP.sl y=z at iz;cases iz with
      |ax=>cases E
      |mp=>cases E
      |gh=>cases E
      | sl v' y' di kI=>
       injection E with E;subst E;have Fk:v'=u:=by
        have h4:=T.2;simp only[cm,di]at h4;injection h4
       subst Fk;exact RV.eA (p:=[]) kI (mX (r,off+j) (List.mem_append_left _ xm))
    refine⟨⟨?_,?_⟩,?_⟩
    ·rw[cv];intro y Q;obtain⟨j,I⟩:=List.mem_iff_getElem?.1 Q;have uI:j<p.2.length:=by rw[<-hlen];exact(c7.1 I).1
     obtain⟨y',D,Fj,_⟩:=JN j _ (bK uI);rw[I]at D;injection D with D;subst D;exact Fj
    ·obtain⟨b,xs⟩:=p;cases b with
     | true=>
      obtain⟨us,e,O⟩:=xl;obtain⟨Z,k2⟩:=key us O;exact⟨us,e,Z,k2⟩
     | false=>
      obtain⟨Z,k2⟩:=key #[v] xl;exact⟨#[v],rfl,Z,k2⟩
    ·rw[hlen];exact Cn
   ·cases h
theorem aiw{t:TypeId}{x:A}{k:A->aj X}(h:iG P σ t x k=some r){u:Value}(C:RA w B ah ρ x u):∃ ad,u = .pointer (some ad):=by
 unfold iG at h;split at h
 ·cases h
 ·split at h
  ·obtain⟨b,off,_,rfl⟩:=C;exact⟨_,rfl⟩
  ·obtain⟨b,off,rfl,_⟩:=C;exact⟨_,rfl⟩
  ·obtain⟨ad,rfl,_⟩:=C;exact⟨_,rfl⟩
  ·cases h
theorem XQ{x:A}{p:Bool×aa Lf}(h:Kx x=some p){u:Value}(D:RA w B ah ρ x u):RP w B ah ρ p u:=by
 unfold Kx at h;split at h
 ·injection h with h;subst h
  refine⟨rfl,λj y C=>?_⟩
  cases j with
  |zero=>simp at C;subst C;exact⟨u,rfl,D⟩
  |succ j=>simp at C
 ·injection h with h;subst h;exact D
 ·cases h
def qp(tmps:Array Value):ResultVar->Sem Value
 |.tmp t=>pure (tmps.getD t undef)
 |.cell a t=>do loadVar t (<-asAddr (tmps.getD a undef))
theorem Fl:∀ (l:aa ResultVar) (k:aa (Bool×aa Lf)->aj X),oA P σ l k=some r->∃ ps,k ps=some r/\∀ ah ρ a w,Rl w0 N ah ρ σ a w->∃ C,(l.mapM (qp a.tmps)).run P w = .ok C w/\C.length=ps.length/\∀ (i:Nat) p v,ps[i]?=some p->C[i]?=some v->RP w w0.heap.size ah ρ p v
 |[],k,h=>⟨[],h,λ_ _ _ _ _=>⟨[],rfl,rfl,λi p v I=>by simp at I⟩⟩
 | .tmp t :: rest,k,h=>by
  simp only[oA]at h;split at h
  ·rename_i p I;obtain⟨ps,L,O⟩:=Fl rest _ h
   refine⟨p::ps,L,λah ρ a w hR=>?_⟩
   obtain⟨C,Q,hl,T⟩:=O ah ρ a w hR
   refine⟨a.tmps.getD t undef::C,?_,by simp[hl],λi q u D E=>?_⟩
   ·rw[List.mapM_cons,eC];simp only[qp,Sem.run_pure,iD,eC,Q]
   ·cases i with
    |zero=>simp only[List.getElem?_cons_zero,fh]at D E;subst D E;exact XQ I (hR.tmp t)
    |succ i=>exact T i q u (by simpa using D) (by simpa using E)
  ·cases h
 | .cell c ty :: rest,k,h=>by
  simp only[oA]at h;obtain⟨y,U,Z⟩:=Xc (w0:=w0) (N:=N) h;split at U
  ·rename_i p I;obtain⟨ps,L,O⟩:=Fl rest _ U
   refine⟨p::ps,L,λah ρ a w hR=>?_⟩
   obtain⟨C,Q,hl,T⟩:=O ah ρ a w hR;obtain⟨v,J,uS⟩:=Z ah ρ a w hR _ (hR.tmp c);obtain⟨ad,Y⟩:=aiw h (hR.tmp c);rw[Y]at J;have J:(loadVar ty ad).run P w = .ok v w:=by
    simpa [Instr.loadAt,Instr.sureAddr]using J
   refine⟨v::C,?_,by simp[hl],λi q u D E=>?_⟩
   ·rw[List.mapM_cons,eC];simp only[qp,Y,asAddr,Sem.run_pure,iD,eC,Q,J]
   ·cases i with
    |zero=>simp only[List.getElem?_cons_zero,fh]at D E;subst D E;exact XQ I uS
    |succ i=>exact T i q u (by simpa using D) (by simpa using E)
  ·cases U
theorem aix{fn:Func}{k:fS->aj X}(h:Ff P σ fn.results k=some r):∃ res,k res=some r/\∀ ah ρ a w,Rl w0 N ah ρ σ a w->∀ nm,∃ v aD,(results fn a.tmps).run P w = .ok v w/\(∀ b k,aD b=some k->(w0.heap.size<=b\/w0.L b≠none)/\b<w.heap.size/\k≠[])/\qj w w0.heap.size aD nm res v:=by
 unfold Ff at h;obtain⟨ps,I,pq⟩:=Fl (w0:=w0) (N:=N) _ _ h;clear h;split at I
 ·rename_i O rs Q6;cases Q:once rs with
  |false=>rw[Q]at I;cases I
  | true=>
   rw[Q,ak]at I;have mX:∀ p∈rs,rs.lookup p.1=some p.2:=by
    intro p hp;have:=cv.1 Q p hp;obtain⟨n,hn,he⟩:=(Option.any_eq_true _ _).1 this;rw[hn,bQ he]
   have core:∀ ah ρ a w,Rl w0 N ah ρ σ a w->∀ nm:Nat->Nat,∃ C:aa Value,(fn.results.mapM (qp a.tmps)).run P w = .ok C.toArray w/\(∀ b k,eA ah rs nm b=some k->(w0.heap.size<=b\/w0.L b≠none)/\b<w.heap.size/\k≠[])/\jb w w0.heap.size (eA ah rs nm) nm 0 O C:=by
    intro ah ρ a w hR nm;obtain⟨C,J,hl,hv⟩:=pq ah ρ a w hR
    refine⟨C,?_,λb k E=>?_,Q5 hR.root ps 0 O rs C Q6 mX hl hv⟩
    ·rw[Array.mapM_eq_mapM_toList];simp[J]
    ·unfold eA at E;split at E
     ·cases E
     ·rename_i k' nI;have:=hR.cH b k' nI;split at E
      ·cases E
      ·cases Y:rs.lookup _ with
       |none=>rw[Y]at E;cases E
       | some n=>
        rw[Y]at E;injection E with E;subst E;exact⟨this.1,this.2.1,by simp⟩
   have Z:∀ (tmps:Array Value),results fn tmps=(do let C <-fn.results.mapM (qp tmps);pure (if h:C.size=1 then C[0]else .tuple C)):=λtmps=>by
    unfold results;congr 1
   split at I
   ·rename_i p
    refine⟨_,I,λah ρ a w hR nm=>?_⟩
    obtain⟨C,J,T,D⟩:=core ah ρ a w hR nm
    match C,D with
    |[v],D=>exact⟨v,_,by rw[Z,eC,J];rfl,T,D⟩
    |[],D=>exact D.elim
    |_::_::_,D=>exact D.2.elim
   ·rename_i U
    refine⟨_,I,λah ρ a w hR nm=>?_⟩
    obtain⟨C,J,T,D⟩:=core ah ρ a w hR nm;have fE:C.toArray.size≠1:=by
     intro e
     match O,C,D,U with
     |[q],[v],_,U=>exact U q rfl
     |[],[v],D,_=>exact D.elim
     |_::_::_,[v],D,_=>exact D.2.elim
    refine⟨.tuple C.toArray,_,?_,T,C.toArray,rfl,D⟩;rw[Z,eC,J,iD];simp only[fE,dif_neg,not_false_eq_true,Sem.run_pure]
 ·cases I
end
inductive In where
 |ax (cs:List V)
 |sl (y:V)
def nF(i:Nat):Nat:=20000+1000*i
def nC(i j:Nat)(x:V):Nat:=bif x.aA then 20001+1000*i+j else 60000+1000*i+j
def xo(i j:Nat)(x:V):Lf:=bif x.plain then .v x else .own [nC i j x]
def xq(i:Nat):Nat->aa V->aa Lf
 |_,[]=>[]
 |j,x::xs=>xo i j x::xq i (j+1) xs
def Kz(i:Nat):Nat->aa V->(Nat->aj aP)->(Nat->aj aP)
 |_,[],m=>m
 |j,x::xs,m=>Kz i (j+1) xs (bif x.plain then m else bL m (nC i j x) (some (.sl x)))
def KA:Nat->aa In->(Nat->aj aP)->(Nat->aj aP)
 |_,[],m=>m
 |i,.ax cs::r,m=>KA (i+1) r (Kz i 0 cs (bL m (nF i) (some (.ax (xq i 0 cs)))))
 |i,.sl y::r,m=>KA (i+1) r (bL m (nF i) (some (.sl y)))
inductive Ar where
 |pt (p:Pt)
 |mut (i off:Nat)
def KB(C:aa In):Ar->A
 |.pt (false,[x])=>.lf (.v x)
 |.pt (true,xs)=>.agg (xs.map .v)
 |.pt (false,.bool false::.int .i64 g::c::cs)=>.ko g.toNat (c::cs)
 |.pt _=>.undef
 | .mut i off=>match C[i]? with
  |some (.ax _)=>.aH (nF i) off
  |some (.sl _)=>.lf (.own [nF i])
  |none=>.undef
def tC(C:aa In)(args:aa Ar):S:=⟨λk=>match args[k]? with
 |some x=>KB C x
 |none=>.undef,KA 0 C (λ_=>none)⟩
def qq(w w':World)(aD:bA)(ρ:Nat->Loc)(nm:Nat->Nat):Nat->Nat->aa In->aa In->Prop
 |_,_,[],[]=>True
 | i,D,.ax cs :: r,.ax eM :: I=>(∃ b off cells J e O,ρ (nF i) = .ax b off/\w.heap[b]?=some (.cells cells e (0,0))/\w'.heap[b]?=some (.cells J O (0,0))/\aD b=some [nm D]/\off+eM.length<=J.size/\eM.length=cs.length/\
   ∀(j:Nat) C,eM[j]?=some C->∃u,J[off+j]?=some u/\((C.plain=true/\∀(w:World) (B:Nat) (ah:bA) (q:aa Nat),RV w B ah q C u)\/(C = .nil/\u = .slice none 0 0/\∃E,cs[j]?=some E/\E.aA=false)\/(C.plain=false/\C.aA=true/\C.jK=true/\(∃E,cs[j]?=some E/\Wk E C)/\cells[off+j]?=some u)\/(C.aA=false/\RV w' w.heap.size aD [nm (D+1+j)] C u)))/\
   qq w w' aD ρ nm (i+1) (D+1+cs.length) r I
 |i,D,.sl y::r,.sl L::I=>(L = .nil\/∃v,ρ (nF i) = .de v/\RV w' w.heap.size aD [nm D] L v)/\qq w w' aD ρ nm (i+1) (D+1) r I
 |_,_,_,_=>False
def Fm(w w':World)(aD:bA)(ρ:Nat->Loc)(nm:Nat->Nat):Nat->Nat->aa In->aa In->Prop
 |_,_,[],[]=>True
 | i,D,.ax cs :: r,.ax eM :: E=>(∃ b off cells I e L,ρ (nF i) = .ax b off/\w.heap[b]?=some (.cells cells e (0,0))/\w'.heap[b]?=some (.cells I L (0,0))/\aD b=some [nm D]/\off+eM.length<=I.size/\eM.length=cs.length/\
   ∀(j:Nat) C,eM[j]?=some C->∃u,I[off+j]?=some u/\((C.plain=true/\∀(w:World) (B:Nat) (ah:bA) (q:aa Nat),RV w B ah q C u)\/(C.plain=false/\C.aA=true/\cells[off+j]?=some u)\/(C.aA=false/\RV w' w.heap.size aD [nm (D+1+j)] C u)))/\
   Fm w w' aD ρ nm (i+1) (D+1+cs.length) r E
 |i,D,.sl y::r,.sl J::E=>(J = .nil\/∃v,ρ (nF i) = .de v/\RV w' w.heap.size aD [nm D] J v)/\Fm w w' aD ρ nm (i+1) (D+1) r E
 |_,_,_,_=>False
def fS.len:fS->Nat
 |.one p=>p.2.length
 |.ct ps=>(ps.map λp=>p.2.length).sum
def oB(w:World)(B:Nat)(ah:bA)(ρ:Nat->Loc):Nat->aa In->Prop
 |_,[]=>True
 |i,.ax cs::r=>dH w B ah ρ (nF i) (.ax (xq i 0 cs))/\(∀(j:Nat) x,cs[j]?=some x->x.plain=false->dH w B ah ρ (nC i j x) (.sl x))/\oB w B ah ρ (i+1) r
 |i,.sl y::r=>dH w B ah ρ (nF i) (.sl y)/\oB w B ah ρ (i+1) r
/-! The end: what is given back,and what the written parameters hold. -/
def Q7(m:Nat->aj aP)(i j:Nat)(C:V):Lf->aj (V×aj Nat)
 |.v x=>bif x.plain then some (x,none)else (bif !x.jK && !C.aA then some (.nil,none)else none)
 | .own [r]=>match m r with
  |some (.sl y)=>bif y.aA then (bif !C.plain&&(C.aA&&C.jK)&&Nat.beq r (20001+1000*i+j)&&Nat.blt r 60000 then some (C,none)else none)else (bif y.loc then some (y,some r)else none)
  |_=>none
 |_=>none
def zI(m:Nat->aj aP)(i C:Nat):Nat->aa V->aa Lf->aj (aa V×aa (Nat×Nat))
 |_,[],[]=>some ([],[])
 | j,D :: xs,l :: E=>match Q7 m i j D l,zI m i C (j+1) xs E with
  |some (y,none),some (ys,rs)=>some (y::ys,rs)
  |some (y,some r),some (ys,rs)=>some (y::ys,(r,C+1+j)::rs)
  |_,_=>none
 |_,_,_=>none
def V.gone:V->Bool
 |.sl _ o _ _=>Nat.ble 1000000 o
 |_=>false
def xu(m:Nat->aj aP):Nat->Nat->aa In->aj (aa In×aa (Nat×Nat))
 |_,_,[]=>some ([],[])
 | i,C,.ax cs :: r=>match bif Nat.blt (nF i) 60000 then m (nF i)else none with
  | some (.ax I)=>match zI m i C 0 cs I,xu m (i+1) (C+1+cs.length) r with
   |some (eM,rs),some (os,D)=>some (.ax eM::os,(nF i,C)::(rs++D))
   |_,_=>none
  |_=>none
 | i,C,.sl J :: r=>bif J.gone then (match xu m (i+1) (C+1) r with
   |some (os,D)=>some (.sl .nil::os,D)
   |none=>none)else match bif Nat.blt (nF i) 60000 then m (nF i)else none with
  | some (.sl E)=>bif E.loc && !E.aA then (match xu m (i+1) (C+1) r with
   |some (os,D)=>some (.sl E::os,(nF i,C)::D)
   |none=>none)else none
  |_=>none
def Fo{X:Type}(P:Program)(σ:S)(fn:Array ResultVar)(C:aa In)(k:aa In->fS->aj X):aj X:=
 oA P σ fn.toList λps=>match Cs σ.m 0 ps with
  | some (qs,rs)=>match xu σ.m 0 (qs.map λp=>p.2.length).sum C with
   | some (os,D)=>bif once (rs++D)then (match qs with
    |[p]=>k os (.one p)
    |qs=>k os (.ct qs))else none
   |none=>none
  |none=>none
/-! Types of parameters and results. -/
def jQ:aa (Bool×TC×Nat)->Type
 |[]=>af
 |[(_,t,_)]=>T t
 |(_,t,_)::r=>T t×jQ r
def r9:(l:aa (Bool×TC×Nat))->jQ l->aa Pt
 |[],_=>[]
 |[(b,t,g)],x=>[(b,enc t g x)]
 |(b,t,g)::q::r,x=>(b,enc t g x.1)::r9 (q::r) x.2
def mc:(l:aa (Bool×TC×Nat))->aa Pt->aj (jQ l)
 |[],[]=>some ()
 |[(b,t,g)],[(C,D)]=>bif b==C then dec t g D else none
 | (b,t,g) :: q :: r,(C,D) :: ps=>bif b==C then (match dec t g D,mc (q :: r) ps with
  |some x,some xs=>some (x,xs)
  |_,_=>none)else none
 |_,_=>none
def mY(l:aa (Bool×TC×Nat)):fS->aj (jQ l)
 |.one p=>mc l [p]
 |.ct ps=>bif Nat.beq ps.length 1 then none else mc l ps
def eI(l:aa (Bool×TC×Nat))(x:jQ l):fS:=
 match r9 l x with
 |[p]=>.one p
 |ps=>.ct ps
inductive PK where
 |v (b:Bool) (t:TC)
 |p (t:TC) (g off:Nat)
 |s (t:TC) (g:Nat)
def lF:aa PK->Type
 |[]=>af
 |.v _ t::r=>T t×lF r
 |.p t _ _::r=>T t×lF r
 |.s t _::r=>aa (T t)×lF r
def sg:aa (Bool×TC×Nat)->Type
 |[]=>af
 |(true,t,_)::r=>T t×sg r
 |(false,t,_)::r=>aa (T t)×sg r
def gX:(l:aa (Bool×TC×Nat))->sg l->aa In
 |[],_=>[]
 |(true,t,g)::r,x=>.ax (enc t g x.1)::gX r x.2
 |(false,t,g)::r,x=>.sl (bif Nat.ble 1000000 g then .nil else .sl t (g+2) false x.1)::gX r x.2
def eE:aa PK->aa (Bool×TC×Nat)
 |[]=>[]
 |.v _ _::r=>eE r
 |.p t g _::r=>(true,t,g)::eE r
 |.s t g::r=>(false,t,g)::eE r
def oC:(l:aa PK)->lF l->aa In
 |[],_=>[]
 |.v _ _::r,x=>oC r x.2
 |.p t g _::r,x=>.ax (enc t g x.1)::oC r x.2
 |.s t g::r,x=>.sl (.sl t (g+2) false x.1)::oC r x.2
def kP:(l:aa PK)->Nat->lF l->aa Ar
 |[],_,_=>[]
 |.v b t::r,i,x=>.pt (b,enc t 0 x.1)::kP r i x.2
 |.p _ _ off::r,i,x=>.mut i off::kP r (i+1) x.2
 |.s _ _::r,i,x=>.mut i 0::kP r (i+1) x.2
structure mZ where
 ps:List PK
 ro:List (Bool×TC×Nat)
 F:lF ps->Option (jQ ro×sg (eE ps))
def tD(P:Program)(f:Nat)(c:mZ):Prop:=
 ∀ x y,c.F x=some y->∀ (nm:Nat->Nat) (w:World) (ah:bA) (ρ:Nat->Loc) (bM:Array Value),oB w w.heap.size ah ρ 0 (oC c.ps x)->(∀ b k,ah b=some k->b<w.heap.size/\k≠[])->
     bM.size=c.ps.length->(∀i,RA w w.heap.size ah ρ ((tC (oC c.ps x) (kP c.ps 0 x)).t i) (bM.getD i undef))->∀C:Hd w ah,
     Calls P f bM w λe w'=>∃v aD,e = .returned v/\iF ⟨w,ah,λ_=>none,C,λ_ _=>rfl⟩ w w'/\(∀b k,aD b=some k->(w.heap.size<=b\/ah b≠none)/\b<w'.heap.size/\k≠[])/\qj w' w.heap.size aD nm (eI c.ro y.1) v/\Fm w w' aD ρ nm 0 (eI c.ro y.1).len (oC c.ps x) (gX (eE c.ps) y.2)
def Fp(w:World)(ρ:Nat->Loc):Nat->aa In->Prop
 |_,[]=>True
 |i,.ax cs::r=>(∃b off cells e,ρ (nF i) = .ax b off/\w.heap[b]?=some (.cells cells e (0,0))/\∀(j:Nat) x,cs[j]?=some x->x.plain=false->x.aA=true->∃u,cells[off+j]?=some u/\ρ (20001+1000*i+j) = .de u)/\Fp w ρ (i+1) r
 |i,.sl y::r=>(∃v,ρ (nF i) = .de v)/\Fp w ρ (i+1) r
section
variable {P:Program} {w w':World} {w0:Wd} {B N:Nat} {ah aD:bA} {ρ ρ':Nat->Loc} {σ:S} {a:Act} {X:Type} {d:Nat} {r:X} {rs:aa (Nat×Nat)} {nm:Nat->Nat}
theorem Q8{m:Nat->aj aP}{i pos:Nat}:∀ (xs:aa V) (O:aa Lf) (D:Nat) (ys:aa V) (Q:aa (Nat×Nat)),zI m i pos D xs O=some (ys,Q)->ys.length=xs.length/\O.length=xs.length/\
  ∀(j:Nat) y,ys[j]?=some y->∃l x0,O[j]?=some l/\xs[j]?=some x0/\((l = .v y/\y.plain=true)\/(l = .v .nil/\y = .nil/\x0.aA=false)\/(l = .own [20001+1000*i+(D+j)]/\y=x0/\y.plain=false/\(y.aA&&y.jK)=true/\20001+1000*i+(D+j)<60000)\/(∃q,l = .own [q]/\m q=some (.sl y)/\y.aA=false/\(q,pos+1+(D+j))∈Q))
 | [],[],D,ys,Q,h=>by
  simp only[zI,fh,gT]at h;obtain⟨rfl,rfl⟩:=h;exact⟨rfl,rfl,λj y T=>by simp at T⟩
 |[],_::_,D,ys,Q,h=>by simp[zI]at h
 |_::_,[],D,ys,Q,h=>by simp[zI]at h
 | x0 :: xs,l :: O,D,ys,Q,h=>by
  have hc:∀ y z,Q7 m i D x0 l=some (y,z)->(z=none/\l = .v y/\y.plain=true)\/(z=none/\l = .v .nil/\y = .nil/\x0.aA=false)\/(z=none/\l = .own [20001+1000*i+D]/\y=x0/\y.plain=false/\(y.aA&&y.jK)=true/\20001+1000*i+D<60000)\/(∃ q,z=some q/\l = .own [q]/\m q=some (.sl y)/\y.aA=false):=by
   intro y z C;unfold Q7 at C;split at C
   ·rename_i x;cases hp:x.plain with
    | false=>
     rw[hp,aq]at C;cases hb:(!x.jK && !x0.aA)with
     |false=>rw[hb]at C;cases C
     | true=>
      rw[hb,ak]at C;simp only[fh,gT]at C;obtain⟨rfl,rfl⟩:=C;rw[aK,fM,fM]at hb;have hx:x = .nil:=by
       cases x<;>first|rfl|(exact absurd hb.1 (by simp[V.jK]))
      subst hx;exact .inr (.inl ⟨rfl,rfl,rfl,hb.2⟩)
    | true=>
     rw[hp,ak]at C;simp only[fh,gT]at C;obtain⟨rfl,rfl⟩:=C;exact .inl ⟨rfl,rfl,hp⟩
   ·rename_i q;split at C
    ·rename_i y1 hy1;cases hf:y1.aA with
     | true=>
      rw[hf,ak]at C;cases hb:(!x0.plain&&(x0.aA&&x0.jK)&&Nat.beq q (20001+1000*i+D)&&Nat.blt q 60000)with
      |false=>rw[hb]at C;cases C
      | true=>
       rw[hb,ak]at C;simp only[fh,gT]at C;obtain⟨rfl,rfl⟩:=C;rw[aK,aK,aK,fM]at hb;obtain⟨⟨⟨b1,b2⟩,b3⟩,b4⟩:=hb;obtain rfl:=bQ b3;exact .inr (.inr (.inl ⟨rfl,rfl,rfl,b1,b2,by have:=cB b4;omega⟩))
     | false=>
      rw[hf,aq]at C;cases hl:y1.loc with
      |false=>rw[hl]at C;cases C
      | true=>
       rw[hl,ak]at C;simp only[fh,gT]at C;obtain⟨rfl,rfl⟩:=C;exact .inr (.inr (.inr ⟨q,rfl,rfl,hy1,hf⟩))
    ·cases C
   ·cases C
  unfold zI at h;split at h
  ·rename_i y Q9 Ra T Fa;simp only[fh,gT]at h;obtain⟨rfl,rfl⟩:=h;obtain⟨h1,h2,h3⟩:=Q8 xs O (D+1) Q9 Ra Fa
   refine⟨by simp[h1],by simp[h2],λj y' J=>?_⟩
   cases j with
   | zero=>
    simp at J;subst J;refine⟨l,x0,rfl,rfl,?_⟩;rcases hc y none T with ⟨_,E,I⟩|⟨_,E,I,L⟩|⟨_,E,I,L,e4,e5⟩|⟨q,U,_⟩
    ·exact .inl ⟨E,I⟩
    ·exact .inr (.inl ⟨E,I,L⟩)
    ·exact .inr (.inr (.inl ⟨E,I,L,e4,e5⟩))
    ·cases U
   | succ j=>
    obtain⟨l',x',g1,g2,Y⟩:=h3 j y' (by simpa using J);rw[show D+1+j=D+(j+1) by omega]at Y;exact⟨l',x',by simpa using g1,by simpa using g2,Y⟩
  ·rename_i y q Q9 Ra T Fa;simp only[fh,gT]at h;obtain⟨rfl,rfl⟩:=h;obtain⟨h1,h2,h3⟩:=Q8 xs O (D+1) Q9 Ra Fa
   refine⟨by simp[h1],by simp[h2],λj y' J=>?_⟩
   cases j with
   | zero=>
    simp at J;subst J;refine⟨l,x0,rfl,rfl,?_⟩;rcases hc y (some q) T with ⟨Z,_⟩|⟨Z,_⟩|⟨Z,_⟩|⟨q',U,E,I,L⟩
    ·cases Z
    ·cases Z
    ·cases Z
    ·injection U with U;subst U;exact .inr (.inr (.inr ⟨q,E,I,L,.head _⟩))
   | succ j=>
    obtain⟨l',x',g1,g2,Y⟩:=h3 j y' (by simpa using J);rw[show D+1+j=D+(j+1) by omega]at Y;exact⟨l',x',by simpa using g1,by simpa using g2,Y.imp id (λg=>g.imp id (λg=>g.imp id λ⟨q',E,I,L,e4⟩=>⟨q',E,I,L,.tail _ e4⟩))⟩
  ·cases h
theorem KD{w1:World}{tE:Nat->Loc}{m:Nat->aj aP}(O:∀ r,20000<=r->r<60000->ρ r=tE r)(Q:∀ r x,m r=some x->dH w w1.heap.size ah ρ r x):
  ∀(ins:aa In) (i T:Nat) (outs:aa In) (U:aa (Nat×Nat)),xu m i T ins=some (outs,U)->(∀p∈U,rs.lookup p.1=some p.2)->Fp w1 tE i ins->qq w1 w (eA ah rs nm) tE nm i T ins outs
 | [],i,T,outs,U,h,J,Y=>by
  simp only[xu,fh,gT]at h;obtain⟨rfl,rfl⟩:=h;trivial
 | .ax cs :: r,i,T,outs,U,h,J,Y=>by
  unfold xu at h;cases hi:Nat.blt (nF i) 60000 with
  |false=>rw[hi]at h;cases h
  | true=>
   rw[hi,ak]at h;have hi:=cB hi;split at h
   ·rename_i ls Rb;split at h
    ·rename_i eM rs1 os Z h1 h2;simp only[fh,gT]at h;obtain⟨rfl,rfl⟩:=h;obtain⟨⟨b,off,cells,e,XR,QW,sj⟩,Cw⟩:=Y;obtain⟨k1,k2,k3⟩:=Q8 _ _ _ _ _ h1
     refine⟨?_,KD O Q r (i+1) _ os Z h2 (λp D=>J p (.tail _ (List.mem_append_right _ D))) Cw⟩
     have L:=Q _ _ Rb;have Rc:=O (nF i) (by unfold nF;omega) (by omega);generalize C:aP.ax ls=x at L;cases L with
     |sl=>cases C
     |mp=>cases C
     |gh=>cases C
     | ax b' zo uX e' ls' us E hl hh hs hc=>
      injection C with C;subst C;rw[Rc,XR]at E;injection E with e1 e2;subst e1 e2
      refine⟨b,off,cells,uX,e,e',XR,QW,hh,?_,by rw[k1,<-k2];exact hs,k1,λj y hy=>?_⟩
      ·have:=J _ (List.Mem.head _);simp[eA,hl,this]
      ·obtain⟨l,x0,g1,g2,g3⟩:=k3 j y hy;obtain⟨c1,c2⟩:=hc j l g1;refine⟨_,c1,?_⟩;rw[eN]at g3;rcases g3 with ⟨rfl,D⟩ | ⟨rfl,rfl,Ko⟩ | ⟨rfl,rfl,D,tw,dn⟩ | ⟨q,rfl,hq,hf,xm⟩
       ·exact .inl ⟨D,λ_ _ _ _=>c2.2.rX D⟩
       ·exact .inr (.inl ⟨rfl,by have h9:=c2.2;generalize us j=u9 at h9 ⊢;cases h9;rfl,x0,g2,Ko⟩)
       ·rw[aK]at tw;obtain⟨hf,KE⟩:=tw;obtain⟨u,hu,aiy⟩:=sj j y g2 D hf;refine .inr (.inr (.inl ⟨D,hf,KE,⟨y,g2,.same _⟩,?_⟩));have I:=c2.2;have Rd:=O (20001+1000*i+j) (by omega) dn;simp only[cm,Rd,aiy]at I;injection I with I;rw[<-I];exact hu
       ·refine .inr (.inr (.inr ⟨hf,?_⟩));have L:=Q _ _ hq;generalize C:aP.sl y=x at L;cases L with
        |ax=>cases C
        |mp=>cases C
        |gh=>cases C
        | sl v y' E hr=>
         injection C with C;subst C;have I:=c2.2;simp only[cm,E]at I;injection I with I;rw[<-I];exact RV.eA (p:=[]) hr (J _ (.tail _ (List.mem_append_left _ xm)))
    ·cases h
   ·cases h
 | .sl y :: r,i,T,outs,U,h,J,Y=>by
  unfold xu at h;cases hg:y.gone with
  | true=>
   rw[hg,ak]at h;split at h
   next os Z h2=>simp only[fh,gT]at h;obtain⟨rfl,rfl⟩:=h;exact⟨.inl rfl,KD O Q r (i+1) _ os Z h2 J Y.2⟩
   ·cases h
  |false=>
  rw[hg,aq]at h;cases hi:Nat.blt (nF i) 60000 with
  |false=>rw[hi]at h;cases h
  | true=>
   rw[hi,ak]at h;have hi:=cB hi;split at h
   ·rename_i y' zG;cases hl:(y'.loc && !y'.aA)with
    |false=>rw[hl]at h;cases h
    | true=>
     rw[hl,ak]at h;split at h
     ·rename_i os Z h2;simp only[fh,gT]at h;obtain⟨rfl,rfl⟩:=h;obtain⟨⟨v,hv⟩,Cw⟩:=Y
      refine⟨.inr ⟨v,hv,?_⟩,KD O Q r (i+1) _ os Z h2 (λp D=>J p (.tail _ D)) Cw⟩
      have Rc:=O (nF i) (by unfold nF;omega) (by omega);have L:=Q _ _ zG;generalize C:aP.sl y'=x at L;cases L with
      |ax=>cases C
      |mp=>cases C
      |gh=>cases C
      | sl v' y'' E hr=>
       injection C with C;subst C;rw[Rc,hv]at E;injection E with E;subst E;exact RV.eA (p:=[]) hr (J _ (.head _))
     ·cases h
   ·cases h
theorem aiz{w1:World}{tE:Nat->Loc}{fn:Func}{J:aa In}{k:aa In->fS->aj X}(hw:w0.w=w1)(hF:∀ r,20000<=r->r<60000->w0.F r=some (tE r))(Z:Fp w1 tE 0 J)(h:Fo P σ fn.results J k=some r):
  ∃outs res,k outs res=some r/\∀ah ρ a w,Rl w0 N ah ρ σ a w->∀nm,∃v aD,(results fn a.tmps).run P w = .ok v w/\(∀b k,aD b=some k->(w0.heap.size<=b\/w0.L b≠none)/\b<w.heap.size/\k≠[])/\qj w w0.heap.size aD nm res v/\qq w1 w aD tE nm 0 res.len J outs:=by
 unfold Fo at h;obtain⟨ps,E,pq⟩:=Fl (w0:=w0) (N:=N) _ _ h;clear h;split at E
 ·rename_i U Re Q6;split at E
  ·rename_i os Rf hos;cases Y:once (Re++Rf)with
   |false=>rw[Y]at E;cases E
   | true=>
    rw[Y,ak]at E;generalize XS:Re++Rf=rs at Y;have mX:∀ p∈rs,rs.lookup p.1=some p.2:=by
     intro p Q;have:=cv.1 Y p Q;obtain⟨n,hn,Z⟩:=(Option.any_eq_true _ _).1 this;rw[hn,bQ Z]
    have core:∀ ah ρ a w,Rl w0 N ah ρ σ a w->∀ nm:Nat->Nat,∃ C:aa Value,(fn.results.mapM (qp a.tmps)).run P w = .ok C.toArray w/\(∀ b k,eA ah rs nm b=some k->(w0.heap.size<=b\/w0.L b≠none)/\b<w.heap.size/\k≠[])/\jb w w0.heap.size (eA ah rs nm) nm 0 U C/\
      qq w1 w (eA ah rs nm) tE nm 0 (U.map λp=>p.2.length).sum J os:=by
     intro ah ρ a w hR nm;obtain⟨C,T,hl,hv⟩:=pq ah ρ a w hR
     refine⟨C,?_,λb k I=>?_,Q5 hR.root ps 0 U Re C Q6 (λp Q=>mX p (by rw[<-XS];exact List.mem_append_left _ Q)) hl hv,
      KD (λr h1 E=>hR.fix r _ (hF r h1 E)) (by rw[<-hw];exact hR.root) J 0 _ os Rf hos (λp Q=>mX p (by rw[<-XS];exact List.mem_append_right _ Q)) Z⟩
     ·rw[Array.mapM_eq_mapM_toList];simp[T]
     ·unfold eA at I;split at I
      ·cases I
      ·rename_i k' nI;have:=hR.cH b k' nI;split at I
       ·cases I
       ·cases xw:rs.lookup _ with
        |none=>rw[xw]at I;cases I
        | some n=>
         rw[xw]at I;injection I with I;subst I;exact⟨this.1,this.2.1,by simp⟩
    have lG:∀ (tmps:Array Value),results fn tmps=(do let C <-fn.results.mapM (qp tmps);pure (if h:C.size=1 then C[0]else .tuple C)):=λtmps=>by
     unfold results;congr 1
    split at E
    ·rename_i p
     refine⟨_,_,E,λah ρ a w hR nm=>?_⟩
     obtain⟨C,T,nL,D,O⟩:=core ah ρ a w hR nm;have O:qq w1 w (eA ah rs nm) tE nm 0 (fS.one p).len J os:=by simpa [fS.len]using O
     match C,D with
     |[v],D=>exact⟨v,_,by rw[lG,eC,T];rfl,nL,D,O⟩
     |[],D=>exact D.elim
     |_::_::_,D=>exact D.2.elim
    ·rename_i dY
     refine⟨_,_,E,λah ρ a w hR nm=>?_⟩
     obtain⟨C,T,nL,D,O⟩:=core ah ρ a w hR nm;have fE:C.toArray.size≠1:=by
      intro e;clear O;have e:C.length=1:=by simpa using e
      match U,C,D,dY,e with
      |[q],[v],_,dY,_=>exact dY q rfl
      |[],[v],D,_,_=>exact D.elim
      |_::_::_,[v],D,_,_=>exact D.2.elim
     refine⟨.tuple C.toArray,_,?_,nL,⟨C.toArray,rfl,D⟩,O⟩;rw[lG,eC,T,iD];simp only[fE,dif_neg,not_false_eq_true,Sem.run_pure]
  ·cases E
 ·cases E
theorem XT{i:Nat}:∀ (cs:aa V) (D:Nat) (m:Nat->aj aP) (r:Nat) (x:aP),Kz i D cs m r=some x->m r=some x\/∃ j y,cs[j]?=some y/\y.plain=false/\r=nC i (D+j) y/\x = .sl y
 |[],D,m,r,x,h=>.inl h
 | c :: cs,D,m,r,x,h=>by
  unfold Kz at h;rcases XT cs (D+1) _ r x h with C|⟨j,y,C,J,L,O⟩
  ·cases E:c.plain with
   |true=>rw[E]at C;exact .inl C
   | false=>
    rw[E,aq]at C;by_cases I:r=nC i D c
    ·subst I;rw[bO]at C;injection C with C;exact .inr ⟨0,c,rfl,E,rfl,C.symm⟩
    ·rw[cu _ _ _ I]at C;exact .inl C
  ·exact .inr ⟨j+1,y,by simpa using C,J,by rw[L];congr 1;omega,O⟩
theorem oB.roots:∀ (D:aa In) (i:Nat) (m:Nat->aj aP),oB w B ah ρ i D->(∀ r x,m r=some x->dH w B ah ρ r x)->∀ r x,KA i D m r=some x->dH w B ah ρ r x
 |[],i,m,_,I,r,x,h=>I r x h
 | .ax cs :: D,i,m,L,I,r,x,h=>by
  obtain⟨O,U,Q⟩:=L
  refine oB.roots D (i+1) _ Q (λr x C=>?_) r x h
  rcases XT cs 0 _ r x C with E|⟨j,y,Y,Z,T,g4⟩
  ·by_cases J:r=nF i
   ·subst J;rw[bO]at E;injection E with E;subst E;exact O
   ·rw[cu _ _ _ J]at E;exact I r x E
  ·rw[eN]at T;subst T g4;exact U j y Y Z
 | .sl y :: D,i,m,L,I,r,x,h=>by
  obtain⟨O,Q⟩:=L
  refine oB.roots D (i+1) _ Q (λr x C=>?_) r x h
  by_cases J:r=nF i
  ·subst J;rw[bO]at C;injection C with C;subst C;exact O
  ·rw[cu _ _ _ J]at C;exact I r x C
theorem Rg{i:Nat}:∀ (cs:aa V) (C j:Nat) x,cs[j]?=some x->(xq i C cs)[j]?=some (xo i (C+j) x)
 |[],C,j,x,h=>by simp at h
 |c::cs,C,0,x,h=>by simp at h;subst h;rfl
 | c :: cs,C,j+1,x,h=>by
  simp only[xq,List.getElem?_cons_succ];rw[Rg cs (C+1) j x (by simpa using h)];congr 2;omega
theorem oB.Rh:∀ (C:aa In) (i:Nat),oB w B ah ρ i C->Fp w ρ i C
 |[],_,_=>trivial
 | .ax cs :: C,i,J=>by
  obtain⟨I,_,L⟩:=J;refine⟨?_,oB.Rh C (i+1) L⟩;generalize D:aP.ax (xq i 0 cs)=x at I;cases I with
  |sl=>cases D
  |mp=>cases D
  |gh=>cases D
  | ax b off cells e ls us O hl T hs U=>
   injection D with D;subst D
   refine⟨b,off,cells,e,O,T,λj x Y Z hf=>?_⟩
   obtain⟨c1,Q⟩:=U j _ (Rg cs 0 j x Y);rw[eN]at Q;refine⟨_,c1,?_⟩;have e1:xo i j x = .own [20001+1000*i+j]:=by simp[xo,Z,nC,hf]
   rw[e1]at Q;have E:=Q.2;simp only[cm]at E;split at E
   next v hv=>injection E with E;rw[<-E];exact hv
   ·cases E
 | .sl y :: C,i,J=>by
  obtain⟨I,L⟩:=J;refine⟨?_,oB.Rh C (i+1) L⟩;cases I with
  |sl v y' O hr=>exact⟨v,O⟩
end
def bV(n:Nat):aa Nat->Bool
 |[]=>false
 |m::l=>Nat.beq n m ||bV n l
theorem sk{n:Nat}:∀ {l:aa Nat},bV n l=true ↔ n∈l
 |[]=>by simp[bV]
 | m :: l=>by
  simp only[bV,dy,fF,sk (l:=l)];constructor
  ·rintro(h | h)
   ·exact .inl (bQ h)
   ·exact .inr h
  ·rintro(h | h)
   ·left;subst h;exact Nat.beq_refl n
   ·exact .inr h
theorem XU{n:Nat}{l:aa Nat}(h:bV n l=false):n ∉ l:=λk=>by rw[sk.2 k]at h;cases h
def cy(k l:aa Nat):Bool:=match k.getLast? with
 |some r=>bV r l
 |none=>false
def Lf.bz(ns cn:aa Nat):Lf->Lf
 |.own k=>bif cy k cn ||(cy k ns && !(Nat.beq k.length 1))then .dead else .own k
 |x=>x
def A.bz(ns cn:aa Nat):A->A
 |.lf x=>.lf (x.bz ns cn)
 |.agg cs=>.agg (cs.map (Lf.bz ns cn))
 |.ct xs=>.ct (xs.map λp=>(p.1,p.2.map (Lf.bz ns cn)))
 |.ptr k=>bif cy k cn ||cy k ns then .undef else .ptr k
 |.aH r j=>bif bV r cn then .undef else .aH r j
 |.pk r n=>bif bV r cn then .undef else .pk r n
 |.view k s i j=>bif cy k cn ||cy k ns then .undef else .view k s i j
 |.fn f cap=>bif cap.any (λp=>bV p.1 cn)then .undef else .fn f cap
 |x=>x
def aP.bz(ns cn:aa Nat):aP->aP
 |.ax cs=>.ax (cs.map (Lf.bz ns cn))
 |.gh xs=>.gh (xs.map (A.bz ns cn))
 |x=>x
def S.bz(σ:S)(ns cn:aa Nat)(nr:aa (Nat×aP)):S:=⟨λk=>(σ.t k).bz ns cn,λr=>match nr.lookup r with
 |some x=>some x
 |none=>bif bV r ns ||bV r cn then none else (σ.m r).map (aP.bz ns cn)⟩
structure qt (w w':World) (ah cW:bA) (ρ dZ:Nat->Loc) (ns cn:List Nat):Prop where
 size:w.heap.size<=w'.heap.size
 same:∀b,b<w.heap.size->(∀k,ah b=some k->cy k ns=false)->w'.heap[b]?=w.heap[b]?/\cW b=ah b
 dQ:∀r,bV r cn=false->dZ r=ρ r
 ah:∀b k,ah b=some k->b<w.heap.size/\k≠[]
section
variable {P:Program} {w w':World} {w0:Wd} {B N:Nat} {ah cW aD:bA} {ρ dZ:Nat->Loc} {σ:S} {a:Act} {X:Type} {d:Nat} {r:X} {ns cn:aa Nat}
theorem zJ{j i s:Nat}{q l:aa Nat}(h:q≠[]):cy (j :: i :: s :: q) l=cy q l:=by
 cases q with
 |nil=>exact absurd rfl h
 |cons x q=>simp[cy,List.getLast?_cons_cons]
theorem RV.iS(E:qt w w' ah cW ρ dZ ns cn){q:aa Nat}{x:V}{v:Value}(h:RV w B ah q x v)(hq:cy q ns=false\/x.aA=true):RV w' B cW q x v:=by
 induction h with
 |int=>exact .int _ _ _
 |bool=>exact .bool _ _
 |str=>exact .str _ _
 |nil=>exact .nil _
 |cG=>exact .cG _ _ _
 |cL=>exact .cL _ _ _ _ _ (by first|assumption|omega)
 |cV=>exact .cV _ _ _ _ _ (by first|assumption|omega)
 | aA q t o U l b off cap u Q hl hb Y Z I hr J=>
  obtain⟨L,O⟩:=E.same b hb (λk C=>by rw[hl]at C;cases C);exact .aA _ _ _ _ _ _ _ _ u Q (O.trans hl) (jD hb E.size) Y Z (λi h j x D=>(jZ (a:=⟨b,_,none⟩) L).trans (I i h j x D)) (λi h j x D=>J i h j x D (.inr (jr t o l[i] Q j x D)))
 | own q t o U l b cap cs u hl hh hs hn hm I hr J=>
  have T:cy q ns=false:=by
   rcases hq with hq|hq
   ·exact hq
   ·simp[V.aA]at hq;omega
  have dY:q≠[]:=(E.ah b q hl).2;obtain⟨L,O⟩:=E.same b (E.ah b q hl).1 (λk C=>by rw[hl]at C;injection C with C;subst C;exact T);exact .own _ _ _ _ _ _ _ cs u (O.trans hl) (L.trans hh) hs hn hm I (λi h j x D=>J i h j x D (.inl (by rw[zJ dY];exact T)))
theorem Ri(D:qt w w' ah cW ρ dZ ns cn):∀ (k:aa Nat) (ad:Addr),cy k ns=false->cy k cn=false->addrAt w ah ρ k=some ad->addrAt w' cW dZ k=some ad
 |[],_,_,_,h=>by simp[addrAt]at h
 |[_],_,_,_,h=>by simp[addrAt]at h
 |[_,_],_,_,_,h=>by simp[addrAt]at h
 |[_,_,_],_,_,_,h=>by simp[addrAt]at h
 | [j,i,s,r],_,E,I,h=>by
  have E:cy [r] ns=false:=by rwa [zJ (by simp)]at E
  have I:bV r cn=false:=by rw[zJ (by simp)]at I;exact I
  simp only[addrAt]at h ⊢;rw[D.dQ r I];split at h
  ·rename_i v b n c hr;split at h
   next hl=>obtain⟨_,L⟩:=D.same b (D.ah b _ hl).1 (λk C=>by rw[hl]at C;injection C with C;subst C;exact E);rw[bk (L.trans hl)];exact h
   ·cases h
  ·cases h
 | j :: i :: s :: x :: y :: q,ad,E,I,h=>by
  rw[zJ (by simp)]at E I;simp only[addrAt]at h ⊢;cases J:addrAt w ah ρ (x::y::q)with
  |none=>rw[J]at h;cases h
  | some O=>
   rw[Ri D _ _ E I J];rw[J]at h;cases Q:w.cell? O with
   |none=>simp[Q]at h
   | some v=>
    obtain⟨j',i',s',U,C,T,_,_⟩:=uE _ _ J;have Y:U≠[]:=(D.ah _ _ T).2;have Z:cy U ns=false:=by
     rw[C,zJ Y]at E;exact E
    obtain⟨e1,_⟩:=D.same O.block (D.ah _ _ T).1 (λk C=>by rw[T]at C;injection C with C;subst C;exact Z);have e:w'.cell? O=some v:=(jZ e1).trans Q;simp only[Option.bind_some,Q]at h;simp only[Option.bind_some,e];split at h
    ·split at h
     next hl=>obtain⟨_,L⟩:=D.same _ (D.ah _ _ hl).1 (λk C=>by rw[hl]at C;injection C with C;subst C;exact E);rw[bk (L.trans hl)];exact h
     ·cases h
    ·cases h
theorem XV(D:qt w w' ah cW ρ dZ ns cn)(k:aa Nat)(u:Value)(h1:k.length=1\/cy k ns=false)(E:cy k cn=false)(h:cm w ah ρ k=some u):cm w' cW dZ k=some u:=by
 match k,h1,E,h with
 |[],_,_,h=>simp[cm,addrAt]at h
 | [r],_,E,h=>
  simp only[cm]at h ⊢;rw[D.dQ r E];exact h
 | x :: y :: q,h1,E,h=>
  have h1:cy (x :: y :: q) ns=false:=by
   rcases h1 with h1|h1
   ·simp at h1
   ·exact h1
  simp only[cm]at h ⊢;cases I:addrAt w ah ρ (x::y::q)with
  |none=>rw[I]at h;cases h
  | some ad=>
   rw[Ri D _ _ h1 E I];rw[I]at h;have h:w.cell? ad=some u:=h;obtain⟨T,U,Y,L,C,J,_,_⟩:=uE _ _ I;have O:L≠[]:=(D.ah _ _ J).2;rw[C,zJ O]at h1;obtain⟨Q,_⟩:=D.same ad.block (D.ah _ _ J).1 (λk C=>by rw[J]at C;injection C with C;subst C;exact h1);exact(jZ Q).trans h
theorem cQ.iS(C:qt w w' ah cW ρ dZ ns cn){x:Lf}{u:Value}(h:cQ w B ah ρ x u):cQ w' B cW dZ (x.bz ns cn) u:=by
 cases x with
 |v x=>exact⟨h.1,h.2.iS C (.inr h.1)⟩
 |dead=>trivial
 | own k=>
  have e:Lf.bz ns cn (.own k)=(bif cy k cn ||(cy k ns && !(Nat.beq k.length 1))then .dead else .own k):=rfl;rw[e];cases hb:(cy k cn ||(cy k ns && !(Nat.beq k.length 1)))with
  |true=>trivial
  | false=>
   rw[lZ]at hb;refine⟨h.1,XV C k u ?_ hb.1 h.2⟩;have hb:=hb.2;cases D:cy k ns with
   |false=>exact .inr rfl
   | true=>
    rw[D,cM,Bool.not_eq_false']at hb;exact .inl (bQ hb)
theorem dg.iS(E:qt w w' ah cW ρ dZ ns cn){cs:aa Lf}{us:Array Value}(h:dg w B ah ρ cs us):dg w' B cW dZ (cs.map (Lf.bz ns cn)) us:=by
 refine⟨by rw[cZ];exact h.1,λj x C=>?_⟩
 rw[cO]at C;cases D:cs[j]? with
 |none=>rw[D]at C;cases C
 | some y=>
  rw[D]at C;injection C with C;subst C;obtain⟨u,I,r⟩:=h.2 j y D;exact⟨u,I,r.iS E⟩
theorem RP.iS(C:qt w w' ah cW ρ dZ ns cn){p:Bool×aa Lf}{u:Value}(h:RP w B ah ρ p u):RP w' B cW dZ (p.1,p.2.map (Lf.bz ns cn)) u:=by
 obtain⟨b,cs⟩:=p;cases b with
 |true=>obtain⟨us,e,h⟩:=h;exact⟨us,e,h.iS C⟩
 |false=>exact dg.iS C h
theorem RA.iS(C:qt w w' ah cW ρ dZ ns cn){x:A}{u:Value}(h:RA w B ah ρ x u):RA w' B cW dZ (x.bz ns cn) u:=by
 cases x with
 |undef=>trivial
 |skip=>exact h
 |lf x=>exact cQ.iS C h
 |agg cs=>exact RP.iS C (p:=(true,cs)) h
 | ct xs=>
  obtain⟨us,e,O,h⟩:=h
  refine⟨us,e,by rw[cZ];exact O,λj p D=>?_⟩
  rw[cO]at D;cases Q:xs[j]? with
  |none=>rw[Q]at D;cases D
  | some y=>
   rw[Q]at D;injection D with D;subst D;obtain⟨v,E,r⟩:=h j y Q;exact⟨v,E,r.iS C⟩
 | ptr k=>
  have e:A.bz ns cn (.ptr k)=(bif cy k cn ||cy k ns then .undef else .ptr k):=rfl;rw[e];cases hb:(cy k cn ||cy k ns)with
  |true=>trivial
  | false=>
   rw[lZ]at hb;obtain⟨ad,e,h⟩:=h;exact⟨ad,e,Ri C k ad hb.2 hb.1 h⟩
 | view k s i j=>
  have e:A.bz ns cn (.view k s i j)=(bif cy k cn ||cy k ns then .undef else .view k s i j):=rfl;rw[e];cases hb:(cy k cn ||cy k ns)with
  |true=>trivial
  | false=>
   rw[lZ]at hb;obtain⟨A,n,c,h,g⟩:=h;exact⟨A,n,c,XV C k _ (.inr hb.2) hb.1 h,g⟩
 | pk r n=>
  have e:A.bz ns cn (.pk r n)=(bif bV r cn then .undef else .pk r n):=rfl;rw[e];cases hb:bV r cn with
  |true=>trivial
  | false=>
   obtain⟨b,e,h⟩:=h;exact⟨b,(C.dQ r hb).trans e,h⟩
 | aH r j=>
  have e:A.bz ns cn (.aH r j)=(bif bV r cn then .undef else .aH r j):=rfl;rw[e];cases hb:bV r cn with
  |true=>trivial
  | false=>
   obtain⟨b,off,e,h⟩:=h;exact⟨b,off,(C.dQ r hb).trans e,h⟩
 | gG cs=>
  obtain⟨b,off,e,hb,hl,h⟩:=h;obtain⟨T,I⟩:=C.same b hb (λk J=>by rw[hl]at J;cases J)
  refine⟨b,off,e,jD hb C.size,I.trans hl,λj x U=>?_⟩
  obtain⟨L,v,E,Y⟩:=h j x U;exact⟨L,v,(jZ (a:=⟨b,_,none⟩) T).trans E,Y.iS C (.inr L)⟩
 | ko f cs=>
  obtain⟨pv,Z,h⟩:=h;refine⟨pv,Z,?_⟩;obtain⟨b,off,e,hb,hl,h⟩:=h;obtain⟨T,I⟩:=C.same b hb (λk J=>by rw[hl]at J;cases J)
  refine⟨b,off,e,jD hb C.size,I.trans hl,λj x U=>?_⟩
  obtain⟨L,v,E,Y⟩:=h j x U;exact⟨L,v,(jZ (a:=⟨b,_,none⟩) T).trans E,Y.iS C (.inr L)⟩
 | fn f cap=>
  have e:A.bz ns cn (.fn f cap)=(bif cap.any (λp=>bV p.1 cn)then .undef else .fn f cap):=rfl;rw[e];cases hb:cap.any (λp=>bV p.1 cn)with
  |true=>trivial
  | false=>
   obtain⟨vs,e,O,h⟩:=h
   refine⟨vs,e,O,λj p D=>?_⟩
   obtain⟨b,off,I,h2⟩:=h j p D;have:=iW.1 hb p (fL D);exact⟨b,off,(C.dQ _ (by simpa using this)).trans I,h2⟩
theorem dH.iS(C:qt w w' ah cW ρ dZ ns cn){n:Nat}{x:aP}(h:dH w B ah ρ n x)(Q:bV n ns=false)(O:bV n cn=false):dH w' B cW dZ n (x.bz ns cn):=by
 cases h with
 | ax b off cells e cs us J hl T hs Z=>
  obtain⟨U,Y⟩:=C.same b (C.ah b _ hl).1 (λk D=>by rw[hl]at D;injection D with D;subst D;exact Q)
  refine .ax b off cells e _ us ((C.dQ n O).trans J) (Y.trans hl) (U.trans T) (by rw[cZ];exact hs) (λj x E=>?_)
  rw[cO]at E;cases I:cs[j]? with
  |none=>rw[I]at E;cases E
  | some y=>
   rw[I]at E;injection E with E;subst E;exact⟨(Z j y I).1,(Z j y I).2.iS C⟩
 |sl v y J hr=>exact .sl v y ((C.dQ n O).trans J) (hr.iS C (.inl Q))
 | mp b c es l J hl T he=>
  obtain⟨U,Y⟩:=C.same b (C.ah b _ hl).1 (λk D=>by rw[hl]at D;injection D with D;subst D;exact Q);exact .mp b c es l ((C.dQ n O).trans J) (Y.trans hl) (U.trans T) he
 | gh us xs J E=>
  refine .gh us _ ((C.dQ n O).trans J) (λj x L=>?_)
  rw[cO]at L;cases I:xs[j]? with
  |none=>rw[I]at L;cases L
  | some y=>
   rw[I]at L;injection L with L;subst L;exact(E j y I).iS C
theorem Rl.iS(h:Rl w0 N ah ρ σ a w)(E:qt w w' ah cW ρ dZ ns cn)(hb:iF w0 w w')(hl:∀ b k,cW b=some k->(w0.heap.size<=b\/w0.L b≠none)/\b<w'.heap.size/\k≠[])(O:∀ r,bV r cn=true->w0.F r=none){nr:aa (Nat×aP)}
  (Q:∀r x,nr.lookup r=some x->dH w' w0.heap.size cW dZ r x):Rl w0 N cW dZ (σ.bz ns cn nr) a w':=by
 refine⟨h.below.trans hb,hl,λr x C=>?_,λk=>(h.tmp k).iS E,h.size,h.defers,λr l I=>?_,h.dm⟩
 ·simp only[S.bz]at C;split at C
  next y D=>injection C with C;subst C;exact Q r y D
  ·cases hm:(bV r ns || bV r cn)with
   |true=>rw[hm]at C;cases C
   | false=>
    rw[hm,aq]at C;rw[lZ]at hm;cases D:σ.m r with
    |none=>rw[D]at C;cases C
    | some y=>
     rw[D]at C;injection C with C;subst C;exact(h.root r y D).iS E hm.1 hm.2
 ·have J:bV r cn=false:=by
   cases J:bV r cn with
   |false=>rfl
   |true=>rw[O r J]at I;cases I
  exact(E.dQ r J).trans (h.fix r l I)
end
inductive Mu where
 |ax (r:Nat) (cs:List Lf) (vs:List (V×Option Nat))
 |sl (q:Nat) (y:V)
def Mu.root:Mu->Nat
 |.ax r _ _=>r
 |.sl q _=>q
def tF(m:Nat->aj aP):Lf->aj (V×aj Nat)
 |.v x=>some (x.gd,none)
 | .own [q]=>match m q with
  |some (.sl y)=>bif y.aA then some (y.gd,none)else some (y,some q)
  |_=>none
 |_=>none
def qv(m:Nat->aj aP):aa Lf->aj (aa (V×aj Nat))
 |[]=>some []
 | l :: C=>match tF m l,qv m C with
  |some v,some D=>some (v::D)
  |_,_=>none
def tG(σ:S):PK->A->aj (aj Mu)
 |.v _ _,_=>some none
 | .p _ _ off,.aH r j=>(match (bif Nat.beq j off then σ.m r else none)with
  | some (.ax cs)=>(match qv σ.m cs with
   |some C=>bif Nat.blt cs.length 999 then some (some (.ax r cs C))else none
   |none=>none)
  |_=>none)
 | .s _ _,.lf (.own [q])=>(match σ.m q with
  |some (.sl y)=>bif y.aA then none else some (some (.sl q y))
  |_=>none)
 |_,_=>none
def jd(σ:S):aa PK->aa Operand->aj (aa Mu)
 |[],[]=>some []
 | p :: ps,x :: xs=>(match tG σ p (aE σ x),jd σ ps xs with
  |some (some D),some C=>some (D::C)
  |some none,some C=>some C
  |_,_=>none)
 |_,_=>none
def Cx(i:Nat):Nat->aa (V×aj Nat)->aa (Nat×Nat)
 |_,[]=>[]
 |j,(_,some q)::C=>(q,60000+1000*i+j)::Cx i (j+1) C
 |j,(_,none)::C=>Cx i (j+1) C
def kr:Nat->aa Mu->aa (Nat×Nat)
 |_,[]=>[]
 |i,.ax r _ D::C=>(r,nF i)::(Cx i 0 D++kr (i+1) C)
 |i,.sl q _::C=>(q,nF i)::kr (i+1) C
def KF(ns:aa Nat):Lf->Bool
 |.own k=>!cy k ns
 |_=>true
def oD{X:Type}(σ:S)(ns:aa Nat):aa Lf->(aa V->aj X)->aj X
 |[],k=>k []
 |x::xs,k=>bif KF ns x then gJ σ x λy=>oD σ ns xs λys=>k (y.gd::ys)else none
def nM{X:Type}(σ:S)(ns:aa Nat)(x:A)(k:Pt->aj X):aj X:=
 match x with
 |.lf y=>oD σ ns [y] λC=>k (false,C)
 |.agg ys=>oD σ ns ys λC=>k (true,C)
 |.ko f (c::cs)=>k (false,.bool false::.int .i64 (f:Int)::c.gd::cs.map V.gd)
 | .fn f [(r,j)]=>bif bV r ns then none else (match σ.m r with
  | some (.ax cs)=>(match qe (cs.drop j)with
   |some (c::C)=>k (false,.bool false::.int .i64 (f:Int)::c::C)
   |_=>none)
  |_=>none)
 |_=>none
def gY{X:Type}(σ:S)(ns:aa Nat):(ps:aa PK)->aa Operand->aa Mu->(lF ps->aj X)->aj X
 |[],[],[],k=>k ()
 | .v b t :: ps,x :: xs,C,k=>nM σ ns (aE σ x) λp=>bif p.1==b then (match dec t 0 p.2 with
  |some y=>gY σ ns ps xs C λys=>k (y,ys)
  |none=>none)else none
 | .p t g _ :: ps,_ :: xs,.ax _ _ D :: C,k=>(match (bif Nat.beq (g % 2) 0 then dec t g (D.map (·.1))else none)with
  |some y=>gY σ ns ps xs C λys=>k (y,ys)
  |none=>none)
 | .s t g :: ps,_ :: xs,.sl _ y :: C,k=>(match (bif Nat.beq (g % 2) 0 then y.dw t (g+2)else none)with
  |some z=>gY σ ns ps xs C λys=>k (z,ys)
  |none=>none)
 |_,_,_,_=>none
def uY(w:World)(ρ:Nat->Loc)(rs:aa Nat):Nat->Loc:=λn=>
 if n<60000 then (if (n-20000) % 1000=0 then ρ (rs.getD ((n-20000) / 1000) 0)else (match ρ (rs.getD ((n-20000) / 1000) 0)with
  |.ax b off=>.de ((w.cell? ⟨b,off+((n-20000) % 1000-1),none⟩).getD undef)
  |.de v=>.de v
  |.bM us=>.bM us))
 else (match ρ (rs.getD ((n-60000) / 1000) 0)with
  |.ax b off=>.de ((w.cell? ⟨b,off+(n-60000) % 1000,none⟩).getD undef)
  |.de v=>.de v
  |.bM us=>.bM us)
theorem Fq{w:World}{ρ:Nat->Loc}{rs:aa Nat}{i r:Nat}(h:rs[i]?=some r)(hi:i<40):uY w ρ rs (nF i)=ρ r:=by
 have C:nF i<60000:=by unfold nF;omega
 have D:(nF i-20000) % 1000=0:=by unfold nF;omega
 have E:(nF i-20000) / 1000=i:=by unfold nF;omega
 have I:rs.getD i 0=r:=by rw[eX,h];rfl
 unfold uY;rw[bk C,bk D,E,I]
theorem aiA{w:World}{ρ:Nat->Loc}{rs:aa Nat}{i j r b off:Nat}{u:Value}{x:V}(h:rs[i]?=some r)(hi:i<40)(Q:j<999)(I:ρ r = .ax b off)(J:w.cell? ⟨b,off+j,none⟩=some u):uY w ρ rs (nC i j x) = .de u:=by
 have L:rs.getD i 0=r:=by rw[eX,h];rfl
 unfold uY nC;cases x.aA with
 | true=>
  have C:20001+1000*i+j<60000:=by omega
  have O:¬ (20001+1000*i+j-20000) % 1000=0:=by omega
  have D:(20001+1000*i+j-20000) / 1000=i:=by omega
  have E:(20001+1000*i+j-20000) % 1000-1=j:=by omega
  simp only[ak];rw[bk C,bB O,D,L,I,E];simp[J]
 | false=>
  have C:¬ 60000+1000*i+j<60000:=by omega
  have D:(60000+1000*i+j-60000) / 1000=i:=by omega
  have E:(60000+1000*i+j-60000) % 1000=j:=by omega
  simp only[aq];rw[bB C,D,L,I,E];simp[J]
def V.KG:V->Bool
 |.sl _ o _ _=>Nat.beq (o % 2) 0
 |_=>true
section
variable {P:Program} {w w':World} {w0:Wd} {B N:Nat} {ah cW aD:bA} {ρ dZ:Nat->Loc} {σ:S} {a:Act} {X:Type} {d:Nat} {r:X} {ns cn:aa Nat}
theorem RV.XW{B':Nat}{q:aa Nat}{x:V}{v:Value}(h:RV w B ah q x v)(E:x.KG=true):RV w B' ah q x v:=by
 induction h with
 |int=>exact .int _ _ _
 |bool=>exact .bool _ _
 |str=>exact .str _ _
 |nil=>exact .nil _
 |cG=>exact .cG _ _ _
 |cL=>exact .cL _ _ _ _ _ (by first|assumption|omega)
 |cV=>exact .cV _ _ _ _ _ (by first|assumption|omega)
 | aA q t o L l b off cap u O hl hb h1 Q I T J=>
  have E:=bQ E;have U:o=0:=by omega
  subst U
  refine .aA _ _ _ _ _ _ _ _ u O hl hb (by omega) Q I (λi h j x C=>J i h j x C ?_)
  have:=uC t 0 l[i] x (fL C);cases x with
  | sl Y D Z l'=>
   have:D=0:=by simpa [V.gr]using this
   subst this;rfl
  |_=>rfl
 | own q t o L l b cap cs u hl hh hs hn hm I T J=>
  have E:=bQ E
  refine .own _ _ _ _ _ _ _ cs u hl hh hs hn hm I (λi h j x C=>J i h j x C ?_)
  have:=uC t o l[i] x (fL C);cases x with
  | sl Y D Z l'=>
   have:D=o:=by simpa [V.gr]using this
   subst this;show Nat.beq (D % 2) 0=true;rw[show D % 2=0 by omega];rfl
  |_=>rfl
theorem RV.out{q J:aa Nat}{x:V}{v:Value}(h:RV w B ah q x v)(Q:∀ b,ah b=none->aD b=none)(T:∀ b k,ah b=some k->k≠[]/\(cy k ns=false->aD b=none))(hq:x.aA=true\/cy q ns=false){B':Nat}:RV w B' aD J x.gd v:=by
 induction h generalizing J with
 |int=>exact .int _ _ _
 |bool=>exact .bool _ _
 |str=>exact .str _ _
 |nil=>exact .nil _
 |cG=>exact .cG _ _ _
 |cL=>exact .cL _ _ _ _ _ (by first|assumption|omega)
 |cV=>exact .cV _ _ _ _ _ (by first|assumption|omega)
 | aA q t o U l b off cap u Y hl hb h1' Z E hr I=>
  refine .aA _ _ _ _ _ _ _ _ u (by omega) (Q b hl) hb (by omega) Z (λi h j x D=>?_) (λi h j x D=>?_)
  ·obtain⟨y,C,_⟩:=uD t o l[i] j x D;exact E i h j y C
  ·obtain⟨y,C,rfl⟩:=uD t o l[i] j x D;exact I i h j y C (.inl (jr t o l[i] Y j y C))
 | own q t o U l b cap cs u hl L hs hn hm E hr I=>
  have O:cy q ns=false:=by
   rcases hq with hq|hq
   ·simp[V.aA]at hq;omega
   ·exact hq
  obtain⟨dY,o9⟩:=T b q hl
  refine .aA _ _ _ _ _ _ _ _ u (by omega) (o9 O) (fl.1 L).1 (by omega) hn (λi h j x D=>?_) (λi h j x D=>?_)
  ·obtain⟨y,C,_⟩:=uD t o l[i] j x D;have:=E i h j y C;rw[eN,cell_of_row w b _ cs _ _ L];exact this
  ·obtain⟨y,C,rfl⟩:=uD t o l[i] j x D;exact I i h j y C (.inr (by rw[zJ dY];exact O))
theorem aiB{x:Lf}{k:V->aj X}(h:gJ σ x k=some r):∃ y,k y=some r/\∀ ah ρ a w,Rl w0 N ah ρ σ a w->∀ u,cQ w w0.heap.size ah ρ x u->∃ q,(x = .own q\/y.aA=true)/\RV w w0.heap.size ah q y u:=by
 cases x with
 |v y=>exact⟨y,h,λah ρ a w hR u C=>⟨[],.inr C.1,C.2⟩⟩
 |dead=>cases h
 | own q=>
  obtain⟨y,E,I⟩:=qS q k h
  refine⟨y,I,λah ρ a w hR u C=>⟨q,.inl rfl,?_⟩⟩
  obtain⟨v,J,L⟩:=E.ok hR.root;have:v=u:=by
   have D:=C.2;rw[J]at D;injection D
  subst this;exact L
structure zK (ns:List Nat) (ah aD:bA):Prop where
 none:∀b,ah b=none->aD b=none
 rest:∀b k,ah b=some k->k≠[]/\(cy k ns=false->aD b=Option.none)
theorem Rj:∀ (xs:aa Lf) (k:aa V->aj X),oD σ ns xs k=some r->∃ C,k C=some r/\C.length=xs.length/\∀ ah ρ a w aD,Rl w0 N ah ρ σ a w->zK ns ah aD->∀ (j:Nat) x y u,xs[j]?=some x->C[j]?=some y->cQ w w0.heap.size ah ρ x u->RV w w.heap.size aD [] y u
 |[],k,h=>⟨[],h,rfl,λ_ _ _ _ _ _ _ j x y u O=>by simp at O⟩
 | x :: xs,k,h=>by
  unfold oD at h;cases D:KF ns x with
  |false=>rw[D]at h;cases h
  | true=>
   rw[D,ak]at h;obtain⟨y,Q,T⟩:=aiB (w0:=w0) (N:=N) h;obtain⟨ys,U,hl,Y⟩:=Rj xs _ Q
   refine⟨y.gd::ys,U,by simp[hl],λah ρ a w aD hR E j Z y' u I J L=>?_⟩
   cases j with
   | zero=>
    simp at I J;subst I J;obtain⟨q,hq,kI⟩:=T ah ρ a w hR u L;refine kI.out E.none E.rest ?_;rcases hq with rfl|hq
    ·exact .inr (by simpa [KF]using D)
    ·exact .inl hq
   |succ j=>exact Y ah ρ a w aD hR E j Z y' u (by simpa using I) (by simpa using J) L
inductive PM (w:World) (aD:bA):Pt->Value->Prop
 |v (p:Pt) (u:Value) (h:PV w w.heap.size aD (λ_=>[]) p u):PM w aD p u
 |f (g:Nat) (c:V) (cs:List V) (u:Value) (h:RF w w.heap.size aD (c::cs) u):PM w aD (false,.bool false::.int .i64 (g:Int)::c::cs) (.func (.func g) #[] #[u])
theorem aiC{g:Nat}{c:V}{cs ys:aa V}(hl:(V.bool false :: .int .i64 (g:Int) :: c :: cs).length=ys.length)(h:∀ (j:Nat) x z,(V.bool false :: .int .i64 (g:Int) :: c :: cs)[j]?=some x->ys[j]?=some z->Wk x z):∃ C eM,ys = .bool false :: .int .i64 (g:Int) :: C :: eM/\bS (c :: cs) (C :: eM):=by
 match ys,hl,h with
 | a :: b :: C :: eM,hl,h=>
  have D:=h 0 _ a rfl rfl;have E:=h 1 _ b rfl rfl;cases D;cases E;exact⟨C,eM,rfl,by simpa using hl,λj x z I J=>h (j+2) x z (by simpa using I) (by simpa using J)⟩
 |[],hl,_=>simp at hl
 |[_],hl,_=>simp at hl
 |[_,_],hl,_=>simp at hl
theorem RF.qw{cs C:aa V}{u:Value}(h:RF w B ah cs u)(E:bS cs C)(J:∀ (j:Nat) z,C[j]?=some z->z.aA=true):RF w B ah C u:=by
 obtain⟨b,off,rfl,hb,hl,L⟩:=h
 refine⟨b,off,rfl,hb,hl,λj x D=>?_⟩
 have I:j<cs.length:=by rw[E.1];exact(c7.1 D).1
 obtain⟨_,v,O,Q⟩:=L j _ (bK I);exact⟨J j x D,v,O,Q.wk (E.2 j _ x (bK I) D)⟩
theorem RF.gd{cs:aa V}{u:Value}(h:RF w B ah cs u)(E:∀ b,ah b=none->aD b=none)(I:∀ b k,ah b=some k->k≠[]/\(cy k ns=false->aD b=none)){B':Nat}:RF w B' aD (cs.map V.gd) u:=by
 obtain⟨b,off,rfl,hb,hl,J⟩:=h
 refine⟨b,off,rfl,hb,E b hl,λj x C=>?_⟩
 rw[cO]at C;cases D:cs[j]? with
 |none=>rw[D]at C;cases C
 | some y=>
  rw[D]at C;injection C with C;subst C;obtain⟨L,v,O,Q⟩:=J j y D;exact⟨V.ahH y,v,O,Q.out E I (.inl L)⟩
theorem aiD{x:A}{k:Pt->aj X}(h:nM σ ns x k=some r):∃ p,k p=some r/\∀ ah ρ a w aD,Rl w0 N ah ρ σ a w->zK ns ah aD->∀ u,RA w w0.heap.size ah ρ x u->PM w aD p u:=by
 unfold nM at h;split at h
 ·rename_i y;obtain⟨U,J,hl,L⟩:=Rj (w0:=w0) (N:=N) _ _ h
  refine⟨_,J,λah ρ a w aD hR C u E=>.v _ _ ⟨#[u],rfl,by simp[hl],λj x D=>?_⟩⟩
  have I:j=0:=by
   have:=(c7.1 D).1;simp only[hl]at this
   simpa using this
  subst I;exact⟨u,rfl,L ah ρ a w aD hR C 0 y x u rfl D E⟩
 ·rename_i ys;obtain⟨U,J,hl,L⟩:=Rj (w0:=w0) (N:=N) _ _ h
  refine⟨_,J,λah ρ a w aD hR C u E=>?_⟩
  obtain⟨us,rfl,O⟩:=E
  refine .v _ _ ⟨us,rfl,by rw[hl];exact O.1,λj x D=>?_⟩
  have I:j<ys.length:=by rw[<-hl];exact(c7.1 D).1
  obtain⟨v,hv,gH⟩:=O.2 j _ (bK I);exact⟨v,hv,L ah ρ a w aD hR C j _ x v (bK I) D gH⟩
 ·rename_i f c cs
  refine⟨_,h,λah ρ a w aD hR C u E=>?_⟩
  obtain⟨pv,rfl,nN⟩:=E;exact .f f _ _ _ (nN.gd C.none C.rest)
 ·rename_i f Y j;cases Q:bV Y ns with
  |true=>rw[Q]at h;cases h
  | false=>
   rw[Q,aq]at h;split at h
   ·rename_i cs hm;split at h
    ·rename_i c U wZ;obtain⟨e,hp⟩:=Kc _ _ wZ
     refine⟨_,h,λah ρ a w aD hR C u E=>?_⟩
     obtain⟨us,rfl,kH,mP⟩:=E;obtain⟨b,off,di,T⟩:=mP 0 _ rfl;have T:us[0]?=some (.pointer (some ⟨b,off+j,none⟩)):=T;have aiE:us.size=1:=kH;have aiF:us = #[.pointer (some ⟨b,off+j,none⟩)]:=by
      apply Array.ext';apply List.ext_getElem?;intro i;cases i with
      |zero=>simpa using T
      |succ i=>rw[List.getElem?_eq_none (by simp[aiE]),List.getElem?_eq_none (by simp)]
     subst aiF;refine .f f _ _ _ ?_;cases hR.root Y _ hm with
     | ax b' zo cells e' _ Kh Z nL hh O hc=>
      rw[di]at Z;injection Z with q1 q2;subst q1 q2
      refine⟨b,off+j,rfl,(fl.1 hh).1,(C.rest b _ nL).2 (by simpa [cy]using Q),λi x D=>?_⟩
      have XX:=hp x (fL D);have XY:(cs.drop j)[i]?=some (.v x):=by rw[e,cO,D];rfl
      rw[List.getElem?_drop]at XY;obtain⟨k1,k2⟩:=hc _ _ XY;refine⟨(by cases x<;>first|rfl|cases XX),Kh (j+i),?_,k2.2.rX XX⟩;rw[Nat.add_assoc,cell_of_row w b _ cells _ _ hh];exact k1
    ·cases h
   ·cases h
 ·cases h
def xx(σ:S):Mu->Prop
 |.ax r cs C=>σ.m r=some (.ax cs)/\qv σ.m cs=some C/\cs.length<999
 |.sl q y=>σ.m q=some (.sl y)/\y.aA=false
def Fs:aa Mu->aa In->Prop
 |[],[]=>True
 |.ax _ _ I::C,.ax xs::D=>(bS (I.map (·.1)) xs/\∀x∈xs,x.jK=true/\x.KG=true)/\Fs C D
 |.sl _ y::C,.sl E::D=>(Wk y E/\E.KG=true)/\Fs C D
 |_,_=>False
def Cy(w:World)(B:Nat)(ah:bA)(ρ:Nat->Loc)(C:aa In):aa Ar->aa Value->Prop
 |[],[]=>True
 |x::xs,v::D=>RA w B ah ρ (KB C x) v/\Cy w B ah ρ C xs D
 |_,_=>False
theorem Cy.get{D:aa In}:∀ (xs:aa Ar) (C:aa Value),Cy w B ah ρ D xs C->C.length=xs.length/\∀ i,RA w B ah ρ ((tC D xs).t i) (C.toArray.getD i undef)
 |[],[],_=>⟨rfl,λi=>trivial⟩
 |[],_::_,h=>h.elim
 |_::_,[],h=>h.elim
 | x :: xs,v :: C,h=>by
  obtain⟨E,I⟩:=Cy.get xs C h.2
  refine⟨by simp[E],λi=>?_⟩
  cases i with
  |zero=>exact h.1
  | succ i=>
   have:=I i;simp only[tC,List.getElem?_cons_succ,gE,List.getElem?_toArray]at this ⊢;exact this
theorem aiG{t:TC}{g:Nat}{x:T t}(D:Nat.beq (g % 2) 0=true):∀ y∈enc t g x,y.jK=true/\y.KG=true:=by
 intro y C;refine⟨Qd t g x y C,?_⟩;have:=uC t g x y C;cases y with
 | sl I E J L=>
  have:E=g:=by simpa [V.gr]using this
  subst this;exact D
 |_=>rfl
def aiH(σ:S):PK->A->aj Mu->Prop
 |.v _ _,_,none=>True
 |.p _ _ off,x,some (.ax r cs C)=>x = .aH r off/\xx σ (.ax r cs C)
 |.s _ _,x,some (.sl q y)=>x = .lf (.own [q])/\xx σ (.sl q y)
 |_,_,_=>False
theorem tH{p:PK}{x:A}{z:aj Mu}(h:tG σ p x=some z):aiH σ p x z:=by
 cases p with
 | v b t=>
  have h:(some none:aj (aj Mu))=some z:=h;injection h with h;subst h;trivial
 | p t g off=>
  cases x with
  | aH r j=>
   have h:(match (bif Nat.beq j off then σ.m r else none)with
    | some (.ax cs)=>(match qv σ.m cs with
     |some E=>bif Nat.blt cs.length 999 then some (some (.ax r cs E))else none
     |none=>none)
    |_=>none)=some z:=h
   cases C:Nat.beq j off with
   |false=>rw[C]at h;cases h
   | true=>
    obtain rfl:=bQ C;rw[C,ak]at h;split at h
    ·rename_i cs I;split at h
     ·rename_i E J;cases hl:Nat.blt cs.length 999 with
      |false=>rw[hl]at h;cases h
      | true=>
       rw[hl,ak]at h;injection h with h;subst h;exact⟨rfl,I,J,by have:=cB hl;omega⟩
     ·cases h
    ·cases h
  |_=>cases h
 | s t g=>
  have L:(∃ q,x = .lf (.own [q])):=by
   unfold tG at h;split at h
   next e=>cases e
   next e=>cases e
   ·exact⟨_,rfl⟩
   ·cases h
  obtain⟨q,rfl⟩:=L;have h:(match σ.m q with
   |some (.sl y)=>bif y.aA then none else some (some (.sl q y))
   |_=>none)=some z:=h
  split at h
  ·rename_i y O;cases D:y.aA with
   |true=>rw[D]at h;cases h
   | false=>
    rw[D,aq]at h;injection h with h;subst h;exact⟨rfl,O,D⟩
  ·cases h
theorem KH:∀ (ps:aa PK) (xs:aa Operand) (D:aa Mu),jd σ ps xs=some D->∀ J∈D,xx σ J
 |[],[],D,h=>by injection h with h;subst h;simp
 | p :: ps,x :: xs,D,h=>by
  unfold jd at h;split at h
  ·rename_i J E C I;injection h with h;subst h;have L:=KH ps xs E I;have C:=tH C;intro z hz;rcases fF.1 hz with rfl | hz
   ·cases p with
    |v=>exact C.elim
    | p=>
     cases z with
     |ax=>exact C.2
     |sl=>exact C.elim
    | s=>
     cases z with
     |ax=>exact C.elim
     |sl=>exact C.2
   ·exact L z hz
  next E C I=>injection h with h;subst h;exact KH ps xs E I
  ·cases h
 |[],_::_,D,h=>by cases h
 |_::_,[],D,h=>by cases h
theorem Ft:∀ {ps:aa PK} (i C:Nat) (x:lF ps),(kP ps i x).length=(kP ps C x).length
 |[],_,_,_=>rfl
 |.v _ _::ps,i,C,x=>by simp only[kP,kB];rw[Ft i C]
 |.p _ _ _::ps,i,C,x=>by simp only[kP,kB];rw[Ft (i+1) (C+1)]
 |.s _ _::ps,i,C,x=>by simp only[kP,kB];rw[Ft (i+1) (C+1)]
theorem KI:∀ (ps:aa PK) (xs:aa Operand) (J:aa Mu) (k:lF ps->aj X),jd σ ps xs=some J->gY σ ns ps xs J k=some r->∃ x,k x=some r/\Fs J (oC ps x)/\(kP ps 0 x).length=xs.length/\
  ∀ah ρ a w aD ρ',Rl w0 N ah ρ σ a w->zK ns ah aD->∀(L:aa In) (i:Nat),(∀j z,(oC ps x)[j]?=some z->L[i+j]?=some z)->(∀j O,J[j]?=some O->ρ' (nF (i+j))=ρ O.root)->Cy w w.heap.size aD ρ' L (kP ps i x) (xs.map a.eval)
 | [],[],J,k,C,h=>by
  injection C with C;subst C;exact⟨(),h,trivial,rfl,λ_ _ _ _ _ _ _ _ _ _ _ _=>trivial⟩
 | .v b t :: ps,x :: xs,J,k,C,h=>by
  have qU:jd σ ps xs=some J:=by
   unfold jd at C;split at C
   next O T D I=>exact(tH D).elim
   next T D I=>rw[I];exact C
   ·cases C
  unfold gY at h;obtain⟨p,I,hp⟩:=aiD (w0:=w0) (N:=N) h;cases hb:p.1==b with
  |false=>rw[hb]at I;cases I
  | true=>
   rw[hb,ak]at I;have hb:p.1=b:=by simpa using hb
   subst hb;split at I
   ·rename_i y Q;obtain⟨ys,h3,h4,h5,h6⟩:=KI ps xs J _ qU I
    refine⟨(y,ys),h3,h4,?_,λah ρ a w aD ρ' hR Z L i hi U=>⟨?_,h6 ah ρ a w aD ρ' hR Z L i hi U⟩⟩
    ·simp[kP,h5]
    ·have nN:=hp ah ρ a w aD hR Z _ (hR.aE x);have hk:=lu t 0 p.2 y Q;generalize a.eval x=ux at nN ⊢;rcases nN with ⟨_,_,us,hu,hs,hr⟩ | ⟨g,c,cs,pv,nN⟩
     case f=>
      have he:∀(j:Nat) z,(enc t 0 y)[j]?=some z->z.aA=true:=λj z E=>jr t 0 y (by omega) j z E
      show RA _ _ _ _ (KB L (.pt (false,enc t 0 y))) _;obtain⟨c',eM,e,hw⟩:=aiC hk.1 hk.2;rw[e]at he ⊢;exact⟨pv,rfl,nN.qw hw λj z E=>he (j+2) z (by simpa using E)⟩
     have oy:∀ (j:Nat) z,(enc t 0 y)[j]?=some z->∃ v,us[j]?=some v/\z.aA=true/\RV w w.heap.size aD [] z v:=by
      intro j z E;have hj:j<p.2.length:=by rw[hk.1];exact(c7.1 E).1
      obtain⟨v,hv,gH⟩:=hr j _ (bK hj);exact⟨v,hv,jr t 0 y (by omega) j z E,gH.wk (hk.2 j _ z (bK hj) E)⟩
     have hlen:us.size=(enc t 0 y).length:=hs.trans hk.1;obtain⟨b,vs⟩:=p;cases b with
     | true=>
      show RA _ _ _ _ (.agg ((enc t 0 y).map .v)) _
      refine⟨us,hu,by rw[cZ];exact hlen,λj z E=>?_⟩
      rw[cO]at E;cases Ch:(enc t 0 y)[j]? with
      |none=>rw[Ch]at E;cases E
      | some z'=>
       rw[Ch]at E;injection E with E;subst E;obtain⟨v,hv,g1,g2⟩:=oy j z' Ch;exact⟨v,hv,g1,g2⟩
     | false=>
      have hu:us = #[ux]:=hu;subst hu;show RA _ _ _ _ (KB L (.pt (false,enc t 0 y))) _
      match he:enc t 0 y,oy,hlen with
      | [z],oy,_=>
       obtain⟨v,hv,g1,g2⟩:=oy 0 z rfl;have:ux=v:=by simpa using hv
       rw[this];exact⟨g1,g2⟩
      |[],_,_=>trivial
      |_::_::_,_,hlen=>exact absurd hlen (by simp)
   ·cases I
 | .p t g off :: ps,x :: xs,J,k,C,h=>by
  unfold jd at C;split at C
  ·rename_i O T D I;injection C with C;subst C;have D:=tH D;cases O with
   |sl=>exact D.elim
   | ax r cs vs=>
    have D:aE σ x = .aH r off/\xx σ (.ax r cs vs):=D;unfold gY at h;split at h
    ·rename_i y Q;cases Y:Nat.beq (g % 2) 0 with
     |false=>rw[Y]at Q;cases Q
     | true=>
      rw[Y,ak]at Q;obtain⟨ys,h3,h4,h5,h6⟩:=KI ps xs T _ I h
      refine⟨(y,ys),h3,⟨⟨lu t g _ y Q,aiG Y⟩,h4⟩,by simp[kP,Ft 1 0,h5],λah ρ a w aD ρ' hR Z L i hi U=>⟨?_,?_⟩⟩
      ·have Fu:=hi 0 _ rfl;rw[Nat.add_zero]at Fu;have hx:=hR.aE x;rw[D.1]at hx;obtain⟨b,o,e1,e2⟩:=hx;show RA _ _ _ _ (match L[i]? with|some (.ax _)=>.aH (nF i) off|some (.sl _)=>.lf (.own [nF i])|none=>.undef) _;rw[Fu];have lE:=U 0 _ rfl;rw[Nat.add_zero]at lE;exact⟨b,o,lE.trans e1,e2⟩
      ·refine h6 ah ρ a w aD ρ' hR Z L (i+1) (λj z E=>?_) (λj O m0=>?_)
       ·rw[show i+1+j=i+(j+1) by omega];exact hi (j+1) z E
       ·rw[show i+1+j=i+(j+1) by omega];exact U (j+1) O m0
    ·cases h
  next T D I=>exact(tH D).elim
  ·cases C
 | .s t g :: ps,x :: xs,J,k,C,h=>by
  unfold jd at C;split at C
  ·rename_i O T D I;injection C with C;subst C;have D:=tH D;cases O with
   |ax=>exact D.elim
   | sl q y0=>
    have D:aE σ x = .lf (.own [q])/\xx σ (.sl q y0):=D;unfold gY at h;split at h
    ·rename_i y Q;cases Y:Nat.beq (g % 2) 0 with
     |false=>rw[Y]at Q;cases Q
     | true=>
      rw[Y,ak]at Q;obtain⟨ys,h3,h4,h5,h6⟩:=KI ps xs T _ I h
      refine⟨(y,ys),h3,⟨⟨V.dN Q,?_⟩,h4⟩,by simp[kP,Ft 1 0,h5],λah ρ a w aD ρ' hR Z L i hi U=>⟨?_,?_⟩⟩
      ·show Nat.beq ((g+2) % 2) 0=true;rw[show (g+2) % 2=g % 2 by omega];exact Y
      ·have Fu:=hi 0 _ rfl;rw[Nat.add_zero]at Fu;have hx:=hR.aE x;rw[D.1]at hx;show RA _ _ _ _ (match L[i]? with|some (.ax _)=>.aH (nF i) 0|some (.sl _)=>.lf (.own [nF i])|none=>.undef) _;rw[Fu];have lE:=U 0 _ rfl;rw[Nat.add_zero]at lE;refine⟨hx.1,?_⟩;have I:=hx.2;simp only[cm]at I ⊢;rw[lE];exact I
      ·refine h6 ah ρ a w aD ρ' hR Z L (i+1) (λj z E=>?_) (λj O m0=>?_)
       ·rw[show i+1+j=i+(j+1) by omega];exact hi (j+1) z E
       ·rw[show i+1+j=i+(j+1) by omega];exact U (j+1) O m0
    ·cases h
  next T D I=>exact(tH D).elim
  ·cases C
 |[],_::_,J,k,C,h=>by cases C
 |_::_,[],J,k,C,h=>by cases C
end
def me(c0:Nat):Nat->aa (V×aj Nat)->aa Nat
 |_,[]=>[]
 |n,(_,some q)::C=>q::me c0 (n+1) C
 |n,(_,none)::C=>(c0+n)::me c0 (n+1) C
def xy(c0:Nat):Nat->aa Mu->aa Nat
 |_,[]=>[]
 |pos,.ax r _ D::C=>r::(me c0 (pos+1) D++xy c0 (pos+1+D.length) C)
 |pos,.sl q _::C=>q::xy c0 (pos+1) C
def tJ:aa Nat->aa V->aa Nat
 |n::C,x::xs=>bif x.aA then tJ C xs else n::tJ C xs
 |_,_=>[]
def mg(c0:Nat):Nat->aa Mu->aa In->aa Nat
 |pos,.ax _ _ D::C,.ax xs::outs=>tJ (me c0 (pos+1) D) xs++mg c0 (pos+1+D.length) C outs
 |pos,.sl _ _::C,.sl _::outs=>mg c0 (pos+1) C outs
 |_,_,_=>[]
def oE(ns cn:aa Nat):aa Nat->aa Lf->aa V->aa Lf
 |n::C,l::D,x::xs=>(bif x.plain then .v x else bif x.aA then l.bz ns cn else .own [n])::oE ns cn C D xs
 |_,_,_=>[]
def sn:aa Nat->aa V->aa (Nat×aP)
 |n::C,x::xs=>bif x.aA then sn C xs else (n,.sl x)::sn C xs
 |_,_=>[]
def kQ(ns cn:aa Nat)(c0:Nat):Nat->aa Mu->aa In->aa (Nat×aP)
 |pos,.ax r cs D::C,.ax xs::outs=>(r,.ax (oE ns cn (me c0 (pos+1) D) cs xs))::(sn (me c0 (pos+1) D) xs++kQ ns cn c0 (pos+1+D.length) C outs)
 |pos,.sl q _::C,.sl y::outs=>bif y.jK then (q,.sl y)::kQ ns cn c0 (pos+1) C outs else kQ ns cn c0 (pos+1) C outs
 |_,_,_=>[]
def KJ:aa Nat->Bool
 |[]=>true
 |n::l=>!bV n l&&KJ l
def XZ:In->Bool
 |.ax xs=>xs.all λx=>x.aA ||x.loc
 |.sl y=>y.loc
def gA:aj Tmp->Nat
 |some d=>1000000000100000+1000*d
 |none=>90000
def mh{X:Type}(N:Nat)(σ:S)(C:aj Tmp)(res:fS)(k:S->aj X):aj X:=
 match C with
 |none=>k σ
 | some d=>bif Nat.blt d N then (match res with
  | .one p=>(match qg (p.1,jO (1000000000100000+1000*d) p.2)with
   |some y=>k ((fO (1000000000100000+1000*d) σ p.2).set d y)
   |none=>none)
  |.ct ps=>k ((iK (1000000000100000+1000*d) σ ps).set d (.ct (kN (1000000000100000+1000*d) ps))))else none
def zL(N:Nat)(C:aa Mu)(outs:aa In)(cn:aa Nat):Bool:=
 KJ cn&&(C.all λD=>!bV D.root cn)&&(cn.all λn=>Nat.blt n N ||Nat.ble 60000 n)&&outs.all XZ
def xz{X:Type}(N:Nat)(σ:S)(C:aj Tmp)(D:aa Mu)(ns cn:aa Nat)(res:fS)(outs:aa In)(k:S->aj X):aj X:=
 bif zL N D outs cn then mh N (σ.bz ns cn (kQ ns cn (gA C) res.len D outs)) C res k else none
def lH{X:Type}(N:Nat)(σ:S)(D:aj Tmp)(c:mZ)(args:aa Operand)(k:S->aj X):aj X:=
 match jd σ c.ps args with
 | some C=>bif once (kr 0 C)&&Nat.ble C.length 40 then
   gY σ ((kr 0 C).map (·.1)) c.ps args C λx=>(match c.F x with
    |some y=>xz N σ D C ((kr 0 C).map (·.1)) (mg (gA D) (eI c.ro y.1).len C (gX (eE c.ps) y.2)) (eI c.ro y.1) (gX (eE c.ps) y.2) k
    |none=>none)else none
 |none=>none
section
variable {P:Program} {w w':World} {w0:Wd} {B N:Nat} {ah cW aD:bA} {ρ dZ ρ':Nat->Loc} {σ:S} {a:Act} {X:Type} {d:Nat} {r:X} {ns cn:aa Nat} {o:Oper} {rs:aa Nat} {dS:aa (Nat×Nat)}
theorem X0{n:Nat}:∀ {l:aa (Nat×Nat)},bV n (l.map (·.1))=false->l.lookup n=none
 |[],_=>rfl
 | p :: l,h=>by
  simp only[ig,bV,lZ]at h;rw[List.lookup_cons];have:(n==p.1)=false:=by
   cases hb:n==p.1 with
   |false=>rfl
   | true=>
    have e:n=p.1:=by simpa using hb
    have C:=h.1;rw[<-e,Nat.beq_refl]at C;cases C
  rw[this];exact X0 h.2
theorem aiI{b:Nat}{k:aa Nat}{n m:Nat}(h:ah b=some k)(C:k.getLast?=some n)(D:dS.lookup n=some m):eA ah dS id b=some (k.dropLast++[m]):=by
 simp[eA,h,C,D]
theorem aiJ(C:∀ b k,ah b=some k->k≠[]):zK (dS.map (·.1)) ah (eA ah dS id):=by
 refine⟨λb h=>uW h,λb k h=>⟨C b k h,λhl=>?_⟩⟩
 simp only[eA,h];cases D:k.getLast? with
 |none=>rfl
 | some n=>
  simp only[cy,D]at hl;simp[X0 hl]
theorem Rk{m:Nat->aj aP}:∀ (cs:aa Lf) (C:aa (V×aj Nat)),qv m cs=some C->C.length=cs.length/\∀ (j:Nat) l,cs[j]?=some l->∃ v,C[j]?=some v/\tF m l=some v
 |[],C,h=>by injection h with h;subst h;exact⟨rfl,λj l hl=>by simp at hl⟩
 | c :: cs,C,h=>by
  unfold qv at h;split at h
  ·rename_i v D E I;injection h with h;subst h;obtain⟨J,L⟩:=Rk cs D I
   refine⟨by simp[J],λj l hl=>?_⟩
   cases j with
   |zero=>simp at hl;subst hl;exact⟨v,rfl,E⟩
   |succ j=>exact L j l (by simpa using hl)
  ·cases h
theorem aiK{l:Lf}{v:V}{I:aj Nat}(h:tF σ.m l=some (v,I))(hR:Rl w0 N ah ρ σ a w)(D:zK ns ah aD){u:Value}(J:cQ w w0.heap.size ah ρ l u):
  (I=none/\∀B' L,RV w B' aD L v u)\/(∃q,I=some q/\v.aA=false/\RV w w0.heap.size ah [q] v u):=by
 unfold tF at h;split at h
 ·simp only[fh,gT]at h;obtain⟨rfl,rfl⟩:=h;exact .inl ⟨rfl,λB' L=>J.2.out D.none D.rest (.inl J.1)⟩
 ·rename_i q;split at h
  ·rename_i y U;have O:=hR.root q _ U;generalize C:aP.sl y=x at O;cases O with
   |ax=>cases C
   |mp=>cases C
   |gh=>cases C
   | sl Y y' Z Q=>
    injection C with C;subst C;have Fk:Y=u:=by
     have T:=J.2;simp only[cm,Z]at T;injection T
    subst Fk;cases E:y.aA with
    | true=>
     rw[E,ak]at h;simp only[fh,gT]at h;obtain⟨rfl,rfl⟩:=h;exact .inl ⟨rfl,λB' L=>Q.out D.none D.rest (.inl E)⟩
    | false=>
     rw[E,aq]at h;simp only[fh,gT]at h;obtain⟨rfl,rfl⟩:=h;exact .inr ⟨q,rfl,E,Q⟩
  ·cases h
 ·cases h
theorem X3{i:Nat}{v:V}{q:Nat}:∀ (D:aa (V×aj Nat)) (C j:Nat),D[j]?=some (v,some q)->(q,60000+1000*i+(C+j))∈Cx i C D
 |[],C,j,h=>by simp at h
 | (I,E) :: D,C,j,h=>by
  cases j with
  | zero=>
   simp at h;obtain⟨rfl,rfl⟩:=h;exact .head _
  | succ j=>
   have:=X3 (i:=i) D (C+1) j (by simpa using h);rw[show C+1+j=C+(j+1) by omega]at this;cases E with
   |none=>exact this
   |some J=>exact .tail _ this
theorem Ro{i:Nat}:∀ (cs:aa V) (C:Nat),(xq i C cs).length=cs.length
 |[],_=>rfl
 |c::cs,C=>by simp[xq,Ro cs]
theorem RV.kG{q:aa Nat}{x:V}{u:Value}(h:RV w B ah q x u)(C:x.plain=false)(D:x.jK=true):kG u=true:=by
 cases h<;>first|rfl|cases C|cases D
theorem Wk.Rp{x y:V}(h:Wk x y)(C:x.aA=false):y.aA=false:=by
 cases h with
 |same=>exact C
 |nil=>cases C
 |q=>exact C
 |gr t o D E l I J=>simp[V.aA];omega
theorem Rq(hR:Rl w0 N ah ρ σ a w)(hS:zK ns ah (eA ah dS id)):∀ (I:aa Mu) (L:aa In) (i:Nat),(∀ p∈kr i I,dS.lookup p.1=some p.2)->(∀ j E,I[j]?=some E->rs[i+j]?=some E.root)->(∀ E∈I,xx σ E)->Fs I L->i+I.length<=40->
  oB w w.heap.size (eA ah dS id) (uY w ρ rs) i L
 |[],[],_,_,_,_,_,_=>trivial
 |[],_::_,_,_,_,_,h,_=>h.elim
 |.ax _ _ _::_,[],_,_,_,_,h,_=>h.elim
 |.sl _ _::_,[],_,_,_,_,h,_=>h.elim
 |.ax _ _ _::_,.sl _::_,_,_,_,_,h,_=>h.elim
 |.sl _ _::_,.ax _::_,_,_,_,_,h,_=>h.elim
 | .ax r cs vs :: I,.ax xs :: L,i,O,U,Y,hrel,hi=>by
  obtain⟨hm,hg,hlen⟩:=Y _ (.head _);obtain⟨⟨hw,hx⟩,zM⟩:=hrel;obtain⟨g1,g2⟩:=Rk cs vs hg;have Q:=U 0 _ rfl;rw[Nat.add_zero]at Q;simp only[kB]at hi;have qf:xs.length=cs.length:=by rw[<-hw.1,cZ,g1]
  have Z:=hR.root r _ hm;generalize C:aP.ax cs=z at Z;cases Z with
  |sl=>cases C
  |mp=>cases C
  |gh=>cases C
  | ax b off cells e eM us di hl hh hs hc=>
   injection C with C;subst C;have oy:∀ (j:Nat) x,xs[j]?=some x->cells[off+j]?=some (us j)/\RV w w.heap.size (eA ah dS id) [nC i j x] x (us j)/\(x.plain=false->uY w ρ rs (nC i j x) = .de (us j)):=by
    intro j x J;have uI:j<cs.length:=by rw[<-qf];exact(c7.1 J).1
    obtain⟨v,hv,Fv⟩:=g2 j _ (bK uI);obtain⟨c1,T⟩:=hc j _ (bK uI);obtain⟨v,qo⟩:=v;have Rr:Wk v x:=hw.2 j v x (by rw[cO,hv];rfl) J;obtain⟨Fw,Kd⟩:=hx x (fL J)
    refine⟨c1,?_,λD=>?_⟩
    ·rcases aiK Fv hR hS T with ⟨rfl,h1⟩ | ⟨q,rfl,hf,h1⟩
     ·exact(h1 _ _).wk Rr
     ·have Rd:=Rr.Rp hf;have hq:=O (q,60000+1000*i+(0+j)) (.tail _ (List.mem_append_left _ (X3 vs 0 j hv)));rw[eN]at hq;have h2:=(RV.eA (nm:=id) (p:=[]) h1 hq).wk Rr;have e1:nC i j x=60000+1000*i+j:=by simp[nC,Rd]
      rw[e1];exact h2.XW Kd
    ·exact aiA Q (by omega) (by omega) di (by rw[cell_of_row w b _ cells _ _ hh];exact c1)
   refine⟨.ax b off cells e _ us ((Fq Q (by omega)).trans di) ?_ hh (by rw[Ro,qf];exact hs) (λj z C=>?_),λj x J D=>?_,Rq hR hS I L (i+1) (λp D=>O p (.tail _ (List.mem_append_right _ D))) (λj E zN=>?_) (λE h=>Y E (.tail _ h)) zM (by omega)⟩
   ·exact aiI hl rfl (O _ (.head _))
   ·have J:j<xs.length:=by rw[<-Ro (i:=i) xs 0];exact(c7.1 C).1
    have Cz:=Rg (i:=i) xs 0 j _ (bK J);rw[C]at Cz;injection Cz with Cz;subst Cz;rw[eN];obtain⟨c1,T,c3⟩:=oy j _ (bK J);refine⟨c1,?_⟩;cases D:(xs[j]).plain with
    | true=>
     have e1:xo i j xs[j] = .v xs[j]:=by simp[xo,D]
     rw[e1];exact⟨V.EV D,T.rX D⟩
    | false=>
     have e1:xo i j xs[j] = .own [nC i j xs[j]]:=by simp[xo,D]
     rw[e1];exact⟨T.kG D (hx _ (cP _)).1,by simp only[cm,c3 D]⟩
   ·obtain⟨c1,T,c3⟩:=oy j x J;exact .sl _ x (c3 D) T
   ·have:=U (j+1) E (by simpa using zN);rw[show i+(j+1)=i+1+j by omega]at this;exact this
 | .sl q y :: I,.sl y' :: L,i,O,U,Y,hrel,hi=>by
  obtain⟨hm,hf⟩:=Y _ (.head _);obtain⟨⟨hw,hx⟩,zM⟩:=hrel;have Q:=U 0 _ rfl;rw[Nat.add_zero]at Q;simp only[kB]at hi;have Z:=hR.root q _ hm;generalize C:aP.sl y=z at Z;cases Z with
  |ax=>cases C
  |mp=>cases C
  |gh=>cases C
  | sl v y0 di hr=>
   injection C with C;subst C
   refine⟨.sl v y' ((Fq Q (by omega)).trans di) ?_,Rq hR hS I L (i+1) (λp D=>O p (.tail _ D)) (λj E zN=>?_) (λE h=>Y E (.tail _ h)) zM (by omega)⟩
   ·exact((RV.eA (nm:=id) (p:=[]) hr (O _ (.head _))).wk hw).XW hx
   ·have:=U (j+1) E (by simpa using zN);rw[show i+(j+1)=i+1+j by omega]at this;exact this
end
def Rs:Loc->Nat×Nat
 |.ax b off=>(b,off)
 |.de _=>(0,0)
 |.bM _=>(0,0)
def xA(w:World)(b off:Nat):Nat->aa Nat->aa V->aa (Nat×Value)
 |j,n::C,x::xs=>bif x.aA then xA w b off (j+1) C xs else (n,(w.cell? ⟨b,off+j,none⟩).getD undef)::xA w b off (j+1) C xs
 |_,_,_=>[]
def qY(w:World)(ρ:Nat->Loc)(c0:Nat):Nat->aa Mu->aa In->aa (Nat×Value)
 |pos,.ax r _ D::C,.ax xs::outs=>xA w (Rs (ρ r)).1 (Rs (ρ r)).2 0 (me c0 (pos+1) D) xs++qY w ρ c0 (pos+1+D.length) C outs
 |pos,.sl _ _::C,.sl _::outs=>qY w ρ c0 (pos+1) C outs
 |_,_,_=>[]
def X4(l:aa (Nat×Value))(ρ:Nat->Loc):Nat->Loc:=λn=>match l.lookup n with
 |some v=>.de v
 |none=>ρ n
theorem Rt{w:World}{b off:Nat}:∀ (C:aa Nat) (xs:aa V) (j:Nat),(xA w b off j C xs).map (·.1)=tJ C xs
 |[],[],_=>rfl
 |[],_::_,_=>rfl
 |_::_,[],_=>rfl
 | n :: C,x :: xs,j=>by
  simp only[xA,tJ];cases x.aA with
  |true=>exact Rt C xs (j+1)
  |false=>simp only[aq,ig];rw[Rt C xs (j+1)]
theorem KM{w:World}{ρ:Nat->Loc}{c0:Nat}:∀ (C:aa Mu) (outs:aa In) (D:Nat),(qY w ρ c0 D C outs).map (·.1)=mg c0 D C outs
 | .ax r _ E :: C,.ax xs :: outs,D=>by
  simp only[qY,mg,List.map_append];rw[Rt,KM C outs]
 | .sl _ _ :: C,.sl _ :: outs,D=>by
  simp only[qY,mg];exact KM C outs _
 |[],_,_=>by simp[qY,mg]
 |.ax _ _ _::_,[],_=>rfl
 |.sl _ _::_,[],_=>rfl
 |.ax _ _ _::_,.sl _::_,_=>rfl
 |.sl _ _::_,.ax _::_,_=>rfl
theorem X5{n:Nat}:∀ {l:aa (Nat×Value)},bV n (l.map (·.1))=false->l.lookup n=none
 |[],_=>rfl
 | p :: l,h=>by
  simp only[ig,bV,lZ]at h;rw[List.lookup_cons];cases hb:n==p.1 with
  |false=>exact X5 h.2
  | true=>
   have e:n=p.1:=by simpa using hb
   have C:=h.1;rw[<-e,Nat.beq_refl]at C;cases C
theorem X6:∀ {l:aa (Nat×Value)},KJ (l.map (·.1))=true->∀ p∈l,l.lookup p.1=some p.2
 |[],_,p,hp=>by cases hp
 | q :: l,h,p,hp=>by
  simp only[ig,KJ,aK,fM]at h;rw[List.lookup_cons];rcases fF.1 hp with rfl|hp
  ·simp
  ·cases hb:p.1==q.1 with
   |false=>exact X6 h.2 p hp
   | true=>
    have e:p.1=q.1:=by simpa using hb
    exact absurd (List.mem_map_of_mem (f:=(·.1)) hp) (by rw[e];exact XU h.1)
theorem Fx{c0:Nat}:∀ (C:aa (V×aj Nat)) (n:Nat),(me c0 n C).length=C.length
 |[],_=>rfl
 |(_,some _)::C,n=>by simp[me,Fx C]
 |(_,none)::C,n=>by simp[me,Fx C]
theorem X7{ns cn:aa Nat}:∀ (D:aa Nat) (C:aa Lf) (xs:aa V),D.length=C.length->xs.length=C.length->(oE ns cn D C xs).length=C.length/\
  ∀(j:Nat) z,(oE ns cn D C xs)[j]?=some z->∃n l x,D[j]?=some n/\C[j]?=some l/\xs[j]?=some x/\z=(bif x.plain then .v x else bif x.aA then l.bz ns cn else .own [n])
 |[],[],[],_,_=>⟨rfl,λj z E=>by simp[oE]at E⟩
 | n :: D,l :: C,x :: xs,I,J=>by
  obtain⟨L,O⟩:=X7 (ns:=ns) (cn:=cn) D C xs (by simpa using I) (by simpa using J)
  refine⟨by simp[oE,L],λj z E=>?_⟩
  cases j with
  |zero=>simp only[oE,List.getElem?_cons_zero,fh]at E;exact⟨n,l,x,rfl,rfl,rfl,E.symm⟩
  |succ j=>exact O j z (by simpa [oE]using E)
 |[],_::_,_,I,_=>by simp at I
 |_::_,[],_,I,_=>by simp at I
 |_::_,_::_,[],_,J=>by simp at J
 |[],[],_::_,_,J=>by simp at J
theorem X8:∀ (C:aa Nat) (xs:aa V),∀ p∈sn C xs,∃ (j:Nat) (x:V),C[j]?=some p.1/\xs[j]?=some x/\x.aA=false/\p.2 = .sl x
 |[],[],p,hp=>by cases hp
 |[],_::_,p,hp=>by cases hp
 |_::_,[],p,hp=>by cases hp
 | n :: C,x :: xs,p,hp=>by
  simp only[sn]at hp;have rest:p∈sn C xs->∃ (j:Nat) (y:V),(n :: C)[j]?=some p.1/\(x :: xs)[j]?=some y/\y.aA=false/\p.2 = .sl y:=λhp=>by
   obtain⟨j,y,E,I,J,L⟩:=X8 C xs p hp;exact⟨j+1,y,by simpa using E,by simpa using I,J,L⟩
  cases D:x.aA with
  |true=>rw[D]at hp;exact rest hp
  | false=>
   rw[D,aq]at hp;rcases fF.1 hp with rfl|hp
   ·exact⟨0,x,rfl,rfl,D,rfl⟩
   ·exact rest hp
theorem X9{w:World}{b off n:Nat}{x:V}:∀ (D:aa Nat) (xs:aa V) (C j:Nat),D[j]?=some n->xs[j]?=some x->x.aA=false->(n,(w.cell? ⟨b,off+(C+j),none⟩).getD undef)∈xA w b off C D xs
 |[],_,_,j,h,_,_=>by simp at h
 |_::_,[],_,j,_,h,_=>by simp at h
 | m :: D,y :: xs,C,j,E,I,J=>by
  cases j with
  | zero=>
   simp at E I;subst E I;simp only[xA,J,aq];exact .head _
  | succ j=>
   have:=X9 (w:=w) (b:=b) (off:=off) D xs (C+1) j (by simpa using E) (by simpa using I) J;rw[show C+1+j=C+(j+1) by omega]at this;simp only[xA];cases y.aA with
   |true=>exact this
   |false=>exact .tail _ this
section
variable {P:Program} {w w':World} {w0:Wd} {B N:Nat} {ah cW aD:bA} {ρ dZ ρ':Nat->Loc} {σ:S} {a:Act} {X:Type} {d:Nat} {r:X} {ns cn:aa Nat} {o:Oper} {rs:aa Nat} {dS:aa (Nat×Nat)} {nm KN:Nat->Nat} {c0:Nat}
theorem RV.zO{q:aa Nat}{x:V}{v:Value}(h:RV w B ah q x v){B':Nat}(hB:B'<=B)(hl:∀ b,B<=b->aD b=ah b)(Q:∀ b k,ah b=some k->aD b=some k)(D:x.loc=true):RV w B' aD q x v:=by
 induction h with
 |int=>exact .int _ _ _
 |bool=>exact .bool _ _
 |str=>exact .str _ _
 |nil=>exact .nil _
 |cG=>exact .cG _ _ _
 |cL=>exact .cL _ _ _ _ _ (by first|assumption|omega)
 |cV=>exact .cV _ _ _ _ _ (by first|assumption|omega)
 | aA q t o T l b off cap u E I hb U Y J Z L=>
  have uU:o=1:=by
   match o,E,D with
   |0,_,D=>cases D
   |1,_,_=>rfl
   |n+2,E,_=>omega
  subst uU;have O:=U rfl
  refine .aA _ _ _ _ _ _ _ _ u E ((hl b O).trans I) hb (λ_=>Nat.le_trans hB O) Y J (λi h j x C=>L i h j x C ?_)
  have:=uC t 1 l[i] x (fL C);cases x with
  | sl t' o' q' l'=>
   have:o'=1:=by simpa [V.gr]using this
   subst this;rfl
  |_=>rfl
 | own q t o T l b cap cs u I hh hs hn hm J Z L=>
  exact .own _ _ _ _ _ _ _ cs u (Q b q I) hh hs hn hm J (λi h j x C=>L i h j x C (XN D l[i] x (fL C)))
theorem jb.zO{nm:Nat->Nat}:∀ (ps:aa Pt) (off:Nat) (C:aa Value) {B':Nat},jb w B ah nm off ps C->B'<=B->(∀ b,B<=b->aD b=ah b)->(∀ b k,ah b=some k->aD b=some k)->(∀ n,off<=n->n<off+(ps.map λp=>p.2.length).sum->nm n=KN n)->jb w B' aD KN off ps C
 |[],_,[],_,h,_,_,_,_=>h
 |[],_,_::_,_,h,_,_,_,_=>h
 |_::_,_,[],_,h,_,_,_,_=>h
 | p :: ps,off,v :: C,B',h,hB,hl,I,D=>by
  obtain⟨⟨J,us,O,Q,T⟩,U⟩:=h;simp only[ig,List.sum_cons]at D
  refine⟨⟨J,us,O,Q,λj x E=>?_⟩,jb.zO ps _ C U hB hl I (λn h1 h2=>D n (by omega) (by omega))⟩
  obtain⟨L,Y,Z⟩:=T j x E;have hj:j<p.2.length:=(c7.1 E).1;refine⟨L,Y,?_⟩;show RV w B' aD [KN (off+j)] x L;rw[<-D (off+j) (by omega) (by omega)];exact Z.zO hB hl I (cv.1 J x (fL E))
theorem Ru(hR:Rl w0 N ah ρ σ a w)(hv:qt w w' ah cW ρ dZ ns cn)(nL:∀ b k,aD b=some k->cW b=some k)(mQ:∀ b,w.heap.size<=b->cW b=aD b)(hB:w0.heap.size<=w.heap.size):
  ∀(E:aa Mu) (ins outs:aa In) (i C:Nat),(∀j D,E[j]?=some D->rs[i+j]?=some D.root)->(∀D∈E,xx σ D)->Fs E ins->i+E.length<=40->Fm w w' aD (uY w ρ rs) nm i C ins outs->
  (∀k n,(xy c0 C E)[k]?=some n->nm (C+k)=n)->(∀p∈qY w' ρ c0 C E outs,dZ p.1 = .de p.2)->(∀D∈E,bV D.root cn=false)->outs.all XZ=true->∀p∈kQ ns cn c0 C E outs,dH w' w0.heap.size cW dZ p.1 p.2
 |[],[],[],_,_,_,_,_,_,_,_,_,_,_,p,hp=>by simp[kQ]at hp
 |[],[],_::_,_,_,_,_,_,_,h,_,_,_,_,_,_=>h.elim
 |[],_::_,_,_,_,_,_,h,_,_,_,_,_,_,_,_=>h.elim
 |.ax _ _ _::_,[],_,_,_,_,_,h,_,_,_,_,_,_,_,_=>h.elim
 |.sl _ _::_,[],_,_,_,_,_,h,_,_,_,_,_,_,_,_=>h.elim
 |.ax _ _ _::_,.sl _::_,_,_,_,_,_,h,_,_,_,_,_,_,_,_=>h.elim
 |.sl _ _::_,.ax _::_,_,_,_,_,_,h,_,_,_,_,_,_,_,_=>h.elim
 |.ax _ _ _::_,.ax _::_,[],_,_,_,_,_,_,h,_,_,_,_,_,_=>h.elim
 |.sl _ _::_,.sl _::_,[],_,_,_,_,_,_,h,_,_,_,_,_,_=>h.elim
 |.ax _ _ _::_,.ax _::_,.sl _::_,_,_,_,_,_,_,h,_,_,_,_,_,_=>h.elim
 |.sl _ _::_,.sl _::_,.ax _::_,_,_,_,_,_,_,h,_,_,_,_,_,_=>h.elim
 | .ax r cs I :: E,.ax xs0 :: ins,.ax xs :: outs,i,C,mX,m0,hrel,hi,hO,oF,zP,oz,Q,p,hp=>by
  obtain⟨hm,hg,hlen⟩:=m0 _ (.head _);obtain⟨⟨hw,hx⟩,zM⟩:=hrel;obtain⟨g1,g2⟩:=Rk cs I hg;have nH:=mX 0 _ rfl;rw[Nat.add_zero]at nH;simp only[kB]at hi;have Rw:xs0.length=cs.length:=by rw[<-hw.1,cZ,g1]
  obtain⟨⟨b,off,cells,uX,e,e',T,h2,h3,h4,h5,h6,h7⟩,Rx⟩:=hO;have iz:=hR.root r _ hm;generalize U:aP.ax cs=z at iz;cases iz with
  |sl=>cases U
  |mp=>cases U
  |gh=>cases U
  | ax b0 O Ya e0 eM us di hl hh hs hc=>
   injection U with U;subst U;rw[Fq nH (by omega)]at T;have T:ρ r = .ax b off:=T;rw[di]at T;injection T with e1 e2;subst e1 e2;have aiL:Ya=cells:=by
    rw[hh]at h2;injection h2 with h2;injection h2
   subst aiL;have lE:=oz _ (.head _);have CA:dZ r = .ax b0 O:=(hv.dQ r lE).trans di;have r6:nm C=r:=by have:=oF 0 r rfl;rwa [Nat.add_zero]at this
   have aiM:∀ (j:Nat) n,(me c0 (C+1) I)[j]?=some n->nm (C+1+j)=n:=by
    intro j n Y;have hj:j<(me c0 (C+1) I).length:=(c7.1 Y).1;have:=oF (j+1) n (by simp only[xy,List.getElem?_cons_succ];rw[List.getElem?_append_left hj];exact Y);rw[show C+1+j=C+(j+1) by omega];exact this
   have oy:∀ (j:Nat) x,xs[j]?=some x->∃ u,uX[O+j]?=some u/\w'.cell? ⟨b0,O+j,none⟩=some u/\((x.plain=true/\∀ (w:World) (B:Nat) (ah:bA) (q:aa Nat),RV w B ah q x u)\/(x.plain=false/\x.aA=true/\Ya[O+j]?=some u)\/(x.aA=false/\RV w' w.heap.size aD [nm (C+1+j)] x u)):=by
    intro j x hj;obtain⟨u,Z,hd⟩:=h7 j x hj;exact⟨u,Z,by rw[cell_of_row w' b0 _ uX _ _ h3];exact Z,hd⟩
   have r4:∀ (j:Nat) n x u,(me c0 (C+1) I)[j]?=some n->xs[j]?=some x->x.aA=false->w'.cell? ⟨b0,O+j,none⟩=some u->dZ n = .de u:=by
    intro j n x u Y hxj hf Z;have xm:=X9 (w:=w') (b:=b0) (off:=O) _ xs 0 j Y hxj hf;rw[eN,Z]at xm;exact zP (n,u) (by simp only[qY,di,Rs];exact List.mem_append_left _ xm)
   simp only[kQ]at hp;rcases fF.1 hp with rfl|hp
   ·obtain⟨k1,k2⟩:=X7 (ns:=ns) (cn:=cn) (me c0 (C+1) I) cs xs (by rw[Fx,g1]) (by rw[h6,Rw])
    refine .ax b0 O uX e' _ (λj=>uX.getD (O+j) undef) CA (nL _ _ (by rw[h4,r6])) h3 (by show O+(oE _ _ _ _ _).length<=_;rw[k1,<-Rw,<-h6];exact h5) (λj z U=>?_)
    obtain⟨n,l,x,n1,n2,n3,rfl⟩:=k2 j z U;obtain⟨u,Z,Ry,hd⟩:=oy j x n3;have eu:uX.getD (O+j) undef=u:=by rw[gE,Z];rfl
    rw[eu];refine⟨Z,?_⟩;rcases hd with ⟨J,L⟩|⟨J,L,d3⟩|⟨J,L⟩
    ·rw[J,ak];exact⟨V.EV J,L _ _ _ _⟩
    ·rw[J,L,aq,ak];obtain⟨c1,c2⟩:=hc j l n2;rw[c1]at d3;injection d3 with d3;rw[<-d3];exact c2.iS hv
    ·have xl:x.plain=false:=by
      cases xl:x.plain with
      |false=>rfl
      |true=>rw[V.EV xl]at J;cases J
     rw[xl,J,aq,aq];exact⟨L.J5 J,by simp only[cm,r4 j n x u n1 n3 J Ry]⟩
   ·rcases List.mem_append.1 hp with hp | hp
    ·obtain⟨j,x,n1,n2,n3,n4⟩:=X8 _ _ p hp;obtain⟨u,Z,Ry,hd⟩:=oy j x n2;rw[n4];refine .sl u x (r4 j p.1 x u n1 n2 n3 Ry) ?_;rcases hd with ⟨J,L⟩ | ⟨J,L,d3⟩ | ⟨J,L⟩
     ·exact L _ _ _ _
     ·rw[n3]at L;cases L
     ·rw[aiM j _ n1]at L;refine L.zO hB mQ nL ?_;rw[List.all_cons,aK]at Q;have:=cv.1 Q.1 x (fL n2)
      rwa [n3,Bool.false_or]at this
    ·rw[List.all_cons,aK]at Q
     refine Ru hR hv nL mQ hB E ins outs (i+1) (C+1+I.length) (λj D zN=>?_) (λD h=>m0 D (.tail _ h)) zM (by omega) ?_ (λk n Y=>?_) (λp hp=>zP p ?_) (λD h=>oz D (.tail _ h)) Q.2 p hp
     ·have:=mX (j+1) D (by simpa using zN);rw[show i+(j+1)=i+1+j by omega]at this;exact this
     ·rw[g1,<-Rw];exact Rx
     ·have:=oF (1+I.length+k) n (by
       rw[show 1+I.length+k=(I.length+k)+1 by omega];simp only[xy,List.getElem?_cons_succ];rw[List.getElem?_append_right (by rw[Fx];omega),Fx];rw[show I.length+k-I.length=k by omega];exact Y)
      rw[show C+1+I.length+k=C+(1+I.length+k) by omega];exact this
     ·simp only[qY];exact List.mem_append_right _ hp
 | .sl q y0 :: E,.sl y1 :: ins,.sl y :: outs,i,C,mX,m0,hrel,hi,hO,oF,zP,oz,Q,p,hp=>by
  obtain⟨hm,hf⟩:=m0 _ (.head _);obtain⟨_,zM⟩:=hrel;have nH:=mX 0 _ rfl;rw[Nat.add_zero]at nH;simp only[kB]at hi;obtain⟨hO1,Rx⟩:=hO;rw[List.all_cons,aK]at Q;have r6:nm C=q:=by have:=oF 0 q rfl;rwa [Nat.add_zero]at this
  have hp:(p=(q,.sl y)/\y.jK=true)\/p∈kQ ns cn c0 (C+1) E outs:=by
   simp only[kQ]at hp;cases hy:y.jK with
   |false=>rw[hy]at hp;exact .inr hp
   | true=>
    rw[hy]at hp;rcases fF.1 hp with h|h
    ·exact .inl ⟨h,rfl⟩
    ·exact .inr h
  rcases hp with ⟨rfl,hy⟩|hp
  ·obtain⟨v,T,h2⟩:=hO1.resolve_left (by rintro rfl;cases hy);rw[Fq nH (by omega)]at T;rw[r6]at h2;exact .sl v y ((hv.dQ q (oz _ (.head _))).trans T) (h2.zO hB mQ nL Q.1)
  ·refine Ru hR hv nL mQ hB E ins outs (i+1) (C+1) (λj D zN=>?_) (λD h=>m0 D (.tail _ h)) zM (by omega) Rx (λk n Y=>?_) (λp hp=>zP p hp) (λD h=>oz D (.tail _ h)) Q.2 p hp
   ·have:=mX (j+1) D (by simpa using zN);rw[show i+(j+1)=i+1+j by omega]at this;exact this
   ·have:=oF (k+1) n (by simpa [xy]using Y);rw[show C+1+k=C+(k+1) by omega];exact this
end
end Go.Proofs.YtglnbhiaknohlaaGreat
