/-
  Running the program over pure contents, and that it follows (part 2). Nothing here is a claim.
-/
import Derived.Laws.StructEq
import Derived.Test.YtecofnkoloihpaaGreatV1
set_option linter.unusedSimpArgs false
namespace Go.Proofs.YtecofnkoloihpaaGreat
open Go.RowKit
set_option linter.unusedVariables false
section
variable {P:Program} {w w':World} {w0:Wd} {B N:Nat} {aj aD:bM} {ρ ρ':Nat->Loc} {σ:S} {a:Act} {X:Type} {d:Nat} {r:X}
theorem RV.under{k:af Nat}{x:V}{v:Value}{n:Nat}(h:RV w B aj k x v)(hk:1<k.length\/x.az=true)(hz:w.heap.size<=w'.heap.size)(hb:∀ b,b<w.heap.size->aj b≠some [n]->w'.heap[b]?=w.heap[b]?)(hl:∀ b,b<w.heap.size->aD b=aj b):RV w' B aD k x v:=by
 induction h with
 |int=>exact .int _ _ _
 |bool=>exact .bool _ _
 |str=>exact .str _ _
 |nil=>exact .nil _
 |c9=>exact .c9 _ _ _
 |dm=>exact .dm _ _ _ _ _ (by first|assumption|omega)
 |dD=>exact .dD _ _ _ _ _ (by first|assumption|omega)
 | az q t o qn l b off cap u ho dH kN h1 eA hc hr ih=>
  have br:aj b≠some [n]:=by rw[dH];simp
  exact .az _ _ _ _ _ _ _ _ u ho ((hl b kN).trans dH) (mg kN hz) h1 eA (λi h j x hx=>(mH (a:=⟨b,_,none⟩) (hb b kN br)).trans (hc i h j x hx)) (λi h j x hx=>ih i h j x hx (.inr (mj t o l[i] ho j x hx)))
 | own q t o qn l b cap cs u dH hh hs hn hm hc hr ih=>
  have kN:b<w.heap.size:=(ia.1 hh).1;have hq:1<q.length:=by
   rcases hk with hk|hk
   ·exact hk
   ·simp[V.az]at hk;omega
  have br:aj b≠some [n]:=by
   rw[dH];intro e;injection e with e;rw[e]at hq;simp at hq
  exact .own _ _ _ _ _ _ _ cs u ((hl b kN).trans dH) ((hb b kN br).trans hh) hs hn hm hc (λi h j x hx=>ih i h j x hx (.inl (by simp)))
def ur(w:World)(B:Nat)(aj:bM)(n t0:Nat)(t:TC)(o:Nat)(l:af (T t))(vs:af Value):Prop:=
 ∀i (hi:i<l.length) j x,(enc t o l[i])[j]?=some x->∃v,vs[i*aB t+j]?=some v/\RV w B aj (j::(t0+i)::aB t::[n]) x v
theorem RV.akM{n:Nat}{t:TC}{o:Nat}{qn:Bool}{l:af (T t)}{u:Value}(h:RV w B aj [n] (.sl t (o+2) qn l) u){B':Nat}(hB:∀ b,aj b=some [n]->B'<=b):
  ∃xs,w.ownsRow B' (tid t) (aB t) u l.length xs/\(∀b,u.ownBlock=some b->aj b=some [n])/\(qn=true->u.ownBlock≠none)/\ur w B aj n 0 t o l xs:=by
 cases h with
 |dm=>omega
 |dD=>omega
 |c9=>exact⟨[],⟨by simp,.inl ⟨rfl,rfl⟩⟩,by simp[Value.ownBlock],by simp,λi hi=>by simp at hi⟩
 |az _ _ _ _ _ _ _ _ _ ho=>omega
 | own _ _ _ _ _ b cap cs us hl hh hs hn hm hc hr=>
  refine⟨cs.toList.take (l.length*aB t),⟨?_,.inr ⟨b,cap,cs,rfl,hB b hl,hh,hn,hm.1,hs,rfl⟩⟩,λb' mR=>?_,λ_=>by simp[Value.ownBlock],λi hi j x hx=>?_⟩
  ·have eC:cs.toList.length=cap*aB t:=by rw[<-hs];simp
   rw[jN,eC];have:=kG (aB t) hn;omega
  ·have:b=b':=by simpa [Value.ownBlock]using mR
   subst this;exact hl
  ·have hj:j<aB t:=by have:=(dS.1 hx).1;rwa [lA]at this
   have bW:i*aB t+j<l.length*aB t:=by
    have:(i+1)*aB t<=l.length*aB t:=kG _ hi;rw[jo]at this;omega
   refine⟨us i j,?_,by rw[fV];exact hr i hi j x hx⟩;rw[List.getElem?_take,bB bW,nh];exact hc i hi j x hx
theorem ur.append{n:Nat}{t:TC}{o:Nat}{l l2:af (T t)}{xs ys:af Value}(h:ur w B aj n 0 t o l xs)(h2:ur w B aj n l.length t o l2 ys)(hl:xs.length=l.length*aB t):ur w B aj n 0 t o (l++l2) (xs++ys):=by
 intro i hi j x hx;have hj:j<aB t:=by have:=(dS.1 hx).1;rwa [lA]at this
 by_cases bW:i<l.length
 ·rw[List.getElem_append_left bW]at hx;obtain⟨v,hv,r⟩:=h i bW j x hx;refine⟨v,?_,r⟩;rw[List.getElem?_append_left (dS.1 hv).1];exact hv
 ·rw[List.getElem_append_right (by omega)]at hx;have Tb:i-l.length<l2.length:=by rw[List.length_append]at hi;omega
  obtain⟨v,hv,r⟩:=h2 (i-l.length) Tb j x hx;refine⟨v,?_,?_⟩
  ·have e:i*aB t+j=xs.length+((i-l.length)*aB t+j):=by
    rw[hl,Nat.sub_mul];have:l.length*aB t<=i*aB t:=kG _ (by omega);omega
   rw[e,List.getElem?_append_right (by omega),Nat.add_sub_cancel_left];exact hv
  ·have e:0+i=l.length+(i-l.length):=by omega
   rw[e];exact r
theorem ur.under{n t0:Nat}{t:TC}{o:Nat}{l:af (T t)}{vs:af Value}(h:ur w B aj n t0 t o l vs)(hz:w.heap.size<=w'.heap.size)(hb:∀ b,b<w.heap.size->aj b≠some [n]->w'.heap[b]?=w.heap[b]?)(hl:∀ b,b<w.heap.size->aD b=aj b):ur w' B aD n t0 t o l vs:=
 λi hi j x hx=>let ⟨v,hv,r⟩:=h i hi j x hx;⟨v,hv,r.under (.inl (by simp)) hz hb hl⟩
theorem aap{n:Nat}{t:TC}{o:Nat}{l:af (T t)}{u:Value}{xs:af Value}{B':Nat}(h:w.ownsRow B' (tid t) (aB t) u l.length xs)(he:ur w B aj n 0 t o l xs)(hl:∀ b,u.ownBlock=some b->aj b=some [n]):
  RV w B aj [n] (.sl t (o+2) false l) u:=by
 rcases h.2 with ⟨rfl,h0⟩|⟨b,cap,cs,rfl,hB,hh,hn,hm,hs,ht⟩
 ·have:l=[]:=List.eq_nil_of_length_eq_zero h0;subst this;exact .c9 _ _ _
 ·have kL:∀ i (hi:i<l.length) j x,(enc t o l[i])[j]?=some x->∃ v,cs[i*aB t+j]?=some v/\RV w B aj (j :: i :: aB t :: [n]) x v:=by
   intro i hi j x hx;obtain⟨v,hv,r⟩:=he i hi j x hx;rw[fV]at r;refine⟨v,?_,r⟩;rw[<-ht,List.getElem?_take]at hv;split at hv
   ·rw[nh]at hv;exact hv
   ·cases hv
  refine .own [n] t o false l b cap cs (λi j=>(cs[i*aB t+j]?).getD undef) (hl b rfl) hh hs hn ⟨hm,λh=>by cases h⟩ (λi hi j x hx=>?_) (λi hi j x hx=>?_)
  ·obtain⟨v,hv,_⟩:=kL i hi j x hx;rw[hv];rfl
  ·obtain⟨v,hv,r⟩:=kL i hi j x hx;rw[hv];exact r
theorem Rl.akN{t e ty:TypeId}{tc:TC}{i:TypeInfo}{z:Value}{rr o m c:Nat}{q:Bool}{l l2:af (T tc)}{u:Value}{ad:ak Addr}{news:af Value}(h:Rl w0 N aj ρ σ a w)(hF:w0.F rr=none)(fQ:P.underlying t=some (.slice e))(ht:tid tc=e)(hi:P.info? e=some i)(hz:i.zero=some z)
  (dO:i.size=aB tc) (lJ:i.bytes<=65536) (gM:z.cells.size=aB tc) (hd:RV w w0.heap.size aj [rr] (.sl tc (o+2) q l) u) (q7:Reads w w.heap.size (aB tc) ad m news) (ko:∀v∈news,v.oneCell'=true) (hm:m=l2.length)
  (GW:ur w w0.heap.size aj rr l.length tc o l2 news) (hlen:l.length+l2.length<1073741824):
  ∃v' w' aD,(Builtin.append_ #[t,t] ty #[u,.slice ad m c]).run P w = .ok v' w'/\Rl w0 N aD (cB ρ rr (.eK v')) ((σ.drop rr).root rr (.sl (.sl tc (o+2) false (l++l2)))) a w'/\ow v'=true:=by
 subst ht hm;obtain⟨xs,nc,xq,GV,jR⟩:=hd.akM (B':=0) (λb _=>Nat.zero_le b);have ga:(l.length+l2.length)*i.bytes<=140737488355328:=by
  have h1:(l.length+l2.length)*i.bytes<=1073741824*65536:=Nat.mul_le_mul (by omega) lJ;omega
 obtain⟨v',w',bE,q8,oE,kN⟩:=RD (P:=P) w 0 t ty (tid tc) i z (aB tc) i.bytes fQ hi hz dO rfl gM (p4 tc) u l.length xs nc _ ad l2.length c news q7 ko (by unfold maxLen;omega) ga (Nat.zero_le _);have Bt:(l++l2).length=l.length+l2.length:=List.length_append;rw[<-Bt]at q8;have Bu:=jR.append GW nc.1;have gQ:ow v'=true:=by rcases q8.2 with ⟨rfl,_⟩|⟨_,_,_,rfl,_⟩<;>rfl
 have q9:Below 0 w w':=(Below.refl 0 w).grown oE (Nat.zero_le _) (λ_ _=>Nat.zero_le _);have iV:kJ w0 w w':=⟨q9.os,q9.tape,q9.output,q9.size,λk hk hL=>oE.block k (mg hk h.below.size) (λe'=>by
  rcases(h.dF k _ (xq k e'.symm)).1 with h1|h1
  ·exact absurd hk (Nat.not_lt.2 h1)
  ·exact h1 hL)⟩
 have xw:∀b,b<w.heap.size->aj b≠some [rr]->w'.heap[b]?=w.heap[b]?:=λb hb br=>oE.block b hb (λe'=>br (xq b e'.symm))
 by_cases sj:v'.ownBlock=some w.heap.size
 ·have bW:w.heap.size<w'.heap.size:=by
   rcases q8.2 with ⟨rfl,_⟩|⟨b,cap,cs,rfl,_,hh,_⟩
   ·cases sj
   ·have:b=w.heap.size:=by simpa [Value.ownBlock]using sj
    subst this;exact(ia.1 hh).1
  have fU:∀b,b<w.heap.size->cB aj w.heap.size (some [rr]) b=aj b:=λb hb=>cV _ _ _ (by omega)
  refine⟨v',w',cB aj w.heap.size (some [rr]),bE,h.Bo hF iV ⟨oE.size,xw,fU,λb hb=>(h.dF b [] hb).2.2 rfl⟩ (λb k hb hk=>?_) (λr hr=>cV _ _ _ hr) (.sl v' _ (cG _ _ _) (aap q8 (Bu.under oE.size xw fU) (λb hb=>?_))),gQ⟩
  ·by_cases e:b=w.heap.size
   ·subst e;rw[cG]at hk;injection hk with hk;subst hk;exact⟨bW,by simp⟩
   ·rw[cV _ _ _ e]at hk;have:=(h.dF b k hk).2.1;omega
  ·rw[sj]at hb;injection hb with hb;subst hb;exact cG _ _ _
 ·have Te:v'.ownBlock=u.ownBlock:=by
   rcases kN with kN|kN
   ·exact kN
   ·exact absurd kN sj
  refine⟨v',w',aj,bE,h.Bo hF iV ⟨oE.size,xw,λ_ _=>rfl,λb hb=>(h.dF b [] hb).2.2 rfl⟩ (λb k hb hk=>?_) (λr hr=>cV _ _ _ hr) (.sl v' _ (cG _ _ _) (aap q8 (Bu.under oE.size xw (λ_ _=>rfl)) (λb hb=>xq b (by rw[<-Te];exact hb)))),gQ⟩
  have:=(h.dF b k hk).2.1;omega
end
end Go.Proofs.YtecofnkoloihpaaGreat
namespace Go.Proofs.YtecofnkoloihpaaGreat
open Go.RowKit
set_option linter.unusedVariables false
def aA3{X:Type}(N:Nat)(σ:S)(dst:ak Tmp)(c x y:A)(k:S->ak X):ak X:=
 match c with
 |.lf (.v (.bool b))=>bif b then jD N σ dst x k else jD N σ dst y k
 |_=>none
def zB{X:Type}(P:Program)(s:TypeId)(x:A)(f:Nat)(k:A->ak X):ak X:=
 match GN P s f,x with
 | some fd,.agg cs=>(match kM P fd.type,D8 P fd.type with
  |some n,some true=>if fd.offset+n<=cs.length then k (.agg ((cs.drop fd.offset).take n))else none
  | some _,some false=>(match cs[fd.offset]? with
   |some y=>k (.lf y)
   |none=>none)
  |_,_=>none)
 |_,_=>none
def Bz{X:Type}(mx:Bool)(x y:A)(k:A->ak X):ak X:=
 match x,y with
 |.lf (.v (.int kx a)),.lf (.v (.int _ b))=>k (.lf (.v (.int kx (bif mx then (if b > a then b else a)else (if b<a then b else a)))))
 |_,_=>none
def BA{X:Type}(P:Program)(t:TypeId)(x i:A)(k:A->ak X):ak X:=
 match x,i with
 | .lf (.v (.str s)),.lf (.v (.int _ iv))=>(match P.underlying t with
  |some .string=>if h:0<=iv/\iv.toNat<s.size then k (.lf (.v (.int .u8 ((s[iv.toNat]'h.2).toNat:Int))))else none
  |_=>none)
 |_,_=>none
def xx{X:Type}(x:ak A)(d:Int)(k:Int->ak X):ak X:=
 match x with
 |none=>k d
 |some (.lf (.v (.int _ n)))=>k n
 |_=>none
def zC{X:Type}(P:Program)(t:TypeId)(x:A)(lo hi:ak A)(k:A->ak X):ak X:=
 match x with
 | .lf (.v (.str s))=>(match P.underlying t with
  |some .string=>xx lo 0 λl=>xx hi (s.size:Int) λh=>if 0<=l/\l<=h/\h<=(s.size:Int)then k (.lf (.v (.str (s.extract l.toNat h.toNat))))else none
  |_=>none)
 | .lf (.v (.sl t' g qn l))=>(match qY P t with
  | some e=>(match kM P e with
   |some n=>if n=aB t' then (bif Nat.blt g 2 then xx lo 0 λa=>xx hi (l.length:Int) λb=>if 0<=a/\a<=b/\b<=(l.length:Int)then k (.lf (.v (.sl t' g false ((l.take b.toNat).drop a.toNat))))else none else none)else none
   |none=>none)
  |none=>none)
 |_=>none
def zD(P:Program)(src dst:TypeId):Bool:=
 match P.underlying src,P.underlying dst with
 | some (.slice e),some .string=>(match P.underlying e with
  |some (.int .u8)=>true
  |_=>false)
 |_,_=>false
def xy{X:Type}(P:Program)(src dst:TypeId)(z:V)(k:A->ak X):ak X:=
 match z with
 |.sl .u8 _ _ l=>bif zD P src dst then k (.lf (.v (.str (strOfNums l))))else none
 |.nil=>bif zD P src dst then k (.lf (.v (.str (strOfNums []))))else none
 |_=>none
def qg{X:Type}(P:Program)(σ:S)(src dst:TypeId)(x:A)(k:A->ak X):ak X:=
 match x with
 | .lf (.v (.int _ n))=>(match P.underlying src,P.underlying dst with
  |some _,some (.int kd)=>k (.lf (.v (.int kd (kd.wrap n))))
  |_,_=>none)
 |.lf y=>kK σ y λz=>xy P src dst z k
 |_=>none
section
variable {P:Program} {w w':World} {w0:Wd} {B N:Nat} {aj aD:bM} {ρ ρ':Nat->Loc} {σ:S} {a:Act} {X:Type} {d:Nat} {r:X} {o:Oper}
theorem akO{α:Type}(f:α->af Value)(s:Nat)(hf:∀ x,(f x).length=s)(l:af α):(l.flatMap f).length=l.length*s:=by
 induction l with
 |nil=>simp
 |cons a l ih=>rw[List.flatMap_cons,List.length_append,hf,ih,nj,jo];omega
theorem akP{α:Type}(f:α->af Value)(s:Nat)(hf:∀ x,(f x).length=s):∀ (l:af α) (k:Nat) (hk:k<l.length) (j:Nat),j<s->(l.flatMap f)[k*s+j]?=(f l[k])[j]?:=by
 intro l
 induction l with
 |nil=>intro k hk;simp at hk
 | cons a l ih=>
  intro k hk j hj;rw[List.flatMap_cons];cases k with
  |zero=>rw[Nat.zero_mul,fV,List.getElem?_append_left (by rw[hf];exact hj)];rfl
  | succ k=>
   have e:(k+1)*s+j=s+(k*s+j):=by rw[jo];omega
   rw[e,List.getElem?_append_right (by rw[hf];omega),hf,Nat.add_sub_cancel_left];exact ih k (by simpa using hk) j hj
theorem aaq(z:Array Value)(s n:Nat)(hs:z.size=s)(h0:0<s):(madeCells z (n*s)).toList=(List.replicate n z.toList).flatten:=by
 have e:(List.replicate n z.toList).flatten=(List.replicate n ()).flatMap (λ_=>z.toList):=by
  rw[List.flatMap_def,List.map_replicate]
 rw[e];have hl:((List.replicate n ()).flatMap (λ_=>z.toList)).length=n*s:=by
  rw[akO (λ_=>z.toList) s (λ_=>by simpa using hs)];simp
 apply List.ext_getElem?;intro i;rcases Nat.lt_or_ge i (n*s)with hi|hi
 ·have hk:i / s<n:=Nat.div_lt_of_lt_mul (by rw[Nat.mul_comm];exact hi);have hj:i % s<s:=Nat.mod_lt _ h0;have ei:i=i / s*s+i % s:=by rw[Nat.mul_comm];exact(Nat.div_add_mod i s).symm
  have h2:=akP (λ_=>z.toList) s (λ_=>by simpa using hs) (List.replicate n ()) (i / s) (by simpa using hk) (i % s) hj;rw[<-ei]at h2;rw[h2];have hz:i % s<z.size:=by omega
  simp only[madeCells,Array.toList_map,Array.toList_range,dP,List.getElem?_range hi,jM,hs];simp[hz]
 ·rw[List.getElem?_eq_none (by rw[mI,size_madeCells];exact hi),List.getElem?_eq_none (by rw[hl];exact hi)]
theorem akQ{t:TypeId}{len:Nat}{parts:Array (Nat×Operand)}{k:S->ak X}(h:By P N σ d t len parts.toList k=some r):∃ aA,k aA=some r/\∀ aj ρ a w,Rl w0 N aj ρ σ a w->
  ∃w' aD ρ' v,(Instr.buildSlice t len (parts.map λ(i,x)=>(i,a.eval x))).run P w = .ok v w'/\Rl w0 N aD ρ' aA (a.put (some d) v) w':=by
 unfold By at h;split at h
 ·rename_i e tc gE;obtain⟨fQ,ht,i,hi,dO,lJ⟩:=zy gE;split at h
  ·rename_i z hz;cases hc:(Nat.beq (full tc) 0&&Nat.beq z.cells.size (aB tc)&&Nat.blt (len*aB tc) 16777217)with
   |false=>rw[hc]at h;cases h
   | true=>
    rw[hc,aq]at h;simp only[bx]at hc;have hf:=cr hc.1.1;have gM:=cr hc.1.2;have hsm:len*aB tc<16777217:=by have:=cT hc.2;omega
    have qb:i.zero=some z:=by unfold zeroOf at hz;simpa [hi]using hz
    split at h
    ·rename_i cs eR;split at h
     ·rename_i vs gW;split at h
      ·rename_i l hl;obtain⟨hd,h⟩:=q6 h
       refine⟨_,h,λaj ρ a w hR=>?_⟩
       obtain⟨MD,tq,jR⟩:=Tj tc 0 len vs l hl;have Tl:eG w w0.heap.size aj ρ (List.replicate len (z.cells.toList.map jE)).flatten (madeCells z.cells (len*aB tc)):=by
        have e1:(List.replicate len (z.cells.toList.map jE)).flatten=((List.replicate len z.cells.toList).flatten).map jE:=by
         rw[List.map_flatten,List.map_replicate]
        rw[e1,<-aaq z.cells (aB tc) len gM (p4 tc)]
        refine⟨by simp,λj x hx=>?_⟩
        rw[dP]at hx;cases hv:(madeCells z.cells (len*aB tc)).toList[j]? with
        |none=>rw[hv]at hx;cases hx
        | some v=>
         rw[hv]at hx;injection hx with hx;subst hx;exact⟨v,by simpa using hv,Mt v⟩
       obtain⟨gS,xz,aV⟩:=MA (w:=w) (B:=w0.heap.size) (aj:=aj) (ρ:=ρ) _ _ _ (parts.toList.map λp=>(p.1,a.eval p.2)) cs eR Tl (by simp) (λj p q hp hq=>by
        rw[dP]at hp hq;cases hx:parts.toList[j]? with
        |none=>rw[hx]at hp;cases hp
        | some x=>
         rw[hx]at hp hq;injection hp with hp;injection hq with hq;subst hp hq;exact⟨rfl,hR.aH x.2⟩)
       have aar:=MC cs vs gW;have akR:gS.size=len*aB tc:=by rw[aV.1,aar,gB,tq]
       have bE:(Instr.buildSlice t len (parts.map λ(i,x)=>(i,a.eval x))).run P w = .ok (.slice (some ⟨w.heap.size,0,none⟩) len len) (w.alloc (.cells gS e)):=by
        have G0:(parts.map λ(i,x)=>(i,a.eval x)).toList=parts.toList.map λp=>(p.1,a.eval p.2):=by simp
        by_cases h0:len*aB tc=0
        ·have hm:madeCells z.cells (len*aB tc) = #[]:=by rw[h0];simp[madeCells]
         rw[hm]at xz;have Tn:len*i.size=0:=by rw[dO];exact h0
         rw[<-dO]at xz;have e0:∀f:Nat->Value,Array.map f (Array.range 0) = #[]:=λf=>by simp
         simp only[Instr.buildSlice,gk,jw fQ,oZ,sizeOf,typeInfo];simp[hi,Tn];rw[e0,xz];simp[newRow]
        ·exact run_buildSlice (P:=P) w t e len _ gS i z fQ hi qb (by rw[dO];omega) (by rw[dO];exact h0) (by rw[dO,G0];exact xz)
       refine⟨_,cB aj w.heap.size (some [d]),cB ρ d (.eK (.slice (some ⟨w.heap.size,0,none⟩) len len)),_,bE,(hR.Ea (hR.ef d (.inl hd)) (λr hr=>cV _ _ _ hr) (.sl _ _ (cG _ _ _) ?_)).set ⟨rfl,by simp[cJ,cG]⟩ hd⟩
       have kL:∀ i' (h':i'<l.length) j x,(enc tc 0 l[i'])[j]?=some x->∃ v,gS[i'*aB tc+j]?=some v/\∀ (w':World) (B':Nat) (aD:bM) (q':af Nat),RV w' B' aD q' x v:=by
        intro i' h' j x hx;obtain⟨y,hy,hw⟩:=jR i' h' j x hx;obtain⟨v,hv,hr⟩:=aV.2 (i'*aB tc+j) (.v y) (by rw[aar,dP,hy];rfl);exact⟨v,hv,λw' B' aD q'=>(hr.2.wk hw).uk (zk tc 0 l[i'] hf x (hJ hx))⟩
       have:=RV.own (w:=w.alloc (.cells gS e)) (B:=w0.heap.size) (aj:=cB aj w.heap.size (some [d])) [d] tc 0 true l w.heap.size len gS (λi j=>(gS[i*aB tc+j]?).getD undef)
        (cG _ _ _) (by rw[ht];exact heap_alloc_new w _) akR (by omega) ⟨by have:=Nat.le_mul_of_pos_right len (p4 tc);unfold maxLen;omega,λ_=>MD.symm⟩ (λi' h' j x hx=>?_) (λi' h' j x hx=>?_)
       ·rw[MD]at this;exact this
       ·obtain⟨v,hv,_⟩:=kL i' h' j x hx;rw[hv];rfl
       ·obtain⟨v,hv,hr⟩:=kL i' h' j x hx;rw[hv];exact hr _ _ _ _
      ·cases h
     ·cases h
    ·cases h
  ·cases h
 ·cases h
theorem aas{mx:Bool}{x y:A}{k:A->ak X}(h:Bz mx x y k=some r):∃ z,k z=some r/\∀ (w:World) (B:Nat) (aj:bM) (ρ:Nat->Loc) (t ty:TypeId) (u v:Value),RA w B aj ρ x u->RA w B aj ρ y v->
  ∃t',((bif mx then Builtin.max_ #[t,t] ty #[u,v]else Builtin.min_ #[t,t] ty #[u,v]):Sem Value).run P w = .ok t' w/\RA w B aj ρ z t':=by
 unfold Bz at h;split at h
 ·refine⟨_,h,λw B aj ρ t ty u v hu hv=>?_⟩
  obtain rfl:=hu.2.jf;obtain rfl:=hv.2.jf;cases mx with
  |true=>exact⟨_,by simp[Builtin.max_,Builtin.max2],rfl,.int _ _ _⟩
  |false=>exact⟨_,by simp[Builtin.min_,Builtin.min2],rfl,.int _ _ _⟩
 ·cases h
theorem akS{t:TypeId}{x i:A}{k:A->ak X}(h:BA P t x i k=some r):∃ z,k z=some r/\∀ (w:World) (B:Nat) (aj:bM) (ρ:Nat->Loc) (u v:Value),RA w B aj ρ x u->RA w B aj ρ i v->
  ∃t',(Instr.index t u v).run P w = .ok t' w/\RA w B aj ρ z t':=by
 unfold BA at h;split at h
 ·rename_i s kk iv;split at h
  ·rename_i hu;split at h
   ·rename_i hb
    refine⟨_,h,λw B aj ρ u v lO hv=>?_⟩
    obtain rfl:=lO.2.xd;obtain rfl:=hv.2.jf;exact⟨_,by simp[Instr.index,asIntOf,jw hu,hb.1,hb.2],rfl,.int _ _ _⟩
   ·cases h
  ·cases h
 ·cases h
theorem aat{src dst:TypeId}(h:zD P src dst=true):∃ e,P.underlying src=some (.slice e)/\P.underlying dst=some .string/\P.underlying e=some (.int .u8):=by
 unfold zD at h;split at h
 ·rename_i e h1 h2;split at h
  next h3=>exact⟨e,h1,h2,h3⟩
  ·cases h
 ·cases h
theorem aau(l:af Int)(i:Nat)(hi:i<l.length):l.getD i 0=l[i]:=by rw[fX,cu hi];rfl
theorem RV.toStr{src dst e:TypeId}(hs:P.underlying src=some (.slice e))(hd:P.underlying dst=some .string)(he:P.underlying e=some (.int .u8)){o:Nat}{qn:Bool}{l:af (T .u8)}{q:af Nat}{B:Nat}{u:Value}(h:RV w B aj q (.sl .u8 o qn l) u):
  (convert src dst u).run P w = .ok (.string (strOfNums l)) w:=by
 generalize hy:V.sl .u8 o qn l=y at h;cases h with
 |int=>cases hy
 |bool=>cases hy
 |str=>cases hy
 |nil=>cases hy
 | c9 q t o'=>
  injection hy with e1 e2 e3 e4;subst e1;obtain rfl:=eq_of_heq e4;rw[run_convert_bytes_nil w src e hs he 0 0 dst hd];rfl
 | dm q t o' A c ho=>
  injection hy with e1 e2 e3 e4;subst e1;obtain rfl:=eq_of_heq e4;have hl:(loadCells A 0).run P w = .ok (([]:af Int).map (Value.int .u8)).toArray w:=run_loadCells_list (P:=P) w A [] (λj v hj=>by simp at hj);rw[run_convert_bytes_string w src dst e _ 0 c hs he hd,run_bytesToString w A 0 c [] hl];rfl
 | dD q t o' A c ho=>
  injection hy with e1 e2 e3 e4;subst e1;obtain rfl:=eq_of_heq e4;have hl:(loadCells A 0).run P w = .ok (([]:af Int).map (Value.int .u8)).toArray w:=run_loadCells_list (P:=P) w A [] (λj v hj=>by simp at hj);rw[run_convert_bytes_string w src dst e _ 0 c hs he hd,run_bytesToString w A 0 c [] hl];rfl
 | az q t o' To l' b off cap uu ho hl hb h1 eA hc hr=>
  injection hy with e1 e2 e3 e4;subst e1;obtain rfl:=eq_of_heq e4
  refine run_convert_bytes_arg w src e hs he b off _ cap l rfl (λi hi=>?_) dst hd
  have h2:=hc i hi 0 (.int .u8 l[i]) rfl;have h3:=(hr i hi 0 (.int .u8 l[i]) rfl).jf;simp only[aB,Nat.mul_one,Nat.add_zero]at h2;have hg:=aau (show af Int from l) i hi;rw[h2,h3];exact bJ (λz=>some (Value.int .u8 z)) hg.symm
 | own q t o' To l' b cap cs uu hl hh ny hn hm hc hr=>
  injection hy with e1 e2 e3 e4;subst e1;obtain rfl:=eq_of_heq e4
  refine run_convert_bytes_arg w src e hs he b 0 _ cap l rfl (λi hi=>?_) dst hd
  have h2:=hc i hi 0 (.int .u8 l[i]) rfl;have h3:=(hr i hi 0 (.int .u8 l[i]) rfl).jf;simp only[aB,Nat.mul_one,Nat.add_zero]at h2;have hg:=aau (show af Int from l) i hi;rw[h3]at h2;have h4:w.cell? ⟨b,0+i,none⟩=some (.int .u8 l[i]):=by simp[World.cell?,hh,h2]
  rw[h4];exact bJ (λz=>some (Value.int .u8 z)) hg.symm
theorem akT{src dst:TypeId}{x:A}{k:A->ak X}(h:qg P σ src dst x k=some r):∃ z,k z=some r/\∀ aj ρ a w,Rl w0 N aj ρ σ a w->∀ u,RA w w0.heap.size aj ρ x u->
  ∃t',(convert src dst u).run P w = .ok t' w/\RA w w0.heap.size aj ρ z t':=by
 unfold qg at h;split at h
 ·rename_i kk n;split at h
  ·rename_i d1 kd hs hd
   refine⟨_,h,λaj ρ a w _ u hu=>?_⟩
   obtain rfl:=hu.2.jf;exact⟨_,by simp[convert,jw hs,jw hd,Conv.intToInt],rfl,.int _ _ _⟩
  ·cases h
 ·rename_i y _;have key:∃ z,(∀ aj ρ a w,Rl w0 N aj ρ σ a w->∀ u,dY w w0.heap.size aj ρ y u->∃ q,RV w w0.heap.size aj q z u)/\xy P src dst z k=some r:=by
   cases y with
   |v z=>exact⟨z,λaj ρ a w _ u hu=>⟨[],hu.2⟩,h⟩
   |dead=>cases h
   | own q=>
    obtain⟨z,hz,h⟩:=th q _ h
    refine⟨z,λaj ρ a w hR u hu=>?_,h⟩
    obtain⟨v,hv,hr⟩:=hz.ok hR.root;have h3:=hu.2;rw[hv]at h3;injection h3 with h3;subst h3;exact⟨q,hr⟩
  obtain⟨z,hz,h2⟩:=key;clear h;unfold xy at h2;split at h2
  ·rename_i o qn l;cases ht:zD P src dst with
   |false=>rw[ht]at h2;cases h2
   | true=>
    rw[ht,aq]at h2;obtain⟨e,e1,e2,e3⟩:=aat ht
    refine⟨_,h2,λaj ρ a w hR u hu=>?_⟩
    obtain⟨q,hr⟩:=hz aj ρ a w hR u hu;exact⟨_,hr.toStr e1 e2 e3,rfl,.str _ _⟩
  ·cases ht:zD P src dst with
   |false=>rw[ht]at h2;cases h2
   | true=>
    rw[ht,aq]at h2;obtain⟨e,e1,e2,e3⟩:=aat ht
    refine⟨_,h2,λaj ρ a w hR u hu=>?_⟩
    obtain⟨q,hr⟩:=hz aj ρ a w hR u hu;cases hr;exact⟨_,by rw[run_convert_bytes_nil w src e e1 e3 0 0 dst e2];rfl,rfl,.str _ _⟩
  ·cases h2
 ·cases h
theorem akU{s:TypeId}{x:A}{f:Nat}{k:A->ak X}(h:zB P s x f k=some r):∃ z,k z=some r/\∀ (w:World) (B:Nat) (aj:bM) (ρ:Nat->Loc) (u:Value),RA w B aj ρ x u->
  ∃t',(Instr.field s u f).run P w = .ok t' w/\RA w B aj ρ z t':=by
 unfold zB at h;split at h
 ·rename_i fd cs qa;have jk:∃ fs,P.underlying s=some (.struct fs)/\fs[f]?=some fd:=by
   unfold GN at qa;split at qa
   next fs hu=>exact⟨fs,hu,qa⟩
   ·cases qa
  obtain⟨fs,gv,pq⟩:=jk;split at h
  ·rename_i n hn kj;split at h
   ·rename_i hle
    refine⟨_,h,λw B aj ρ u hu=>?_⟩
    obtain⟨us,rfl,hR⟩:=hu;have xe:(isAgg fd.type).run P w = .ok true w:=by
     unfold D8 at kj;split at kj
     next fs' hu=>unfold isAgg;rw[gk,jw hu w];rfl
     next c e hu=>unfold isAgg;rw[gk,jw hu w];rfl
     ·cases kj
     ·cases kj
    unfold kM at hn;cases hi:P.info? fd.type with
    |none=>simp[hi]at hn
    | some i=>
     have rZ:i.size=n:=by simpa [hi]using hn
     refine⟨.agg (us.extract fd.offset (fd.offset+n)),by simp[Instr.field,jw gv,pq,asAgg,part,gk,xe,sizeOf,typeInfo,hi,rZ],_,rfl,?_,λj y hy=>?_⟩
     ·have:=hR.1;simp;omega
     ·obtain⟨hj,fJ⟩:=Mm _ _ _ _ _ hy;obtain⟨v,hv,hr⟩:=hR.2 _ y fJ;refine⟨v,?_,hr⟩;rw[Array.getElem?_extract];have:=hR.1;rw[bB (by omega)];exact hv
   ·cases h
  ·rename_i n hn kj;split at h
   ·rename_i y hy
    refine⟨_,h,λw B aj ρ u hu=>?_⟩
    obtain⟨us,rfl,hR⟩:=hu;obtain⟨v,hv,hr⟩:=hR.2 _ y hy;have xe:(isAgg fd.type).run P w = .ok false w:=by
     unfold D8 at kj;split at kj
     ·cases kj
     ·cases kj
     next d hs ha hu=>unfold isAgg;rw[gk,jw hu w];cases d<;>first|rfl|(rename_i x;exact absurd rfl (hs x))|(rename_i x y;exact absurd rfl (ha x y))|simp_all
     ·cases kj
    exact⟨v,by simp[Instr.field,jw gv,pq,asAgg,part,gk,xe,hv],hr⟩
   ·cases h
  ·cases h
 ·cases h
end
end Go.Proofs.YtecofnkoloihpaaGreat
namespace Go.Proofs.YtecofnkoloihpaaGreat
open Go.RowKit
set_option linter.unusedVariables false
def V.val:V->Value
 |.int k n=>.int k n
 |.bool b=>.bool b
 |.str s=>.string s
 |_=>undef
def ME:TypeDesc->V->V->ak Bool
 |.int _,.int k a,.int k' b=>if k=k' then some (a==b)else none
 |.bool,.bool a,.bool b=>some (a==b)
 |.string,.str a,.str b=>some (a.toList==b.toList)
 |_,_,_=>none
def G1(P:Program)(g:TypeId->af V->af V->ak Bool)(xs ys:af V):af Field->ak Bool
 |[]=>some true
 | f :: fs=>bif f.name == "_" then G1 P g xs ys fs else (match kM P f.type with
  | some n=>bif Nat.ble (f.offset+n) xs.length then (match g f.type ((xs.drop f.offset).take n) ((ys.drop f.offset).take n),G1 P g xs ys fs with
   |some a,some b=>some (a&&b)
   |_,_=>none)else none
  |none=>none)
def zE(P:Program):Nat->TypeId->af V->af V->ak Bool
 |0,_,_,_=>none
 | n+1,t,xs,ys=>match P.underlying t with
  |some (.struct fs)=>bif P.stoodInHeld t ||!Nat.beq xs.length ys.length then none else G1 P (zE P n) xs ys fs.toList
  | some d=>(match xs,ys with
   |[x],[y]=>ME d x y
   |_,_=>none)
  |none=>none
def MF:BinOp->ak Bool
 |.eql=>some false
 |.neq=>some true
 |_=>none
def ku{α:Type}:af α->Bool
 |[]=>true
 |_=>false
def isStr(P:Program)(t:TypeId):Bool:=match P.underlying t with
 |some (.struct _)=>true
 |_=>false
def nX{X:Type}(P:Program)(σ:S)(op:BinOp)(t:TypeId)(x y:A)(k:A->ak X):ak X:=
 match MF op,x,y with
 | some ng,.agg cs,.agg ds=>(match sg cs,sg ds with
  | some xs,some ys=>bif P.eqGuardType P.depth t || !isStr P t then none else (match zE P 20 t xs ys with
   |some b=>k (.lf (.v (.bool (bif ng then !b else b))))
   |none=>none)
  |_,_=>none)
 | some ng,.lf l,.lf (.v .nil)=>(match qY P t with
  | some _=>kK σ l λz=>(match z with
   |.nil=>k (.lf (.v (.bool (bif ng then false else true))))
   |.sl _ _ true _=>k (.lf (.v (.bool (bif ng then true else false))))
   |.sl _ _ false l=>bif ku l then none else k (.lf (.v (.bool (bif ng then true else false))))
   |_=>none)
  |none=>none)
 |_,_,_=>vK x λa=>vK y λb=>oA P t op a b λz=>k (.lf (.v z))
section
variable {P:Program} {w w':World} {w0:Wd} {B N:Nat} {aj aD:bM} {ρ ρ':Nat->Loc} {σ:S} {a:Act} {X:Type} {d:Nat} {r:X} {o:Oper}
theorem akV{ds:TypeDesc}{x y:V}{b:Bool}{t:TypeId}{n:Nat}(ht:P.underlying t=some ds)(h:ME ds x y=some b):(Op.equalIn (n+1) t x.val y.val).run P w = .ok b w:=by
 unfold ME at h;split at h
 ·split at h
  next k' _ a k b' hk=>subst hk;injection h with h;subst h;exact run_equalIn_int w n t _ _ _ _ ht
  ·cases h
 ·injection h with h;subst h;exact run_equalIn_bool' w n t _ _ ht
 ·injection h with h;subst h;exact run_equalIn_string w n t _ _ ht
 ·cases h
def uv(P:Program)(t:TypeId)(xs:af V)(u:Value):Prop:=
 match P.underlying t with
 |some (.struct _)=>u = .agg (xs.map V.val).toArray
 |_=>∃x,xs=[x]/\u=x.val
theorem aav{t:TypeId}{n off:Nat}{xs:af V}(hn:kM P t=some n)(hle:off+n<=xs.length)(hu:∃ d,P.underlying t=some d/\(∀ c e,d ≠ .array c e)/\((∀ fs,d ≠ .struct fs)->n=1)):
  ∃u,(part t (xs.map V.val).toArray off).run P w = .ok u w/\uv P t ((xs.drop off).take n) u:=by
 obtain⟨d,hd,ha,h1⟩:=hu;unfold kM at hn;cases hi:P.info? t with
 |none=>simp[hi]at hn
 | some i=>
  have rZ:i.size=n:=by simpa [hi]using hn
  by_cases hs:∃fs,d = .struct fs
  ·obtain⟨fs,rfl⟩:=hs;have xe:(isAgg t).run P w = .ok true w:=by
    unfold isAgg;rw[gk,jw hd w];rfl
   refine⟨.agg ((xs.map V.val).toArray.extract off (off+n)),by simp[part,gk,xe,sizeOf,typeInfo,hi,rZ],?_⟩;unfold uv;rw[hd];simp only;congr 1;apply Array.ext';simp[List.map_drop,List.map_take]
  ·have xe:(isAgg t).run P w = .ok false w:=by
    unfold isAgg;rw[gk,jw hd w];cases d<;>first|rfl|(exfalso;exact hs ⟨_,rfl⟩)|(exfalso;exact ha _ _ rfl)
   have zF:n=1:=h1 λfs e=>hs ⟨fs,e⟩
   subst zF;have bW:off<xs.length:=by omega
   have kL:(xs.map V.val).toArray[off]?=some (xs[off]).val:=by simp[bW]
   refine⟨(xs[off]).val,by simp[part,gk,xe,kL],?_⟩;have e1:(xs.drop off).take 1=[xs[off]]:=by
    rw[List.drop_eq_getElem_cons bW];rfl
   unfold uv;rw[hd];split
   next fs e=>injection e with e;exact absurd ⟨fs,e⟩ hs
   ·exact⟨_,e1,rfl⟩
theorem akW{n:Nat}{t:TypeId}{xs ys:af V}{b:Bool}(h:zE P n t xs ys=some b):∃ d,P.underlying t=some d/\(∀ c e,d ≠ .array c e)/\((∀ fs,d ≠ .struct fs)->xs.length=1):=by
 cases n with
 |zero=>cases h
 | succ n=>
  unfold zE at h;split at h
  next fs pq=>exact⟨_,pq,(λc e h=>by cases h),λh=>absurd rfl (h fs)⟩
  ·rename_i d zo hd;split at h
   next x y=>exact⟨d,hd,(λc e he=>by subst he;simp[ME]at h),λ_=>rfl⟩
   ·cases h
  ·cases h
theorem Tp{n:Nat}{xs ys:af V}(hlen:xs.length=ys.length)(IH:∀ t xs ys b,zE P n t xs ys=some b->∀ u v,uv P t xs u->uv P t ys v->∀ k,(Op.equalIn (k+n) t u v).run P w = .ok b w)(k:Nat):∀ (fs:af Field) (b:Bool),G1 P (zE P n) xs ys fs=some b->
  (Op.eqFields (k+n) (xs.map V.val).toArray (ys.map V.val).toArray fs).run P w = .ok b w
 | [],b,h=>by
  injection h with h;subst h;simp[Op.eqFields]
 | f :: fs,b,h=>by
  unfold G1 at h;cases eS:f.name == "_" with
  | true=>
   rw[eS,aq]at h;have:f.name = "_":=by simpa using eS
   simp only[Op.eqFields,this,ne_eq,not_true,if_false];exact Tp hlen IH k fs b h
  | false=>
   rw[eS,au]at h;have br:f.name ≠ "_":=by simpa using eS
   split at h
   ·rename_i s hs;cases hle:Nat.ble (f.offset+s) xs.length with
    |false=>rw[hle]at h;cases h
    | true=>
     rw[hle,aq]at h;have hle:=cT hle;split at h
     ·rename_i c e h1 h2;injection h with h;subst h;obtain⟨d1,BB,ha1,nY⟩:=akW h1;have qc:((xs.drop f.offset).take s).length=s:=by simp;omega
      obtain⟨u,MG,sq⟩:=aav (w:=w) hs hle ⟨d1,BB,ha1,λh=>qc.symm.trans (nY h)⟩;obtain⟨v,zG,xA⟩:=aav (w:=w) (xs:=ys) (off:=f.offset) hs (by omega) ⟨d1,BB,ha1,λh=>qc.symm.trans (nY h)⟩;have hr:=IH _ _ _ c h1 u v sq xA k;have kP:=Tp hlen IH k fs e h2;simp only[Op.eqFields,br,ne_eq,not_false_eq_true,if_true,gk,MG,zG,hr,oZ];cases c
      ·simp
      ·simpa using kP
     ·cases h
   ·cases h
theorem aaw:∀ (n:Nat) (t:TypeId) (xs ys:af V) (b:Bool),zE P n t xs ys=some b->∀ u v,uv P t xs u->uv P t ys v->∀ k,(Op.equalIn (k+n) t u v).run P w = .ok b w
 |0,t,xs,ys,b,h=>by cases h
 | n+1,t,xs,ys,b,h=>by
  intro u v hu hv k;unfold zE at h;split at h
  ·rename_i fs pq;cases hc:(P.stoodInHeld t || !Nat.beq xs.length ys.length)with
   |true=>rw[hc]at h;cases h
   | false=>
    rw[hc,au]at h;rw[pV,Bool.not_eq_false']at hc;have hlen:=cr hc.2;unfold uv at hu hv;rw[pq]at hu hv;simp only at hu hv;subst hu hv;have hf:P.fieldsOf t=fs:=by simp[Program.fieldsOf,pq]
    rw[<-Nat.add_assoc,run_equalIn_struct w (k+n) t _ _ (by rw[hf];exact pq) hc.1,hf];exact Tp hlen (aaw n) k fs.toList b h
  ·rename_i d zo hd;split at h
   ·rename_i x y;unfold uv at hu hv;rw[hd]at hu hv;split at hu
    next fs e=>injection e with e;exact absurd e (zo fs)
    ·split at hv
     next fs e=>injection e with e;exact absurd e (zo fs)
     ·obtain⟨x',e1,rfl⟩:=hu;obtain⟨y',e2,rfl⟩:=hv;injection e1 with e1;injection e2 with e2;subst e1 e2;exact akV hd h
   ·cases h
  ·cases h
theorem aax{cs:af Lf}{xs:af V}(h:sg cs=some xs){u:Value}(hu:RA w B aj ρ (.agg cs) u):u = .agg (xs.map V.val).toArray:=by
 obtain⟨e,hp⟩:=Mn _ _ h;obtain⟨us,rfl,hs,hr⟩:=hu;congr 1;apply Array.ext';apply List.ext_getElem?;intro j;rw[List.toList_toArray,dP,nh];cases hx:xs[j]? with
 | none=>
  rw[Option.map_none];refine Array.getElem?_eq_none ?_;rw[hs,e,gB];exact List.getElem?_eq_none_iff.1 hx
 | some x=>
  obtain⟨v,hv,Ec⟩:=hr j (.v x) (by rw[e,dP,hx];rfl);rw[hv,jM];congr 1;have:=hp x (hJ hx);have h2:=Ec.2;cases h2<;>first|rfl|cases this
theorem Ed{op:BinOp}{ng:Bool}(iB:MF op=some ng){t e:TypeId}(ht:P.underlying t=some (.slice e))(xo yo:Operand)(A:ak Addr)(n c:Nat):
  (do eqGuard op t xo yo (.slice A n c) (.slice none 0 0);binOp op t (.slice A n c) (.slice none 0 0):Sem Value).run P w = .ok (.bool (bif ng then !A.isNone else A.isNone)) w:=by
 have he:(Op.equal t (.slice A n c) (.slice none 0 0)).run P w = .ok A.isNone w:=by
  have h:∀ d,(Op.equalIn (d+1) t (.slice A n c) (.slice none 0 0)).run P w = .ok A.isNone w:=by
   intro d;cases A<;>simp[Op.equalIn,jw ht]
  exact h 9999
 cases op<;>simp[MF]at iB<;>subst iB<;>simp[eqGuard,binOp,he]
theorem akX{op:BinOp}{t:TypeId}{x y:A}{k:A->ak X}(h:nX P σ op t x y k=some r):∃ z,k z=some r/\∀ aj ρ a w,Rl w0 N aj ρ σ a w->∀ xo yo u v,RA w w0.heap.size aj ρ x u->RA w w0.heap.size aj ρ y v->
  ∃t',(do eqGuard op t xo yo u v;binOp op t u v:Sem Value).run P w = .ok t' w/\RA w w0.heap.size aj ρ z t':=by
 unfold nX at h;split at h
 ·rename_i ng cs ds iB;split at h
  ·rename_i xs ys gV oC;cases hg:(P.eqGuardType P.depth t || !isStr P t)with
   |true=>rw[hg]at h;cases h
   | false=>
    rw[hg,au]at h;rw[pV,Bool.not_eq_false']at hg;obtain⟨hg,jk⟩:=hg;split at h
    ·rename_i b hb
     refine⟨_,h,λaj ρ a w hR xo yo u v hu hv=>?_⟩
     have hu:=aax gV hu;have hv:=aax oC hv;subst hu hv;have hs:∃ fs,P.underlying t=some (.struct fs):=by
      unfold isStr at jk;split at jk
      next fs pq=>exact⟨fs,pq⟩
      ·cases jk
     obtain⟨fs,pq⟩:=hs;have hr:=aaw (w:=w) 20 t xs ys b hb (.agg (xs.map V.val).toArray) (.agg (ys.map V.val).toArray) (by unfold uv;rw[pq]) (by unfold uv;rw[pq]) 9980;refine⟨.bool (bif ng then !b else b),?_,rfl,.bool _ _⟩;rw[gk,run_eqGuard_agg w op t xo yo _ _ hg,oZ];cases op<;>simp[MF]at iB<;>subst iB
     ·rw[run_eql_struct,hr];rfl
     ·rw[run_neq_struct,hr];rfl
    ·cases h
  ·cases h
 ·rename_i ng l iB;split at h
  ·rename_i e he;have ht:P.underlying t=some (.slice e):=by
    unfold qY at he;split at he
    next e' hu=>injection he with he;rw[<-he];exact hu
    ·cases he
   obtain⟨z,hz,h2⟩:=Tg (w0:=w0) (N:=N) h;clear h;split at h2
   ·refine⟨_,h2,λaj ρ a w hR xo yo u v hu hv=>?_⟩
    obtain⟨q,hq⟩:=hz aj ρ a w hR u hu;cases hq;cases hv.2;exact⟨_,Ed iB ht xo yo none 0 0,rfl,by cases ng<;>exact .bool _ _⟩
   ·refine⟨_,h2,λaj ρ a w hR xo yo u v hu hv=>?_⟩
    obtain⟨q,hq⟩:=hz aj ρ a w hR u hu;cases hv.2;cases hq with
    |az _ _ _ _ _ b off cap us ho hl hb h1 eA hc hr=>exact⟨_,Ed iB ht xo yo _ _ _,rfl,by cases ng<;>exact .bool _ _⟩
    |own=>exact⟨_,Ed iB ht xo yo _ _ _,rfl,by cases ng<;>exact .bool _ _⟩
    |dD=>exact⟨_,Ed iB ht xo yo _ _ _,rfl,by cases ng<;>exact .bool _ _⟩
   ·rename_i t' o' l';cases hl:ku l' with
    |true=>rw[hl]at h2;cases h2
    | false=>
     rw[hl,au]at h2
     refine⟨_,h2,λaj ρ a w hR xo yo u v hu hv=>?_⟩
     obtain⟨q,hq⟩:=hz aj ρ a w hR u hu;cases hv.2;cases hq with
     |c9=>cases hl
     |dm=>cases hl
     |az _ _ _ _ _ b off cap us ho fU hb h1 eA hc hr=>exact⟨_,Ed iB ht xo yo _ _ _,rfl,by cases ng<;>exact .bool _ _⟩
     |own=>exact⟨_,Ed iB ht xo yo _ _ _,rfl,by cases ng<;>exact .bool _ _⟩
   ·cases h2
  ·cases h
 ·obtain⟨u0,hx,h1⟩:=Ml h;obtain⟨v0,hy,h2⟩:=Ml h1;obtain⟨z,h3,hp,hs⟩:=akn h2;subst hx hy
  refine⟨_,h3,λaj ρ a w hR xo yo u v hu hv=>?_⟩
  obtain⟨t',bE,hr⟩:=hs w _ aj xo yo [] [] _ _ hu.2 hv.2;exact⟨t',bE,V.GM hp,hr⟩
/-! Parts of slices that nobody writes. -/
theorem Ee{x:ak A}{uw:Int}{k:Int->ak X}(h:xx x uw k=some r):∃ n,k n=some r/\(∀ (X':Type) (k':Int->ak X'),xx x uw k'=k' n)/\((x=none/\n=uw)\/∃ kd,x=some (.lf (.v (.int kd n)))):=by
 unfold xx at h;split at h
 ·exact⟨_,h,λ_ _=>rfl,.inl ⟨rfl,rfl⟩⟩
 ·exact⟨_,h,λ_ _=>rfl,.inr ⟨_,rfl⟩⟩
 ·cases h
theorem akY{t:TypeId}{x:A}{lo hi:ak A}{k:A->ak X}(h:zC P t x lo hi k=some r):∃ y,k y=some r/\(∀ (X':Type) (k':A->ak X'),zC P t x lo hi k'=k' y)/\
  ((∃ (s:ByteArray) (l h:Int),x = .lf (.v (.str s))/\P.underlying t=some .string/\((lo=none/\l=0)\/∃ kd,lo=some (.lf (.v (.int kd l))))/\((hi=none/\h=s.size)\/∃ kd,hi=some (.lf (.v (.int kd h))))/\0<=l/\l<=h/\h<=(s.size:Int)/\y = .lf (.v (.str (s.extract l.toNat h.toNat))))\/
   ∃(tc:TC) (g:Nat) (qn:Bool) (xs:af (T tc)) (e:TypeId) (l h:Int),x = .lf (.v (.sl tc g qn xs))/\qY P t=some e/\kM P e=some (aB tc)/\g<2/\((lo=none/\l=0)\/∃kd,lo=some (.lf (.v (.int kd l))))/\((hi=none/\h=xs.length)\/∃kd,hi=some (.lf (.v (.int kd h))))/\0<=l/\l<=h/\h<=(xs.length:Int)/\y = .lf (.v (.sl tc g false ((xs.take h.toNat).drop l.toNat)))):=by
 unfold zC at h;split at h
 ·rename_i s;split at h
  ·rename_i hu;obtain⟨l,h1,d1,e1⟩:=Ee h;obtain⟨m,h2,d2,e2⟩:=Ee h1;split at h2
   ·rename_i hb
    refine⟨_,h2,λX' k'=>?_,.inl ⟨s,l,m,rfl,hu,e1,e2,hb.1,hb.2.1,hb.2.2,rfl⟩⟩
    simp only[zC,hu];rw[d1,d2,bB hb]
   ·cases h2
  ·cases h
 ·rename_i tc g qn xs;split at h
  ·rename_i e he;split at h
   ·rename_i n hn;split at h
    ·rename_i nO;subst nO;cases hg:Nat.blt g 2 with
     |false=>rw[hg]at h;cases h
     | true=>
      rw[hg,aq]at h;obtain⟨l,h1,d1,e1⟩:=Ee h;obtain⟨m,h2,d2,e2⟩:=Ee h1;split at h2
      ·rename_i hb
       refine⟨_,h2,λX' k'=>?_,.inr ⟨tc,g,qn,xs,e,l,m,rfl,he,hn,cT hg,e1,e2,hb.1,hb.2.1,hb.2.2,rfl⟩⟩
       simp only[zC,he,hn,if_true,hg,aq];rw[d1,d2,bB hb]
      ·cases h2
    ·cases h
   ·cases h
  ·cases h
 ·cases h
theorem aay{t:TypeId}{x:A}{lo hi:ak A}{k:A->ak X}(h:zC P t x lo hi k=some r):∃ y,k y=some r/\(∀ (X':Type) (k':A->ak X'),zC P t x lo hi k'=k' y)/\
  ∀ (w:World) (B:Nat) (aj:bM) (ρ:Nat->Loc) (u:Value) (lv hv:ak Value),RA w B aj ρ x u->(∀ a,lo=some a->∃ v,lv=some v/\RA w B aj ρ a v)->(lo=none->lv=none)->(∀ a,hi=some a->∃ v,hv=some v/\RA w B aj ρ a v)->(hi=none->hv=none)->
   ∃t',(Instr.sliceAt t u lv hv none).run P w = .ok t' w/\RA w B aj ρ y t':=by
 obtain⟨y,h1,hd,hc⟩:=akY h
 refine⟨y,h1,hd,λw B aj ρ u lv hv hu qc iA zH zI=>?_⟩
 have bl:∀ {o:ak A} {ov:ak Value} {n uw:Int},(∀ a,o=some a->∃ v,ov=some v/\RA w B aj ρ a v)->(o=none->ov=none)->((o=none/\n=uw)\/∃ kd,o=some (.lf (.v (.int kd n))))->(ov=none/\n=uw)\/∃ kd,ov=some (.int kd n):=by
  intro o ov n uw g1 g2 g3;rcases g3 with ⟨e,e'⟩|⟨kd,e⟩
  ·exact .inl ⟨g2 e,e'⟩
  ·obtain⟨v,hv,hr⟩:=g1 _ e;exact .inr ⟨kd,by rw[hv,hr.2.jf]⟩
 rcases hc with ⟨s,l,m,rfl,fQ,e1,e2,b1,b2,b3,rfl⟩|⟨tc,g,qn,xs,e,l,m,rfl,he,hn,hg,e1,e2,b1,b2,b3,rfl⟩
 ·have h5:=bl qc iA e1;have h6:=bl zH zI e2;obtain rfl:=hu.2.xd;have em:(m.toNat:Int)=m:=Int.toNat_of_nonneg (by omega);refine⟨.string (s.extract l.toNat m.toNat),?_,rfl,.str _ _⟩;rw[run_sliceAt_string w t _ _ _ _ fQ];have iW:0<=m:=by omega
  rcases h5 with ⟨rfl,h7⟩|⟨kl,rfl⟩<;>rcases h6 with ⟨rfl,h8⟩|⟨kh,rfl⟩
  all_goals simp_all [Instr.slice,jw fQ,Instr.sliceBounds,run_sliceBound]
 ·have h5:=bl qc iA e1;have h6:=bl zH zI e2;have fQ:P.underlying t=some (.slice e):=by
   unfold qY at he;split at he
   next e' lO=>injection he with he;rw[<-he];exact lO
   ·cases he
  have jR:P.elem t=e:=by simp[Program.elem,fQ]
  have ri:P.underlying t=some (.slice (P.elem t)):=by rw[jR];exact fQ
  have uy:(sizeOf (P.elem t)).run P w = .ok (aB tc) w:=by
   unfold kM at hn;cases hi:P.info? e with
   |none=>simp[hi]at hn
   | some i=>
    have:i.size=aB tc:=by simpa [hi]using hn
    simp[sizeOf,typeInfo,jR,hi,this]
  have gv:∃ A n c,u = .slice A n c:=by
   cases hu.2 with
   |c9=>exact⟨_,_,_,rfl⟩
   |dm=>exact⟨_,_,_,rfl⟩
   |dD=>exact⟨_,_,_,rfl⟩
   |az=>exact⟨_,_,_,rfl⟩
   |own=>exact⟨_,_,_,rfl⟩
  obtain⟨A,n,c,rfl⟩:=gv;obtain⟨hp,zF,MI⟩:=hu.2.part (a:=l.toNat) (h:=m.toNat) hg (by omega) (by omega);refine⟨_,?_,by simp[V.az,hg],hp⟩;rw[run_sliceAt_slice w t _ _ _ _ ri];rcases h5 with ⟨rfl,rfl⟩|⟨kl,rfl⟩<;>rcases h6 with ⟨rfl,rfl⟩|⟨kh,rfl⟩
  ·rw[run_slice_all w t A n c ri,uy,zF];simp
  ·rw[run_slice_h w t A n c ri kh m (by omega) (by omega),uy];simp
  ·rw[run_slice_l w t A n c ri kl l (by omega) (by omega),uy,zF];simp
  ·rw[run_slice_lh w t A n c ri kl kh l m (by omega) (by omega) (by omega),uy];simp
/-! Parts of slices that are owned. -/
def G2{X:Type}(n:Nat)(q:af Nat)(dh:ak Nat)(lo hi:ak A)(y:V)(k:A->ak X):ak X:=
 match y with
 |.sl t' _ _ l=>if n=aB t' then xx lo 0 λa=>xx hi ((dh.getD l.length:Nat):Int) λb=>if 0<=a/\a<=b/\b<=(l.length:Int)then k (.view q n a.toNat b.toNat)else none else none
 |_=>none
def rj{X:Type}(P:Program)(σ:S)(t:TypeId)(q:af Nat)(dh:ak Nat)(lo hi:ak A)(k:A->ak X):ak X:=
 match qY P t with
 | some e=>(match kM P e with
  |some n=>gR σ.m q λy=>G2 n q dh lo hi y k
  |none=>none)
 |none=>none
def tA{X:Type}(P:Program)(σ:S)(t:TypeId)(x:A)(lo hi:ak A)(k:A->ak X):ak X:=
 match x with
 |.lf (.own q)=>rj P σ t q none lo hi k
 |.view q _ 0 j=>rj P σ t q (some j) lo hi k
 |x=>zC P t x lo hi k
theorem aaz{n:Nat}{q:af Nat}{dh:ak Nat}{lo hi:ak A}{y:V}{k:A->ak X}(h:G2 n q dh lo hi y k=some r):∃ (tc:TC) (g:Nat) (qn:Bool) (xs:af (T tc)) (l h:Int),y = .sl tc g qn xs/\n=aB tc/\
  ((lo=none/\l=0)\/∃kd,lo=some (.lf (.v (.int kd l))))/\((hi=none/\h=((dh.getD xs.length:Nat):Int))\/∃kd,hi=some (.lf (.v (.int kd h))))/\0<=l/\l<=h/\h<=(xs.length:Int)/\k (.view q n l.toNat h.toNat)=some r/\
  ∀(X':Type) (k':A->ak X'),G2 n q dh lo hi y k'=k' (.view q n l.toNat h.toNat):=by
 unfold G2 at h;split at h
 ·rename_i tc g qn xs;split at h
  ·rename_i nO;obtain⟨l,h1,d1,e1⟩:=Ee h;obtain⟨m,h2,d2,e2⟩:=Ee h1;split at h2
   ·rename_i hb
    refine⟨tc,g,qn,xs,l,m,rfl,nO,e1,e2,hb.1,hb.2.1,hb.2.2,h2,λX' k'=>?_⟩
    simp only[G2,bB nO];rw[d1,d2,bB hb]
   ·cases h2
  ·cases h
 ·cases h
theorem aaA{t:TypeId}{q:af Nat}{dh:ak Nat}{lo hi:ak A}{k:A->ak X}(h:rj P σ t q dh lo hi k=some r):∃ y,k y=some r/\
  ∀ aj ρ a w,Rl w0 N aj ρ σ a w->∀ (D:ak Addr) (n c h0:Nat) (lv hv:ak Value),cJ w aj ρ q=some (.slice D n c)->h0=dh.getD n->h0<=n->(∀ a,lo=some a->∃ v,lv=some v/\RA w w0.heap.size aj ρ a v)->(lo=none->lv=none)->(∀ a,hi=some a->∃ v,hv=some v/\RA w w0.heap.size aj ρ a v)->(hi=none->hv=none)->
   ∃t',(Instr.sliceAt t (.slice D h0 c) lv hv none).run P w = .ok t' w/\RA w w0.heap.size aj ρ y t':=by
 unfold rj at h;split at h
 ·rename_i e he;split at h
  ·rename_i n hn;obtain⟨y0,Tq,h2⟩:=th q _ h;obtain⟨tc,g,qn,xs,l,m,rfl,nO,e1,e2,b1,b2,b3,h3,_⟩:=aaz h2
   refine⟨_,h3,λaj ρ a w hR D n' c h0 lv hv fA Tr hle qc iA zH zI=>?_⟩
   have bl:∀ {o:ak A} {ov:ak Value} {n uw:Int},(∀ a,o=some a->∃ v,ov=some v/\RA w w0.heap.size aj ρ a v)->(o=none->ov=none)->((o=none/\n=uw)\/∃ kd,o=some (.lf (.v (.int kd n))))->(ov=none/\n=uw)\/∃ kd,ov=some (.int kd n):=by
    intro o ov n uw g1 g2 g3;rcases g3 with ⟨e,e'⟩|⟨kd,e⟩
    ·exact .inl ⟨g2 e,e'⟩
    ·obtain⟨v,hv,hr⟩:=g1 _ e;exact .inr ⟨kd,by rw[hv,hr.2.jf]⟩
   have h5:=bl qc iA e1;have h6:=bl zH zI e2;have fQ:P.underlying t=some (.slice e):=by
    unfold qY at he;split at he
    next e' lO=>injection he with he;rw[<-he];exact lO
    ·cases he
   have jR:P.elem t=e:=by simp[Program.elem,fQ]
   have ri:P.underlying t=some (.slice (P.elem t)):=by rw[jR];exact fQ
   have uy:(sizeOf (P.elem t)).run P w = .ok n w:=by
    unfold kM at hn;cases hi:P.info? e with
    |none=>simp[hi]at hn
    | some i=>
     have:i.size=n:=by simpa [hi]using hn
     simp[sizeOf,typeInfo,jR,hi,this]
   obtain⟨v0,sn,dn⟩:=Tq.ok hR.root;rw[fA]at sn;injection sn with sn;subst sn;have hf:RV w 0 (λ_=>none) [] (.sl tc 0 qn xs) (.slice D n' c):=dn.iO;obtain⟨hp,zF,MI⟩:=hf.part (a:=l.toNat) (h:=m.toNat) (by omega) (by omega) (by omega);have akZ:((dh.getD xs.length:Nat):Int)=(h0:Int):=by rw[Tr,zF]
   rw[akZ]at h6;refine⟨sliced D l.toNat m.toNat c n,?_,D,n',c,fA,by omega,by omega,rfl⟩;rw[run_sliceAt_slice w t _ _ _ _ ri];rcases h5 with ⟨rfl,rfl⟩|⟨kl,rfl⟩<;>rcases h6 with ⟨rfl,rfl⟩|⟨kh,rfl⟩
   ·rw[run_slice_all w t D h0 c ri,uy];simp
   ·rw[run_slice_h w t D h0 c ri kh m (by omega) (by omega),uy];simp
   ·rw[run_slice_l w t D h0 c ri kl l (by omega) (by omega),uy];simp
   ·rw[run_slice_lh w t D h0 c ri kl kh l m (by omega) (by omega) (by omega),uy];simp
  ·cases h
 ·cases h
theorem ak0{t:TypeId}{x:A}{lo hi:ak A}{k:A->ak X}(h:tA P σ t x lo hi k=some r):∃ y,k y=some r/\
  ∀ aj ρ a w,Rl w0 N aj ρ σ a w->∀ (u:Value) (lv hv:ak Value),RA w w0.heap.size aj ρ x u->(∀ a,lo=some a->∃ v,lv=some v/\RA w w0.heap.size aj ρ a v)->(lo=none->lv=none)->(∀ a,hi=some a->∃ v,hv=some v/\RA w w0.heap.size aj ρ a v)->(hi=none->hv=none)->
   ∃t',(Instr.sliceAt t u lv hv none).run P w = .ok t' w/\RA w w0.heap.size aj ρ y t':=by
 unfold tA at h;split at h
 ·rename_i q;obtain⟨y,h1,hs⟩:=aaA (w0:=w0) (N:=N) h
  refine⟨y,h1,λaj ρ a w hR u lv hv hu qc iA zH zI=>?_⟩
  have gQ:∃ A n c,u = .slice A n c:=by
   have:=hu.1;cases u<;>first|cases this;done|exact⟨_,_,_,rfl⟩
  obtain⟨A,n,c,rfl⟩:=gQ;exact hs aj ρ a w hR A n c n lv hv hu.2 rfl (gj _) qc iA zH zI
 ·rename_i q s j;obtain⟨y,h1,hs⟩:=aaA (w0:=w0) (N:=N) h
  refine⟨y,h1,λaj ρ a w hR u lv hv hu qc iA zH zI=>?_⟩
  obtain⟨A,n,c,fA,_,a2,rfl⟩:=hu;have e:sliced A 0 j c s = .slice A j c:=by cases A<;>simp[sliced,Addr.add]
  rw[e];exact hs aj ρ a w hR A n c j lv hv fA rfl a2 qc iA zH zI
 ·obtain⟨y,h1,_,hs⟩:=aay h;exact⟨y,h1,λaj ρ a w _ u lv hv=>hs w _ aj ρ u lv hv⟩
end
end Go.Proofs.YtecofnkoloihpaaGreat
namespace Go.Proofs.YtecofnkoloihpaaGreat
open Go.RowKit
set_option linter.unusedVariables false
abbrev Pt:=Bool×af V
def PV(w:World)(B:Nat)(aj:bM)(key:Nat->af Nat)(p:Pt)(u:Value):Prop:=
 ∃us:Array Value,(match p.1 with|true=>u = .agg us|false=>us = #[u])/\us.size=p.2.length/\∀(j:Nat) x,p.2[j]?=some x->∃v,us[j]?=some v/\RV w B aj (key j) x v
def zJ(w:World)(cs:af V)(u:Value):Prop:=
 ∃b off,u = .pointer (some ⟨b,off,none⟩)/\b<w.heap.size/\∀(j:Nat) x,cs[j]?=some x->∃v,w.cell? ⟨b,off+j,none⟩=some v/\RV w w.heap.size (λ_=>none) [] x v
inductive PA (w:World):Pt->Value->Prop
 |v (p:Pt) (u:Value) (h:PV w w.heap.size (λ_=>none) (λ_=>[]) p u):PA w p u
 |p (c:V) (cs:List V) (u:Value) (h:zJ w (c::cs) u):PA w (false,.bool true::c::cs) u
 |f (g:Nat) (c:V) (cs:List V) (u:Value) (h:zJ w (c::cs) u):PA w (false,.bool false::.int .i64 (g:Int)::c::cs) (.func (.func g) #[] #[u])
def vU(w:World)(args:af Pt)(cq:Array Value):Prop:=
 cq.size=args.length/\∀(i:Nat) p,args[i]?=some p->∃u,cq[i]?=some u/\PA w p u
theorem PA.pv{w:World}{x:V}{u:Value}(h:PA w (false,[x]) u):PV w w.heap.size (λ_=>none) (λ_=>[]) (false,[x]) u:=by
 cases h with
 |v _ _ h=>exact h
theorem PA.pvS{w:World}{xs:af V}{u:Value}(h:PA w (true,xs) u):PV w w.heap.size (λ_=>none) (λ_=>[]) (true,xs) u:=by
 cases h with
 |v _ _ h=>exact h
inductive ig where
 |one (p:Pt)
 |cU (ps:List Pt)
def zK(t:TC):Nat->Bool
 |0=>false
 |1=>true
 |o+2=>Nat.ble (full t) o ||Nat.beq (o % 2) 1
def V.loc:V->Bool
 |.sl t o _ _=>zK t o
 |_=>true
def kQ(w:World)(B:Nat)(aj:bM)(nm:Nat->Nat):Nat->af Pt->af Value->Prop
 |_,[],[]=>True
 |off,p::ps,v::vs=>(p.2.all V.loc=true/\PV w B aj (λj=>[nm (off+j)]) p v)/\kQ w B aj nm (off+p.2.length) ps vs
 |_,_,_=>False
def sr(w:World)(B:Nat)(aj:bM)(nm:Nat->Nat):ig->Value->Prop
 |.one p,v=>kQ w B aj nm 0 [p] [v]
 |.cU ps,v=>∃vs:Array Value,v = .tuple vs/\kQ w B aj nm 0 ps vs.toList
structure lD where
 run:(X:Type)->List Pt->(ig->Option X)->Option X
def kz(P:Program)(f:Nat)(c:lD):Prop:=
 ∀ (X:Type) (args:af Pt) (k:ig->ak X) (r:X),c.run X args k=some r->∃ res,k res=some r/\(∀ (X':Type) (k':ig->ak X'),c.run X' args k'=k' res)/\∀ (nm:Nat->Nat) (w:World) (cq:Array Value),vU w args cq->Hd w (λ_=>none)->
  Calls P f cq w λe w'=>∃v aD,e = .returned v/\Below w.heap.size w w'/\(∀b k,aD b=some k->w.heap.size<=b/\b<w'.heap.size/\k≠[])/\sr w' w.heap.size aD nm res v
def oF{X:Type}(σ:S):af Lf->(af V->ak X)->ak X
 |[],k=>k []
 |x::xs,k=>kK σ x λy=>oF σ xs λys=>k (y.iO::ys)
def nZ{X:Type}(σ:S)(x:A)(k:Pt->ak X):ak X:=
 match x with
 |.lf y=>oF σ [y] λvs=>k (false,vs)
 |.agg ys=>oF σ ys λvs=>k (true,vs)
 |.view q s i j=>tj σ q s i j λy=>k (false,[y])
 |.je (c::cs)=>k (false,.bool true::c.iO::cs.map V.iO)
 |_=>none
def tC{X:Type}(σ:S)(x:A)(k:Pt->ak X):ak X:=
 match x with
 |.je (c::cs)=>k (false,.bool true::c.iO::cs.map V.iO)
 |.mm f (c::cs)=>k (false,.bool false::.int .i64 (f:Int)::c.iO::cs.map V.iO)
 | .aK r j=>(match σ.m r with
  | some (.aC cs)=>oF σ (cs.drop j) λvs=>(match vs with
   |c::cs=>k (false,.bool true::c::cs)
   |[]=>none)
  |_=>none)
 | .fn f [(r,j)]=>(match σ.m r with
  | some (.aC cs)=>oF σ (cs.drop j) λvs=>(match vs with
   |c::cs=>k (false,.bool false::.int .i64 (f:Int)::c::cs)
   |[]=>none)
  |_=>none)
 |x=>nZ σ x k
def oG{X:Type}(σ:S):af Operand->(af Pt->ak X)->ak X
 |[],k=>k []
 |x::xs,k=>tC σ (aH σ x) λp=>oG σ xs λps=>k (p::ps)
def mz{X:Type}(σ:S):af Operand->(af Pt->ak X)->ak X
 |[],k=>k []
 |x::xs,k=>nZ σ (aH σ x) λp=>mz σ xs λps=>k (p::ps)
def lP(c:Nat):af V->af Lf
 |[]=>[]
 |x::xs=>(bif x.az then .v x else .own [c])::lP (c+1) xs
def jG(c:Nat)(σ:S):af V->S
 |[]=>σ
 |x::xs=>jG (c+1) (bif x.az then σ else (σ.drop c).root c (.sl x)) xs
def nB(c:Nat):af Pt->af (Bool×af Lf)
 |[]=>[]
 |p::ps=>(p.1,lP c p.2)::nB (c+p.2.length) ps
def mT(c:Nat)(σ:S):af Pt->S
 |[]=>σ
 |p::ps=>mT (c+p.2.length) (jG c σ p.2) ps
def su{X:Type}(N:Nat)(σ:S)(d:Nat)(c:lD)(args:af Operand)(k:S->ak X):ak X:=
 bif Nat.blt d N then oG σ args λps=>c.run X ps λres=>(match res with
  | .one p=>(match si (p.1,lP (1000000000100000+1000*d) p.2)with
   |some y=>k ((jG (1000000000100000+1000*d) σ p.2).set d y)
   |none=>none)
  |.cU ps=>k ((mT (1000000000100000+1000*d) σ ps).set d (.cU (nB (1000000000100000+1000*d) ps))))else none
def zL{X:Type}(N:Nat)(σ:S)(d:Nat)(c:lD)(args:af Operand)(k:S->ak X):ak X:=
 bif Nat.blt d N then mz σ args λps=>c.run X ps λres=>(match res with
  | .one p=>(match si (p.1,lP (1000000000100000+1000*d) p.2)with
   |some y=>k ((jG (1000000000100000+1000*d) σ p.2).set d y)
   |none=>none)
  |.cU ps=>k ((mT (1000000000100000+1000*d) σ ps).set d (.cU (nB (1000000000100000+1000*d) ps))))else none
section
variable {P:Program} {w w':World} {w0:Wd} {B N:Nat} {aj aD:bM} {ρ ρ':Nat->Loc} {σ:S} {a:Act} {X:Type} {d:Nat} {r:X} {o:Oper}
theorem G3:∀ (xs:af Lf) (k:af V->ak X),oF σ xs k=some r->∃ vs,k vs=some r/\vs.length=xs.length/\∀ aj ρ a w,Rl w0 N aj ρ σ a w->∀ (j:Nat) x y u,xs[j]?=some x->vs[j]?=some y->dY w w0.heap.size aj ρ x u->RV w w.heap.size (λ_=>none) [] y u
 |[],k,h=>⟨[],h,rfl,λ_ _ _ _ _ j x y u hx=>by simp at hx⟩
 | x :: xs,k,h=>by
  unfold oF at h;obtain⟨y,hy,h2⟩:=Tg (w0:=w0) (N:=N) h;obtain⟨ys,h3,hl,hr⟩:=G3 xs _ h2
  refine⟨y.iO::ys,h3,by simp[hl],λaj ρ a w hR j x' y' u cW fJ hu=>?_⟩
  cases j with
  | zero=>
   simp at cW fJ;subst cW fJ;obtain⟨q,hq⟩:=hy aj ρ a w hR u hu;exact hq.iO
  |succ j=>exact hr aj ρ a w hR j x' y' u (by simpa using cW) (by simpa using fJ) hu
theorem aaB{r' j':Nat}{cs:af Lf}{vs:af V}(hm:σ.m r'=some (.aC cs))(hl:vs.length=(cs.drop j').length)
  (hr:∀aj ρ a w,Rl w0 N aj ρ σ a w->∀(j:Nat) x y u,(cs.drop j')[j]?=some x->vs[j]?=some y->dY w w0.heap.size aj ρ x u->RV w w.heap.size (λ_=>none) [] y u)
  {aj:bM} {ρ:Nat->Loc} {a:Act} {w:World} {u:Value} (hR:Rl w0 N aj ρ σ a w) (hu:RA w w0.heap.size aj ρ (.aK r' j') u):zJ w vs u:=by
 obtain⟨b,off,e1,rfl⟩:=hu;cases hR.root r' _ hm with
 | aC b' qL cells e _ us aO kR hh hs hc=>
  rw[e1]at aO;injection aO with q1 q2;subst q1 q2
  refine⟨b,off+j',rfl,(ia.1 hh).1,λj x hx=>?_⟩
  have hj:j<(cs.drop j').length:=by rw[<-hl];exact(dS.1 hx).1
  have G4:=cu hj;have ak1:cs[j'+j]?=some (cs.drop j')[j]:=by rw[<-List.getElem?_drop];exact G4
  obtain⟨k1,k2⟩:=hc _ _ ak1;refine⟨us (j'+j),?_,hr aj ρ a w hR j _ x _ G4 hx k2⟩;rw[Nat.add_assoc,cell_of_row w b _ cells _ _ hh];exact k1
theorem Ts{cs:af V}{u:Value}(hu:RF w B aj cs u):zJ w (cs.map V.iO) u:=by
 obtain⟨b,off,rfl,h1,h2,h3⟩:=hu
 refine⟨b,off,rfl,h1,λj x hx=>?_⟩
 rw[dP]at hx;cases hy:cs[j]? with
 |none=>rw[hy]at hx;cases hx
 | some y=>
  rw[hy]at hx;injection hx with hx;subst hx;obtain⟨_,v,h4,h5⟩:=h3 j y hy;exact⟨v,h4,h5.iO⟩
theorem aaC{x:A}{k:Pt->ak X}(h:nZ σ x k=some r):∃ p,k p=some r/\∀ aj ρ a w,Rl w0 N aj ρ σ a w->∀ u,RA w w0.heap.size aj ρ x u->PA w p u:=by
 unfold nZ at h;split at h
 ·rename_i y;obtain⟨vs,h2,hl,hr⟩:=G3 (w0:=w0) (N:=N) _ _ h
  refine⟨_,h2,λaj ρ a w hR u hu=>.v _ _ ⟨#[u],rfl,by simp[hl],λj x hx=>?_⟩⟩
  have hj:j=0:=by
   have:=(dS.1 hx).1;simp only[hl]at this
   simpa using this
  subst hj;exact⟨u,rfl,hr aj ρ a w hR 0 y x u rfl hx hu⟩
 ·rename_i ys;obtain⟨vs,h2,hl,hr⟩:=G3 (w0:=w0) (N:=N) _ _ h
  refine⟨_,h2,λaj ρ a w hR u hu=>?_⟩
  obtain⟨us,rfl,hs⟩:=hu
  refine .v _ _ ⟨us,rfl,by rw[hl];exact hs.1,λj x hx=>?_⟩
  have hj:j<ys.length:=by rw[<-hl];exact(dS.1 hx).1
  obtain⟨v,hv,dG⟩:=hs.2 j _ (cu hj);exact⟨v,hv,hr aj ρ a w hR j _ x v (cu hj) hx dG⟩
 ·obtain⟨z,h2,_,hz⟩:=Z6 h
  refine⟨_,h2,λaj ρ a w hR u hu=>.v _ _ ⟨#[u],rfl,rfl,λj x hx=>?_⟩⟩
  cases j with
  | zero=>
   simp at hx;subst hx;exact⟨u,rfl,hz _ _ _ _ _ _ hR u hu _⟩
  |succ j=>simp at hx
 next c cs=>exact⟨_,h,λaj ρ a w hR u hu=>.p _ _ _ (Ts hu)⟩
 ·cases h
theorem ak2{x:A}{k:Pt->ak X}(h:tC σ x k=some r):∃ p,k p=some r/\∀ aj ρ a w,Rl w0 N aj ρ σ a w->∀ u,RA w w0.heap.size aj ρ x u->PA w p u:=by
 unfold tC at h;split at h
 ·rename_i c cs
  refine⟨_,h,λaj ρ a w hR u hu=>?_⟩
  exact .p _ _ _ (Ts hu)
 ·rename_i f c cs
  refine⟨_,h,λaj ρ a w hR u hu=>?_⟩
  obtain⟨pv,rfl,hp⟩:=hu;exact .f _ _ _ _ (Ts hp)
 ·rename_i r' j';split at h
  ·rename_i cs hm;obtain⟨vs,h2,hl,hr⟩:=G3 (w0:=w0) (N:=N) _ _ h;split at h2
   ·rename_i c fy
    refine⟨_,h2,λaj ρ a w hR u hu=>?_⟩
    exact .p _ _ _ (aaB hm hl hr hR hu)
   ·cases h2
  ·cases h
 ·rename_i f r' j';split at h
  ·rename_i cs hm;obtain⟨vs,h2,hl,hr⟩:=G3 (w0:=w0) (N:=N) _ _ h;split at h2
   ·rename_i c fy
    refine⟨_,h2,λaj ρ a w hR u hu=>?_⟩
    obtain⟨ps,rfl,hs,hp⟩:=hu;obtain⟨b,off,e1,e2⟩:=hp 0 _ rfl;have e:ps = #[.pointer (some ⟨b,off+j',none⟩)]:=by
     apply Array.ext (by simpa using hs);intro i h1 h2;have:i=0:=by simp at h2;omega
     subst this;rw[Array.getElem?_eq_getElem h1]at e2;injection e2
    subst e;exact .f _ _ _ _ (aaB hm hl hr hR ⟨b,off,e1,rfl⟩)
   ·cases h2
  ·cases h
 ·exact aaC h
theorem aaD:∀ (xs:af Operand) (k:af Pt->ak X),oG σ xs k=some r->∃ ps,k ps=some r/\∀ aj ρ a w,Rl w0 N aj ρ σ a w->vU w ps (xs.map a.eval).toArray
 |[],k,h=>⟨[],h,λ_ _ _ _ _=>⟨rfl,λi p hp=>by simp at hp⟩⟩
 | x :: xs,k,h=>by
  unfold oG at h;obtain⟨p,h2,hp⟩:=ak2 (w0:=w0) (N:=N) h;obtain⟨ps,h3,iQ⟩:=aaD xs _ h2
  refine⟨p::ps,h3,λaj ρ a w hR=>⟨?_,λi q hq=>?_⟩⟩
  ·have:=(iQ aj ρ a w hR).1;simp at this;simp[this]
  ·cases i with
   | zero=>
    simp at hq;subst hq;exact⟨_,rfl,hp aj ρ a w hR _ (hR.aH x)⟩
   | succ i=>
    obtain⟨u,hu,hr⟩:=(iQ aj ρ a w hR).2 i q (by simpa using hq);exact⟨u,by simpa using hu,hr⟩
theorem Tt:∀ (xs:af Operand) (k:af Pt->ak X),mz σ xs k=some r->∃ ps,k ps=some r/\∀ aj ρ a w,Rl w0 N aj ρ σ a w->vU w ps (xs.map a.eval).toArray
 |[],k,h=>⟨[],h,λ_ _ _ _ _=>⟨rfl,λi p hp=>by simp at hp⟩⟩
 | x :: xs,k,h=>by
  unfold mz at h;obtain⟨p,h2,hp⟩:=aaC (w0:=w0) (N:=N) h;obtain⟨ps,h3,iQ⟩:=Tt xs _ h2
  refine⟨p::ps,h3,λaj ρ a w hR=>⟨?_,λi q hq=>?_⟩⟩
  ·have:=(iQ aj ρ a w hR).1;simp at this;simp[this]
  ·cases i with
   | zero=>
    simp at hq;subst hq;exact⟨_,rfl,hp aj ρ a w hR _ (hR.aH x)⟩
   | succ i=>
    obtain⟨u,hu,hr⟩:=(iQ aj ρ a w hR).2 i q (by simpa using hq);exact⟨u,by simpa using hu,hr⟩
theorem aaE{t:TC}{o:Nat}(h:zK t (o+2)=true)(x:T t):∀ y∈enc t o x,y.loc=true:=by
 intro y hy;have hg:=w5 t o x y hy;cases y with
 | sl t' o' q l=>
  have ho:o'=o:=by simpa [V.gr]using hg
  subst ho;have hf:full t'+2<=full t:=cT (Mh t o' x _ hy);show zK t' o'=true;simp only[zK,fE]at h;rcases h with h|h
  ·have h:=cT h
   match o',h with
   |0,h=>omega
   |1,h=>rfl
   | n+2,h=>
    simp only[zK,fE];left;exact mJ (by omega)
  ·have h:=cr h
   match o',h with
   |0,h=>omega
   |1,h=>rfl
   | n+2,h=>
    simp only[zK,fE];right;have:n % 2=1:=by omega
    rw[this];rfl
 |_=>rfl
theorem RV.home{q:af Nat}{x:V}{v:Value}(h:RV w B aj q x v){B':Nat}(hB:B'<=B)(hl:∀ b,B<=b->aD b=aj b)(hg:∀ b k,aj b=some k->B<=b)(hx:x.loc=true):RV w B' aD q x v:=by
 induction h with
 |int=>exact .int _ _ _
 |bool=>exact .bool _ _
 |str=>exact .str _ _
 |nil=>exact .nil _
 |c9=>exact .c9 _ _ _
 |dm=>exact .dm _ _ _ _ _ (by first|assumption|omega)
 |dD=>exact .dD _ _ _ _ _ (by first|assumption|omega)
 | az q t o qn l b off cap u ho dH hb h1 eA hc hr ih=>
  have xB:o=1:=by
   match o,ho,hx with
   |0,_,hx=>cases hx
   |1,_,_=>rfl
   |n+2,ho,_=>omega
  subst xB;have G5:=h1 rfl
  refine .az _ _ _ _ _ _ _ _ u ho ((hl b G5).trans dH) hb (λ_=>Nat.le_trans hB G5) eA hc (λi h j x cW=>ih i h j x cW ?_)
  have:=w5 t 1 l[i] x (hJ cW);cases x with
  | sl t' o' q' l'=>
   have:o'=1:=by simpa [V.gr]using this
   subst this;rfl
  |_=>rfl
 | own q t o qn l b cap cs u dH hh hs hn hm hc hr ih=>
  exact .own _ _ _ _ _ _ _ cs u ((hl b (hg b q dH)).trans dH) hh hs hn hm hc (λi h j x cW=>ih i h j x cW (aaE hx l[i] x (hJ cW)))
theorem Tu:∀ (xs:af V) (c:Nat) (σ:S) (ρ:Nat->Loc) (us:af Value),60000<=c->Rl w0 N aj ρ σ a w->us.length=xs.length->(∀ (j:Nat) x u,xs[j]?=some x->us[j]?=some u->RV w w0.heap.size aj [c+j] x u)->
  ∃ρ',Rl w0 N aj ρ' (jG c σ xs) a w/\(∀r,r<c->ρ' r=ρ r)/\∀(j:Nat) x u,(lP c xs)[j]?=some x->us[j]?=some u->dY w w0.heap.size aj ρ' x u
 |[],c,σ,ρ,us,_,h,hl,hr=>⟨ρ,h,λ_ _=>rfl,λj x u hx=>by simp[lP]at hx⟩
 | x :: xs,c,σ,ρ,us,hc,h,hl,hr=>by
  cases us with
  |nil=>simp at hl
  | cons u us=>
   have dn:=hr 0 x u rfl rfl;rw[Nat.add_zero]at dn;have kP:∀ (j:Nat) x' u',xs[j]?=some x'->us[j]?=some u'->RV w w0.heap.size aj [c+1+j] x' u':=λj x' u' hx hu=>by
    have:=hr (j+1) x' u' (by simpa using hx) (by simpa using hu);rw[show c+1+j=c+(j+1) by omega];exact this
   cases hf:x.az with
   | true=>
    obtain⟨ρ',aV,aO,uz⟩:=Tu xs (c+1) σ ρ us (by omega) h (by simpa using hl) kP
    refine⟨ρ',?_,λr hr=>aO r (by omega),λj y v hy hv=>?_⟩
    ·simp only[jG,hf,aq];exact aV
    ·simp only[lP,hf,aq]at hy;cases j with
     | zero=>
      simp at hy hv;subst hy hv;exact⟨hf,dn.key hf⟩
     |succ j=>exact uz j y v (by simpa using hy) (by simpa using hv)
   | false=>
    have gQ:=dn.SN hf;obtain⟨ρ',aV,aO,uz⟩:=Tu xs (c+1) _ _ us (by omega) (h.new (d:=c) (x:=.sl x) (.eK u) (.sl u x (cG _ _ _) dn) (h.ef c (.inr hc))) (by simpa using hl) kP
    refine⟨ρ',?_,λr hr=>?_,λj y v hy hv=>?_⟩
    ·simp only[jG,hf,au];exact aV
    ·rw[aO r (by omega)];exact cV _ _ _ (by omega)
    ·simp only[lP,hf,au]at hy;cases j with
     | zero=>
      simp at hy hv;subst hy hv;refine⟨gQ,?_⟩;have:ρ' c = .eK u:=by rw[aO c (by omega)];exact cG _ _ _
      simp[cJ,this]
     |succ j=>exact uz j y v (by simpa using hy) (by simpa using hv)
theorem ak3(xs:af V):∀ c,(lP c xs).length=xs.length:=by
 induction xs with
 |nil=>intro c;rfl
 |cons x xs ih=>intro c;simp[lP,ih]
end
end Go.Proofs.YtecofnkoloihpaaGreat
namespace Go.Proofs.YtecofnkoloihpaaGreat
open Go.RowKit
set_option linter.unusedVariables false
def enters(P:Program)(f:Nat):Prop:=∃fn,P.funcs[f]?=some fn/\(fn.name == "runtime.NumGoroutine")=false/\fn.body.isNone=false
/-! What a function gives back. -/
def MJ:A->ak (Bool×af Lf)
 |.lf x=>some (false,[x])
 |.agg xs=>some (true,xs)
 |_=>none
def qh{X:Type}(P:Program)(σ:S):af ResultVar->(af (Bool×af Lf)->ak X)->ak X
 |[],k=>k []
 | .tmp t :: rest,k=>(match MJ (σ.t t)with
  |some p=>qh P σ rest λps=>k (p::ps)
  |none=>none)
 | .cell p ty :: rest,k=>mq P σ ty (σ.t p) λx=>(match MJ x with
  |some p=>qh P σ rest λps=>k (p::ps)
  |none=>none)
def Tv(m:Nat->ak bg):Lf->ak (V×ak Nat)
 |.v x=>bif x.loc&&x.az then some (x,none)else none
 | .own [r]=>match m r with
  |some (.sl y)=>bif y.loc then some (y,some r)else none
  |_=>none
 |_=>none
def G6(m:Nat->ak bg)(off:Nat):af Lf->ak (af V×af (Nat×Nat))
 |[]=>some ([],[])
 | x :: xs=>match Tv m x,G6 m (off+1) xs with
  |some (y,none),some (ys,rs)=>some (y::ys,rs)
  |some (y,some r),some (ys,rs)=>some (y::ys,(r,off)::rs)
  |_,_=>none
def Ef(m:Nat->ak bg)(off:Nat):af (Bool×af Lf)->ak (af Pt×af (Nat×Nat))
 |[]=>some ([],[])
 | p :: ps=>match G6 m off p.2,Ef m (off+p.2.length) ps with
  |some (vs,rs),some (qs,oH)=>some ((p.1,vs)::qs,rs++oH)
  |_,_=>none
def once(rs:af (Nat×Nat)):Bool:=rs.all λp=>(rs.lookup p.1).any λn=>Nat.beq n p.2
def G7{X:Type}(P:Program)(σ:S)(fn:Array ResultVar)(k:ig->ak X):ak X:=
 qh P σ fn.toList λps=>match Ef σ.m 0 ps with
  | some (qs,rs)=>bif once rs then (match qs with
   |[p]=>k (.one p)
   |qs=>k (.cU qs))else none
  |none=>none
section
variable {P:Program} {w w':World} {w0:Wd} {B N:Nat} {aj aD:bM} {ρ ρ':Nat->Loc} {σ:S} {a:Act} {X:Type} {d:Nat} {r:X} {o:Oper}
theorem aaF:∀ (xs:af V) (c:Nat) (j:Nat) x u,(lP c xs)[j]?=some x->dY w B aj ρ x u->(∀ r,r<c+xs.length->ρ' r=ρ r)->dY w B aj ρ' x u
 |[],c,j,x,u,hx,_,_=>by simp[lP]at hx
 | y :: ys,c,j,x,u,hx,hr,aO=>by
  cases j with
  | zero=>
   simp only[lP,List.getElem?_cons_zero,gl]at hx;subst hx;cases hf:y.az with
   |true=>rw[hf,aq]at hr;simp only[aq];exact hr
   | false=>
    rw[hf,au]at hr;simp only[au];refine⟨hr.1,?_⟩;have:=hr.2;simp only[cJ,aO c (by simp)]at this ⊢;exact this
  | succ j=>
   simp only[lP,List.getElem?_cons_succ]at hx;exact aaF ys (c+1) j x u hx hr (λr h=>aO r (by simp;omega))
theorem PV.cells{key:Nat->af Nat}{p:Pt}{u:Value}(h:PV w B aj key p u):∃ us:af Value,us.length=p.2.length/\(∀ (j:Nat) x v,p.2[j]?=some x->us[j]?=some v->RV w B aj (key j) x v)/\
  ∀(ρ:Nat->Loc) (ls:af Lf),ls.length=p.2.length->(∀(j:Nat) x v,ls[j]?=some x->us[j]?=some v->dY w B aj ρ x v)->RP w B aj ρ (p.1,ls) u:=by
 obtain⟨us,hu,hs,hr⟩:=h;obtain⟨b,xs⟩:=p
 refine⟨us.toList,by simpa using hs,λj x v hx hv=>?_,λρ ls hl G8=>?_⟩
 ·obtain⟨v',eM,dG⟩:=hr j x hx;have:v'=v:=by
   rw[nh]at hv;rw[eM]at hv;injection hv
  subst this;exact dG
 ·have Ec:eG w B aj ρ ls us:=⟨by rw[hs,hl],λj x hx=>by
   have hj:j<us.size:=by rw[hs,<-hl];exact(dS.1 hx).1
   exact⟨us[j],Array.getElem?_eq_getElem hj,G8 j x _ hx (by rw[nh,Array.getElem?_eq_getElem hj])⟩⟩
  cases b with
  |true=>exact⟨us,hu,Ec⟩
  |false=>have hu:us = #[u]:=hu;subst hu;exact Ec
theorem G9:∀ (ps:af Pt) (c0 off:Nat) (σ:S) (ρ:Nat->Loc) (vs:af Value),60000<=c0->Rl w0 N aj ρ σ a w->kQ w w0.heap.size aj (λn=>c0+n) off ps vs->
  ∃ρ',Rl w0 N aj ρ' (mT (c0+off) σ ps) a w/\(∀r,r<c0+off->ρ' r=ρ r)/\vs.length=(nB (c0+off) ps).length/\∀(i:Nat) p v,(nB (c0+off) ps)[i]?=some p->vs[i]?=some v->RP w w0.heap.size aj ρ' p v
 | [],c0,off,σ,ρ,vs,_,h,hr=>by
  cases vs with
  |nil=>exact⟨ρ,h,λ_ _=>rfl,rfl,λi p v hp=>by simp[nB]at hp⟩
  |cons v vs=>exact hr.elim
 | p :: ps,c0,off,σ,ρ,vs,hc,h,hr=>by
  cases vs with
  |nil=>exact hr.elim
  | cons v vs=>
   obtain⟨⟨_,hp⟩,hr⟩:=hr;obtain⟨us,hl,lN,vV⟩:=hp.cells;obtain⟨sv,h1,jB,uz⟩:=Tu p.2 (c0+off) σ ρ us (by omega) h hl (λj x u hx hu=>by
    have:RV w w0.heap.size aj [c0+(off+j)] x u:=lN j x u hx hu;rw[<-Nat.add_assoc]at this;exact this)
   obtain⟨fh,h2,vW,hlen,iQ⟩:=G9 ps c0 (off+p.2.length) (jG (c0+off) σ p.2) sv vs hc h1 hr;rw[<-Nat.add_assoc]at h2 vW hlen iQ
   refine⟨fh,h2,λr hr=>(vW r (by omega)).trans (jB r hr),by simp[nB,hlen],λi q u hq hu=>?_⟩
   cases i with
   | zero=>
    simp only[nB,List.getElem?_cons_zero,gl]at hq hu;subst hq hu
    refine vV fh _ (ak3 _ _) (λj x u hx hu=>aaF p.2 (c0+off) j x u hx (uz j x u hx hu) vW)
   | succ i=>
    simp only[nB,List.getElem?_cons_succ]at hq hu;exact iQ i q u hq hu
theorem kQ.home{nm:Nat->Nat}:∀ (ps:af Pt) (off:Nat) (vs:af Value) {B':Nat},kQ w B aj nm off ps vs->B'<=B->(∀ b,B<=b->aD b=aj b)->(∀ b k,aj b=some k->B<=b)->kQ w B' aD nm off ps vs
 |[],_,[],_,h,_,_,_=>h
 |[],_,_::_,_,h,_,_,_=>h
 |_::_,_,[],_,h,_,_,_=>h
 | p :: ps,off,v :: vs,B',h,hB,hl,hg=>by
  obtain⟨⟨kA,us,hu,hs,hr⟩,kP⟩:=h
  refine⟨⟨kA,us,hu,hs,λj x hx=>?_⟩,kQ.home ps _ vs kP hB hl hg⟩
  obtain⟨v',eM,dG⟩:=hr j x hx;exact⟨v',eM,dG.home hB hl hg (dQ.1 kA x (hJ hx))⟩
theorem Tw(w:World)(o:Oper)(a:Act)(f:Nat)(args:Array Operand)(gf:Array TypeId)(ho:o.op = .call { callee:=.value (.func f),args,argTypes:=gf })(he:enters P f):(execOp a.eval o).run P w = .ok (.enter f (args.map a.eval)) w:=by
 obtain⟨fn,h1,h2,h3⟩:=he;have sx:¬ fn.name = "runtime.NumGoroutine":=by simpa using h2
 have BE:¬ fn.body=none:=by intro e;rw[e]at h3;cases h3
 simp[execOp,ho,resolve,Act.eval,Deferred.ofValue,invoke,callFunc,gk,Sem.run,program,h1,sx,BE]
theorem aaG{f:Nat}{args:Array Operand}{gf:Array TypeId}{c:lD}{k:S->ak X}(ho:o.op = .call { callee:=.value (.func f),args,argTypes:=gf })(hd:o.dst=some d)(he:enters P f)(hc:kz P f c)(BF:d<N){ps:af Pt}(iR:∀ aj ρ a w,Rl w0 N aj ρ σ a w->vU w ps (args.toList.map a.eval).toArray)
  (h2:(c.run X ps λres=>(match res with
  | .one p=>(match si (p.1,lP (1000000000100000+1000*d) p.2)with
   |some y=>k ((jG (1000000000100000+1000*d) σ p.2).set d y)
   |none=>none)
  |.cU ps=>k ((mT (1000000000100000+1000*d) σ ps).set d (.cU (nB (1000000000100000+1000*d) ps)))))=some r):∃aA,k aA=some r/\oz P w0 N o σ aA:=by
 obtain⟨res,h3,_,He⟩:=hc X ps _ r h2;have step:∀ a w K Q aj ρ,Rl w0 N aj ρ σ a w->(∀ v w' aD,Below w.heap.size w w'->Rl w0 N aD ρ σ a w'->sr w' w0.heap.size aD (λn=>1000000000100000+1000*d+n) res v->K (a.put o.dst v) w')->o.wp P a w K Q:=by
  intro a w K Q aj ρ hR hK;unfold Oper.wp;rw[Tw w o a f args gf ho he,Oper.upon_enter];have BG:(args.map a.eval)=(args.toList.map a.eval).toArray:=by apply Array.ext';rw[Array.toList_map]
  rw[BG]
  refine(He (λn=>1000000000100000+1000*d+n) w _ (iR aj ρ a w hR) (w0.on hR.below (λ_ _ h=>by cases h))).mono λe w' uA=>?_
  obtain⟨v,ij,rfl,iV,kR,iX⟩:=uA;have hB:=hR.below.size;let dI:bM:=λb=>if b<w.heap.size then aj b else ij b
  have e1:∀b,b<w.heap.size->dI b=aj b:=λb hb=>bB hb
  have e2:∀b,w.heap.size<=b->dI b=ij b:=λb hb=>cm (by omega)
  refine hK v w' dI iV (hR.grow iV e1 (λb k hb hk=>?_)) ?_
  ·rw[e2 b hb]at hk;exact(kR b k hk).2
  ·cases res with
   |one p=>exact kQ.home [p] 0 [v] iX hB e2 (λb k hk=>(kR b k hk).1)
   | cU n5=>
    obtain⟨vs,e,hv⟩:=iX;exact⟨vs,e,kQ.home n5 0 vs.toList hv hB e2 (λb k hk=>(kR b k hk).1)⟩
 cases res with
 | one p=>
  simp only at h3;split at h3
  ·rename_i y hy
   refine⟨_,h3,λa w K Q hR hK=>?_⟩
   obtain⟨aj,ρ,hR⟩:=hR
   refine step a w K Q aj ρ hR λv w' aD iV aV iX=>?_
   obtain⟨ρ',mA,_,_,iQ⟩:=G9 [p] (1000000000100000+1000*d) 0 σ ρ [v] (by omega) aV iX;rw[hd];have Tx:=iQ 0 _ v rfl rfl;exact hK _ _ ⟨aD,ρ',mA.set (S2 hy Tx) BF⟩
  ·cases h3
 | cU n5=>
  refine⟨_,h3,λa w K Q hR hK=>?_⟩
  obtain⟨aj,ρ,hR⟩:=hR
  refine step a w K Q aj ρ hR λv w' aD iV aV iX=>?_
  obtain⟨vs,rfl,hv⟩:=iX;obtain⟨ρ',mA,_,hlen,iQ⟩:=G9 n5 (1000000000100000+1000*d) 0 σ ρ vs.toList (by omega) aV hv;rw[hd]
  refine hK _ _ ⟨aD,ρ',mA.set ⟨vs,rfl,by simpa using hlen,λj p hp=>?_⟩ BF⟩
  have hj:j<vs.size:=by
   have:=(dS.1 hp).1;rw[Nat.add_zero]at hlen;rw[<-hlen]at this
   simpa using this
  exact⟨vs[j],Array.getElem?_eq_getElem hj,iQ j p _ hp (by rw[nh,Array.getElem?_eq_getElem hj])⟩
theorem ak4{f:Nat}{args:Array Operand}{gf:Array TypeId}{c:lD}{k:S->ak X}(ho:o.op = .call { callee:=.value (.func f),args,argTypes:=gf })(hd:o.dst=some d)(he:enters P f)(hc:kz P f c)(h:zL N σ d c args.toList k=some r):∃ aA,k aA=some r/\oz P w0 N o σ aA:=by
 unfold zL at h;cases hN:Nat.blt d N with
 |false=>rw[hN]at h;cases h
 | true=>
  rw[hN,aq]at h;obtain⟨ps,h2,iR⟩:=Tt (w0:=w0) (N:=N) _ _ h;exact aaG ho hd he hc (cT hN) iR h2
theorem ak5{f:Nat}{args:Array Operand}{gf:Array TypeId}{c:lD}{k:S->ak X}(ho:o.op = .call { callee:=.value (.func f),args,argTypes:=gf })(hd:o.dst=some d)(he:enters P f)(hc:kz P f c)(h:su N σ d c args.toList k=some r):∃ aA,k aA=some r/\oz P w0 N o σ aA:=by
 unfold su at h;cases hN:Nat.blt d N with
 |false=>rw[hN]at h;cases h
 | true=>
  rw[hN,aq]at h;obtain⟨ps,h2,iR⟩:=aaD (w0:=w0) (N:=N) _ _ h;exact aaG ho hd he hc (cT hN) iR h2
end
end Go.Proofs.YtecofnkoloihpaaGreat
namespace Go.Proofs.YtecofnkoloihpaaGreat
open Go.RowKit
set_option linter.unusedVariables false
def fm(aj:bM)(rs:af (Nat×Nat))(nm:Nat->Nat):bM:=λb=>
 match aj b with
 |none=>none
 | some k=>match k.getLast? with
  |none=>none
  |some r=>(rs.lookup r).map λn=>k.dropLast++[nm n]
section
variable {P:Program} {w w':World} {w0:Wd} {B N:Nat} {aj aD:bM} {ρ ρ':Nat->Loc} {σ:S} {a:Act} {X:Type} {d:Nat} {r:X} {rs:af (Nat×Nat)} {nm:Nat->Nat}
theorem RV.Hf{q:af Nat}{x:V}{v:Value}(h:RV w B aj q x v)(hf:x.az=true)(hl:∀ b,aj b=none->aD b=none):RV w B aD q x v:=by
 induction h with
 |int=>exact .int _ _ _
 |bool=>exact .bool _ _
 |str=>exact .str _ _
 |nil=>exact .nil _
 |c9=>exact .c9 _ _ _
 |dm=>exact .dm _ _ _ _ _ (by first|assumption|omega)
 |dD=>exact .dD _ _ _ _ _ (by first|assumption|omega)
 | az q t o qn l b off cap u ho dH hb h1 eA hc hr ih=>
  exact .az _ _ _ _ _ _ _ _ u ho (hl b dH) hb h1 eA hc (λi h j x hx=>ih i h j x hx (mj t o l[i] ho j x hx))
 |own q t o qn l b cap cs u dH hh hs hn hm hc hr ih=>simp[V.az]at hf;omega
theorem xD{b:Nat}(h:aj b=none):fm aj rs nm b=none:=by simp[fm,h]
theorem RV.fm{p:af Nat}{r n:Nat}{x:V}{v:Value}(h:RV w B aj (p++[r]) x v)(hr:rs.lookup r=some n):RV w B (fm aj rs nm) (p++[nm n]) x v:=by
 generalize hq:p++[r]=q at h
 induction h generalizing p with
 |int=>exact .int _ _ _
 |bool=>exact .bool _ _
 |str=>exact .str _ _
 |nil=>exact .nil _
 |c9=>exact .c9 _ _ _
 |dm=>exact .dm _ _ _ _ _ (by first|assumption|omega)
 |dD=>exact .dD _ _ _ _ _ (by first|assumption|omega)
 | az q t o qn l b off cap u ho dH hb h1 eA hc dG ih=>
  exact .az _ _ _ _ _ _ _ _ u ho (xD dH) hb h1 eA hc (λi h j x hx=>(dG i h j x hx).Hf (mj t o l[i] ho j x hx) (λb=>xD))
 | own q t o qn l b cap cs u dH hh hs hn hm hc dG ih=>
  subst hq
  refine .own _ _ _ _ _ _ _ cs u ?_ hh hs hn hm hc (λi h j x hx=>ih i h j x hx (p:=j::i::aB t::p) rfl)
  simp[Proofs.YtecofnkoloihpaaGreat.fm,dH,hr]
theorem Ty{m:Nat->ak bg}:∀ (xs:af Lf) (off:Nat) (ys:af V) (lQ:af (Nat×Nat)),G6 m off xs=some (ys,lQ)->ys.length=xs.length/\∀ (j:Nat) x,xs[j]?=some x->∃ y,ys[j]?=some y/\y.loc=true/\((x = .v y/\y.az=true)\/∃ r,x = .own [r]/\m r=some (.sl y)/\(r,off+j)∈lQ)
 | [],off,ys,lQ,h=>by
  simp only[G6,gl,jx]at h;obtain⟨rfl,rfl⟩:=h;exact⟨rfl,λj x hx=>by simp at hx⟩
 | x :: xs,off,ys,lQ,h=>by
  have hc:∀ y z,Tv m x=some (y,z)->y.loc=true/\((z=none/\x = .v y/\y.az=true)\/∃ r,z=some r/\x = .own [r]/\m r=some (.sl y)):=by
   intro y z hz;unfold Tv at hz;split at hz
   ·rename_i x';cases hl:(x'.loc&&x'.az)with
    |false=>rw[hl]at hz;cases hz
    | true=>
     rw[hl,aq]at hz;simp only[gl,jx]at hz;obtain⟨rfl,rfl⟩:=hz;rw[bx]at hl;exact⟨hl.1,.inl ⟨rfl,rfl,hl.2⟩⟩
   ·rename_i r;split at hz
    ·rename_i y' fJ;cases hl:y'.loc with
     |false=>rw[hl]at hz;cases hz
     | true=>
      rw[hl,aq]at hz;simp only[gl,jx]at hz;obtain⟨rfl,rfl⟩:=hz;exact⟨hl,.inr ⟨r,rfl,rfl,fJ⟩⟩
    ·cases hz
   ·cases hz
  unfold G6 at h;split at h
  ·rename_i y BH oH hy oC;simp only[gl,jx]at h;obtain⟨rfl,rfl⟩:=h;obtain⟨h1,h2⟩:=Ty xs (off+1) BH oH oC
   refine⟨by simp[h1],λj x' hx=>?_⟩
   cases j with
   | zero=>
    simp at hx;subst hx;obtain⟨hl,hz|⟨r,hz,_⟩⟩:=hc y none hy
    ·exact⟨y,rfl,hl,.inl hz.2⟩
    ·cases hz
   | succ j=>
    obtain⟨y',fJ,hl,hz⟩:=h2 j x' (by simpa using hx)
    refine⟨y',by simpa using fJ,hl,hz.imp id λ⟨r,e1,e2,e3⟩=>⟨r,e1,e2,by rw[show off+(j+1)=off+1+j by omega];exact e3⟩⟩
  ·rename_i y r BH oH hy oC;simp only[gl,jx]at h;obtain⟨rfl,rfl⟩:=h;obtain⟨h1,h2⟩:=Ty xs (off+1) BH oH oC
   refine⟨by simp[h1],λj x' hx=>?_⟩
   cases j with
   | zero=>
    simp at hx;subst hx;obtain⟨hl,hz|⟨r',hz,e1,e2⟩⟩:=hc y (some r) hy
    ·cases hz.1
    ·injection hz with hz;subst hz;exact⟨y,rfl,hl,.inr ⟨r,e1,e2,.head _⟩⟩
   | succ j=>
    obtain⟨y',fJ,hl,hz⟩:=h2 j x' (by simpa using hx)
    refine⟨y',by simpa using fJ,hl,hz.imp id λ⟨r,e1,e2,e3⟩=>⟨r,e1,e2,by rw[show off+(j+1)=off+1+j by omega];exact .tail _ e3⟩⟩
  ·cases h
theorem Tz{m:Nat->ak bg}(hm:∀ r x,m r=some x->fz w B aj ρ r x):∀ (ps:af (Bool×af Lf)) (off:Nat) (qs:af Pt) (lQ:af (Nat×Nat)) (vs:af Value),Ef m off ps=some (qs,lQ)->(∀ p∈lQ,rs.lookup p.1=some p.2)->vs.length=ps.length->
  (∀(i:Nat) p v,ps[i]?=some p->vs[i]?=some v->RP w B aj ρ p v)->kQ w B (fm aj rs nm) nm off qs vs
 | [],off,qs,lQ,vs,h,_,hl,_=>by
  have:vs=[]:=List.eq_nil_of_length_eq_zero hl;subst this;simp only[Ef,gl,jx]at h;obtain⟨rfl,rfl⟩:=h;trivial
 | p :: ps,off,qs,lQ,vs,h,fR,hl,hp=>by
  cases vs with
  |nil=>simp at hl
  | cons v vs=>
   unfold Ef at h;split at h
   ·rename_i ys rs1 qs' BI h1 h2;simp only[gl,jx]at h;obtain⟨rfl,rfl⟩:=h;obtain⟨hlen,LZ⟩:=Ty _ _ _ _ h1;have kP:=Tz hm ps _ qs' BI vs h2 (λq hq=>fR q (List.mem_append_right _ hq)) (by simpa using hl) (λi q u hq hu=>hp (i+1) q u (by simpa using hq) (by simpa using hu));have zM:=hp 0 p v rfl rfl;have key:∀ us:Array Value,eG w B aj ρ p.2 us->(us.size=ys.length/\∀ (j:Nat) x,ys[j]?=some x->∃ u,us[j]?=some u/\RV w B (fm aj rs nm) [nm (off+j)] x u):=by
     intro us gv
     refine⟨by rw[hlen];exact gv.1,λj y hy=>?_⟩
     have hj:j<p.2.length:=by rw[<-hlen];exact(dS.1 hy).1
     obtain⟨y',fJ,kA,hz⟩:=LZ j _ (cu hj);rw[hy]at fJ;injection fJ with fJ;subst fJ;obtain⟨u,hu,hr⟩:=gv.2 j _ (cu hj);refine⟨u,hu,?_⟩;rcases hz with ⟨e,hf⟩|⟨r,e,hmr,zN⟩
     ·rw[e]at hr;exact(hr.2.Hf hf (λb=>xD)).key hf
     ·rw[e]at hr;have cZ:=hm r _ hmr;generalize he:bg.sl y=z at cZ;cases cZ with
      |aC=>cases he
      |mp=>cases he
      |gh=>cases he
      | sl v' y' aO lN=>
       injection he with he;subst he;have Hg:v'=u:=by
        have h4:=hr.2;simp only[cJ,aO]at h4;injection h4
       subst Hg;exact RV.fm (p:=[]) lN (fR (r,off+j) (List.mem_append_left _ zN))
    refine⟨⟨?_,?_⟩,?_⟩
    ·rw[dQ];intro y hy;obtain⟨j,hj⟩:=List.mem_iff_getElem?.1 hy;have Bn:j<p.2.length:=by rw[<-hlen];exact(dS.1 hj).1
     obtain⟨y',fJ,kA,_⟩:=LZ j _ (cu Bn);rw[hj]at fJ;injection fJ with fJ;subst fJ;exact kA
    ·obtain⟨b,xs⟩:=p;cases b with
     | true=>
      obtain⟨us,e,gv⟩:=zM;obtain⟨k1,k2⟩:=key us gv;exact⟨us,e,k1,k2⟩
     | false=>
      obtain⟨k1,k2⟩:=key #[v] zM;exact⟨#[v],rfl,k1,k2⟩
    ·rw[hlen];exact kP
   ·cases h
theorem ak6{t:TypeId}{x:A}{k:A->ak X}(h:mq P σ t x k=some r){u:Value}(hu:RA w B aj ρ x u):∃ ad,u = .pointer (some ad):=by
 unfold mq at h;split at h
 ·cases h
 ·split at h
  ·obtain⟨b,off,_,rfl⟩:=hu;exact⟨_,rfl⟩
  ·obtain⟨b,off,rfl,_⟩:=hu;exact⟨_,rfl⟩
  ·obtain⟨ad,rfl,_⟩:=hu;exact⟨_,rfl⟩
  ·cases h
theorem aaH{x:A}{p:Bool×af Lf}(h:MJ x=some p){u:Value}(hu:RA w B aj ρ x u):RP w B aj ρ p u:=by
 unfold MJ at h;split at h
 ·injection h with h;subst h
  refine⟨rfl,λj y hy=>?_⟩
  cases j with
  |zero=>simp at hy;subst hy;exact⟨u,rfl,hu⟩
  |succ j=>simp at hy
 ·injection h with h;subst h;exact hu
 ·cases h
def uB(tmps:Array Value):ResultVar->Sem Value
 |.tmp t=>pure (tmps.getD t undef)
 |.cell a t=>do loadVar t (<-asAddr (tmps.getD a undef))
theorem Hh:∀ (l:af ResultVar) (k:af (Bool×af Lf)->ak X),qh P σ l k=some r->∃ ps,k ps=some r/\∀ aj ρ a w,Rl w0 N aj ρ σ a w->∃ vs,(l.mapM (uB a.tmps)).run P w = .ok vs w/\vs.length=ps.length/\∀ (i:Nat) p v,ps[i]?=some p->vs[i]?=some v->RP w w0.heap.size aj ρ p v
 |[],k,h=>⟨[],h,λ_ _ _ _ _=>⟨[],rfl,rfl,λi p v hp=>by simp at hp⟩⟩
 | .tmp t :: rest,k,h=>by
  simp only[qh]at h;split at h
  ·rename_i p hp;obtain⟨ps,h2,iQ⟩:=Hh rest _ h
   refine⟨p::ps,h2,λaj ρ a w hR=>?_⟩
   obtain⟨vs,bE,hl,hv⟩:=iQ aj ρ a w hR
   refine⟨a.tmps.getD t undef::vs,?_,by simp[hl],λi q u hq hu=>?_⟩
   ·rw[List.mapM_cons,gk];simp only[uB,Sem.run_pure,oZ,gk,bE]
   ·cases i with
    |zero=>simp only[List.getElem?_cons_zero,gl]at hq hu;subst hq hu;exact aaH hp (hR.tmp t)
    |succ i=>exact hv i q u (by simpa using hq) (by simpa using hu)
  ·cases h
 | .cell c ty :: rest,k,h=>by
  simp only[qh]at h;obtain⟨y,hy,zO⟩:=Z8 (w0:=w0) (N:=N) h;split at hy
  ·rename_i p hp;obtain⟨ps,h2,iQ⟩:=Hh rest _ hy
   refine⟨p::ps,h2,λaj ρ a w hR=>?_⟩
   obtain⟨vs,bE,hl,hv⟩:=iQ aj ρ a w hR;obtain⟨v,zG,xA⟩:=zO aj ρ a w hR _ (hR.tmp c);obtain⟨ad,jC⟩:=ak6 h (hR.tmp c);rw[jC]at zG;have zG:(loadVar ty ad).run P w = .ok v w:=by
    simpa [Instr.loadAt,Instr.sureAddr]using zG
   refine⟨v::vs,?_,by simp[hl],λi q u hq hu=>?_⟩
   ·rw[List.mapM_cons,gk];simp only[uB,jC,asAddr,Sem.run_pure,oZ,gk,bE,zG]
   ·cases i with
    |zero=>simp only[List.getElem?_cons_zero,gl]at hq hu;subst hq hu;exact aaH hp xA
    |succ i=>exact hv i q u (by simpa using hq) (by simpa using hu)
  ·cases hy
theorem ak7{fn:Func}{k:ig->ak X}(h:G7 P σ fn.results k=some r):∃ res,k res=some r/\∀ aj ρ a w,Rl w0 N aj ρ σ a w->∀ nm,∃ v aD,(results fn a.tmps).run P w = .ok v w/\(∀ b k,aD b=some k->(w0.heap.size<=b\/w0.L b≠none)/\b<w.heap.size/\k≠[])/\sr w w0.heap.size aD nm res v:=by
 unfold G7 at h;obtain⟨ps,h2,iQ⟩:=Hh (w0:=w0) (N:=N) _ _ h;clear h;split at h2
 ·rename_i qs rs TA;cases ho:once rs with
  |false=>rw[ho]at h2;cases h2
  | true=>
   rw[ho,aq]at h2;have fR:∀ p∈rs,rs.lookup p.1=some p.2:=by
    intro p hp;have:=dQ.1 ho p hp;obtain⟨n,hn,he⟩:=(Option.any_eq_true _ _).1 this;rw[hn,cr he]
   have core:∀ aj ρ a w,Rl w0 N aj ρ σ a w->∀ nm:Nat->Nat,∃ vs:af Value,(fn.results.mapM (uB a.tmps)).run P w = .ok vs.toArray w/\(∀ b k,fm aj rs nm b=some k->(w0.heap.size<=b\/w0.L b≠none)/\b<w.heap.size/\k≠[])/\kQ w w0.heap.size (fm aj rs nm) nm 0 qs vs:=by
    intro aj ρ a w hR nm;obtain⟨vs,bE,hl,hv⟩:=iQ aj ρ a w hR
    refine⟨vs,?_,λb k hk=>?_,Tz hR.root ps 0 qs rs vs TA fR hl hv⟩
    ·rw[Array.mapM_eq_mapM_toList];simp[bE]
    ·unfold fm at hk;split at hk
     ·cases hk
     ·rename_i k' eB;have:=hR.dF b k' eB;split at hk
      ·cases hk
      ·cases uC:rs.lookup _ with
       |none=>rw[uC]at hk;cases hk
       | some n=>
        rw[uC]at hk;injection hk with hk;subst hk;exact⟨this.1,this.2.1,by simp⟩
   have iX:∀ (tmps:Array Value),results fn tmps=(do let vs <-fn.results.mapM (uB tmps);pure (if h:vs.size=1 then vs[0]else .tuple vs)):=λtmps=>by
    unfold results;congr 1
   split at h2
   ·rename_i p
    refine⟨_,h2,λaj ρ a w hR nm=>?_⟩
    obtain⟨vs,bE,kR,aV⟩:=core aj ρ a w hR nm
    match vs,aV with
    |[v],aV=>exact⟨v,_,by rw[iX,gk,bE];rfl,kR,aV⟩
    |[],aV=>exact aV.elim
    |_::_::_,aV=>exact aV.2.elim
   ·rename_i br
    refine⟨_,h2,λaj ρ a w hR nm=>?_⟩
    obtain⟨vs,bE,kR,aV⟩:=core aj ρ a w hR nm;have dO:vs.toArray.size≠1:=by
     intro e
     match qs,vs,aV,br with
     |[q],[v],_,br=>exact br q rfl
     |[],[v],aV,_=>exact aV.elim
     |_::_::_,[v],aV,_=>exact aV.2.elim
    refine⟨.tuple vs.toArray,_,?_,kR,vs.toArray,rfl,aV⟩;rw[iX,gk,bE,oZ];simp only[dO,dif_neg,not_false_eq_true,Sem.run_pure]
 ·cases h2
end
end Go.Proofs.YtecofnkoloihpaaGreat
namespace Go.Proofs.YtecofnkoloihpaaGreat
open Go.RowKit
set_option linter.unusedVariables false
inductive In where
 |aC (cs:List V)
 |sl (y:V)
def nF(i:Nat):Nat:=20000+1000*i
def nC(i j:Nat)(x:V):Nat:=bif x.az then 20001+1000*i+j else 60000+1000*i+j
def zP(i j:Nat)(x:V):Lf:=bif x.plain then .v x else .own [nC i j x]
def zQ(i:Nat):Nat->af V->af Lf
 |_,[]=>[]
 |j,x::xs=>zP i j x::zQ i (j+1) xs
def MK(i:Nat):Nat->af V->(Nat->ak bg)->(Nat->ak bg)
 |_,[],m=>m
 |j,x::xs,m=>MK i (j+1) xs (bif x.plain then m else cB m (nC i j x) (some (.sl x)))
def ML:Nat->af In->(Nat->ak bg)->(Nat->ak bg)
 |_,[],m=>m
 |i,.aC cs::r,m=>ML (i+1) r (MK i 0 cs (cB m (nF i) (some (.aC (zQ i 0 cs)))))
 |i,.sl y::r,m=>ML (i+1) r (cB m (nF i) (some (.sl y)))
inductive Ar where
 |pt (p:Pt)
 |mut (i off:Nat)
def MM(ins:af In):Ar->A
 |.pt (false,[x])=>.lf (.v x)
 |.pt (true,xs)=>.agg (xs.map .v)
 |.pt (false,.bool false::.int .i64 g::c::cs)=>.mm g.toNat (c::cs)
 |.pt _=>.undef
 | .mut i off=>match ins[i]? with
  |some (.aC _)=>.aK (nF i) off
  |some (.sl _)=>.lf (.own [nF i])
  |none=>.undef
def zR(ins:af In)(args:af Ar):S:=⟨λk=>match args[k]? with
 |some x=>MM ins x
 |none=>.undef,ML 0 ins (λ_=>none)⟩
def sy(w w':World)(aD:bM)(ρ:Nat->Loc)(nm:Nat->Nat):Nat->Nat->af In->af In->Prop
 |_,_,[],[]=>True
 | i,pos,.aC cs :: r,.aC fy :: r'=>(∃ b off cells oJ e e',ρ (nF i) = .aC b off/\w.heap[b]?=some (.cells cells e (0,0))/\w'.heap[b]?=some (.cells oJ e' (0,0))/\aD b=some [nm pos]/\off+fy.length<=oJ.size/\fy.length=cs.length/\
   ∀(j:Nat) x',fy[j]?=some x'->∃u,oJ[off+j]?=some u/\((x'.plain=true/\∀(w:World) (B:Nat) (aj:bM) (q:af Nat),RV w B aj q x' u)\/(x' = .nil/\u = .slice none 0 0/\∃x0,cs[j]?=some x0/\x0.az=false)\/(x'.plain=false/\x'.az=true/\x'.lM=true/\(∃x0,cs[j]?=some x0/\Wk x0 x')/\cells[off+j]?=some u)\/(x'.az=false/\RV w' w.heap.size aD [nm (pos+1+j)] x' u)))/\
   sy w w' aD ρ nm (i+1) (pos+1+cs.length) r r'
 |i,pos,.sl y::r,.sl y'::r'=>(y' = .nil\/∃v,ρ (nF i) = .eK v/\RV w' w.heap.size aD [nm pos] y' v)/\sy w w' aD ρ nm (i+1) (pos+1) r r'
 |_,_,_,_=>False
def Hi(w w':World)(aD:bM)(ρ:Nat->Loc)(nm:Nat->Nat):Nat->Nat->af In->af In->Prop
 |_,_,[],[]=>True
 | i,pos,.aC cs :: r,.aC fy :: r'=>(∃ b off cells oJ e e',ρ (nF i) = .aC b off/\w.heap[b]?=some (.cells cells e (0,0))/\w'.heap[b]?=some (.cells oJ e' (0,0))/\aD b=some [nm pos]/\off+fy.length<=oJ.size/\fy.length=cs.length/\
   ∀(j:Nat) x',fy[j]?=some x'->∃u,oJ[off+j]?=some u/\((x'.plain=true/\∀(w:World) (B:Nat) (aj:bM) (q:af Nat),RV w B aj q x' u)\/(x'.plain=false/\x'.az=true/\cells[off+j]?=some u)\/(x'.az=false/\RV w' w.heap.size aD [nm (pos+1+j)] x' u)))/\
   Hi w w' aD ρ nm (i+1) (pos+1+cs.length) r r'
 |i,pos,.sl y::r,.sl y'::r'=>(y' = .nil\/∃v,ρ (nF i) = .eK v/\RV w' w.heap.size aD [nm pos] y' v)/\Hi w w' aD ρ nm (i+1) (pos+1) r r'
 |_,_,_,_=>False
def ig.len:ig->Nat
 |.one p=>p.2.length
 |.cU ps=>(ps.map λp=>p.2.length).sum
def qi(w:World)(B:Nat)(aj:bM)(ρ:Nat->Loc):Nat->af In->Prop
 |_,[]=>True
 |i,.aC cs::r=>fz w B aj ρ (nF i) (.aC (zQ i 0 cs))/\(∀(j:Nat) x,cs[j]?=some x->x.plain=false->fz w B aj ρ (nC i j x) (.sl x))/\qi w B aj ρ (i+1) r
 |i,.sl y::r=>fz w B aj ρ (nF i) (.sl y)/\qi w B aj ρ (i+1) r
/-! The end: what is given back,and what the written parameters hold. -/
def TB(m:Nat->ak bg)(i j:Nat)(x0:V):Lf->ak (V×ak Nat)
 |.v x=>bif x.plain then some (x,none)else (bif !x.lM && !x0.az then some (.nil,none)else none)
 | .own [r]=>match m r with
  |some (.sl y)=>bif y.az then (bif !x0.plain&&(x0.az&&x0.lM)&&Nat.beq r (20001+1000*i+j)&&Nat.blt r 60000 then some (x0,none)else none)else (bif y.loc then some (y,some r)else none)
  |_=>none
 |_=>none
def BJ(m:Nat->ak bg)(i pos:Nat):Nat->af V->af Lf->ak (af V×af (Nat×Nat))
 |_,[],[]=>some ([],[])
 | j,x0 :: xs,l :: ls=>match TB m i j x0 l,BJ m i pos (j+1) xs ls with
  |some (y,none),some (ys,rs)=>some (y::ys,rs)
  |some (y,some r),some (ys,rs)=>some (y::ys,(r,pos+1+j)::rs)
  |_,_=>none
 |_,_,_=>none
def V.gone:V->Bool
 |.sl _ o _ _=>Nat.ble 1000000 o
 |_=>false
def zS(m:Nat->ak bg):Nat->Nat->af In->ak (af In×af (Nat×Nat))
 |_,_,[]=>some ([],[])
 | i,pos,.aC cs :: r=>match bif Nat.blt (nF i) 60000 then m (nF i)else none with
  | some (.aC ls)=>match BJ m i pos 0 cs ls,zS m (i+1) (pos+1+cs.length) r with
   |some (fy,rs),some (os,oH)=>some (.aC fy::os,(nF i,pos)::(rs++oH))
   |_,_=>none
  |_=>none
 | i,pos,.sl y0 :: r=>bif y0.gone then (match zS m (i+1) (pos+1) r with
   |some (os,oH)=>some (.sl .nil::os,oH)
   |none=>none)else match bif Nat.blt (nF i) 60000 then m (nF i)else none with
  | some (.sl y')=>bif y'.loc && !y'.az then (match zS m (i+1) (pos+1) r with
   |some (os,oH)=>some (.sl y'::os,(nF i,pos)::oH)
   |none=>none)else none
  |_=>none
def Hj{X:Type}(P:Program)(σ:S)(fn:Array ResultVar)(ins:af In)(k:af In->ig->ak X):ak X:=
 qh P σ fn.toList λps=>match Ef σ.m 0 ps with
  | some (qs,rs)=>match zS σ.m 0 (qs.map λp=>p.2.length).sum ins with
   | some (os,oH)=>bif once (rs++oH)then (match qs with
    |[p]=>k os (.one p)
    |qs=>k os (.cU qs))else none
   |none=>none
  |none=>none
/-! Types of parameters and results. -/
def lR:af (Bool×TC×Nat)->Type
 |[]=>ah
 |[(_,t,_)]=>T t
 |(_,t,_)::r=>T t×lR r
def uD:(l:af (Bool×TC×Nat))->lR l->af Pt
 |[],_=>[]
 |[(b,t,g)],x=>[(b,enc t g x)]
 |(b,t,g)::q::r,x=>(b,enc t g x.1)::uD (q::r) x.2
def n6:(l:af (Bool×TC×Nat))->af Pt->ak (lR l)
 |[],[]=>some ()
 |[(b,t,g)],[(b',vs)]=>bif b==b' then dec t g vs else none
 | (b,t,g) :: q :: r,(b',vs) :: ps=>bif b==b' then (match dec t g vs,n6 (q :: r) ps with
  |some x,some xs=>some (x,xs)
  |_,_=>none)else none
 |_,_=>none
def oK(l:af (Bool×TC×Nat)):ig->ak (lR l)
 |.one p=>n6 l [p]
 |.cU ps=>bif Nat.beq ps.length 1 then none else n6 l ps
def gi(l:af (Bool×TC×Nat))(x:lR l):ig:=
 match uD l x with
 |[p]=>.one p
 |ps=>.cU ps
inductive PK where
 |v (b:Bool) (t:TC)
 |p (t:TC) (g off:Nat)
 |s (t:TC) (g:Nat)
def oL:af PK->Type
 |[]=>ah
 |.v _ t::r=>T t×oL r
 |.p t _ _::r=>T t×oL r
 |.s t _::r=>af (T t)×oL r
def vX:af (Bool×TC×Nat)->Type
 |[]=>ah
 |(true,t,_)::r=>T t×vX r
 |(false,t,_)::r=>af (T t)×vX r
def lS:(l:af (Bool×TC×Nat))->vX l->af In
 |[],_=>[]
 |(true,t,g)::r,x=>.aC (enc t g x.1)::lS r x.2
 |(false,t,g)::r,x=>.sl (bif Nat.ble 1000000 g then .nil else .sl t (g+2) false x.1)::lS r x.2
def gq:af PK->af (Bool×TC×Nat)
 |[]=>[]
 |.v _ _::r=>gq r
 |.p t g _::r=>(true,t,g)::gq r
 |.s t g::r=>(false,t,g)::gq r
def qj:(l:af PK)->oL l->af In
 |[],_=>[]
 |.v _ _::r,x=>qj r x.2
 |.p t g _::r,x=>.aC (enc t g x.1)::qj r x.2
 |.s t g::r,x=>.sl (.sl t (g+2) false x.1)::qj r x.2
def mU:(l:af PK)->Nat->oL l->af Ar
 |[],_,_=>[]
 |.v b t::r,i,x=>.pt (b,enc t 0 x.1)::mU r i x.2
 |.p _ _ off::r,i,x=>.mut i off::mU r (i+1) x.2
 |.s _ _::r,i,x=>.mut i 0::mU r (i+1) x.2
structure pz where
 ps:List PK
 ro:List (Bool×TC×Nat)
 F:oL ps->Option (lR ro×vX (gq ps))
def uE(P:Program)(f:Nat)(c:pz):Prop:=
 ∀ x y,c.F x=some y->∀ (nm:Nat->Nat) (w:World) (aj:bM) (ρ:Nat->Loc) (cq:Array Value),qi w w.heap.size aj ρ 0 (qj c.ps x)->(∀ b k,aj b=some k->b<w.heap.size/\k≠[])->
     cq.size=c.ps.length->(∀i,RA w w.heap.size aj ρ ((zR (qj c.ps x) (mU c.ps 0 x)).t i) (cq.getD i undef))->∀hQ:Hd w aj,
     Calls P f cq w λe w'=>∃v aD,e = .returned v/\kJ ⟨w,aj,λ_=>none,hQ,λ_ _=>rfl⟩ w w'/\(∀b k,aD b=some k->(w.heap.size<=b\/aj b≠none)/\b<w'.heap.size/\k≠[])/\sr w' w.heap.size aD nm (gi c.ro y.1) v/\Hi w w' aD ρ nm 0 (gi c.ro y.1).len (qj c.ps x) (lS (gq c.ps) y.2)
end Go.Proofs.YtecofnkoloihpaaGreat
namespace Go.Proofs.YtecofnkoloihpaaGreat
open Go.RowKit
set_option linter.unusedVariables false
def Hl(w:World)(ρ:Nat->Loc):Nat->af In->Prop
 |_,[]=>True
 |i,.aC cs::r=>(∃b off cells e,ρ (nF i) = .aC b off/\w.heap[b]?=some (.cells cells e (0,0))/\∀(j:Nat) x,cs[j]?=some x->x.plain=false->x.az=true->∃u,cells[off+j]?=some u/\ρ (20001+1000*i+j) = .eK u)/\Hl w ρ (i+1) r
 |i,.sl y::r=>(∃v,ρ (nF i) = .eK v)/\Hl w ρ (i+1) r
section
variable {P:Program} {w w':World} {w0:Wd} {B N:Nat} {aj aD:bM} {ρ ρ':Nat->Loc} {σ:S} {a:Act} {X:Type} {d:Nat} {r:X} {rs:af (Nat×Nat)} {nm:Nat->Nat}
theorem TD{m:Nat->ak bg}{i pos:Nat}:∀ (xs:af V) (ls:af Lf) (j0:Nat) (ys:af V) (lQ:af (Nat×Nat)),BJ m i pos j0 xs ls=some (ys,lQ)->ys.length=xs.length/\ls.length=xs.length/\
  ∀(j:Nat) y,ys[j]?=some y->∃l x0,ls[j]?=some l/\xs[j]?=some x0/\((l = .v y/\y.plain=true)\/(l = .v .nil/\y = .nil/\x0.az=false)\/(l = .own [20001+1000*i+(j0+j)]/\y=x0/\y.plain=false/\(y.az&&y.lM)=true/\20001+1000*i+(j0+j)<60000)\/(∃q,l = .own [q]/\m q=some (.sl y)/\y.az=false/\(q,pos+1+(j0+j))∈lQ))
 | [],[],j0,ys,lQ,h=>by
  simp only[BJ,gl,jx]at h;obtain⟨rfl,rfl⟩:=h;exact⟨rfl,rfl,λj y hy=>by simp at hy⟩
 |[],_::_,j0,ys,lQ,h=>by simp[BJ]at h
 |_::_,[],j0,ys,lQ,h=>by simp[BJ]at h
 | x0 :: xs,l :: ls,j0,ys,lQ,h=>by
  have hc:∀ y z,TB m i j0 x0 l=some (y,z)->(z=none/\l = .v y/\y.plain=true)\/(z=none/\l = .v .nil/\y = .nil/\x0.az=false)\/(z=none/\l = .own [20001+1000*i+j0]/\y=x0/\y.plain=false/\(y.az&&y.lM)=true/\20001+1000*i+j0<60000)\/(∃ q,z=some q/\l = .own [q]/\m q=some (.sl y)/\y.az=false):=by
   intro y z hz;unfold TB at hz;split at hz
   ·rename_i x;cases hp:x.plain with
    | false=>
     rw[hp,au]at hz;cases hb:(!x.lM && !x0.az)with
     |false=>rw[hb]at hz;cases hz
     | true=>
      rw[hb,aq]at hz;simp only[gl,jx]at hz;obtain⟨rfl,rfl⟩:=hz;rw[bx,nq,nq]at hb;have hx:x = .nil:=by
       cases x<;>first|rfl|(exact absurd hb.1 (by simp[V.lM]))
      subst hx;exact .inr (.inl ⟨rfl,rfl,rfl,hb.2⟩)
    | true=>
     rw[hp,aq]at hz;simp only[gl,jx]at hz;obtain⟨rfl,rfl⟩:=hz;exact .inl ⟨rfl,rfl,hp⟩
   ·rename_i q;split at hz
    ·rename_i y1 hy1;cases hf:y1.az with
     | true=>
      rw[hf,aq]at hz;cases hb:(!x0.plain&&(x0.az&&x0.lM)&&Nat.beq q (20001+1000*i+j0)&&Nat.blt q 60000)with
      |false=>rw[hb]at hz;cases hz
      | true=>
       rw[hb,aq]at hz;simp only[gl,jx]at hz;obtain⟨rfl,rfl⟩:=hz;rw[bx,bx,bx,nq]at hb;obtain⟨⟨⟨b1,b2⟩,b3⟩,b4⟩:=hb;obtain rfl:=cr b3;exact .inr (.inr (.inl ⟨rfl,rfl,rfl,b1,b2,by have:=cT b4;omega⟩))
     | false=>
      rw[hf,au]at hz;cases hl:y1.loc with
      |false=>rw[hl]at hz;cases hz
      | true=>
       rw[hl,aq]at hz;simp only[gl,jx]at hz;obtain⟨rfl,rfl⟩:=hz;exact .inr (.inr (.inr ⟨q,rfl,rfl,hy1,hf⟩))
    ·cases hz
   ·cases hz
  unfold BJ at h;split at h
  ·rename_i y BH oH hy oC;simp only[gl,jx]at h;obtain⟨rfl,rfl⟩:=h;obtain⟨h1,h2,h3⟩:=TD xs ls (j0+1) BH oH oC
   refine⟨by simp[h1],by simp[h2],λj y' fJ=>?_⟩
   cases j with
   | zero=>
    simp at fJ;subst fJ;refine⟨l,x0,rfl,rfl,?_⟩;rcases hc y none hy with ⟨_,e1,e2⟩|⟨_,e1,e2,e3⟩|⟨_,e1,e2,e3,e4,e5⟩|⟨q,hq,_⟩
    ·exact .inl ⟨e1,e2⟩
    ·exact .inr (.inl ⟨e1,e2,e3⟩)
    ·exact .inr (.inr (.inl ⟨e1,e2,e3,e4,e5⟩))
    ·cases hq
   | succ j=>
    obtain⟨l',x',g1,g2,g3⟩:=h3 j y' (by simpa using fJ);rw[show j0+1+j=j0+(j+1) by omega]at g3;exact⟨l',x',by simpa using g1,by simpa using g2,g3⟩
  ·rename_i y q BH oH hy oC;simp only[gl,jx]at h;obtain⟨rfl,rfl⟩:=h;obtain⟨h1,h2,h3⟩:=TD xs ls (j0+1) BH oH oC
   refine⟨by simp[h1],by simp[h2],λj y' fJ=>?_⟩
   cases j with
   | zero=>
    simp at fJ;subst fJ;refine⟨l,x0,rfl,rfl,?_⟩;rcases hc y (some q) hy with ⟨e0,_⟩|⟨e0,_⟩|⟨e0,_⟩|⟨q',hq,e1,e2,e3⟩
    ·cases e0
    ·cases e0
    ·cases e0
    ·injection hq with hq;subst hq;exact .inr (.inr (.inr ⟨q,e1,e2,e3,.head _⟩))
   | succ j=>
    obtain⟨l',x',g1,g2,g3⟩:=h3 j y' (by simpa using fJ);rw[show j0+1+j=j0+(j+1) by omega]at g3;exact⟨l',x',by simpa using g1,by simpa using g2,g3.imp id (λg=>g.imp id (λg=>g.imp id λ⟨q',e1,e2,e3,e4⟩=>⟨q',e1,e2,e3,.tail _ e4⟩))⟩
  ·cases h
theorem MN{w1:World}{vY:Nat->Loc}{m:Nat->ak bg}(zU:∀ r,20000<=r->r<60000->ρ r=vY r)(hm:∀ r x,m r=some x->fz w w1.heap.size aj ρ r x):
  ∀(ins:af In) (i pos:Nat) (outs:af In) (lQ:af (Nat×Nat)),zS m i pos ins=some (outs,lQ)->(∀p∈lQ,rs.lookup p.1=some p.2)->Hl w1 vY i ins->sy w1 w (fm aj rs nm) vY nm i pos ins outs
 | [],i,pos,outs,lQ,h,fR,he=>by
  simp only[zS,gl,jx]at h;obtain⟨rfl,rfl⟩:=h;trivial
 | .aC cs :: r,i,pos,outs,lQ,h,fR,he=>by
  unfold zS at h;cases hi:Nat.blt (nF i) 60000 with
  |false=>rw[hi]at h;cases h
  | true=>
   rw[hi,aq]at h;have hi:=cT hi;split at h
   ·rename_i ls G8;split at h
    ·rename_i fy rs1 os BI h1 h2;simp only[gl,jx]at h;obtain⟨rfl,rfl⟩:=h;obtain⟨⟨b,off,cells,e,aaI,Tr,xE⟩,Ho⟩:=he;obtain⟨k1,k2,k3⟩:=TD _ _ _ _ _ h1
     refine⟨?_,MN zU hm r (i+1) _ os BI h2 (λp hp=>fR p (.tail _ (List.mem_append_right _ hp))) Ho⟩
     have cZ:=hm _ _ G8;have TE:=zU (nF i) (by unfold nF;omega) (by omega);generalize hx:bg.aC ls=x at cZ;cases cZ with
     |sl=>cases hx
     |mp=>cases hx
     |gh=>cases hx
     | aC b' qL oJ e' ls' us aO hl hh hs hc=>
      injection hx with hx;subst hx;rw[TE,aaI]at aO;injection aO with e1 e2;subst e1 e2
      refine⟨b,off,cells,oJ,e,e',aaI,Tr,hh,?_,by rw[k1,<-k2];exact hs,k1,λj y hy=>?_⟩
      ·have:=fR _ (List.Mem.head _);simp[fm,hl,this]
      ·obtain⟨l,x0,g1,g2,g3⟩:=k3 j y hy;obtain⟨c1,c2⟩:=hc j l g1;refine⟨_,c1,?_⟩;rw[fV]at g3;rcases g3 with ⟨rfl,hp⟩ | ⟨rfl,rfl,Mz⟩ | ⟨rfl,rfl,hp,pq,bW⟩ | ⟨q,rfl,hq,hf,zN⟩
       ·exact .inl ⟨hp,λ_ _ _ _=>c2.2.uk hp⟩
       ·exact .inr (.inl ⟨rfl,by have h9:=c2.2;generalize us j=u9 at h9 ⊢;cases h9;rfl,x0,g2,Mz⟩)
       ·rw[bx]at pq;obtain⟨hf,hs0⟩:=pq;obtain⟨u,hu,ak8⟩:=xE j y g2 hp hf;refine .inr (.inr (.inl ⟨hp,hf,hs0,⟨y,g2,.same _⟩,?_⟩));have h3:=c2.2;have TF:=zU (20001+1000*i+j) (by omega) bW;simp only[cJ,TF,ak8]at h3;injection h3 with h3;rw[<-h3];exact hu
       ·refine .inr (.inr (.inr ⟨hf,?_⟩));have cZ:=hm _ _ hq;generalize hx:bg.sl y=x at cZ;cases cZ with
        |aC=>cases hx
        |mp=>cases hx
        |gh=>cases hx
        | sl v y' aO hr=>
         injection hx with hx;subst hx;have h3:=c2.2;simp only[cJ,aO]at h3;injection h3 with h3;rw[<-h3];exact RV.fm (p:=[]) hr (fR _ (.tail _ (List.mem_append_left _ zN)))
    ·cases h
   ·cases h
 | .sl y :: r,i,pos,outs,lQ,h,fR,he=>by
  unfold zS at h;cases hg:y.gone with
  | true=>
   rw[hg,aq]at h;split at h
   next os BI h2=>simp only[gl,jx]at h;obtain⟨rfl,rfl⟩:=h;exact⟨.inl rfl,MN zU hm r (i+1) _ os BI h2 fR he.2⟩
   ·cases h
  |false=>
  rw[hg,au]at h;cases hi:Nat.blt (nF i) 60000 with
  |false=>rw[hi]at h;cases h
  | true=>
   rw[hi,aq]at h;have hi:=cT hi;split at h
   ·rename_i y' fJ;cases hl:(y'.loc && !y'.az)with
    |false=>rw[hl]at h;cases h
    | true=>
     rw[hl,aq]at h;split at h
     ·rename_i os BI h2;simp only[gl,jx]at h;obtain⟨rfl,rfl⟩:=h;obtain⟨⟨v,hv⟩,Ho⟩:=he
      refine⟨.inr ⟨v,hv,?_⟩,MN zU hm r (i+1) _ os BI h2 (λp hp=>fR p (.tail _ hp)) Ho⟩
      have TE:=zU (nF i) (by unfold nF;omega) (by omega);have cZ:=hm _ _ fJ;generalize hx:bg.sl y'=x at cZ;cases cZ with
      |aC=>cases hx
      |mp=>cases hx
      |gh=>cases hx
      | sl v' y'' aO hr=>
       injection hx with hx;subst hx;rw[TE,hv]at aO;injection aO with aO;subst aO;exact RV.fm (p:=[]) hr (fR _ (.head _))
     ·cases h
   ·cases h
theorem ak9{w1:World}{vY:Nat->Loc}{fn:Func}{ins:af In}{k:af In->ig->ak X}(hw:w0.w=w1)(hF:∀ r,20000<=r->r<60000->w0.F r=some (vY r))(he:Hl w1 vY 0 ins)(h:Hj P σ fn.results ins k=some r):
  ∃outs res,k outs res=some r/\∀aj ρ a w,Rl w0 N aj ρ σ a w->∀nm,∃v aD,(results fn a.tmps).run P w = .ok v w/\(∀b k,aD b=some k->(w0.heap.size<=b\/w0.L b≠none)/\b<w.heap.size/\k≠[])/\sr w w0.heap.size aD nm res v/\sy w1 w aD vY nm 0 res.len ins outs:=by
 unfold Hj at h;obtain⟨ps,h2,iQ⟩:=Hh (w0:=w0) (N:=N) _ _ h;clear h;split at h2
 ·rename_i qs TG TA;split at h2
  ·rename_i os TH hos;cases ho:once (TG++TH)with
   |false=>rw[ho]at h2;cases h2
   | true=>
    rw[ho,aq]at h2;generalize aaJ:TG++TH=rs at ho;have fR:∀ p∈rs,rs.lookup p.1=some p.2:=by
     intro p hp;have:=dQ.1 ho p hp;obtain⟨n,hn,he⟩:=(Option.any_eq_true _ _).1 this;rw[hn,cr he]
    have core:∀ aj ρ a w,Rl w0 N aj ρ σ a w->∀ nm:Nat->Nat,∃ vs:af Value,(fn.results.mapM (uB a.tmps)).run P w = .ok vs.toArray w/\(∀ b k,fm aj rs nm b=some k->(w0.heap.size<=b\/w0.L b≠none)/\b<w.heap.size/\k≠[])/\kQ w w0.heap.size (fm aj rs nm) nm 0 qs vs/\
      sy w1 w (fm aj rs nm) vY nm 0 (qs.map λp=>p.2.length).sum ins os:=by
     intro aj ρ a w hR nm;obtain⟨vs,bE,hl,hv⟩:=iQ aj ρ a w hR
     refine⟨vs,?_,λb k hk=>?_,Tz hR.root ps 0 qs TG vs TA (λp hp=>fR p (by rw[<-aaJ];exact List.mem_append_left _ hp)) hl hv,
      MN (λr h1 h2=>hR.fix r _ (hF r h1 h2)) (by rw[<-hw];exact hR.root) ins 0 _ os TH hos (λp hp=>fR p (by rw[<-aaJ];exact List.mem_append_right _ hp)) he⟩
     ·rw[Array.mapM_eq_mapM_toList];simp[bE]
     ·unfold fm at hk;split at hk
      ·cases hk
      ·rename_i k' eB;have:=hR.dF b k' eB;split at hk
       ·cases hk
       ·cases uC:rs.lookup _ with
        |none=>rw[uC]at hk;cases hk
        | some n=>
         rw[uC]at hk;injection hk with hk;subst hk;exact⟨this.1,this.2.1,by simp⟩
    have iX:∀ (tmps:Array Value),results fn tmps=(do let vs <-fn.results.mapM (uB tmps);pure (if h:vs.size=1 then vs[0]else .tuple vs)):=λtmps=>by
     unfold results;congr 1
    split at h2
    ·rename_i p
     refine⟨_,_,h2,λaj ρ a w hR nm=>?_⟩
     obtain⟨vs,bE,kR,aV,hO⟩:=core aj ρ a w hR nm;have hO:sy w1 w (fm aj rs nm) vY nm 0 (ig.one p).len ins os:=by simpa [ig.len]using hO
     match vs,aV with
     |[v],aV=>exact⟨v,_,by rw[iX,gk,bE];rfl,kR,aV,hO⟩
     |[],aV=>exact aV.elim
     |_::_::_,aV=>exact aV.2.elim
    ·rename_i br
     refine⟨_,_,h2,λaj ρ a w hR nm=>?_⟩
     obtain⟨vs,bE,kR,aV,hO⟩:=core aj ρ a w hR nm;have dO:vs.toArray.size≠1:=by
      intro e;clear hO;have e:vs.length=1:=by simpa using e
      match qs,vs,aV,br,e with
      |[q],[v],_,br,_=>exact br q rfl
      |[],[v],aV,_,_=>exact aV.elim
      |_::_::_,[v],aV,_,_=>exact aV.2.elim
     refine⟨.tuple vs.toArray,_,?_,kR,⟨vs.toArray,rfl,aV⟩,hO⟩;rw[iX,gk,bE,oZ];simp only[dO,dif_neg,not_false_eq_true,Sem.run_pure]
  ·cases h2
 ·cases h2
theorem aaK{i:Nat}:∀ (cs:af V) (j0:Nat) (m:Nat->ak bg) (r:Nat) (x:bg),MK i j0 cs m r=some x->m r=some x\/∃ j y,cs[j]?=some y/\y.plain=false/\r=nC i (j0+j) y/\x = .sl y
 |[],j0,m,r,x,h=>.inl h
 | c :: cs,j0,m,r,x,h=>by
  unfold MK at h;rcases aaK cs (j0+1) _ r x h with h1|⟨j,y,h1,h2,h3,h4⟩
  ·cases hp:c.plain with
   |true=>rw[hp]at h1;exact .inl h1
   | false=>
    rw[hp,au]at h1;by_cases hr:r=nC i j0 c
    ·subst hr;rw[cG]at h1;injection h1 with h1;exact .inr ⟨0,c,rfl,hp,rfl,h1.symm⟩
    ·rw[cV _ _ _ hr]at h1;exact .inl h1
  ·exact .inr ⟨j+1,y,by simpa using h1,h2,by rw[h3];congr 1;omega,h4⟩
theorem qi.roots:∀ (ins:af In) (i:Nat) (m:Nat->ak bg),qi w B aj ρ i ins->(∀ r x,m r=some x->fz w B aj ρ r x)->∀ r x,ML i ins m r=some x->fz w B aj ρ r x
 |[],i,m,_,hm,r,x,h=>hm r x h
 | .aC cs :: ins,i,m,he,hm,r,x,h=>by
  obtain⟨h1,h2,h3⟩:=he
  refine qi.roots ins (i+1) _ h3 (λr x hx=>?_) r x h
  rcases aaK cs 0 _ r x hx with h4|⟨j,y,g1,g2,g3,g4⟩
  ·by_cases hr:r=nF i
   ·subst hr;rw[cG]at h4;injection h4 with h4;subst h4;exact h1
   ·rw[cV _ _ _ hr]at h4;exact hm r x h4
  ·rw[fV]at g3;subst g3 g4;exact h2 j y g1 g2
 | .sl y :: ins,i,m,he,hm,r,x,h=>by
  obtain⟨h1,h3⟩:=he
  refine qi.roots ins (i+1) _ h3 (λr x hx=>?_) r x h
  by_cases hr:r=nF i
  ·subst hr;rw[cG]at hx;injection hx with hx;subst hx;exact h1
  ·rw[cV _ _ _ hr]at hx;exact hm r x hx
theorem TI{i:Nat}:∀ (cs:af V) (j0 j:Nat) x,cs[j]?=some x->(zQ i j0 cs)[j]?=some (zP i (j0+j) x)
 |[],j0,j,x,h=>by simp at h
 |c::cs,j0,0,x,h=>by simp at h;subst h;rfl
 | c :: cs,j0,j+1,x,h=>by
  simp only[zQ,List.getElem?_cons_succ];rw[TI cs (j0+1) j x (by simpa using h)];congr 2;omega
theorem qi.TJ:∀ (ins:af In) (i:Nat),qi w B aj ρ i ins->Hl w ρ i ins
 |[],_,_=>trivial
 | .aC cs :: ins,i,he=>by
  obtain⟨h1,_,h3⟩:=he;refine⟨?_,qi.TJ ins (i+1) h3⟩;generalize hx:bg.aC (zQ i 0 cs)=x at h1;cases h1 with
  |sl=>cases hx
  |mp=>cases hx
  |gh=>cases hx
  | aC b off cells e ls us aO hl hh hs hc=>
   injection hx with hx;subst hx
   refine⟨b,off,cells,e,aO,hh,λj x hj hp hf=>?_⟩
   obtain⟨c1,c2⟩:=hc j _ (TI cs 0 j x hj);rw[fV]at c2;refine⟨_,c1,?_⟩;have e1:zP i j x = .own [20001+1000*i+j]:=by simp[zP,hp,nC,hf]
   rw[e1]at c2;have h4:=c2.2;simp only[cJ]at h4;split at h4
   next v hv=>injection h4 with h4;rw[<-h4];exact hv
   ·cases h4
 | .sl y :: ins,i,he=>by
  obtain⟨h1,h3⟩:=he;refine⟨?_,qi.TJ ins (i+1) h3⟩;cases h1 with
  |sl v y' aO hr=>exact⟨v,aO⟩
end
end Go.Proofs.YtecofnkoloihpaaGreat
namespace Go.Proofs.YtecofnkoloihpaaGreat
open Go.RowKit
set_option linter.unusedVariables false
def cX(n:Nat):af Nat->Bool
 |[]=>false
 |m::l=>Nat.beq n m ||cX n l
theorem xF{n:Nat}:∀ {l:af Nat},cX n l=true ↔ n∈l
 |[]=>by simp[cX]
 | m :: l=>by
  simp only[cX,fE,jq,xF (l:=l)];constructor
  ·rintro(h | h)
   ·exact .inl (cr h)
   ·exact .inr h
  ·rintro(h | h)
   ·left;subst h;exact Nat.beq_refl n
   ·exact .inr h
theorem aaL{n:Nat}{l:af Nat}(h:cX n l=false):n ∉ l:=λk=>by rw[xF.2 k]at h;cases h
def dz(k l:af Nat):Bool:=match k.getLast? with
 |some r=>cX r l
 |none=>false
def Lf.cL(ns cn:af Nat):Lf->Lf
 |.own k=>bif dz k cn ||(dz k ns && !(Nat.beq k.length 1))then .dead else .own k
 |x=>x
def A.cL(ns cn:af Nat):A->A
 |.lf x=>.lf (x.cL ns cn)
 |.agg cs=>.agg (cs.map (Lf.cL ns cn))
 |.cU xs=>.cU (xs.map λp=>(p.1,p.2.map (Lf.cL ns cn)))
 |.ptr k=>bif dz k cn ||dz k ns then .undef else .ptr k
 |.aK r j=>bif cX r cn then .undef else .aK r j
 |.pk r n=>bif cX r cn then .undef else .pk r n
 |.view k s i j=>bif dz k cn ||dz k ns then .undef else .view k s i j
 |.fn f cap=>bif cap.any (λp=>cX p.1 cn)then .undef else .fn f cap
 |x=>x
def bg.cL(ns cn:af Nat):bg->bg
 |.aC cs=>.aC (cs.map (Lf.cL ns cn))
 |.gh xs=>.gh (xs.map (A.cL ns cn))
 |x=>x
def S.cL(σ:S)(ns cn:af Nat)(nr:af (Nat×bg)):S:=⟨λk=>(σ.t k).cL ns cn,λr=>match nr.lookup r with
 |some x=>some x
 |none=>bif cX r ns ||cX r cn then none else (σ.m r).map (bg.cL ns cn)⟩
structure sA (w w':World) (aj dI:bM) (ρ fh:Nat->Loc) (ns cn:List Nat):Prop where
 size:w.heap.size<=w'.heap.size
 same:∀b,b<w.heap.size->(∀k,aj b=some k->dz k ns=false)->w'.heap[b]?=w.heap[b]?/\dI b=aj b
 ff:∀r,cX r cn=false->fh r=ρ r
 aj:∀b k,aj b=some k->b<w.heap.size/\k≠[]
section
variable {P:Program} {w w':World} {w0:Wd} {B N:Nat} {aj dI aD:bM} {ρ fh:Nat->Loc} {σ:S} {a:Act} {X:Type} {d:Nat} {r:X} {ns cn:af Nat}
theorem BM{j i s:Nat}{q l:af Nat}(h:q≠[]):dz (j :: i :: s :: q) l=dz q l:=by
 cases q with
 |nil=>exact absurd rfl h
 |cons x q=>simp[dz,List.getLast?_cons_cons]
theorem RV.kB(hv:sA w w' aj dI ρ fh ns cn){q:af Nat}{x:V}{v:Value}(h:RV w B aj q x v)(hq:dz q ns=false\/x.az=true):RV w' B dI q x v:=by
 induction h with
 |int=>exact .int _ _ _
 |bool=>exact .bool _ _
 |str=>exact .str _ _
 |nil=>exact .nil _
 |c9=>exact .c9 _ _ _
 |dm=>exact .dm _ _ _ _ _ (by first|assumption|omega)
 |dD=>exact .dD _ _ _ _ _ (by first|assumption|omega)
 | az q t o qn l b off cap u ho hl hb h1 eA hc hr ih=>
  obtain⟨e1,e2⟩:=hv.same b hb (λk hk=>by rw[hl]at hk;cases hk);exact .az _ _ _ _ _ _ _ _ u ho (e2.trans hl) (mg hb hv.size) h1 eA (λi h j x hx=>(mH (a:=⟨b,_,none⟩) e1).trans (hc i h j x hx)) (λi h j x hx=>ih i h j x hx (.inr (mj t o l[i] ho j x hx)))
 | own q t o qn l b cap cs u hl hh hs hn hm hc hr ih=>
  have mQ:dz q ns=false:=by
   rcases hq with hq|hq
   ·exact hq
   ·simp[V.az]at hq;omega
  have br:q≠[]:=(hv.aj b q hl).2;obtain⟨e1,e2⟩:=hv.same b (hv.aj b q hl).1 (λk hk=>by rw[hl]at hk;injection hk with hk;subst hk;exact mQ);exact .own _ _ _ _ _ _ _ cs u (e2.trans hl) (e1.trans hh) hs hn hm hc (λi h j x hx=>ih i h j x hx (.inl (by rw[BM br];exact mQ)))
theorem TK(hv:sA w w' aj dI ρ fh ns cn):∀ (k:af Nat) (ad:Addr),dz k ns=false->dz k cn=false->addrAt w aj ρ k=some ad->addrAt w' dI fh k=some ad
 |[],_,_,_,h=>by simp[addrAt]at h
 |[_],_,_,_,h=>by simp[addrAt]at h
 |[_,_],_,_,_,h=>by simp[addrAt]at h
 |[_,_,_],_,_,_,h=>by simp[addrAt]at h
 | [j,i,s,r],_,h1,h2,h=>by
  have h1:dz [r] ns=false:=by rwa [BM (by simp)]at h1
  have h2:cX r cn=false:=by rw[BM (by simp)]at h2;exact h2
  simp only[addrAt]at h ⊢;rw[hv.ff r h2];split at h
  ·rename_i v b n c hr;split at h
   next hl=>obtain⟨_,e2⟩:=hv.same b (hv.aj b _ hl).1 (λk hk=>by rw[hl]at hk;injection hk with hk;subst hk;exact h1);rw[bB (e2.trans hl)];exact h
   ·cases h
  ·cases h
 | j :: i :: s :: x :: y :: q,ad,h1,h2,h=>by
  rw[BM (by simp)]at h1 h2;simp only[addrAt]at h ⊢;cases ha:addrAt w aj ρ (x::y::q)with
  |none=>rw[ha]at h;cases h
  | some p5=>
   rw[TK hv _ _ h1 h2 ha];rw[ha]at h;cases hc:w.cell? p5 with
   |none=>simp[hc]at h
   | some v=>
    obtain⟨j',i',s',q',hk,fU,_,_⟩:=zm _ _ ha;have br:q'≠[]:=(hv.aj _ _ fU).2;have mQ:dz q' ns=false:=by
     rw[hk,BM br]at h1;exact h1
    obtain⟨e1,_⟩:=hv.same p5.block (hv.aj _ _ fU).1 (λk hk=>by rw[fU]at hk;injection hk with hk;subst hk;exact mQ);have e:w'.cell? p5=some v:=(mH e1).trans hc;simp only[Option.bind_some,hc]at h;simp only[Option.bind_some,e];split at h
    ·split at h
     next hl=>obtain⟨_,e2⟩:=hv.same _ (hv.aj _ _ hl).1 (λk hk=>by rw[hl]at hk;injection hk with hk;subst hk;exact h1);rw[bB (e2.trans hl)];exact h
     ·cases h
    ·cases h
theorem aaM(hv:sA w w' aj dI ρ fh ns cn)(k:af Nat)(u:Value)(h1:k.length=1\/dz k ns=false)(h2:dz k cn=false)(h:cJ w aj ρ k=some u):cJ w' dI fh k=some u:=by
 match k,h1,h2,h with
 |[],_,_,h=>simp[cJ,addrAt]at h
 | [r],_,h2,h=>
  simp only[cJ]at h ⊢;rw[hv.ff r h2];exact h
 | x :: y :: q,h1,h2,h=>
  have h1:dz (x :: y :: q) ns=false:=by
   rcases h1 with h1|h1
   ·simp at h1
   ·exact h1
  simp only[cJ]at h ⊢;cases ha:addrAt w aj ρ (x::y::q)with
  |none=>rw[ha]at h;cases h
  | some ad=>
   rw[TK hv _ _ h1 h2 ha];rw[ha]at h;have h:w.cell? ad=some u:=h;obtain⟨j',i',s',q',hk,fU,_,_⟩:=zm _ _ ha;have br:q'≠[]:=(hv.aj _ _ fU).2;rw[hk,BM br]at h1;obtain⟨e1,_⟩:=hv.same ad.block (hv.aj _ _ fU).1 (λk hk=>by rw[fU]at hk;injection hk with hk;subst hk;exact h1);exact(mH e1).trans h
theorem dY.kB(hv:sA w w' aj dI ρ fh ns cn){x:Lf}{u:Value}(h:dY w B aj ρ x u):dY w' B dI fh (x.cL ns cn) u:=by
 cases x with
 |v x=>exact⟨h.1,h.2.kB hv (.inr h.1)⟩
 |dead=>trivial
 | own k=>
  have e:Lf.cL ns cn (.own k)=(bif dz k cn ||(dz k ns && !(Nat.beq k.length 1))then .dead else .own k):=rfl;rw[e];cases hb:(dz k cn ||(dz k ns && !(Nat.beq k.length 1)))with
  |true=>trivial
  | false=>
   rw[pV]at hb;refine⟨h.1,aaM hv k u ?_ hb.1 h.2⟩;have hb:=hb.2;cases hn:dz k ns with
   |false=>exact .inr rfl
   | true=>
    rw[hn,cM,Bool.not_eq_false']at hb;exact .inl (cr hb)
theorem eG.kB(hv:sA w w' aj dI ρ fh ns cn){cs:af Lf}{us:Array Value}(h:eG w B aj ρ cs us):eG w' B dI fh (cs.map (Lf.cL ns cn)) us:=by
 refine⟨by rw[gB];exact h.1,λj x hx=>?_⟩
 rw[dP]at hx;cases hy:cs[j]? with
 |none=>rw[hy]at hx;cases hx
 | some y=>
  rw[hy]at hx;injection hx with hx;subst hx;obtain⟨u,hu,r⟩:=h.2 j y hy;exact⟨u,hu,r.kB hv⟩
theorem RP.kB(hv:sA w w' aj dI ρ fh ns cn){p:Bool×af Lf}{u:Value}(h:RP w B aj ρ p u):RP w' B dI fh (p.1,p.2.map (Lf.cL ns cn)) u:=by
 obtain⟨b,cs⟩:=p;cases b with
 |true=>obtain⟨us,e,h⟩:=h;exact⟨us,e,h.kB hv⟩
 |false=>exact eG.kB hv h
theorem RA.kB(hv:sA w w' aj dI ρ fh ns cn){x:A}{u:Value}(h:RA w B aj ρ x u):RA w' B dI fh (x.cL ns cn) u:=by
 cases x with
 |undef=>trivial
 |skip=>exact h
 |lf x=>exact dY.kB hv h
 |agg cs=>exact RP.kB hv (p:=(true,cs)) h
 | cU xs=>
  obtain⟨us,e,hs,h⟩:=h
  refine⟨us,e,by rw[gB];exact hs,λj p hp=>?_⟩
  rw[dP]at hp;cases hy:xs[j]? with
  |none=>rw[hy]at hp;cases hp
  | some y=>
   rw[hy]at hp;injection hp with hp;subst hp;obtain⟨v,eM,r⟩:=h j y hy;exact⟨v,eM,r.kB hv⟩
 | ptr k=>
  have e:A.cL ns cn (.ptr k)=(bif dz k cn ||dz k ns then .undef else .ptr k):=rfl;rw[e];cases hb:(dz k cn ||dz k ns)with
  |true=>trivial
  | false=>
   rw[pV]at hb;obtain⟨ad,e,h⟩:=h;exact⟨ad,e,TK hv k ad hb.2 hb.1 h⟩
 | view k s i j=>
  have e:A.cL ns cn (.view k s i j)=(bif dz k cn ||dz k ns then .undef else .view k s i j):=rfl;rw[e];cases hb:(dz k cn ||dz k ns)with
  |true=>trivial
  | false=>
   rw[pV]at hb;obtain⟨A,n,c,h,g⟩:=h;exact⟨A,n,c,aaM hv k _ (.inr hb.2) hb.1 h,g⟩
 | pk r n=>
  have e:A.cL ns cn (.pk r n)=(bif cX r cn then .undef else .pk r n):=rfl;rw[e];cases hb:cX r cn with
  |true=>trivial
  | false=>
   obtain⟨b,e,h⟩:=h;exact⟨b,(hv.ff r hb).trans e,h⟩
 | aK r j=>
  have e:A.cL ns cn (.aK r j)=(bif cX r cn then .undef else .aK r j):=rfl;rw[e];cases hb:cX r cn with
  |true=>trivial
  | false=>
   obtain⟨b,off,e,h⟩:=h;exact⟨b,off,(hv.ff r hb).trans e,h⟩
 | je cs=>
  obtain⟨b,off,e,hb,hl,h⟩:=h;obtain⟨e1,e2⟩:=hv.same b hb (λk hk=>by rw[hl]at hk;cases hk)
  refine⟨b,off,e,mg hb hv.size,e2.trans hl,λj x hx=>?_⟩
  obtain⟨hf,v,eM,hr⟩:=h j x hx;exact⟨hf,v,(mH (a:=⟨b,_,none⟩) e1).trans eM,hr.kB hv (.inr hf)⟩
 | mm f cs=>
  obtain⟨pv,e0,h⟩:=h;refine⟨pv,e0,?_⟩;obtain⟨b,off,e,hb,hl,h⟩:=h;obtain⟨e1,e2⟩:=hv.same b hb (λk hk=>by rw[hl]at hk;cases hk)
  refine⟨b,off,e,mg hb hv.size,e2.trans hl,λj x hx=>?_⟩
  obtain⟨hf,v,eM,hr⟩:=h j x hx;exact⟨hf,v,(mH (a:=⟨b,_,none⟩) e1).trans eM,hr.kB hv (.inr hf)⟩
 | fn f cap=>
  have e:A.cL ns cn (.fn f cap)=(bif cap.any (λp=>cX p.1 cn)then .undef else .fn f cap):=rfl;rw[e];cases hb:cap.any (λp=>cX p.1 cn)with
  |true=>trivial
  | false=>
   obtain⟨vs,e,hs,h⟩:=h
   refine⟨vs,e,hs,λj p hp=>?_⟩
   obtain⟨b,off,e2,h2⟩:=h j p hp;have:=List.any_eq_false.1 hb p (hJ hp);exact⟨b,off,(hv.ff _ (by simpa using this)).trans e2,h2⟩
theorem fz.kB(hv:sA w w' aj dI ρ fh ns cn){n:Nat}{x:bg}(h:fz w B aj ρ n x)(h1:cX n ns=false)(h2:cX n cn=false):fz w' B dI fh n (x.cL ns cn):=by
 cases h with
 | aC b off cells e cs us aO hl hh hs hc=>
  obtain⟨e1,e2⟩:=hv.same b (hv.aj b _ hl).1 (λk hk=>by rw[hl]at hk;injection hk with hk;subst hk;exact h1)
  refine .aC b off cells e _ us ((hv.ff n h2).trans aO) (e2.trans hl) (e1.trans hh) (by rw[gB];exact hs) (λj x hx=>?_)
  rw[dP]at hx;cases hy:cs[j]? with
  |none=>rw[hy]at hx;cases hx
  | some y=>
   rw[hy]at hx;injection hx with hx;subst hx;exact⟨(hc j y hy).1,(hc j y hy).2.kB hv⟩
 |sl v y aO hr=>exact .sl v y ((hv.ff n h2).trans aO) (hr.kB hv (.inl h1))
 | mp b c es l aO hl hh he=>
  obtain⟨e1,e2⟩:=hv.same b (hv.aj b _ hl).1 (λk hk=>by rw[hl]at hk;injection hk with hk;subst hk;exact h1);exact .mp b c es l ((hv.ff n h2).trans aO) (e2.trans hl) (e1.trans hh) he
 | gh us xs aO hx=>
  refine .gh us _ ((hv.ff n h2).trans aO) (λj x hj=>?_)
  rw[dP]at hj;cases hy:xs[j]? with
  |none=>rw[hy]at hj;cases hj
  | some y=>
   rw[hy]at hj;injection hj with hj;subst hj;exact(hx j y hy).kB hv
theorem Rl.kB(h:Rl w0 N aj ρ σ a w)(hv:sA w w' aj dI ρ fh ns cn)(hb:kJ w0 w w')(hl:∀ b k,dI b=some k->(w0.heap.size<=b\/w0.L b≠none)/\b<w'.heap.size/\k≠[])(hF:∀ r,cX r cn=true->w0.F r=none){nr:af (Nat×bg)}
  (sj:∀r x,nr.lookup r=some x->fz w' w0.heap.size dI fh r x):Rl w0 N dI fh (σ.cL ns cn nr) a w':=by
 refine⟨h.below.trans hb,hl,λr x hx=>?_,λk=>(h.tmp k).kB hv,h.size,h.defers,λr l hr=>?_,h.ef⟩
 ·simp only[S.cL]at hx;split at hx
  next y hy=>injection hx with hx;subst hx;exact sj r y hy
  ·cases hm:(cX r ns || cX r cn)with
   |true=>rw[hm]at hx;cases hx
   | false=>
    rw[hm,au]at hx;rw[pV]at hm;cases hy:σ.m r with
    |none=>rw[hy]at hx;cases hx
    | some y=>
     rw[hy]at hx;injection hx with hx;subst hx;exact(h.root r y hy).kB hv hm.1 hm.2
 ·have hc:cX r cn=false:=by
   cases hc:cX r cn with
   |false=>rfl
   |true=>rw[hF r hc]at hr;cases hr
  exact(hv.ff r hc).trans (h.fix r l hr)
end
end Go.Proofs.YtecofnkoloihpaaGreat
namespace Go.Proofs.YtecofnkoloihpaaGreat
open Go.RowKit
set_option linter.unusedVariables false
inductive Mu where
 |aC (r:Nat) (cs:List Lf) (vs:List (V×Option Nat))
 |sl (q:Nat) (y:V)
def Mu.root:Mu->Nat
 |.aC r _ _=>r
 |.sl q _=>q
def zV(m:Nat->ak bg):Lf->ak (V×ak Nat)
 |.v x=>some (x.iO,none)
 | .own [q]=>match m q with
  |some (.sl y)=>bif y.az then some (y.iO,none)else some (y,some q)
  |_=>none
 |_=>none
def uF(m:Nat->ak bg):af Lf->ak (af (V×ak Nat))
 |[]=>some []
 | l :: ls=>match zV m l,uF m ls with
  |some v,some vs=>some (v::vs)
  |_,_=>none
def BN(σ:S):PK->A->ak (ak Mu)
 |.v _ _,_=>some none
 | .p _ _ off,.aK r j=>(match (bif Nat.beq j off then σ.m r else none)with
  | some (.aC cs)=>(match uF σ.m cs with
   |some vs=>bif Nat.blt cs.length 999 then some (some (.aC r cs vs))else none
   |none=>none)
  |_=>none)
 | .s _ _,.lf (.own [q])=>(match σ.m q with
  |some (.sl y)=>bif y.az then none else some (some (.sl q y))
  |_=>none)
 |_,_=>none
def oM(σ:S):af PK->af Operand->ak (af Mu)
 |[],[]=>some []
 | p :: ps,x :: xs=>(match BN σ p (aH σ x),oM σ ps xs with
  |some (some mu),some aS=>some (mu::aS)
  |some none,some aS=>some aS
  |_,_=>none)
 |_,_=>none
def Hp(i:Nat):Nat->af (V×ak Nat)->af (Nat×Nat)
 |_,[]=>[]
 |j,(_,some q)::vs=>(q,60000+1000*i+j)::Hp i (j+1) vs
 |j,(_,none)::vs=>Hp i (j+1) vs
def oN:Nat->af Mu->af (Nat×Nat)
 |_,[]=>[]
 |i,.aC r _ vs::aS=>(r,nF i)::(Hp i 0 vs++oN (i+1) aS)
 |i,.sl q _::aS=>(q,nF i)::oN (i+1) aS
def MO(ns:af Nat):Lf->Bool
 |.own k=>!dz k ns
 |_=>true
def tD{X:Type}(σ:S)(ns:af Nat):af Lf->(af V->ak X)->ak X
 |[],k=>k []
 |x::xs,k=>bif MO ns x then kK σ x λy=>tD σ ns xs λys=>k (y.iO::ys)else none
def sB{X:Type}(σ:S)(ns:af Nat)(x:A)(k:Pt->ak X):ak X:=
 match x with
 |.lf y=>tD σ ns [y] λvs=>k (false,vs)
 |.agg ys=>tD σ ns ys λvs=>k (true,vs)
 |.mm f (c::cs)=>k (false,.bool false::.int .i64 (f:Int)::c.iO::cs.map V.iO)
 | .fn f [(r,j)]=>bif cX r ns then none else (match σ.m r with
  | some (.aC cs)=>(match sg (cs.drop j)with
   |some (c::vs)=>k (false,.bool false::.int .i64 (f:Int)::c::vs)
   |_=>none)
  |_=>none)
 |_=>none
def mV{X:Type}(σ:S)(ns:af Nat):(ps:af PK)->af Operand->af Mu->(oL ps->ak X)->ak X
 |[],[],[],k=>k ()
 | .v b t :: ps,x :: xs,aS,k=>sB σ ns (aH σ x) λp=>bif p.1==b then (match dec t 0 p.2 with
  |some y=>mV σ ns ps xs aS λys=>k (y,ys)
  |none=>none)else none
 | .p t g _ :: ps,_ :: xs,.aC _ _ vs :: aS,k=>(match (bif Nat.beq (g % 2) 0 then dec t g (vs.map (·.1))else none)with
  |some y=>mV σ ns ps xs aS λys=>k (y,ys)
  |none=>none)
 | .s t g :: ps,_ :: xs,.sl _ y :: aS,k=>(match (bif Nat.beq (g % 2) 0 then y.en t (g+2)else none)with
  |some z=>mV σ ns ps xs aS λys=>k (z,ys)
  |none=>none)
 |_,_,_,_=>none
def xH(w:World)(ρ:Nat->Loc)(rs:af Nat):Nat->Loc:=λn=>
 if n<60000 then (if (n-20000) % 1000=0 then ρ (rs.getD ((n-20000) / 1000) 0)else (match ρ (rs.getD ((n-20000) / 1000) 0)with
  |.aC b off=>.eK ((w.cell? ⟨b,off+((n-20000) % 1000-1),none⟩).getD undef)
  |.eK v=>.eK v
  |.cq us=>.cq us))
 else (match ρ (rs.getD ((n-60000) / 1000) 0)with
  |.aC b off=>.eK ((w.cell? ⟨b,off+(n-60000) % 1000,none⟩).getD undef)
  |.eK v=>.eK v
  |.cq us=>.cq us)
theorem Hq{w:World}{ρ:Nat->Loc}{rs:af Nat}{i r:Nat}(h:rs[i]?=some r)(hi:i<40):xH w ρ rs (nF i)=ρ r:=by
 have h1:nF i<60000:=by unfold nF;omega
 have h2:(nF i-20000) % 1000=0:=by unfold nF;omega
 have h3:(nF i-20000) / 1000=i:=by unfold nF;omega
 have h4:rs.getD i 0=r:=by rw[fX,h];rfl
 unfold xH;rw[bB h1,bB h2,h3,h4]
theorem ala{w:World}{ρ:Nat->Loc}{rs:af Nat}{i j r b off:Nat}{u:Value}{x:V}(h:rs[i]?=some r)(hi:i<40)(hj:j<999)(aO:ρ r = .aC b off)(hu:w.cell? ⟨b,off+j,none⟩=some u):xH w ρ rs (nC i j x) = .eK u:=by
 have h4:rs.getD i 0=r:=by rw[fX,h];rfl
 unfold xH nC;cases x.az with
 | true=>
  have h1:20001+1000*i+j<60000:=by omega
  have h2:¬ (20001+1000*i+j-20000) % 1000=0:=by omega
  have h3:(20001+1000*i+j-20000) / 1000=i:=by omega
  have h5:(20001+1000*i+j-20000) % 1000-1=j:=by omega
  simp only[aq];rw[bB h1,cm h2,h3,h4,aO,h5];simp[hu]
 | false=>
  have h1:¬ 60000+1000*i+j<60000:=by omega
  have h3:(60000+1000*i+j-60000) / 1000=i:=by omega
  have h5:(60000+1000*i+j-60000) % 1000=j:=by omega
  simp only[au];rw[cm h1,h3,h4,aO,h5];simp[hu]
def V.MP:V->Bool
 |.sl _ o _ _=>Nat.beq (o % 2) 0
 |_=>true
section
variable {P:Program} {w w':World} {w0:Wd} {B N:Nat} {aj dI aD:bM} {ρ fh:Nat->Loc} {σ:S} {a:Act} {X:Type} {d:Nat} {r:X} {ns cn:af Nat}
theorem RV.reB{B':Nat}{q:af Nat}{x:V}{v:Value}(h:RV w B aj q x v)(hx:x.MP=true):RV w B' aj q x v:=by
 induction h with
 |int=>exact .int _ _ _
 |bool=>exact .bool _ _
 |str=>exact .str _ _
 |nil=>exact .nil _
 |c9=>exact .c9 _ _ _
 |dm=>exact .dm _ _ _ _ _ (by first|assumption|omega)
 |dD=>exact .dD _ _ _ _ _ (by first|assumption|omega)
 | az q t o qn l b off cap u ho hl hb h1 eA hc hr ih=>
  have hx:=cr hx;have ho0:o=0:=by omega
  subst ho0
  refine .az _ _ _ _ _ _ _ _ u ho hl hb (by omega) eA hc (λi h j x cW=>ih i h j x cW ?_)
  have:=w5 t 0 l[i] x (hJ cW);cases x with
  | sl t' o' q' l'=>
   have:o'=0:=by simpa [V.gr]using this
   subst this;rfl
  |_=>rfl
 | own q t o qn l b cap cs u hl hh hs hn hm hc hr ih=>
  have hx:=cr hx
  refine .own _ _ _ _ _ _ _ cs u hl hh hs hn hm hc (λi h j x cW=>ih i h j x cW ?_)
  have:=w5 t o l[i] x (hJ cW);cases x with
  | sl t' o' q' l'=>
   have:o'=o:=by simpa [V.gr]using this
   subst this;show Nat.beq (o' % 2) 0=true;rw[show o' % 2=0 by omega];rfl
  |_=>rfl
theorem RV.out{q q':af Nat}{x:V}{v:Value}(h:RV w B aj q x v)(h1:∀ b,aj b=none->aD b=none)(h2:∀ b k,aj b=some k->k≠[]/\(dz k ns=false->aD b=none))(hq:x.az=true\/dz q ns=false){B':Nat}:RV w B' aD q' x.iO v:=by
 induction h generalizing q' with
 |int=>exact .int _ _ _
 |bool=>exact .bool _ _
 |str=>exact .str _ _
 |nil=>exact .nil _
 |c9=>exact .c9 _ _ _
 |dm=>exact .dm _ _ _ _ _ (by first|assumption|omega)
 |dD=>exact .dD _ _ _ _ _ (by first|assumption|omega)
 | az q t o qn l b off cap u ho hl hb eo eA hc hr ih=>
  refine .az _ _ _ _ _ _ _ _ u (by omega) (h1 b hl) hb (by omega) eA (λi h j x hx=>?_) (λi h j x hx=>?_)
  ·obtain⟨y,hy,_⟩:=w6 t o l[i] j x hx;exact hc i h j y hy
  ·obtain⟨y,hy,rfl⟩:=w6 t o l[i] j x hx;exact ih i h j y hy (.inl (mj t o l[i] ho j y hy))
 | own q t o qn l b cap cs u hl hh hs hn hm hc hr ih=>
  have mQ:dz q ns=false:=by
   rcases hq with hq|hq
   ·simp[V.az]at hq;omega
   ·exact hq
  obtain⟨br,dH⟩:=h2 b q hl
  refine .az _ _ _ _ _ _ _ _ u (by omega) (dH mQ) (ia.1 hh).1 (by omega) hn (λi h j x hx=>?_) (λi h j x hx=>?_)
  ·obtain⟨y,hy,_⟩:=w6 t o l[i] j x hx;have:=hc i h j y hy;rw[fV,cell_of_row w b _ cs _ _ hh];exact this
  ·obtain⟨y,hy,rfl⟩:=w6 t o l[i] j x hx;exact ih i h j y hy (.inr (by rw[BM br];exact mQ))
theorem alb{x:Lf}{k:V->ak X}(h:kK σ x k=some r):∃ y,k y=some r/\∀ aj ρ a w,Rl w0 N aj ρ σ a w->∀ u,dY w w0.heap.size aj ρ x u->∃ q,(x = .own q\/y.az=true)/\RV w w0.heap.size aj q y u:=by
 cases x with
 |v y=>exact⟨y,h,λaj ρ a w hR u hu=>⟨[],.inr hu.1,hu.2⟩⟩
 |dead=>cases h
 | own q=>
  obtain⟨y,hy,h'⟩:=th q k h
  refine⟨y,h',λaj ρ a w hR u hu=>⟨q,.inl rfl,?_⟩⟩
  obtain⟨v,hv,hr⟩:=hy.ok hR.root;have:v=u:=by
   have h2:=hu.2;rw[hv]at h2;injection h2
  subst this;exact hr
structure BO (ns:List Nat) (aj aD:bM):Prop where
 none:∀b,aj b=none->aD b=none
 rest:∀b k,aj b=some k->k≠[]/\(dz k ns=false->aD b=Option.none)
theorem TL:∀ (xs:af Lf) (k:af V->ak X),tD σ ns xs k=some r->∃ vs,k vs=some r/\vs.length=xs.length/\∀ aj ρ a w aD,Rl w0 N aj ρ σ a w->BO ns aj aD->∀ (j:Nat) x y u,xs[j]?=some x->vs[j]?=some y->dY w w0.heap.size aj ρ x u->RV w w.heap.size aD [] y u
 |[],k,h=>⟨[],h,rfl,λ_ _ _ _ _ _ _ j x y u hx=>by simp at hx⟩
 | x :: xs,k,h=>by
  unfold tD at h;cases ho:MO ns x with
  |false=>rw[ho]at h;cases h
  | true=>
   rw[ho,aq]at h;obtain⟨y,h2,hy⟩:=alb (w0:=w0) (N:=N) h;obtain⟨ys,h3,hl,hr⟩:=TL xs _ h2
   refine⟨y.iO::ys,h3,by simp[hl],λaj ρ a w aD hR hS j x' y' u cW fJ hu=>?_⟩
   cases j with
   | zero=>
    simp at cW fJ;subst cW fJ;obtain⟨q,hq,lN⟩:=hy aj ρ a w hR u hu;refine lN.out hS.none hS.rest ?_;rcases hq with rfl|hq
    ·exact .inr (by simpa [MO]using ho)
    ·exact .inl hq
   |succ j=>exact hr aj ρ a w aD hR hS j x' y' u (by simpa using cW) (by simpa using fJ) hu
inductive PM (w:World) (aD:bM):Pt->Value->Prop
 |v (p:Pt) (u:Value) (h:PV w w.heap.size aD (λ_=>[]) p u):PM w aD p u
 |f (g:Nat) (c:V) (cs:List V) (u:Value) (h:RF w w.heap.size aD (c::cs) u):PM w aD (false,.bool false::.int .i64 (g:Int)::c::cs) (.func (.func g) #[] #[u])
theorem alc{g:Nat}{c:V}{cs ys:af V}(hl:(V.bool false :: .int .i64 (g:Int) :: c :: cs).length=ys.length)(h:∀ (j:Nat) x z,(V.bool false :: .int .i64 (g:Int) :: c :: cs)[j]?=some x->ys[j]?=some z->Wk x z):∃ c' fy,ys = .bool false :: .int .i64 (g:Int) :: c' :: fy/\cz (c :: cs) (c' :: fy):=by
 match ys,hl,h with
 | a :: b :: c' :: fy,hl,h=>
  have h0:=h 0 _ a rfl rfl;have h1:=h 1 _ b rfl rfl;cases h0;cases h1;exact⟨c',fy,rfl,by simpa using hl,λj x z hx hz=>h (j+2) x z (by simpa using hx) (by simpa using hz)⟩
 |[],hl,_=>simp at hl
 |[_],hl,_=>simp at hl
 |[_,_],hl,_=>simp at hl
theorem RF.sC{cs ds:af V}{u:Value}(h:RF w B aj cs u)(hw:cz cs ds)(hf:∀ (j:Nat) z,ds[j]?=some z->z.az=true):RF w B aj ds u:=by
 obtain⟨b,off,rfl,hb,hl,hc⟩:=h
 refine⟨b,off,rfl,hb,hl,λj x hx=>?_⟩
 have hj:j<cs.length:=by rw[hw.1];exact(dS.1 hx).1
 obtain⟨_,v,h4,h5⟩:=hc j _ (cu hj);exact⟨hf j x hx,v,h4,h5.wk (hw.2 j _ x (cu hj) hx)⟩
theorem RF.iO{cs:af V}{u:Value}(h:RF w B aj cs u)(h1:∀ b,aj b=none->aD b=none)(h2:∀ b k,aj b=some k->k≠[]/\(dz k ns=false->aD b=none)){B':Nat}:RF w B' aD (cs.map V.iO) u:=by
 obtain⟨b,off,rfl,hb,hl,hc⟩:=h
 refine⟨b,off,rfl,hb,h1 b hl,λj x hx=>?_⟩
 rw[dP]at hx;cases hy:cs[j]? with
 |none=>rw[hy]at hx;cases hx
 | some y=>
  rw[hy]at hx;injection hx with hx;subst hx;obtain⟨hf,v,h4,h5⟩:=hc j y hy;exact⟨V.akg y,v,h4,h5.out h1 h2 (.inl hf)⟩
theorem ald{x:A}{k:Pt->ak X}(h:sB σ ns x k=some r):∃ p,k p=some r/\∀ aj ρ a w aD,Rl w0 N aj ρ σ a w->BO ns aj aD->∀ u,RA w w0.heap.size aj ρ x u->PM w aD p u:=by
 unfold sB at h;split at h
 ·rename_i y;obtain⟨vs,h2,hl,hr⟩:=TL (w0:=w0) (N:=N) _ _ h
  refine⟨_,h2,λaj ρ a w aD hR hS u hu=>.v _ _ ⟨#[u],rfl,by simp[hl],λj x hx=>?_⟩⟩
  have hj:j=0:=by
   have:=(dS.1 hx).1;simp only[hl]at this
   simpa using this
  subst hj;exact⟨u,rfl,hr aj ρ a w aD hR hS 0 y x u rfl hx hu⟩
 ·rename_i ys;obtain⟨vs,h2,hl,hr⟩:=TL (w0:=w0) (N:=N) _ _ h
  refine⟨_,h2,λaj ρ a w aD hR hS u hu=>?_⟩
  obtain⟨us,rfl,hs⟩:=hu
  refine .v _ _ ⟨us,rfl,by rw[hl];exact hs.1,λj x hx=>?_⟩
  have hj:j<ys.length:=by rw[<-hl];exact(dS.1 hx).1
  obtain⟨v,hv,dG⟩:=hs.2 j _ (cu hj);exact⟨v,hv,hr aj ρ a w aD hR hS j _ x v (cu hj) hx dG⟩
 ·rename_i f c cs
  refine⟨_,h,λaj ρ a w aD hR hS u hu=>?_⟩
  obtain⟨pv,rfl,pE⟩:=hu;exact .f f _ _ _ (pE.iO hS.none hS.rest)
 ·rename_i f r' j;cases BP:cX r' ns with
  |true=>rw[BP]at h;cases h
  | false=>
   rw[BP,au]at h;split at h
   ·rename_i cs hm;split at h
    ·rename_i c vs iP;obtain⟨e,hp⟩:=Mn _ _ iP
     refine⟨_,h,λaj ρ a w aD hR hS u hu=>?_⟩
     obtain⟨us,rfl,gv,eA⟩:=hu;obtain⟨b,off,aO,kr⟩:=eA 0 _ rfl;have kr:us[0]?=some (.pointer (some ⟨b,off+j,none⟩)):=kr;have ale:us.size=1:=gv;have alf:us = #[.pointer (some ⟨b,off+j,none⟩)]:=by
      apply Array.ext';apply List.ext_getElem?;intro i;cases i with
      |zero=>simpa using kr
      |succ i=>rw[List.getElem?_eq_none (by simp[ale]),List.getElem?_eq_none (by simp)]
     subst alf;refine .f f _ _ _ ?_;cases hR.root r' _ hm with
     | aC b' qL cells e' _ Mq iH kR hh hs hc=>
      rw[aO]at iH;injection iH with q1 q2;subst q1 q2
      refine⟨b,off+j,rfl,(ia.1 hh).1,(hS.rest b _ kR).2 (by simpa [dz]using BP),λi x hx=>?_⟩
      have Hr:=hp x (hJ hx);have G4:(cs.drop j)[i]?=some (.v x):=by rw[e,dP,hx];rfl
      rw[List.getElem?_drop]at G4;obtain⟨k1,k2⟩:=hc _ _ G4;refine⟨(by cases x<;>first|rfl|cases Hr),Mq (j+i),?_,k2.2.uk Hr⟩;rw[Nat.add_assoc,cell_of_row w b _ cells _ _ hh];exact k1
    ·cases h
   ·cases h
 ·cases h
def BQ(σ:S):Mu->Prop
 |.aC r cs vs=>σ.m r=some (.aC cs)/\uF σ.m cs=some vs/\cs.length<999
 |.sl q y=>σ.m q=some (.sl y)/\y.az=false
def Hs:af Mu->af In->Prop
 |[],[]=>True
 |.aC _ _ vs::aS,.aC xs::ins=>(cz (vs.map (·.1)) xs/\∀x∈xs,x.lM=true/\x.MP=true)/\Hs aS ins
 |.sl _ y::aS,.sl y'::ins=>(Wk y y'/\y'.MP=true)/\Hs aS ins
 |_,_=>False
def Eg(w:World)(B:Nat)(aj:bM)(ρ:Nat->Loc)(ins:af In):af Ar->af Value->Prop
 |[],[]=>True
 |x::xs,v::vs=>RA w B aj ρ (MM ins x) v/\Eg w B aj ρ ins xs vs
 |_,_=>False
theorem Eg.get{ins:af In}:∀ (xs:af Ar) (vs:af Value),Eg w B aj ρ ins xs vs->vs.length=xs.length/\∀ i,RA w B aj ρ ((zR ins xs).t i) (vs.toArray.getD i undef)
 |[],[],_=>⟨rfl,λi=>trivial⟩
 |[],_::_,h=>h.elim
 |_::_,[],h=>h.elim
 | x :: xs,v :: vs,h=>by
  obtain⟨h1,h2⟩:=Eg.get xs vs h.2
  refine⟨by simp[h1],λi=>?_⟩
  cases i with
  |zero=>exact h.1
  | succ i=>
   have:=h2 i;simp only[zR,List.getElem?_cons_succ,jn,List.getElem?_toArray]at this ⊢;exact this
theorem alg{t:TC}{g:Nat}{x:T t}(hg:Nat.beq (g % 2) 0=true):∀ y∈enc t g x,y.lM=true/\y.MP=true:=by
 intro y hy;refine⟨SM t g x y hy,?_⟩;have:=w5 t g x y hy;cases y with
 | sl t' o' q' l'=>
  have:o'=g:=by simpa [V.gr]using this
  subst this;exact hg
 |_=>rfl
def alh(σ:S):PK->A->ak Mu->Prop
 |.v _ _,_,none=>True
 |.p _ _ off,x,some (.aC r cs vs)=>x = .aK r off/\BQ σ (.aC r cs vs)
 |.s _ _,x,some (.sl q y)=>x = .lf (.own [q])/\BQ σ (.sl q y)
 |_,_,_=>False
theorem BR{p:PK}{x:A}{z:ak Mu}(h:BN σ p x=some z):alh σ p x z:=by
 cases p with
 | v b t=>
  have h:(some none:ak (ak Mu))=some z:=h;injection h with h;subst h;trivial
 | p t g off=>
  cases x with
  | aK r j=>
   have h:(match (bif Nat.beq j off then σ.m r else none)with
    | some (.aC cs)=>(match uF σ.m cs with
     |some vs=>bif Nat.blt cs.length 999 then some (some (.aC r cs vs))else none
     |none=>none)
    |_=>none)=some z:=h
   cases hj:Nat.beq j off with
   |false=>rw[hj]at h;cases h
   | true=>
    obtain rfl:=cr hj;rw[hj,aq]at h;split at h
    ·rename_i cs eR;split at h
     ·rename_i vs gW;cases hl:Nat.blt cs.length 999 with
      |false=>rw[hl]at h;cases h
      | true=>
       rw[hl,aq]at h;injection h with h;subst h;exact⟨rfl,eR,gW,by have:=cT hl;omega⟩
     ·cases h
    ·cases h
  |_=>cases h
 | s t g=>
  have hx:(∃ q,x = .lf (.own [q])):=by
   unfold BN at h;split at h
   next e=>cases e
   next e=>cases e
   ·exact⟨_,rfl⟩
   ·cases h
  obtain⟨q,rfl⟩:=hx;have h:(match σ.m q with
   |some (.sl y)=>bif y.az then none else some (some (.sl q y))
   |_=>none)=some z:=h
  split at h
  ·rename_i y hy;cases hf:y.az with
   |true=>rw[hf]at h;cases h
   | false=>
    rw[hf,au]at h;injection h with h;subst h;exact⟨rfl,hy,hf⟩
  ·cases h
theorem MQ:∀ (ps:af PK) (xs:af Operand) (aS:af Mu),oM σ ps xs=some aS->∀ mu∈aS,BQ σ mu
 |[],[],aS,h=>by injection h with h;subst h;simp
 | p :: ps,x :: xs,aS,h=>by
  unfold oM at h;split at h
  ·rename_i mu pF h1 h2;injection h with h;subst h;have ih:=MQ ps xs pF h2;have h1:=BR h1;intro z hz;rcases jq.1 hz with rfl | hz
   ·cases p with
    |v=>exact h1.elim
    | p=>
     cases z with
     |aC=>exact h1.2
     |sl=>exact h1.elim
    | s=>
     cases z with
     |aC=>exact h1.elim
     |sl=>exact h1.2
   ·exact ih z hz
  next pF h1 h2=>injection h with h;subst h;exact MQ ps xs pF h2
  ·cases h
 |[],_::_,aS,h=>by cases h
 |_::_,[],aS,h=>by cases h
theorem Ht:∀ {ps:af PK} (i i':Nat) (x:oL ps),(mU ps i x).length=(mU ps i' x).length
 |[],_,_,_=>rfl
 |.v _ _::ps,i,i',x=>by simp only[mU,nj];rw[Ht i i']
 |.p _ _ _::ps,i,i',x=>by simp only[mU,nj];rw[Ht (i+1) (i'+1)]
 |.s _ _::ps,i,i',x=>by simp only[mU,nj];rw[Ht (i+1) (i'+1)]
theorem MR:∀ (ps:af PK) (xs:af Operand) (aS:af Mu) (k:oL ps->ak X),oM σ ps xs=some aS->mV σ ns ps xs aS k=some r->∃ x,k x=some r/\Hs aS (qj ps x)/\(mU ps 0 x).length=xs.length/\
  ∀aj ρ a w aD ρ',Rl w0 N aj ρ σ a w->BO ns aj aD->∀(ins:af In) (i:Nat),(∀j z,(qj ps x)[j]?=some z->ins[i+j]?=some z)->(∀j mu,aS[j]?=some mu->ρ' (nF (i+j))=ρ mu.root)->Eg w w.heap.size aD ρ' ins (mU ps i x) (xs.map a.eval)
 | [],[],aS,k,hm,h=>by
  injection hm with hm;subst hm;exact⟨(),h,trivial,rfl,λ_ _ _ _ _ _ _ _ _ _ _ _=>trivial⟩
 | .v b t :: ps,x :: xs,aS,k,hm,h=>by
  have pn:oM σ ps xs=some aS:=by
   unfold oM at hm;split at hm
   next mu pF h1 h2=>exact(BR h1).elim
   next pF h1 h2=>rw[h2];exact hm
   ·cases hm
  unfold mV at h;obtain⟨p,h2,hp⟩:=ald (w0:=w0) (N:=N) h;cases hb:p.1==b with
  |false=>rw[hb]at h2;cases h2
  | true=>
   rw[hb,aq]at h2;have hb:p.1=b:=by simpa using hb
   subst hb;split at h2
   ·rename_i y hy;obtain⟨ys,h3,h4,h5,h6⟩:=MR ps xs aS _ pn h2
    refine⟨(y,ys),h3,h4,?_,λaj ρ a w aD ρ' hR hS ins i hi aO=>⟨?_,h6 aj ρ a w aD ρ' hR hS ins i hi aO⟩⟩
    ·simp[mU,h5]
    ·have pE:=hp aj ρ a w aD hR hS _ (hR.aH x);have hk:=nW t 0 p.2 y hy;generalize a.eval x=ux at pE ⊢;rcases pE with ⟨_,_,us,hu,hs,hr⟩ | ⟨g,c,cs,pv,pE⟩
     case f=>
      have he:∀(j:Nat) z,(enc t 0 y)[j]?=some z->z.az=true:=λj z hz=>mj t 0 y (by omega) j z hz
      show RA _ _ _ _ (MM ins (.pt (false,enc t 0 y))) _;obtain⟨c',fy,e,hw⟩:=alc hk.1 hk.2;rw[e]at he ⊢;exact⟨pv,rfl,pE.sC hw λj z hz=>he (j+2) z (by simpa using hz)⟩
     have kO:∀ (j:Nat) z,(enc t 0 y)[j]?=some z->∃ v,us[j]?=some v/\z.az=true/\RV w w.heap.size aD [] z v:=by
      intro j z hz;have hj:j<p.2.length:=by rw[hk.1];exact(dS.1 hz).1
      obtain⟨v,hv,dG⟩:=hr j _ (cu hj);exact⟨v,hv,mj t 0 y (by omega) j z hz,dG.wk (hk.2 j _ z (cu hj) hz)⟩
     have hlen:us.size=(enc t 0 y).length:=hs.trans hk.1;obtain⟨b,vs⟩:=p;cases b with
     | true=>
      show RA _ _ _ _ (.agg ((enc t 0 y).map .v)) _
      refine⟨us,hu,by rw[gB];exact hlen,λj z hz=>?_⟩
      rw[dP]at hz;cases tu:(enc t 0 y)[j]? with
      |none=>rw[tu]at hz;cases hz
      | some z'=>
       rw[tu]at hz;injection hz with hz;subst hz;obtain⟨v,hv,g1,g2⟩:=kO j z' tu;exact⟨v,hv,g1,g2⟩
     | false=>
      have hu:us = #[ux]:=hu;subst hu;show RA _ _ _ _ (MM ins (.pt (false,enc t 0 y))) _
      match he:enc t 0 y,kO,hlen with
      | [z],kO,_=>
       obtain⟨v,hv,g1,g2⟩:=kO 0 z rfl;have:ux=v:=by simpa using hv
       rw[this];exact⟨g1,g2⟩
      |[],_,_=>trivial
      |_::_::_,_,hlen=>exact absurd hlen (by simp)
   ·cases h2
 | .p t g off :: ps,x :: xs,aS,k,hm,h=>by
  unfold oM at hm;split at hm
  ·rename_i mu pF h1 h2;injection hm with hm;subst hm;have h1:=BR h1;cases mu with
   |sl=>exact h1.elim
   | aC r cs vs=>
    have h1:aH σ x = .aK r off/\BQ σ (.aC r cs vs):=h1;unfold mV at h;split at h
    ·rename_i y hy;cases hg:Nat.beq (g % 2) 0 with
     |false=>rw[hg]at hy;cases hy
     | true=>
      rw[hg,aq]at hy;obtain⟨ys,h3,h4,h5,h6⟩:=MR ps xs pF _ h2 h
      refine⟨(y,ys),h3,⟨⟨nW t g _ y hy,alg hg⟩,h4⟩,by simp[mU,Ht 1 0,h5],λaj ρ a w aD ρ' hR hS ins i hi aO=>⟨?_,?_⟩⟩
      ·have BS:=hi 0 _ rfl;rw[Nat.add_zero]at BS;have hx:=hR.aH x;rw[h1.1]at hx;obtain⟨b,o,e1,e2⟩:=hx;show RA _ _ _ _ (match ins[i]? with|some (.aC _)=>.aK (nF i) off|some (.sl _)=>.lf (.own [nF i])|none=>.undef) _;rw[BS];have dn:=aO 0 _ rfl;rw[Nat.add_zero]at dn;exact⟨b,o,dn.trans e1,e2⟩
      ·refine h6 aj ρ a w aD ρ' hR hS ins (i+1) (λj z hz=>?_) (λj mu iq=>?_)
       ·rw[show i+1+j=i+(j+1) by omega];exact hi (j+1) z hz
       ·rw[show i+1+j=i+(j+1) by omega];exact aO (j+1) mu iq
    ·cases h
  next pF h1 h2=>exact(BR h1).elim
  ·cases hm
 | .s t g :: ps,x :: xs,aS,k,hm,h=>by
  unfold oM at hm;split at hm
  ·rename_i mu pF h1 h2;injection hm with hm;subst hm;have h1:=BR h1;cases mu with
   |aC=>exact h1.elim
   | sl q y0=>
    have h1:aH σ x = .lf (.own [q])/\BQ σ (.sl q y0):=h1;unfold mV at h;split at h
    ·rename_i y hy;cases hg:Nat.beq (g % 2) 0 with
     |false=>rw[hg]at hy;cases hy
     | true=>
      rw[hg,aq]at hy;obtain⟨ys,h3,h4,h5,h6⟩:=MR ps xs pF _ h2 h
      refine⟨(y,ys),h3,⟨⟨V.eO hy,?_⟩,h4⟩,by simp[mU,Ht 1 0,h5],λaj ρ a w aD ρ' hR hS ins i hi aO=>⟨?_,?_⟩⟩
      ·show Nat.beq ((g+2) % 2) 0=true;rw[show (g+2) % 2=g % 2 by omega];exact hg
      ·have BS:=hi 0 _ rfl;rw[Nat.add_zero]at BS;have hx:=hR.aH x;rw[h1.1]at hx;show RA _ _ _ _ (match ins[i]? with|some (.aC _)=>.aK (nF i) 0|some (.sl _)=>.lf (.own [nF i])|none=>.undef) _;rw[BS];have dn:=aO 0 _ rfl;rw[Nat.add_zero]at dn;refine⟨hx.1,?_⟩;have h2:=hx.2;simp only[cJ]at h2 ⊢;rw[dn];exact h2
      ·refine h6 aj ρ a w aD ρ' hR hS ins (i+1) (λj z hz=>?_) (λj mu iq=>?_)
       ·rw[show i+1+j=i+(j+1) by omega];exact hi (j+1) z hz
       ·rw[show i+1+j=i+(j+1) by omega];exact aO (j+1) mu iq
    ·cases h
  next pF h1 h2=>exact(BR h1).elim
  ·cases hm
 |[],_::_,aS,k,hm,h=>by cases hm
 |_::_,[],aS,k,hm,h=>by cases hm
end
end Go.Proofs.YtecofnkoloihpaaGreat
namespace Go.Proofs.YtecofnkoloihpaaGreat
open Go.RowKit
set_option linter.unusedVariables false
def qk(c0:Nat):Nat->af (V×ak Nat)->af Nat
 |_,[]=>[]
 |n,(_,some q)::vs=>q::qk c0 (n+1) vs
 |n,(_,none)::vs=>(c0+n)::qk c0 (n+1) vs
def zW(c0:Nat):Nat->af Mu->af Nat
 |_,[]=>[]
 |pos,.aC r _ vs::aS=>r::(qk c0 (pos+1) vs++zW c0 (pos+1+vs.length) aS)
 |pos,.sl q _::aS=>q::zW c0 (pos+1) aS
def BU:af Nat->af V->af Nat
 |n::eU,x::xs=>bif x.az then BU eU xs else n::BU eU xs
 |_,_=>[]
def qm(c0:Nat):Nat->af Mu->af In->af Nat
 |pos,.aC _ _ vs::aS,.aC xs::outs=>BU (qk c0 (pos+1) vs) xs++qm c0 (pos+1+vs.length) aS outs
 |pos,.sl _ _::aS,.sl _::outs=>qm c0 (pos+1) aS outs
 |_,_,_=>[]
def rm(ns cn:af Nat):af Nat->af Lf->af V->af Lf
 |n::eU,l::ls,x::xs=>(bif x.plain then .v x else bif x.az then l.cL ns cn else .own [n])::rm ns cn eU ls xs
 |_,_,_=>[]
def zX:af Nat->af V->af (Nat×bg)
 |n::eU,x::xs=>bif x.az then zX eU xs else (n,.sl x)::zX eU xs
 |_,_=>[]
def pG(ns cn:af Nat)(c0:Nat):Nat->af Mu->af In->af (Nat×bg)
 |pos,.aC r cs vs::aS,.aC xs::outs=>(r,.aC (rm ns cn (qk c0 (pos+1) vs) cs xs))::(zX (qk c0 (pos+1) vs) xs++pG ns cn c0 (pos+1+vs.length) aS outs)
 |pos,.sl q _::aS,.sl y::outs=>bif y.lM then (q,.sl y)::pG ns cn c0 (pos+1) aS outs else pG ns cn c0 (pos+1) aS outs
 |_,_,_=>[]
def MS:af Nat->Bool
 |[]=>true
 |n::l=>!cX n l&&MS l
def aaN:In->Bool
 |.aC xs=>xs.all λx=>x.az ||x.loc
 |.sl y=>y.loc
def jt:ak Tmp->Nat
 |some d=>1000000000100000+1000*d
 |none=>90000
def sD{X:Type}(N:Nat)(σ:S)(dst:ak Tmp)(res:ig)(k:S->ak X):ak X:=
 match dst with
 |none=>k σ
 | some d=>bif Nat.blt d N then (match res with
  | .one p=>(match si (p.1,lP (1000000000100000+1000*d) p.2)with
   |some y=>k ((jG (1000000000100000+1000*d) σ p.2).set d y)
   |none=>none)
  |.cU ps=>k ((mT (1000000000100000+1000*d) σ ps).set d (.cU (nB (1000000000100000+1000*d) ps))))else none
def Eh(N:Nat)(aS:af Mu)(outs:af In)(cn:af Nat):Bool:=
 MS cn&&(aS.all λmu=>!cX mu.root cn)&&(cn.all λn=>Nat.blt n N ||Nat.ble 60000 n)&&outs.all aaN
def Ei{X:Type}(N:Nat)(σ:S)(dst:ak Tmp)(aS:af Mu)(ns cn:af Nat)(res:ig)(outs:af In)(k:S->ak X):ak X:=
 bif Eh N aS outs cn then sD N (σ.cL ns cn (pG ns cn (jt dst) res.len aS outs)) dst res k else none
def qp{X:Type}(N:Nat)(σ:S)(dst:ak Tmp)(c:pz)(args:af Operand)(k:S->ak X):ak X:=
 match oM σ c.ps args with
 | some aS=>bif once (oN 0 aS)&&Nat.ble aS.length 40 then
   mV σ ((oN 0 aS).map (·.1)) c.ps args aS λx=>(match c.F x with
    |some y=>Ei N σ dst aS ((oN 0 aS).map (·.1)) (qm (jt dst) (gi c.ro y.1).len aS (lS (gq c.ps) y.2)) (gi c.ro y.1) (lS (gq c.ps) y.2) k
    |none=>none)else none
 |none=>none
section
variable {P:Program} {w w':World} {w0:Wd} {B N:Nat} {aj dI aD:bM} {ρ fh ρ':Nat->Loc} {σ:S} {a:Act} {X:Type} {d:Nat} {r:X} {ns cn:af Nat} {o:Oper} {rs:af Nat} {eY:af (Nat×Nat)}
theorem aaO{n:Nat}:∀ {l:af (Nat×Nat)},cX n (l.map (·.1))=false->l.lookup n=none
 |[],_=>rfl
 | p :: l,h=>by
  simp only[lK,cX,pV]at h;rw[List.lookup_cons];have:(n==p.1)=false:=by
   cases hb:n==p.1 with
   |false=>rfl
   | true=>
    have e:n=p.1:=by simpa using hb
    have h1:=h.1;rw[<-e,Nat.beq_refl]at h1;cases h1
  rw[this];exact aaO h.2
theorem ali{b:Nat}{k:af Nat}{n m:Nat}(h:aj b=some k)(hk:k.getLast?=some n)(hm:eY.lookup n=some m):fm aj eY id b=some (k.dropLast++[m]):=by
 simp[fm,h,hk,hm]
theorem alj(br:∀ b k,aj b=some k->k≠[]):BO (eY.map (·.1)) aj (fm aj eY id):=by
 refine⟨λb h=>xD h,λb k h=>⟨br b k h,λhl=>?_⟩⟩
 simp only[fm,h];cases hk:k.getLast? with
 |none=>rfl
 | some n=>
  simp only[dz,hk]at hl;simp[aaO hl]
theorem TM{m:Nat->ak bg}:∀ (cs:af Lf) (vs:af (V×ak Nat)),uF m cs=some vs->vs.length=cs.length/\∀ (j:Nat) l,cs[j]?=some l->∃ v,vs[j]?=some v/\zV m l=some v
 |[],vs,h=>by injection h with h;subst h;exact⟨rfl,λj l hl=>by simp at hl⟩
 | c :: cs,vs,h=>by
  unfold uF at h;split at h
  ·rename_i v tv h1 h2;injection h with h;subst h;obtain⟨k1,k2⟩:=TM cs tv h2
   refine⟨by simp[k1],λj l hl=>?_⟩
   cases j with
   |zero=>simp at hl;subst hl;exact⟨v,rfl,h1⟩
   |succ j=>exact k2 j l (by simpa using hl)
  ·cases h
theorem alk{l:Lf}{v:V}{qo:ak Nat}(h:zV σ.m l=some (v,qo))(hR:Rl w0 N aj ρ σ a w)(hS:BO ns aj aD){u:Value}(hu:dY w w0.heap.size aj ρ l u):
  (qo=none/\∀B' q',RV w B' aD q' v u)\/(∃q,qo=some q/\v.az=false/\RV w w0.heap.size aj [q] v u):=by
 unfold zV at h;split at h
 ·simp only[gl,jx]at h;obtain⟨rfl,rfl⟩:=h;exact .inl ⟨rfl,λB' q'=>hu.2.out hS.none hS.rest (.inl hu.1)⟩
 ·rename_i q;split at h
  ·rename_i y hy;have cZ:=hR.root q _ hy;generalize hx:bg.sl y=x at cZ;cases cZ with
   |aC=>cases hx
   |mp=>cases hx
   |gh=>cases hx
   | sl v' y' aO hr=>
    injection hx with hx;subst hx;have Hg:v'=u:=by
     have h2:=hu.2;simp only[cJ,aO]at h2;injection h2
    subst Hg;cases hf:y.az with
    | true=>
     rw[hf,aq]at h;simp only[gl,jx]at h;obtain⟨rfl,rfl⟩:=h;exact .inl ⟨rfl,λB' q'=>hr.out hS.none hS.rest (.inl hf)⟩
    | false=>
     rw[hf,au]at h;simp only[gl,jx]at h;obtain⟨rfl,rfl⟩:=h;exact .inr ⟨q,rfl,hf,hr⟩
  ·cases h
 ·cases h
theorem aaP{i:Nat}{v:V}{q:Nat}:∀ (vs:af (V×ak Nat)) (j0 j:Nat),vs[j]?=some (v,some q)->(q,60000+1000*i+(j0+j))∈Hp i j0 vs
 |[],j0,j,h=>by simp at h
 | (v',qo) :: vs,j0,j,h=>by
  cases j with
  | zero=>
   simp at h;obtain⟨rfl,rfl⟩:=h;exact .head _
  | succ j=>
   have:=aaP (i:=i) vs (j0+1) j (by simpa using h);rw[show j0+1+j=j0+(j+1) by omega]at this;cases qo with
   |none=>exact this
   |some q'=>exact .tail _ this
theorem TN{i:Nat}:∀ (cs:af V) (j0:Nat),(zQ i j0 cs).length=cs.length
 |[],_=>rfl
 |c::cs,j0=>by simp[zQ,TN cs]
theorem RV.ow{q:af Nat}{x:V}{u:Value}(h:RV w B aj q x u)(hp:x.plain=false)(hn:x.lM=true):ow u=true:=by
 cases h<;>first|rfl|cases hp|cases hn
theorem Wk.aaQ{x y:V}(h:Wk x y)(hx:x.az=false):y.az=false:=by
 cases h with
 |same=>exact hx
 |nil=>cases hx
 |q=>exact hx
 |gr t o o' qn l h1 h2=>simp[V.az];omega
theorem TO(hR:Rl w0 N aj ρ σ a w)(hS:BO ns aj (fm aj eY id)):∀ (aS:af Mu) (ins:af In) (i:Nat),(∀ p∈oN i aS,eY.lookup p.1=some p.2)->(∀ j mu,aS[j]?=some mu->rs[i+j]?=some mu.root)->(∀ mu∈aS,BQ σ mu)->Hs aS ins->i+aS.length<=40->
  qi w w.heap.size (fm aj eY id) (xH w ρ rs) i ins
 |[],[],_,_,_,_,_,_=>trivial
 |[],_::_,_,_,_,_,h,_=>h.elim
 |.aC _ _ _::_,[],_,_,_,_,h,_=>h.elim
 |.sl _ _::_,[],_,_,_,_,h,_=>h.elim
 |.aC _ _ _::_,.sl _::_,_,_,_,_,h,_=>h.elim
 |.sl _ _::_,.aC _::_,_,_,_,_,h,_=>h.elim
 | .aC r cs vs :: aS,.aC xs :: ins,i,xJ,fR,iq,hrel,hi=>by
  obtain⟨hm,hg,hlen⟩:=iq _ (.head _);obtain⟨⟨hw,hx⟩,BV⟩:=hrel;obtain⟨g1,g2⟩:=TM cs vs hg;have js:=fR 0 _ rfl;rw[Nat.add_zero]at js;simp only[nj]at hi;have gV:xs.length=cs.length:=by rw[<-hw.1,gB,g1]
  have cZ:=hR.root r _ hm;generalize hz:bg.aC cs=z at cZ;cases cZ with
  |sl=>cases hz
  |mp=>cases hz
  |gh=>cases hz
  | aC b off cells e fy us aO hl hh hs hc=>
   injection hz with hz;subst hz;have kO:∀ (j:Nat) x,xs[j]?=some x->cells[off+j]?=some (us j)/\RV w w.heap.size (fm aj eY id) [nC i j x] x (us j)/\(x.plain=false->xH w ρ rs (nC i j x) = .eK (us j)):=by
    intro j x hj;have Bn:j<cs.length:=by rw[<-gV];exact(dS.1 hj).1
    obtain⟨v,hv,Hu⟩:=g2 j _ (cu Bn);obtain⟨c1,c2⟩:=hc j _ (cu Bn);obtain⟨v,qo⟩:=v;have TP:Wk v x:=hw.2 j v x (by rw[dP,hv];rfl) hj;obtain⟨zx,SY⟩:=hx x (hJ hj)
    refine⟨c1,?_,λhp=>?_⟩
    ·rcases alk Hu hR hS c2 with ⟨rfl,h1⟩ | ⟨q,rfl,hf,h1⟩
     ·exact(h1 _ _).wk TP
     ·have TF:=TP.aaQ hf;have hq:=xJ (q,60000+1000*i+(0+j)) (.tail _ (List.mem_append_left _ (aaP vs 0 j hv)));rw[fV]at hq;have h2:=(RV.fm (nm:=id) (p:=[]) h1 hq).wk TP;have e1:nC i j x=60000+1000*i+j:=by simp[nC,TF]
      rw[e1];exact h2.reB SY
    ·exact ala js (by omega) (by omega) aO (by rw[cell_of_row w b _ cells _ _ hh];exact c1)
   refine⟨.aC b off cells e _ us ((Hq js (by omega)).trans aO) ?_ hh (by rw[TN,gV];exact hs) (λj z hz=>?_),λj x hj hp=>?_,TO hR hS aS ins (i+1) (λp hp=>xJ p (.tail _ (List.mem_append_right _ hp))) (λj mu BW=>?_) (λmu h=>iq mu (.tail _ h)) BV (by omega)⟩
   ·exact ali hl rfl (xJ _ (.head _))
   ·have hj:j<xs.length:=by rw[<-TN (i:=i) xs 0];exact(dS.1 hz).1
    have Ej:=TI (i:=i) xs 0 j _ (cu hj);rw[hz]at Ej;injection Ej with Ej;subst Ej;rw[fV];obtain⟨c1,c2,c3⟩:=kO j _ (cu hj);refine⟨c1,?_⟩;cases hp:(xs[j]).plain with
    | true=>
     have e1:zP i j xs[j] = .v xs[j]:=by simp[zP,hp]
     rw[e1];exact⟨V.GM hp,c2.uk hp⟩
    | false=>
     have e1:zP i j xs[j] = .own [nC i j xs[j]]:=by simp[zP,hp]
     rw[e1];exact⟨c2.ow hp (hx _ (fW _)).1,by simp only[cJ,c3 hp]⟩
   ·obtain⟨c1,c2,c3⟩:=kO j x hj;exact .sl _ x (c3 hp) c2
   ·have:=fR (j+1) mu (by simpa using BW);rw[show i+(j+1)=i+1+j by omega]at this;exact this
 | .sl q y :: aS,.sl y' :: ins,i,xJ,fR,iq,hrel,hi=>by
  obtain⟨hm,hf⟩:=iq _ (.head _);obtain⟨⟨hw,hx⟩,BV⟩:=hrel;have js:=fR 0 _ rfl;rw[Nat.add_zero]at js;simp only[nj]at hi;have cZ:=hR.root q _ hm;generalize hz:bg.sl y=z at cZ;cases cZ with
  |aC=>cases hz
  |mp=>cases hz
  |gh=>cases hz
  | sl v y0 aO hr=>
   injection hz with hz;subst hz
   refine⟨.sl v y' ((Hq js (by omega)).trans aO) ?_,TO hR hS aS ins (i+1) (λp hp=>xJ p (.tail _ hp)) (λj mu BW=>?_) (λmu h=>iq mu (.tail _ h)) BV (by omega)⟩
   ·exact((RV.fm (nm:=id) (p:=[]) hr (xJ _ (.head _))).wk hw).reB hx
   ·have:=fR (j+1) mu (by simpa using BW);rw[show i+(j+1)=i+1+j by omega]at this;exact this
end
end Go.Proofs.YtecofnkoloihpaaGreat
namespace Go.Proofs.YtecofnkoloihpaaGreat
open Go.RowKit
set_option linter.unusedVariables false
def TQ:Loc->Nat×Nat
 |.aC b off=>(b,off)
 |.eK _=>(0,0)
 |.cq _=>(0,0)
def zY(w:World)(b off:Nat):Nat->af Nat->af V->af (Nat×Value)
 |j,n::eU,x::xs=>bif x.az then zY w b off (j+1) eU xs else (n,(w.cell? ⟨b,off+j,none⟩).getD undef)::zY w b off (j+1) eU xs
 |_,_,_=>[]
def tE(w:World)(ρ:Nat->Loc)(c0:Nat):Nat->af Mu->af In->af (Nat×Value)
 |pos,.aC r _ vs::aS,.aC xs::outs=>zY w (TQ (ρ r)).1 (TQ (ρ r)).2 0 (qk c0 (pos+1) vs) xs++tE w ρ c0 (pos+1+vs.length) aS outs
 |pos,.sl _ _::aS,.sl _::outs=>tE w ρ c0 (pos+1) aS outs
 |_,_,_=>[]
def aaR(l:af (Nat×Value))(ρ:Nat->Loc):Nat->Loc:=λn=>match l.lookup n with
 |some v=>.eK v
 |none=>ρ n
theorem TR{w:World}{b off:Nat}:∀ (eU:af Nat) (xs:af V) (j:Nat),(zY w b off j eU xs).map (·.1)=BU eU xs
 |[],[],_=>rfl
 |[],_::_,_=>rfl
 |_::_,[],_=>rfl
 | n :: eU,x :: xs,j=>by
  simp only[zY,BU];cases x.az with
  |true=>exact TR eU xs (j+1)
  |false=>simp only[au,lK];rw[TR eU xs (j+1)]
theorem MT{w:World}{ρ:Nat->Loc}{c0:Nat}:∀ (aS:af Mu) (outs:af In) (pos:Nat),(tE w ρ c0 pos aS outs).map (·.1)=qm c0 pos aS outs
 | .aC r _ vs :: aS,.aC xs :: outs,pos=>by
  simp only[tE,qm,List.map_append];rw[TR,MT aS outs]
 | .sl _ _ :: aS,.sl _ :: outs,pos=>by
  simp only[tE,qm];exact MT aS outs _
 |[],_,_=>by simp[tE,qm]
 |.aC _ _ _::_,[],_=>rfl
 |.sl _ _::_,[],_=>rfl
 |.aC _ _ _::_,.sl _::_,_=>rfl
 |.sl _ _::_,.aC _::_,_=>rfl
theorem aaS{n:Nat}:∀ {l:af (Nat×Value)},cX n (l.map (·.1))=false->l.lookup n=none
 |[],_=>rfl
 | p :: l,h=>by
  simp only[lK,cX,pV]at h;rw[List.lookup_cons];cases hb:n==p.1 with
  |false=>exact aaS h.2
  | true=>
   have e:n=p.1:=by simpa using hb
   have h1:=h.1;rw[<-e,Nat.beq_refl]at h1;cases h1
theorem aaT:∀ {l:af (Nat×Value)},MS (l.map (·.1))=true->∀ p∈l,l.lookup p.1=some p.2
 |[],_,p,hp=>by cases hp
 | q :: l,h,p,hp=>by
  simp only[lK,MS,bx,nq]at h;rw[List.lookup_cons];rcases jq.1 hp with rfl|hp
  ·simp
  ·cases hb:p.1==q.1 with
   |false=>exact aaT h.2 p hp
   | true=>
    have e:p.1=q.1:=by simpa using hb
    exact absurd (List.mem_map_of_mem (f:=(·.1)) hp) (by rw[e];exact aaL h.1)
theorem Hv{c0:Nat}:∀ (vs:af (V×ak Nat)) (n:Nat),(qk c0 n vs).length=vs.length
 |[],_=>rfl
 |(_,some _)::vs,n=>by simp[qk,Hv vs]
 |(_,none)::vs,n=>by simp[qk,Hv vs]
theorem aaU{ns cn:af Nat}:∀ (eU:af Nat) (ls:af Lf) (xs:af V),eU.length=ls.length->xs.length=ls.length->(rm ns cn eU ls xs).length=ls.length/\
  ∀(j:Nat) z,(rm ns cn eU ls xs)[j]?=some z->∃n l x,eU[j]?=some n/\ls[j]?=some l/\xs[j]?=some x/\z=(bif x.plain then .v x else bif x.az then l.cL ns cn else .own [n])
 |[],[],[],_,_=>⟨rfl,λj z hz=>by simp[rm]at hz⟩
 | n :: eU,l :: ls,x :: xs,h1,h2=>by
  obtain⟨k1,k2⟩:=aaU (ns:=ns) (cn:=cn) eU ls xs (by simpa using h1) (by simpa using h2)
  refine⟨by simp[rm,k1],λj z hz=>?_⟩
  cases j with
  |zero=>simp only[rm,List.getElem?_cons_zero,gl]at hz;exact⟨n,l,x,rfl,rfl,rfl,hz.symm⟩
  |succ j=>exact k2 j z (by simpa [rm]using hz)
 |[],_::_,_,h1,_=>by simp at h1
 |_::_,[],_,h1,_=>by simp at h1
 |_::_,_::_,[],_,h2=>by simp at h2
 |[],[],_::_,_,h2=>by simp at h2
theorem aaV:∀ (eU:af Nat) (xs:af V),∀ p∈zX eU xs,∃ (j:Nat) (x:V),eU[j]?=some p.1/\xs[j]?=some x/\x.az=false/\p.2 = .sl x
 |[],[],p,hp=>by cases hp
 |[],_::_,p,hp=>by cases hp
 |_::_,[],p,hp=>by cases hp
 | n :: eU,x :: xs,p,hp=>by
  simp only[zX]at hp;have rest:p∈zX eU xs->∃ (j:Nat) (y:V),(n :: eU)[j]?=some p.1/\(x :: xs)[j]?=some y/\y.az=false/\p.2 = .sl y:=λhp=>by
   obtain⟨j,y,h1,h2,h3,h4⟩:=aaV eU xs p hp;exact⟨j+1,y,by simpa using h1,by simpa using h2,h3,h4⟩
  cases hf:x.az with
  |true=>rw[hf]at hp;exact rest hp
  | false=>
   rw[hf,au]at hp;rcases jq.1 hp with rfl|hp
   ·exact⟨0,x,rfl,rfl,hf,rfl⟩
   ·exact rest hp
theorem aaW{w:World}{b off n:Nat}{x:V}:∀ (eU:af Nat) (xs:af V) (j0 j:Nat),eU[j]?=some n->xs[j]?=some x->x.az=false->(n,(w.cell? ⟨b,off+(j0+j),none⟩).getD undef)∈zY w b off j0 eU xs
 |[],_,_,j,h,_,_=>by simp at h
 |_::_,[],_,j,_,h,_=>by simp at h
 | m :: eU,y :: xs,j0,j,h1,h2,hf=>by
  cases j with
  | zero=>
   simp at h1 h2;subst h1 h2;simp only[zY,hf,au];exact .head _
  | succ j=>
   have:=aaW (w:=w) (b:=b) (off:=off) eU xs (j0+1) j (by simpa using h1) (by simpa using h2) hf;rw[show j0+1+j=j0+(j+1) by omega]at this;simp only[zY];cases y.az with
   |true=>exact this
   |false=>exact .tail _ this
section
variable {P:Program} {w w':World} {w0:Wd} {B N:Nat} {aj dI aD:bM} {ρ fh ρ':Nat->Loc} {σ:S} {a:Act} {X:Type} {d:Nat} {r:X} {ns cn:af Nat} {o:Oper} {rs:af Nat} {eY:af (Nat×Nat)} {nm MU:Nat->Nat} {c0:Nat}
theorem RV.BX{q:af Nat}{x:V}{v:Value}(h:RV w B aj q x v){B':Nat}(hB:B'<=B)(hl:∀ b,B<=b->aD b=aj b)(hg:∀ b k,aj b=some k->aD b=some k)(hx:x.loc=true):RV w B' aD q x v:=by
 induction h with
 |int=>exact .int _ _ _
 |bool=>exact .bool _ _
 |str=>exact .str _ _
 |nil=>exact .nil _
 |c9=>exact .c9 _ _ _
 |dm=>exact .dm _ _ _ _ _ (by first|assumption|omega)
 |dD=>exact .dD _ _ _ _ _ (by first|assumption|omega)
 | az q t o qn l b off cap u ho dH hb h1 eA hc hr ih=>
  have xB:o=1:=by
   match o,ho,hx with
   |0,_,hx=>cases hx
   |1,_,_=>rfl
   |n+2,ho,_=>omega
  subst xB;have G5:=h1 rfl
  refine .az _ _ _ _ _ _ _ _ u ho ((hl b G5).trans dH) hb (λ_=>Nat.le_trans hB G5) eA hc (λi h j x cW=>ih i h j x cW ?_)
  have:=w5 t 1 l[i] x (hJ cW);cases x with
  | sl t' o' q' l'=>
   have:o'=1:=by simpa [V.gr]using this
   subst this;rfl
  |_=>rfl
 | own q t o qn l b cap cs u dH hh hs hn hm hc hr ih=>
  exact .own _ _ _ _ _ _ _ cs u (hg b q dH) hh hs hn hm hc (λi h j x cW=>ih i h j x cW (aaE hx l[i] x (hJ cW)))
theorem kQ.BX{nm:Nat->Nat}:∀ (ps:af Pt) (off:Nat) (vs:af Value) {B':Nat},kQ w B aj nm off ps vs->B'<=B->(∀ b,B<=b->aD b=aj b)->(∀ b k,aj b=some k->aD b=some k)->(∀ n,off<=n->n<off+(ps.map λp=>p.2.length).sum->nm n=MU n)->kQ w B' aD MU off ps vs
 |[],_,[],_,h,_,_,_,_=>h
 |[],_,_::_,_,h,_,_,_,_=>h
 |_::_,_,[],_,h,_,_,_,_=>h
 | p :: ps,off,v :: vs,B',h,hB,hl,hg,hn=>by
  obtain⟨⟨kA,us,hu,hs,hr⟩,kP⟩:=h;simp only[lK,List.sum_cons]at hn
  refine⟨⟨kA,us,hu,hs,λj x hx=>?_⟩,kQ.BX ps _ vs kP hB hl hg (λn h1 h2=>hn n (by omega) (by omega))⟩
  obtain⟨v',eM,dG⟩:=hr j x hx;have hj:j<p.2.length:=(dS.1 hx).1;refine⟨v',eM,?_⟩;show RV w B' aD [MU (off+j)] x v';rw[<-hn (off+j) (by omega) (by omega)];exact dG.BX hB hl hg (dQ.1 kA x (hJ hx))
theorem TS(hR:Rl w0 N aj ρ σ a w)(hv:sA w w' aj dI ρ fh ns cn)(kR:∀ b k,aD b=some k->dI b=some k)(ox:∀ b,w.heap.size<=b->dI b=aD b)(hB:w0.heap.size<=w.heap.size):
  ∀(aS:af Mu) (ins outs:af In) (i pos:Nat),(∀j mu,aS[j]?=some mu->rs[i+j]?=some mu.root)->(∀mu∈aS,BQ σ mu)->Hs aS ins->i+aS.length<=40->Hi w w' aD (xH w ρ rs) nm i pos ins outs->
  (∀k n,(zW c0 pos aS)[k]?=some n->nm (pos+k)=n)->(∀p∈tE w' ρ c0 pos aS outs,fh p.1 = .eK p.2)->(∀mu∈aS,cX mu.root cn=false)->outs.all aaN=true->∀p∈pG ns cn c0 pos aS outs,fz w' w0.heap.size dI fh p.1 p.2
 |[],[],[],_,_,_,_,_,_,_,_,_,_,_,p,hp=>by simp[pG]at hp
 |[],[],_::_,_,_,_,_,_,_,h,_,_,_,_,_,_=>h.elim
 |[],_::_,_,_,_,_,_,h,_,_,_,_,_,_,_,_=>h.elim
 |.aC _ _ _::_,[],_,_,_,_,_,h,_,_,_,_,_,_,_,_=>h.elim
 |.sl _ _::_,[],_,_,_,_,_,h,_,_,_,_,_,_,_,_=>h.elim
 |.aC _ _ _::_,.sl _::_,_,_,_,_,_,h,_,_,_,_,_,_,_,_=>h.elim
 |.sl _ _::_,.aC _::_,_,_,_,_,_,h,_,_,_,_,_,_,_,_=>h.elim
 |.aC _ _ _::_,.aC _::_,[],_,_,_,_,_,_,h,_,_,_,_,_,_=>h.elim
 |.sl _ _::_,.sl _::_,[],_,_,_,_,_,_,h,_,_,_,_,_,_=>h.elim
 |.aC _ _ _::_,.aC _::_,.sl _::_,_,_,_,_,_,_,h,_,_,_,_,_,_=>h.elim
 |.sl _ _::_,.sl _::_,.aC _::_,_,_,_,_,_,_,h,_,_,_,_,_,_=>h.elim
 | .aC r cs vs :: aS,.aC xs0 :: ins,.aC xs :: outs,i,pos,fR,iq,hrel,hi,hO,eS,BY,qf,kA,p,hp=>by
  obtain⟨hm,hg,hlen⟩:=iq _ (.head _);obtain⟨⟨hw,hx⟩,BV⟩:=hrel;obtain⟨g1,g2⟩:=TM cs vs hg;have js:=fR 0 _ rfl;rw[Nat.add_zero]at js;simp only[nj]at hi;have TT:xs0.length=cs.length:=by rw[<-hw.1,gB,g1]
  obtain⟨⟨b,off,cells,oJ,e,e',h1,h2,h3,h4,h5,h6,h7⟩,TU⟩:=hO;have cZ:=hR.root r _ hm;generalize hz:bg.aC cs=z at cZ;cases cZ with
  |sl=>cases hz
  |mp=>cases hz
  |gh=>cases hz
  | aC b0 vZ aaX e0 fy us aO hl hh hs hc=>
   injection hz with hz;subst hz;rw[Hq js (by omega)]at h1;have h1:ρ r = .aC b off:=h1;rw[aO]at h1;injection h1 with e1 e2;subst e1 e2;have alm:aaX=cells:=by
    rw[hh]at h2;injection h2 with h2;injection h2
   subst alm;have dn:=qf _ (.head _);have vW:fh r = .aC b0 vZ:=(hv.ff r dn).trans aO;have uq:nm pos=r:=by have:=eS 0 r rfl;rwa [Nat.add_zero]at this
   have aln:∀ (j:Nat) n,(qk c0 (pos+1) vs)[j]?=some n->nm (pos+1+j)=n:=by
    intro j n hn;have hj:j<(qk c0 (pos+1) vs).length:=(dS.1 hn).1;have:=eS (j+1) n (by simp only[zW,List.getElem?_cons_succ];rw[List.getElem?_append_left hj];exact hn);rw[show pos+1+j=pos+(j+1) by omega];exact this
   have kO:∀ (j:Nat) x,xs[j]?=some x->∃ u,oJ[vZ+j]?=some u/\w'.cell? ⟨b0,vZ+j,none⟩=some u/\((x.plain=true/\∀ (w:World) (B:Nat) (aj:bM) (q:af Nat),RV w B aj q x u)\/(x.plain=false/\x.az=true/\aaX[vZ+j]?=some u)\/(x.az=false/\RV w' w.heap.size aD [nm (pos+1+j)] x u)):=by
    intro j x hj;obtain⟨u,hu,hd⟩:=h7 j x hj;exact⟨u,hu,by rw[cell_of_row w' b0 _ oJ _ _ h3];exact hu,hd⟩
   have nc:∀ (j:Nat) n x u,(qk c0 (pos+1) vs)[j]?=some n->xs[j]?=some x->x.az=false->w'.cell? ⟨b0,vZ+j,none⟩=some u->fh n = .eK u:=by
    intro j n x u hn hxj hf hu;have zN:=aaW (w:=w') (b:=b0) (off:=vZ) _ xs 0 j hn hxj hf;rw[fV,hu]at zN;exact BY (n,u) (by simp only[tE,aO,TQ];exact List.mem_append_left _ zN)
   simp only[pG]at hp;rcases jq.1 hp with rfl|hp
   ·obtain⟨k1,k2⟩:=aaU (ns:=ns) (cn:=cn) (qk c0 (pos+1) vs) cs xs (by rw[Hv,g1]) (by rw[h6,TT])
    refine .aC b0 vZ oJ e' _ (λj=>oJ.getD (vZ+j) undef) vW (kR _ _ (by rw[h4,uq])) h3 (by show vZ+(rm _ _ _ _ _).length<=_;rw[k1,<-TT,<-h6];exact h5) (λj z hz=>?_)
    obtain⟨n,l,x,n1,n2,n3,rfl⟩:=k2 j z hz;obtain⟨u,hu,TV,hd⟩:=kO j x n3;have eu:oJ.getD (vZ+j) undef=u:=by rw[jn,hu];rfl
    rw[eu];refine⟨hu,?_⟩;rcases hd with ⟨d1,d2⟩|⟨d1,d2,d3⟩|⟨d1,d2⟩
    ·rw[d1,aq];exact⟨V.GM d1,d2 _ _ _ _⟩
    ·rw[d1,d2,au,aq];obtain⟨c1,c2⟩:=hc j l n2;rw[c1]at d3;injection d3 with d3;rw[<-d3];exact c2.kB hv
    ·have zM:x.plain=false:=by
      cases zM:x.plain with
      |false=>rfl
      |true=>rw[V.GM zM]at d1;cases d1
     rw[zM,d1,au,au];exact⟨d2.SN d1,by simp only[cJ,nc j n x u n1 n3 d1 TV]⟩
   ·rcases List.mem_append.1 hp with hp | hp
    ·obtain⟨j,x,n1,n2,n3,n4⟩:=aaV _ _ p hp;obtain⟨u,hu,TV,hd⟩:=kO j x n2;rw[n4];refine .sl u x (nc j p.1 x u n1 n2 n3 TV) ?_;rcases hd with ⟨d1,d2⟩ | ⟨d1,d2,d3⟩ | ⟨d1,d2⟩
     ·exact d2 _ _ _ _
     ·rw[n3]at d2;cases d2
     ·rw[aln j _ n1]at d2;refine d2.BX hB ox kR ?_;rw[List.all_cons,bx]at kA;have:=dQ.1 kA.1 x (hJ n2)
      rwa [n3,Bool.false_or]at this
    ·rw[List.all_cons,bx]at kA
     refine TS hR hv kR ox hB aS ins outs (i+1) (pos+1+vs.length) (λj mu BW=>?_) (λmu h=>iq mu (.tail _ h)) BV (by omega) ?_ (λk n hn=>?_) (λp hp=>BY p ?_) (λmu h=>qf mu (.tail _ h)) kA.2 p hp
     ·have:=fR (j+1) mu (by simpa using BW);rw[show i+(j+1)=i+1+j by omega]at this;exact this
     ·rw[g1,<-TT];exact TU
     ·have:=eS (1+vs.length+k) n (by
       rw[show 1+vs.length+k=(vs.length+k)+1 by omega];simp only[zW,List.getElem?_cons_succ];rw[List.getElem?_append_right (by rw[Hv];omega),Hv];rw[show vs.length+k-vs.length=k by omega];exact hn)
      rw[show pos+1+vs.length+k=pos+(1+vs.length+k) by omega];exact this
     ·simp only[tE];exact List.mem_append_right _ hp
 | .sl q y0 :: aS,.sl y1 :: ins,.sl y :: outs,i,pos,fR,iq,hrel,hi,hO,eS,BY,qf,kA,p,hp=>by
  obtain⟨hm,hf⟩:=iq _ (.head _);obtain⟨_,BV⟩:=hrel;have js:=fR 0 _ rfl;rw[Nat.add_zero]at js;simp only[nj]at hi;obtain⟨hO1,TU⟩:=hO;rw[List.all_cons,bx]at kA;have uq:nm pos=q:=by have:=eS 0 q rfl;rwa [Nat.add_zero]at this
  have hp:(p=(q,.sl y)/\y.lM=true)\/p∈pG ns cn c0 (pos+1) aS outs:=by
   simp only[pG]at hp;cases hy:y.lM with
   |false=>rw[hy]at hp;exact .inr hp
   | true=>
    rw[hy]at hp;rcases jq.1 hp with h|h
    ·exact .inl ⟨h,rfl⟩
    ·exact .inr h
  rcases hp with ⟨rfl,hy⟩|hp
  ·obtain⟨v,h1,h2⟩:=hO1.resolve_left (by rintro rfl;cases hy);rw[Hq js (by omega)]at h1;rw[uq]at h2;exact .sl v y ((hv.ff q (qf _ (.head _))).trans h1) (h2.BX hB ox kR kA.1)
  ·refine TS hR hv kR ox hB aS ins outs (i+1) (pos+1) (λj mu BW=>?_) (λmu h=>iq mu (.tail _ h)) BV (by omega) TU (λk n hn=>?_) (λp hp=>BY p hp) (λmu h=>qf mu (.tail _ h)) kA.2 p hp
   ·have:=fR (j+1) mu (by simpa using BW);rw[show i+(j+1)=i+1+j by omega]at this;exact this
   ·have:=eS (k+1) n (by simpa [zW]using hn);rw[show pos+1+k=pos+(k+1) by omega];exact this
end
end Go.Proofs.YtecofnkoloihpaaGreat
