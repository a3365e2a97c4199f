/-
  Running the program over pure contents, and that it follows (part 2). Nothing here is a claim.
-/
import Derived.Laws.StructEq
import Derived.Test.YtcioagfjiccleaaGreatV1
set_option linter.unusedSimpArgs false
namespace Go.Proofs.YtcioagfjiccleaaGreat
open Go.RowKit
set_option linter.unusedVariables false
section
variable {P:Program} {w w':World} {w0:Wd} {B N:Nat} {ah aC:bE} {ρ ρ':Nat->Loc} {σ:S} {a:Act} {X:Type} {d:Nat} {r:X}
theorem RV.under{k:af Nat}{x:V}{v:Value}{n:Nat}(h:RV w B ah k x v)(hk:1<k.length\/x.aA=true)(hz:w.heap.size<=w'.heap.size)(hb:∀ b,b<w.heap.size->ah b≠some [n]->w'.heap[b]?=w.heap[b]?)(hl:∀ b,b<w.heap.size->aC b=ah b):RV w' B aC k x v:=by
 induction h with
 |int=>exact .int _ _ _
 |bool=>exact .bool _ _
 |str=>exact .str _ _
 |nil=>exact .nil _
 |dc=>exact .dc _ _ _
 |dg=>exact .dg _ _ _ _ _ (by first|assumption|omega)
 |dz=>exact .dz _ _ _ _ _ (by first|assumption|omega)
 | aA q t o qn l b off cap u ho dB fk h1 ey hc hr ih=>
  have bg:ah b≠some [n]:=by rw[dB];simp
  exact .aA _ _ _ _ _ _ _ _ u ho ((hl b fk).trans dB) (mG fk hz) h1 ey (λi h j x hx=>(mH (a:=⟨b,_,none⟩) (hb b fk bg)).trans (hc i h j x hx)) (λi h j x hx=>ih i h j x hx (.inr (lQ t o l[i] ho j x hx)))
 | own q t o qn l b cap cs u dB hh hs hn hm hc hr ih=>
  have fk:b<w.heap.size:=(gS.1 hh).1;have hq:1<q.length:=by
   rcases hk with hk|hk
   ·exact hk
   ·simp[V.aA]at hk;omega
  have bg:ah b≠some [n]:=by
   rw[dB];intro e;injection e with e;rw[e]at hq;simp at hq
  exact .own _ _ _ _ _ _ _ cs u ((hl b fk).trans dB) ((hb b fk bg).trans hh) hs hn hm hc (λi h j x hx=>ih i h j x hx (.inl (by simp)))
def vp(w:World)(B:Nat)(ah:bE)(n t0:Nat)(t:TC)(o:Nat)(l:af (T t))(vs:af Value):Prop:=
 ∀i (hi:i<l.length) j x,(enc t o l[i])[j]?=some x->∃v,vs[i*aB t+j]?=some v/\RV w B ah (j::(t0+i)::aB t::[n]) x v
theorem RV.ahE{n:Nat}{t:TC}{o:Nat}{qn:Bool}{l:af (T t)}{u:Value}(h:RV w B ah [n] (.sl t (o+2) qn l) u){B':Nat}(hB:∀ b,ah b=some [n]->B'<=b):
  ∃xs,w.ownsRow B' (tid t) (aB t) u l.length xs/\(∀b,u.ownBlock=some b->ah b=some [n])/\(qn=true->u.ownBlock≠none)/\vp w B ah n 0 t o l xs:=by
 cases h with
 |dg=>omega
 |dz=>omega
 |dc=>exact⟨[],⟨by simp,.inl ⟨rfl,rfl⟩⟩,by simp[Value.ownBlock],by simp,λi hi=>by simp at hi⟩
 |aA _ _ _ _ _ _ _ _ _ ho=>omega
 | own _ _ _ _ _ b cap cs us hl hh hs hn hm hc hr=>
  refine⟨cs.toList.take (l.length*aB t),⟨?_,.inr ⟨b,cap,cs,rfl,hB b hl,hh,hn,hm.1,hs,rfl⟩⟩,λb' ug=>?_,λ_=>by simp[Value.ownBlock],λi hi j x hx=>?_⟩
  ·have dZ:cs.toList.length=cap*aB t:=by rw[<-hs];simp
   rw[lM,dZ];have:=kz (aB t) hn;omega
  ·have:b=b':=by simpa [Value.ownBlock]using ug
   subst this;exact hl
  ·have hj:j<aB t:=by have:=(dJ.1 hx).1;rwa [lO]at this
   have bC:i*aB t+j<l.length*aB t:=by
    have:(i+1)*aB t<=l.length*aB t:=kz _ hi;rw[je]at this;omega
   refine⟨us i j,?_,by rw[fQ];exact hr i hi j x hx⟩;rw[List.getElem?_take,bu bC,nu];exact hc i hi j x hx
theorem vp.append{n:Nat}{t:TC}{o:Nat}{l l2:af (T t)}{xs ys:af Value}(h:vp w B ah n 0 t o l xs)(h2:vp w B ah n l.length t o l2 ys)(hl:xs.length=l.length*aB t):vp w B ah n 0 t o (l++l2) (xs++ys):=by
 intro i hi j x hx;have hj:j<aB t:=by have:=(dJ.1 hx).1;rwa [lO]at this
 by_cases bC:i<l.length
 ·rw[List.getElem_append_left bC]at hx;obtain⟨v,hv,r⟩:=h i bC j x hx;refine⟨v,?_,r⟩;rw[List.getElem?_append_left (dJ.1 hv).1];exact hv
 ·rw[List.getElem_append_right (by omega)]at hx;have vn:i-l.length<l2.length:=by rw[List.length_append]at hi;omega
  obtain⟨v,hv,r⟩:=h2 (i-l.length) vn j x hx;refine⟨v,?_,?_⟩
  ·have e:i*aB t+j=xs.length+((i-l.length)*aB t+j):=by
    rw[hl,Nat.sub_mul];have:l.length*aB t<=i*aB t:=kz _ (by omega);omega
   rw[e,List.getElem?_append_right (by omega),Nat.add_sub_cancel_left];exact hv
  ·have e:0+i=l.length+(i-l.length):=by omega
   rw[e];exact r
theorem vp.under{n t0:Nat}{t:TC}{o:Nat}{l:af (T t)}{vs:af Value}(h:vp w B ah n t0 t o l vs)(hz:w.heap.size<=w'.heap.size)(hb:∀ b,b<w.heap.size->ah b≠some [n]->w'.heap[b]?=w.heap[b]?)(hl:∀ b,b<w.heap.size->aC b=ah b):vp w' B aC n t0 t o l vs:=
 λi hi j x hx=>let ⟨v,hv,r⟩:=h i hi j x hx;⟨v,hv,r.under (.inl (by simp)) hz hb hl⟩
theorem Y5{n:Nat}{t:TC}{o:Nat}{l:af (T t)}{u:Value}{xs:af Value}{B':Nat}(h:w.ownsRow B' (tid t) (aB t) u l.length xs)(he:vp w B ah n 0 t o l xs)(hl:∀ b,u.ownBlock=some b->ah b=some [n]):
  RV w B ah [n] (.sl t (o+2) false l) u:=by
 rcases h.2 with ⟨rfl,h0⟩|⟨b,cap,cs,rfl,hB,hh,hn,hm,hs,ht⟩
 ·have:l=[]:=List.eq_nil_of_length_eq_zero h0;subst this;exact .dc _ _ _
 ·have kZ:∀ i (hi:i<l.length) j x,(enc t o l[i])[j]?=some x->∃ v,cs[i*aB t+j]?=some v/\RV w B ah (j :: i :: aB t :: [n]) x v:=by
   intro i hi j x hx;obtain⟨v,hv,r⟩:=he i hi j x hx;rw[fQ]at r;refine⟨v,?_,r⟩;rw[<-ht,List.getElem?_take]at hv;split at hv
   ·rw[nu]at hv;exact hv
   ·cases hv
  refine .own [n] t o false l b cap cs (λi j=>(cs[i*aB t+j]?).getD undef) (hl b rfl) hh hs hn ⟨hm,λh=>by cases h⟩ (λi hi j x hx=>?_) (λi hi j x hx=>?_)
  ·obtain⟨v,hv,_⟩:=kZ i hi j x hx;rw[hv];rfl
  ·obtain⟨v,hv,r⟩:=kZ i hi j x hx;rw[hv];exact r
theorem Rl.ahF{t e ty:TypeId}{tc:TC}{i:TypeInfo}{z:Value}{rr o m c:Nat}{q:Bool}{l l2:af (T tc)}{u:Value}{ad:aj Addr}{news:af Value}(h:Rl w0 N ah ρ σ a w)(hF:w0.F rr=none)(gi:P.underlying t=some (.slice e))(ht:tid tc=e)(hi:P.info? e=some i)(hz:i.zero=some z)
  (dx:i.size=aB tc) (lU:i.bytes<=65536) (gQ:z.cells.size=aB tc) (hd:RV w w0.heap.size ah [rr] (.sl tc (o+2) q l) u) (rX:Reads w w.heap.size (aB tc) ad m news) (kR:∀v∈news,v.oneCell'=true) (hm:m=l2.length)
  (H8:vp w w0.heap.size ah rr l.length tc o l2 news) (hlen:l.length+l2.length<1073741824):
  ∃v' w' aC,(Builtin.append_ #[t,t] ty #[u,.slice ad m c]).run P w = .ok v' w'/\Rl w0 N aC (bP ρ rr (.dP v')) ((σ.drop rr).root rr (.sl (.sl tc (o+2) false (l++l2)))) a w'/\oe v'=true:=by
 subst ht hm;obtain⟨xs,nt,yA,H7,kf⟩:=hd.ahE (B':=0) (λb _=>Nat.zero_le b);have fT:(l.length+l2.length)*i.bytes<=140737488355328:=by
  have h1:(l.length+l2.length)*i.bytes<=1073741824*65536:=Nat.mul_le_mul (by omega) lU;omega
 obtain⟨v',w',bq,rY,pg,fk⟩:=QX (P:=P) w 0 t ty (tid tc) i z (aB tc) i.bytes gi hi hz dx rfl gQ (qB tc) u l.length xs nt _ ad l2.length c news rX kR (by unfold maxLen;omega) fT (Nat.zero_le _);have Ct:(l++l2).length=l.length+l2.length:=List.length_append;rw[<-Ct]at rY;have Cu:=kf.append H8 nt.1;have gM:oe v'=true:=by rcases rY.2 with ⟨rfl,_⟩|⟨_,_,_,rfl,_⟩<;>rfl
 have rZ:Below 0 w w':=(Below.refl 0 w).grown pg (Nat.zero_le _) (λ_ _=>Nat.zero_le _);have iE:kQ w0 w w':=⟨rZ.os,rZ.tape,rZ.output,rZ.size,λk hk hL=>pg.block k (mG hk h.below.size) (λe'=>by
  rcases(h.dn k _ (yA k e'.symm)).1 with h1|h1
  ·exact absurd hk (Nat.not_lt.2 h1)
  ·exact h1 hL)⟩
 have yB:∀b,b<w.heap.size->ah b≠some [rr]->w'.heap[b]?=w.heap[b]?:=λb hb bg=>pg.block b hb (λe'=>bg (yA b e'.symm))
 by_cases qJ:v'.ownBlock=some w.heap.size
 ·have bC:w.heap.size<w'.heap.size:=by
   rcases rY.2 with ⟨rfl,_⟩|⟨b,cap,cs,rfl,_,hh,_⟩
   ·cases qJ
   ·have:b=w.heap.size:=by simpa [Value.ownBlock]using qJ
    subst this;exact(gS.1 hh).1
  have gR:∀b,b<w.heap.size->bP ah w.heap.size (some [rr]) b=ah b:=λb hb=>cL _ _ _ (by omega)
  refine⟨v',w',bP ah w.heap.size (some [rr]),bq,h.AA hF iE ⟨pg.size,yB,gR,λb hb=>(h.dn b [] hb).2.2 rfl⟩ (λb k hb hk=>?_) (λr hr=>cL _ _ _ hr) (.sl v' _ (bY _ _ _) (Y5 rY (Cu.under pg.size yB gR) (λb hb=>?_))),gM⟩
  ·by_cases e:b=w.heap.size
   ·subst e;rw[bY]at hk;injection hk with hk;subst hk;exact⟨bC,by simp⟩
   ·rw[cL _ _ _ e]at hk;have:=(h.dn b k hk).2.1;omega
  ·rw[qJ]at hb;injection hb with hb;subst hb;exact bY _ _ _
 ·have Sz:v'.ownBlock=u.ownBlock:=by
   rcases fk with fk|fk
   ·exact fk
   ·exact absurd fk qJ
  refine⟨v',w',ah,bq,h.AA hF iE ⟨pg.size,yB,λ_ _=>rfl,λb hb=>(h.dn b [] hb).2.2 rfl⟩ (λb k hb hk=>?_) (λr hr=>cL _ _ _ hr) (.sl v' _ (bY _ _ _) (Y5 rY (Cu.under pg.size yB (λ_ _=>rfl)) (λb hb=>yA b (by rw[<-Sz];exact hb)))),gM⟩
  have:=(h.dn b k hk).2.1;omega
end
end Go.Proofs.YtcioagfjiccleaaGreat
namespace Go.Proofs.YtcioagfjiccleaaGreat
open Go.RowKit
set_option linter.unusedVariables false
def avA{X:Type}(N:Nat)(σ:S)(dst:aj Tmp)(c x y:A)(k:S->aj X):aj X:=
 match c with
 |.lf (.v (.bool b))=>bif b then jM N σ dst x k else jM N σ dst y k
 |_=>none
def AF{X:Type}(P:Program)(s:TypeId)(x:A)(f:Nat)(k:A->aj X):aj X:=
 match HU P s f,x with
 | some fd,.agg cs=>(match ld P fd.type,EN P fd.type with
  |some n,some true=>if fd.offset+n<=cs.length then k (.agg ((cs.drop fd.offset).take n))else none
  | some _,some false=>(match cs[fd.offset]? with
   |some y=>k (.lf y)
   |none=>none)
  |_,_=>none)
 |_,_=>none
def Cy{X:Type}(mx:Bool)(x y:A)(k:A->aj X):aj X:=
 match x,y with
 |.lf (.v (.int kx a)),.lf (.v (.int _ b))=>k (.lf (.v (.int kx (bif mx then (if b > a then b else a)else (if b<a then b else a)))))
 |_,_=>none
def Cz{X:Type}(P:Program)(t:TypeId)(x i:A)(k:A->aj X):aj X:=
 match x,i with
 | .lf (.v (.str s)),.lf (.v (.int _ iv))=>(match P.underlying t with
  |some .string=>if h:0<=iv/\iv.toNat<s.size then k (.lf (.v (.int .u8 ((s[iv.toNat]'h.2).toNat:Int))))else none
  |_=>none)
 |_,_=>none
def yC{X:Type}(x:aj A)(d:Int)(k:Int->aj X):aj X:=
 match x with
 |none=>k d
 |some (.lf (.v (.int _ n)))=>k n
 |_=>none
def AG{X:Type}(P:Program)(t:TypeId)(x:A)(lo hi:aj A)(k:A->aj X):aj X:=
 match x with
 | .lf (.v (.str s))=>(match P.underlying t with
  |some .string=>yC lo 0 λl=>yC hi (s.size:Int) λh=>if 0<=l/\l<=h/\h<=(s.size:Int)then k (.lf (.v (.str (s.extract l.toNat h.toNat))))else none
  |_=>none)
 | .lf (.v (.sl t' g qn l))=>(match rT P t with
  | some e=>(match ld P e with
   |some n=>if n=aB t' then (bif Nat.blt g 2 then yC lo 0 λa=>yC hi (l.length:Int) λb=>if 0<=a/\a<=b/\b<=(l.length:Int)then k (.lf (.v (.sl t' g false ((l.take b.toNat).drop a.toNat))))else none else none)else none
   |none=>none)
  |none=>none)
 |_=>none
def AH(P:Program)(src dst:TypeId):Bool:=
 match P.underlying src,P.underlying dst with
 | some (.slice e),some .string=>(match P.underlying e with
  |some (.int .u8)=>true
  |_=>false)
 |_,_=>false
def yD{X:Type}(P:Program)(src dst:TypeId)(z:V)(k:A->aj X):aj X:=
 match z with
 |.sl .u8 _ _ l=>bif AH P src dst then k (.lf (.v (.str (strOfNums l))))else none
 |.nil=>bif AH P src dst then k (.lf (.v (.str (strOfNums []))))else none
 |_=>none
def pY{X:Type}(P:Program)(σ:S)(src dst:TypeId)(x:A)(k:A->aj X):aj X:=
 match x with
 | .lf (.v (.int _ n))=>(match P.underlying src,P.underlying dst with
  |some _,some (.int kd)=>k (.lf (.v (.int kd (kd.wrap n))))
  |_,_=>none)
 |.lf y=>jY σ y λz=>yD P src dst z k
 |_=>none
section
variable {P:Program} {w w':World} {w0:Wd} {B N:Nat} {ah aC:bE} {ρ ρ':Nat->Loc} {σ:S} {a:Act} {X:Type} {d:Nat} {r:X} {o:Oper}
theorem ahG{α:Type}(f:α->af Value)(s:Nat)(hf:∀ x,(f x).length=s)(l:af α):(l.flatMap f).length=l.length*s:=by
 induction l with
 |nil=>simp
 |cons a l ih=>rw[List.flatMap_cons,List.length_append,hf,ih,n9,je];omega
theorem ahH{α:Type}(f:α->af Value)(s:Nat)(hf:∀ x,(f x).length=s):∀ (l:af α) (k:Nat) (hk:k<l.length) (j:Nat),j<s->(l.flatMap f)[k*s+j]?=(f l[k])[j]?:=by
 intro l
 induction l with
 |nil=>intro k hk;simp at hk
 | cons a l ih=>
  intro k hk j hj;rw[List.flatMap_cons];cases k with
  |zero=>rw[Nat.zero_mul,fQ,List.getElem?_append_left (by rw[hf];exact hj)];rfl
  | succ k=>
   have e:(k+1)*s+j=s+(k*s+j):=by rw[je];omega
   rw[e,List.getElem?_append_right (by rw[hf];omega),hf,Nat.add_sub_cancel_left];exact ih k (by simpa using hk) j hj
theorem Y6(z:Array Value)(s n:Nat)(hs:z.size=s)(h0:0<s):(madeCells z (n*s)).toList=(List.replicate n z.toList).flatten:=by
 have e:(List.replicate n z.toList).flatten=(List.replicate n ()).flatMap (λ_=>z.toList):=by
  rw[List.flatMap_def,List.map_replicate]
 rw[e];have hl:((List.replicate n ()).flatMap (λ_=>z.toList)).length=n*s:=by
  rw[ahG (λ_=>z.toList) s (λ_=>by simpa using hs)];simp
 apply List.ext_getElem?;intro i;rcases Nat.lt_or_ge i (n*s)with hi|hi
 ·have hk:i / s<n:=Nat.div_lt_of_lt_mul (by rw[Nat.mul_comm];exact hi);have hj:i % s<s:=Nat.mod_lt _ h0;have ei:i=i / s*s+i % s:=by rw[Nat.mul_comm];exact(Nat.div_add_mod i s).symm
  have h2:=ahH (λ_=>z.toList) s (λ_=>by simpa using hs) (List.replicate n ()) (i / s) (by simpa using hk) (i % s) hj;rw[<-ei]at h2;rw[h2];have hz:i % s<z.size:=by omega
  simp only[madeCells,Array.toList_map,Array.toList_range,dH,List.getElem?_range hi,jU,hs];simp[hz]
 ·rw[List.getElem?_eq_none (by rw[mX,size_madeCells];exact hi),List.getElem?_eq_none (by rw[hl];exact hi)]
theorem ahI{t:TypeId}{len:Nat}{parts:Array (Nat×Operand)}{k:S->aj X}(h:Cx P N σ d t len parts.toList k=some r):∃ az,k az=some r/\∀ ah ρ a w,Rl w0 N ah ρ σ a w->
  ∃w' aC ρ' v,(Instr.buildSlice t len (parts.map λ(i,x)=>(i,a.eval x))).run P w = .ok v w'/\Rl w0 N aC ρ' az (a.put (some d) v) w':=by
 unfold Cx at h;split at h
 ·rename_i e tc gN;obtain⟨gi,ht,i,hi,dx,lU⟩:=AB gN;split at h
  ·rename_i z hz;cases hc:(Nat.beq (full tc) 0&&Nat.beq z.cells.size (aB tc)&&Nat.blt (len*aB tc) 16777217)with
   |false=>rw[hc]at h;cases h
   | true=>
    rw[hc,aq]at h;simp only[aJ]at hc;have hf:=cz hc.1.1;have gQ:=cz hc.1.2;have hsm:len*aB tc<16777217:=by have:=cH hc.2;omega
    have qI:i.zero=some z:=by unfold zeroOf at hz;simpa [hi]using hz
    split at h
    ·rename_i cs dL;split at h
     ·rename_i vs ia;split at h
      ·rename_i l hl;obtain⟨hd,h⟩:=qH h
       refine⟨_,h,λah ρ a w hR=>?_⟩
       obtain⟨ET,uo,kf⟩:=SE tc 0 len vs l hl;have SF:eB w w0.heap.size ah ρ (List.replicate len (z.cells.toList.map ke)).flatten (madeCells z.cells (len*aB tc)):=by
        have e1:(List.replicate len (z.cells.toList.map ke)).flatten=((List.replicate len z.cells.toList).flatten).map ke:=by
         rw[List.map_flatten,List.map_replicate]
        rw[e1,<-Y6 z.cells (aB tc) len gQ (qB tc)]
        refine⟨by simp,λj x hx=>?_⟩
        rw[dH]at hx;cases hv:(madeCells z.cells (len*aB tc)).toList[j]? with
        |none=>rw[hv]at hx;cases hx
        | some v=>
         rw[hv]at hx;injection hx with hx;subst hx;exact⟨v,by simpa using hv,Mq v⟩
       obtain⟨gW,yE,aO⟩:=Mx (w:=w) (B:=w0.heap.size) (ah:=ah) (ρ:=ρ) _ _ _ (parts.toList.map λp=>(p.1,a.eval p.2)) cs dL SF (by simp) (λj p q hp hq=>by
        rw[dH]at hp hq;cases hx:parts.toList[j]? with
        |none=>rw[hx]at hp;cases hp
        | some x=>
         rw[hx]at hp hq;injection hp with hp;injection hq with hq;subst hp hq;exact⟨rfl,hR.aF x.2⟩)
       have Y7:=Mz cs vs ia;have ahJ:gW.size=len*aB tc:=by rw[aO.1,Y7,eV,uo]
       have bq:(Instr.buildSlice t len (parts.map λ(i,x)=>(i,a.eval x))).run P w = .ok (.slice (some ⟨w.heap.size,0,none⟩) len len) (w.alloc (.cells gW e)):=by
        have Ic:(parts.map λ(i,x)=>(i,a.eval x)).toList=parts.toList.map λp=>(p.1,a.eval p.2):=by simp
        by_cases h0:len*aB tc=0
        ·have hm:madeCells z.cells (len*aB tc) = #[]:=by rw[h0];simp[madeCells]
         rw[hm]at yE;have SG:len*i.size=0:=by rw[dx];exact h0
         rw[<-dx]at yE;have e0:∀f:Nat->Value,Array.map f (Array.range 0) = #[]:=λf=>by simp
         simp only[Instr.buildSlice,fz,jr gi,kA,sizeOf,typeInfo];simp[hi,SG];rw[e0,yE];simp[newRow]
        ·exact run_buildSlice (P:=P) w t e len _ gW i z gi hi qI (by rw[dx];omega) (by rw[dx];exact h0) (by rw[dx,Ic];exact yE)
       refine⟨_,bP ah w.heap.size (some [d]),bP ρ d (.dP (.slice (some ⟨w.heap.size,0,none⟩) len len)),_,bq,(hR.ER (hR.dQ d (.inl hd)) (λr hr=>cL _ _ _ hr) (.sl _ _ (bY _ _ _) ?_)).set ⟨rfl,by simp[cE,bY]⟩ hd⟩
       have kZ:∀ i' (h':i'<l.length) j x,(enc tc 0 l[i'])[j]?=some x->∃ v,gW[i'*aB tc+j]?=some v/\∀ (w':World) (B':Nat) (aC:bE) (q':af Nat),RV w' B' aC q' x v:=by
        intro i' h' j x hx;obtain⟨y,hy,hw⟩:=kf i' h' j x hx;obtain⟨v,hv,hr⟩:=aO.2 (i'*aB tc+j) (.v y) (by rw[Y7,dH,hy];rfl);exact⟨v,hv,λw' B' aC q'=>(hr.2.wk hw).vj (Aw tc 0 l[i'] hf x (iy hx))⟩
       have:=RV.own (w:=w.alloc (.cells gW e)) (B:=w0.heap.size) (ah:=bP ah w.heap.size (some [d])) [d] tc 0 true l w.heap.size len gW (λi j=>(gW[i*aB tc+j]?).getD undef)
        (bY _ _ _) (by rw[ht];exact heap_alloc_new w _) ahJ (by omega) ⟨by have:=Nat.le_mul_of_pos_right len (qB tc);unfold maxLen;omega,λ_=>ET.symm⟩ (λi' h' j x hx=>?_) (λi' h' j x hx=>?_)
       ·rw[ET]at this;exact this
       ·obtain⟨v,hv,_⟩:=kZ i' h' j x hx;rw[hv];rfl
       ·obtain⟨v,hv,hr⟩:=kZ i' h' j x hx;rw[hv];exact hr _ _ _ _
      ·cases h
     ·cases h
    ·cases h
  ·cases h
 ·cases h
theorem Y8{mx:Bool}{x y:A}{k:A->aj X}(h:Cy mx x y k=some r):∃ z,k z=some r/\∀ (w:World) (B:Nat) (ah:bE) (ρ:Nat->Loc) (t ty:TypeId) (u v:Value),RA w B ah ρ x u->RA w B ah ρ y v->
  ∃t',((bif mx then Builtin.max_ #[t,t] ty #[u,v]else Builtin.min_ #[t,t] ty #[u,v]):Sem Value).run P w = .ok t' w/\RA w B ah ρ z t':=by
 unfold Cy at h;split at h
 ·refine⟨_,h,λw B ah ρ t ty u v hu hv=>?_⟩
  obtain rfl:=hu.2.jk;obtain rfl:=hv.2.jk;cases mx with
  |true=>exact⟨_,by simp[Builtin.max_,Builtin.max2],rfl,.int _ _ _⟩
  |false=>exact⟨_,by simp[Builtin.min_,Builtin.min2],rfl,.int _ _ _⟩
 ·cases h
theorem ahK{t:TypeId}{x i:A}{k:A->aj X}(h:Cz P t x i k=some r):∃ z,k z=some r/\∀ (w:World) (B:Nat) (ah:bE) (ρ:Nat->Loc) (u v:Value),RA w B ah ρ x u->RA w B ah ρ i v->
  ∃t',(Instr.index t u v).run P w = .ok t' w/\RA w B ah ρ z t':=by
 unfold Cz at h;split at h
 ·rename_i s kk iv;split at h
  ·rename_i hu;split at h
   ·rename_i hb
    refine⟨_,h,λw B ah ρ u v l8 hv=>?_⟩
    obtain rfl:=l8.2.yj;obtain rfl:=hv.2.jk;exact⟨_,by simp[Instr.index,asIntOf,jr hu,hb.1,hb.2],rfl,.int _ _ _⟩
   ·cases h
  ·cases h
 ·cases h
theorem Y9{src dst:TypeId}(h:AH P src dst=true):∃ e,P.underlying src=some (.slice e)/\P.underlying dst=some .string/\P.underlying e=some (.int .u8):=by
 unfold AH at h;split at h
 ·rename_i e h1 h2;split at h
  next h3=>exact⟨e,h1,h2,h3⟩
  ·cases h
 ·cases h
theorem Za(l:af Int)(i:Nat)(hi:i<l.length):l.getD i 0=l[i]:=by rw[iz,bT hi];rfl
theorem RV.toStr{src dst e:TypeId}(hs:P.underlying src=some (.slice e))(hd:P.underlying dst=some .string)(he:P.underlying e=some (.int .u8)){o:Nat}{qn:Bool}{l:af (T .u8)}{q:af Nat}{B:Nat}{u:Value}(h:RV w B ah q (.sl .u8 o qn l) u):
  (convert src dst u).run P w = .ok (.string (strOfNums l)) w:=by
 generalize hy:V.sl .u8 o qn l=y at h;cases h with
 |int=>cases hy
 |bool=>cases hy
 |str=>cases hy
 |nil=>cases hy
 | dc q t o'=>
  injection hy with e1 e2 e3 e4;subst e1;obtain rfl:=eq_of_heq e4;rw[run_convert_bytes_nil w src e hs he 0 0 dst hd];rfl
 | dg q t o' A c ho=>
  injection hy with e1 e2 e3 e4;subst e1;obtain rfl:=eq_of_heq e4;have hl:(loadCells A 0).run P w = .ok (([]:af Int).map (Value.int .u8)).toArray w:=run_loadCells_list (P:=P) w A [] (λj v hj=>by simp at hj);rw[run_convert_bytes_string w src dst e _ 0 c hs he hd,run_bytesToString w A 0 c [] hl];rfl
 | dz q t o' A c ho=>
  injection hy with e1 e2 e3 e4;subst e1;obtain rfl:=eq_of_heq e4;have hl:(loadCells A 0).run P w = .ok (([]:af Int).map (Value.int .u8)).toArray w:=run_loadCells_list (P:=P) w A [] (λj v hj=>by simp at hj);rw[run_convert_bytes_string w src dst e _ 0 c hs he hd,run_bytesToString w A 0 c [] hl];rfl
 | aA q t o' SH l' b off cap uu ho hl hb h1 ey hc hr=>
  injection hy with e1 e2 e3 e4;subst e1;obtain rfl:=eq_of_heq e4
  refine run_convert_bytes_arg w src e hs he b off _ cap l rfl (λi hi=>?_) dst hd
  have h2:=hc i hi 0 (.int .u8 l[i]) rfl;have h3:=(hr i hi 0 (.int .u8 l[i]) rfl).jk;simp only[aB,Nat.mul_one,Nat.add_zero]at h2;have hg:=Za (show af Int from l) i hi;rw[h2,h3];exact cA (λz=>some (Value.int .u8 z)) hg.symm
 | own q t o' SH l' b cap cs uu hl hh nD hn hm hc hr=>
  injection hy with e1 e2 e3 e4;subst e1;obtain rfl:=eq_of_heq e4
  refine run_convert_bytes_arg w src e hs he b 0 _ cap l rfl (λi hi=>?_) dst hd
  have h2:=hc i hi 0 (.int .u8 l[i]) rfl;have h3:=(hr i hi 0 (.int .u8 l[i]) rfl).jk;simp only[aB,Nat.mul_one,Nat.add_zero]at h2;have hg:=Za (show af Int from l) i hi;rw[h3]at h2;have h4:w.cell? ⟨b,0+i,none⟩=some (.int .u8 l[i]):=by simp[World.cell?,hh,h2]
  rw[h4];exact cA (λz=>some (Value.int .u8 z)) hg.symm
theorem ahL{src dst:TypeId}{x:A}{k:A->aj X}(h:pY P σ src dst x k=some r):∃ z,k z=some r/\∀ ah ρ a w,Rl w0 N ah ρ σ a w->∀ u,RA w w0.heap.size ah ρ x u->
  ∃t',(convert src dst u).run P w = .ok t' w/\RA w w0.heap.size ah ρ z t':=by
 unfold pY at h;split at h
 ·rename_i kk n;split at h
  ·rename_i d1 kd hs hd
   refine⟨_,h,λah ρ a w _ u hu=>?_⟩
   obtain rfl:=hu.2.jk;exact⟨_,by simp[convert,jr hs,jr hd,Conv.intToInt],rfl,.int _ _ _⟩
  ·cases h
 ·rename_i y _;have key:∃ z,(∀ ah ρ a w,Rl w0 N ah ρ σ a w->∀ u,dN w w0.heap.size ah ρ y u->∃ q,RV w w0.heap.size ah q z u)/\yD P src dst z k=some r:=by
   cases y with
   |v z=>exact⟨z,λah ρ a w _ u hu=>⟨[],hu.2⟩,h⟩
   |dead=>cases h
   | own q=>
    obtain⟨z,hz,h⟩:=uk q _ h
    refine⟨z,λah ρ a w hR u hu=>?_,h⟩
    obtain⟨v,hv,hr⟩:=hz.ok hR.root;have h3:=hu.2;rw[hv]at h3;injection h3 with h3;subst h3;exact⟨q,hr⟩
  obtain⟨z,hz,h2⟩:=key;clear h;unfold yD at h2;split at h2
  ·rename_i o qn l;cases ht:AH P src dst with
   |false=>rw[ht]at h2;cases h2
   | true=>
    rw[ht,aq]at h2;obtain⟨e,e1,e2,e3⟩:=Y9 ht
    refine⟨_,h2,λah ρ a w hR u hu=>?_⟩
    obtain⟨q,hr⟩:=hz ah ρ a w hR u hu;exact⟨_,hr.toStr e1 e2 e3,rfl,.str _ _⟩
  ·cases ht:AH P src dst with
   |false=>rw[ht]at h2;cases h2
   | true=>
    rw[ht,aq]at h2;obtain⟨e,e1,e2,e3⟩:=Y9 ht
    refine⟨_,h2,λah ρ a w hR u hu=>?_⟩
    obtain⟨q,hr⟩:=hz ah ρ a w hR u hu;cases hr;exact⟨_,by rw[run_convert_bytes_nil w src e e1 e3 0 0 dst e2];rfl,rfl,.str _ _⟩
  ·cases h2
 ·cases h
theorem ahM{s:TypeId}{x:A}{f:Nat}{k:A->aj X}(h:AF P s x f k=some r):∃ z,k z=some r/\∀ (w:World) (B:Nat) (ah:bE) (ρ:Nat->Loc) (u:Value),RA w B ah ρ x u->
  ∃t',(Instr.field s u f).run P w = .ok t' w/\RA w B ah ρ z t':=by
 unfold AF at h;split at h
 ·rename_i fd cs qG;have jl:∃ fs,P.underlying s=some (.struct fs)/\fs[f]?=some fd:=by
   unfold HU at qG;split at qG
   next fs hu=>exact⟨fs,hu,qG⟩
   ·cases qG
  obtain⟨fs,gD,pZ⟩:=jl;split at h
  ·rename_i n hn jZ;split at h
   ·rename_i hle
    refine⟨_,h,λw B ah ρ u hu=>?_⟩
    obtain⟨us,rfl,hR⟩:=hu;have yl:(isAgg fd.type).run P w = .ok true w:=by
     unfold EN at jZ;split at jZ
     next fs' hu=>unfold isAgg;rw[fz,jr hu w];rfl
     next c e hu=>unfold isAgg;rw[fz,jr hu w];rfl
     ·cases jZ
     ·cases jZ
    unfold ld at hn;cases hi:P.info? fd.type with
    |none=>simp[hi]at hn
    | some i=>
     have sP:i.size=n:=by simpa [hi]using hn
     refine⟨.agg (us.extract fd.offset (fd.offset+n)),by simp[Instr.field,jr gD,pZ,asAgg,part,fz,yl,sizeOf,typeInfo,hi,sP],_,rfl,?_,λj y hy=>?_⟩
     ·have:=hR.1;simp;omega
     ·obtain⟨hj,fP⟩:=Mj _ _ _ _ _ hy;obtain⟨v,hv,hr⟩:=hR.2 _ y fP;refine⟨v,?_,hr⟩;rw[Array.getElem?_extract];have:=hR.1;rw[bu (by omega)];exact hv
   ·cases h
  ·rename_i n hn jZ;split at h
   ·rename_i y hy
    refine⟨_,h,λw B ah ρ u hu=>?_⟩
    obtain⟨us,rfl,hR⟩:=hu;obtain⟨v,hv,hr⟩:=hR.2 _ y hy;have yl:(isAgg fd.type).run P w = .ok false w:=by
     unfold EN at jZ;split at jZ
     ·cases jZ
     ·cases jZ
     next d hs ha hu=>unfold isAgg;rw[fz,jr hu w];cases d<;>first|rfl|(rename_i x;exact absurd rfl (hs x))|(rename_i x y;exact absurd rfl (ha x y))|simp_all
     ·cases jZ
    exact⟨v,by simp[Instr.field,jr gD,pZ,asAgg,part,fz,yl,hv],hr⟩
   ·cases h
  ·cases h
 ·cases h
end
end Go.Proofs.YtcioagfjiccleaaGreat
namespace Go.Proofs.YtcioagfjiccleaaGreat
open Go.RowKit
set_option linter.unusedVariables false
def V.val:V->Value
 |.int k n=>.int k n
 |.bool b=>.bool b
 |.str s=>.string s
 |_=>undef
def MA:TypeDesc->V->V->aj Bool
 |.int _,.int k a,.int k' b=>if k=k' then some (a==b)else none
 |.bool,.bool a,.bool b=>some (a==b)
 |.string,.str a,.str b=>some (a.toList==b.toList)
 |_,_,_=>none
def Ie(P:Program)(g:TypeId->af V->af V->aj Bool)(xs ys:af V):af Field->aj Bool
 |[]=>some true
 | f :: fs=>bif f.name == "_" then Ie P g xs ys fs else (match ld P f.type with
  | some n=>bif Nat.ble (f.offset+n) xs.length then (match g f.type ((xs.drop f.offset).take n) ((ys.drop f.offset).take n),Ie P g xs ys fs with
   |some a,some b=>some (a&&b)
   |_,_=>none)else none
  |none=>none)
def AI(P:Program):Nat->TypeId->af V->af V->aj Bool
 |0,_,_,_=>none
 | n+1,t,xs,ys=>match P.underlying t with
  |some (.struct fs)=>bif P.stoodInHeld t ||!Nat.beq xs.length ys.length then none else Ie P (AI P n) xs ys fs.toList
  | some d=>(match xs,ys with
   |[x],[y]=>MA d x y
   |_,_=>none)
  |none=>none
def MB:BinOp->aj Bool
 |.eql=>some false
 |.neq=>some true
 |_=>none
def kT{α:Type}:af α->Bool
 |[]=>true
 |_=>false
def isStr(P:Program)(t:TypeId):Bool:=match P.underlying t with
 |some (.struct _)=>true
 |_=>false
def om{X:Type}(P:Program)(σ:S)(op:BinOp)(t:TypeId)(x y:A)(k:A->aj X):aj X:=
 match MB op,x,y with
 | some ng,.agg cs,.agg ds=>(match sS cs,sS ds with
  | some xs,some ys=>bif P.eqGuardType P.depth t || !isStr P t then none else (match AI P 20 t xs ys with
   |some b=>k (.lf (.v (.bool (bif ng then !b else b))))
   |none=>none)
  |_,_=>none)
 | some ng,.lf l,.lf (.v .nil)=>(match rT P t with
  | some _=>jY σ l λz=>(match z with
   |.nil=>k (.lf (.v (.bool (bif ng then false else true))))
   |.sl _ _ true _=>k (.lf (.v (.bool (bif ng then true else false))))
   |.sl _ _ false l=>bif kT l then none else k (.lf (.v (.bool (bif ng then true else false))))
   |_=>none)
  |none=>none)
 |_,_,_=>vK x λa=>vK y λb=>o6 P t op a b λz=>k (.lf (.v z))
section
variable {P:Program} {w w':World} {w0:Wd} {B N:Nat} {ah aC:bE} {ρ ρ':Nat->Loc} {σ:S} {a:Act} {X:Type} {d:Nat} {r:X} {o:Oper}
theorem ahN{ds:TypeDesc}{x y:V}{b:Bool}{t:TypeId}{n:Nat}(ht:P.underlying t=some ds)(h:MA ds x y=some b):(Op.equalIn (n+1) t x.val y.val).run P w = .ok b w:=by
 unfold MA at h;split at h
 ·split at h
  next k' _ a k b' hk=>subst hk;injection h with h;subst h;exact run_equalIn_int w n t _ _ _ _ ht
  ·cases h
 ·injection h with h;subst h;exact run_equalIn_bool' w n t _ _ ht
 ·injection h with h;subst h;exact run_equalIn_string w n t _ _ ht
 ·cases h
def vr(P:Program)(t:TypeId)(xs:af V)(u:Value):Prop:=
 match P.underlying t with
 |some (.struct _)=>u = .agg (xs.map V.val).toArray
 |_=>∃x,xs=[x]/\u=x.val
theorem Zb{t:TypeId}{n off:Nat}{xs:af V}(hn:ld P t=some n)(hle:off+n<=xs.length)(hu:∃ d,P.underlying t=some d/\(∀ c e,d ≠ .array c e)/\((∀ fs,d ≠ .struct fs)->n=1)):
  ∃u,(part t (xs.map V.val).toArray off).run P w = .ok u w/\vr P t ((xs.drop off).take n) u:=by
 obtain⟨d,hd,ha,h1⟩:=hu;unfold ld at hn;cases hi:P.info? t with
 |none=>simp[hi]at hn
 | some i=>
  have sP:i.size=n:=by simpa [hi]using hn
  by_cases hs:∃fs,d = .struct fs
  ·obtain⟨fs,rfl⟩:=hs;have yl:(isAgg t).run P w = .ok true w:=by
    unfold isAgg;rw[fz,jr hd w];rfl
   refine⟨.agg ((xs.map V.val).toArray.extract off (off+n)),by simp[part,fz,yl,sizeOf,typeInfo,hi,sP],?_⟩;unfold vr;rw[hd];simp only;congr 1;apply Array.ext';simp[List.map_drop,List.map_take]
  ·have yl:(isAgg t).run P w = .ok false w:=by
    unfold isAgg;rw[fz,jr hd w];cases d<;>first|rfl|(exfalso;exact hs ⟨_,rfl⟩)|(exfalso;exact ha _ _ rfl)
   have AJ:n=1:=h1 λfs e=>hs ⟨fs,e⟩
   subst AJ;have bC:off<xs.length:=by omega
   have kZ:(xs.map V.val).toArray[off]?=some (xs[off]).val:=by simp[bC]
   refine⟨(xs[off]).val,by simp[part,fz,yl,kZ],?_⟩;have e1:(xs.drop off).take 1=[xs[off]]:=by
    rw[List.drop_eq_getElem_cons bC];rfl
   unfold vr;rw[hd];split
   next fs e=>injection e with e;exact absurd ⟨fs,e⟩ hs
   ·exact⟨_,e1,rfl⟩
theorem ahO{n:Nat}{t:TypeId}{xs ys:af V}{b:Bool}(h:AI P n t xs ys=some b):∃ d,P.underlying t=some d/\(∀ c e,d ≠ .array c e)/\((∀ fs,d ≠ .struct fs)->xs.length=1):=by
 cases n with
 |zero=>cases h
 | succ n=>
  unfold AI at h;split at h
  next fs pZ=>exact⟨_,pZ,(λc e h=>by cases h),λh=>absurd rfl (h fs)⟩
  ·rename_i d vl hd;split at h
   next x y=>exact⟨d,hd,(λc e he=>by subst he;simp[MA]at h),λ_=>rfl⟩
   ·cases h
  ·cases h
theorem SI{n:Nat}{xs ys:af V}(hlen:xs.length=ys.length)(IH:∀ t xs ys b,AI P n t xs ys=some b->∀ u v,vr P t xs u->vr P t ys v->∀ k,(Op.equalIn (k+n) t u v).run P w = .ok b w)(k:Nat):∀ (fs:af Field) (b:Bool),Ie P (AI P n) xs ys fs=some b->
  (Op.eqFields (k+n) (xs.map V.val).toArray (ys.map V.val).toArray fs).run P w = .ok b w
 | [],b,h=>by
  injection h with h;subst h;simp[Op.eqFields]
 | f :: fs,b,h=>by
  unfold Ie at h;cases dR:f.name == "_" with
  | true=>
   rw[dR,aq]at h;have:f.name = "_":=by simpa using dR
   simp only[Op.eqFields,this,ne_eq,not_true,if_false];exact SI hlen IH k fs b h
  | false=>
   rw[dR,au]at h;have bg:f.name ≠ "_":=by simpa using dR
   split at h
   ·rename_i s hs;cases hle:Nat.ble (f.offset+s) xs.length with
    |false=>rw[hle]at h;cases h
    | true=>
     rw[hle,aq]at h;have hle:=cH hle;split at h
     ·rename_i c e h1 h2;injection h with h;subst h;obtain⟨d1,CA,Zc,nI⟩:=ahO h1;have o9:((xs.drop f.offset).take s).length=s:=by simp;omega
      obtain⟨u,EU,qO⟩:=Zb (w:=w) hs hle ⟨d1,CA,Zc,λh=>o9.symm.trans (nI h)⟩;obtain⟨v,wP,yF⟩:=Zb (w:=w) (xs:=ys) (off:=f.offset) hs (by omega) ⟨d1,CA,Zc,λh=>o9.symm.trans (nI h)⟩;have hr:=IH _ _ _ c h1 u v qO yF k;have lA:=SI hlen IH k fs e h2;simp only[Op.eqFields,bg,ne_eq,not_false_eq_true,if_true,fz,EU,wP,hr,kA];cases c
      ·simp
      ·simpa using lA
     ·cases h
   ·cases h
theorem Zd:∀ (n:Nat) (t:TypeId) (xs ys:af V) (b:Bool),AI P n t xs ys=some b->∀ u v,vr P t xs u->vr P t ys v->∀ k,(Op.equalIn (k+n) t u v).run P w = .ok b w
 |0,t,xs,ys,b,h=>by cases h
 | n+1,t,xs,ys,b,h=>by
  intro u v hu hv k;unfold AI at h;split at h
  ·rename_i fs pZ;cases hc:(P.stoodInHeld t || !Nat.beq xs.length ys.length)with
   |true=>rw[hc]at h;cases h
   | false=>
    rw[hc,au]at h;rw[oX,Bool.not_eq_false']at hc;have hlen:=cz hc.2;unfold vr at hu hv;rw[pZ]at hu hv;simp only at hu hv;subst hu hv;have hf:P.fieldsOf t=fs:=by simp[Program.fieldsOf,pZ]
    rw[<-Nat.add_assoc,run_equalIn_struct w (k+n) t _ _ (by rw[hf];exact pZ) hc.1,hf];exact SI hlen (Zd n) k fs.toList b h
  ·rename_i d vl hd;split at h
   ·rename_i x y;unfold vr at hu hv;rw[hd]at hu hv;split at hu
    next fs e=>injection e with e;exact absurd e (vl fs)
    ·split at hv
     next fs e=>injection e with e;exact absurd e (vl fs)
     ·obtain⟨x',e1,rfl⟩:=hu;obtain⟨y',e2,rfl⟩:=hv;injection e1 with e1;injection e2 with e2;subst e1 e2;exact ahN hd h
   ·cases h
  ·cases h
theorem Ze{cs:af Lf}{xs:af V}(h:sS cs=some xs){u:Value}(hu:RA w B ah ρ (.agg cs) u):u = .agg (xs.map V.val).toArray:=by
 obtain⟨e,hp⟩:=Mk _ _ h;obtain⟨us,rfl,hs,hr⟩:=hu;congr 1;apply Array.ext';apply List.ext_getElem?;intro j;rw[List.toList_toArray,dH,nu];cases hx:xs[j]? with
 | none=>
  rw[Option.map_none];refine Array.getElem?_eq_none ?_;rw[hs,e,eV];exact List.getElem?_eq_none_iff.1 hx
 | some x=>
  obtain⟨v,hv,wQ⟩:=hr j (.v x) (by rw[e,dH,hx];rfl);rw[hv,jU];congr 1;have:=hp x (iy hx);have h2:=wQ.2;cases h2<;>first|rfl|cases this
theorem EV{op:BinOp}{ng:Bool}(iR:MB op=some ng){t e:TypeId}(ht:P.underlying t=some (.slice e))(xo yo:Operand)(A:aj Addr)(n c:Nat):
  (do eqGuard op t xo yo (.slice A n c) (.slice none 0 0);binOp op t (.slice A n c) (.slice none 0 0):Sem Value).run P w = .ok (.bool (bif ng then !A.isNone else A.isNone)) w:=by
 have he:(Op.equal t (.slice A n c) (.slice none 0 0)).run P w = .ok A.isNone w:=by
  have h:∀ d,(Op.equalIn (d+1) t (.slice A n c) (.slice none 0 0)).run P w = .ok A.isNone w:=by
   intro d;cases A<;>simp[Op.equalIn,jr ht]
  exact h 9999
 cases op<;>simp[MB]at iR<;>subst iR<;>simp[eqGuard,binOp,he]
theorem ahP{op:BinOp}{t:TypeId}{x y:A}{k:A->aj X}(h:om P σ op t x y k=some r):∃ z,k z=some r/\∀ ah ρ a w,Rl w0 N ah ρ σ a w->∀ xo yo u v,RA w w0.heap.size ah ρ x u->RA w w0.heap.size ah ρ y v->
  ∃t',(do eqGuard op t xo yo u v;binOp op t u v:Sem Value).run P w = .ok t' w/\RA w w0.heap.size ah ρ z t':=by
 unfold om at h;split at h
 ·rename_i ng cs ds iR;split at h
  ·rename_i xs ys iQ m7;cases hg:(P.eqGuardType P.depth t || !isStr P t)with
   |true=>rw[hg]at h;cases h
   | false=>
    rw[hg,au]at h;rw[oX,Bool.not_eq_false']at hg;obtain⟨hg,jl⟩:=hg;split at h
    ·rename_i b hb
     refine⟨_,h,λah ρ a w hR xo yo u v hu hv=>?_⟩
     have hu:=Ze iQ hu;have hv:=Ze m7 hv;subst hu hv;have hs:∃ fs,P.underlying t=some (.struct fs):=by
      unfold isStr at jl;split at jl
      next fs pZ=>exact⟨fs,pZ⟩
      ·cases jl
     obtain⟨fs,pZ⟩:=hs;have hr:=Zd (w:=w) 20 t xs ys b hb (.agg (xs.map V.val).toArray) (.agg (ys.map V.val).toArray) (by unfold vr;rw[pZ]) (by unfold vr;rw[pZ]) 9980;refine⟨.bool (bif ng then !b else b),?_,rfl,.bool _ _⟩;rw[fz,run_eqGuard_agg w op t xo yo _ _ hg,kA];cases op<;>simp[MB]at iR<;>subst iR
     ·rw[run_eql_struct,hr];rfl
     ·rw[run_neq_struct,hr];rfl
    ·cases h
  ·cases h
 ·rename_i ng l iR;split at h
  ·rename_i e he;have ht:P.underlying t=some (.slice e):=by
    unfold rT at he;split at he
    next e' hu=>injection he with he;rw[<-he];exact hu
    ·cases he
   obtain⟨z,hz,h2⟩:=SB (w0:=w0) (N:=N) h;clear h;split at h2
   ·refine⟨_,h2,λah ρ a w hR xo yo u v hu hv=>?_⟩
    obtain⟨q,hq⟩:=hz ah ρ a w hR u hu;cases hq;cases hv.2;exact⟨_,EV iR ht xo yo none 0 0,rfl,by cases ng<;>exact .bool _ _⟩
   ·refine⟨_,h2,λah ρ a w hR xo yo u v hu hv=>?_⟩
    obtain⟨q,hq⟩:=hz ah ρ a w hR u hu;cases hv.2;cases hq with
    |aA _ _ _ _ _ b off cap us ho hl hb h1 ey hc hr=>exact⟨_,EV iR ht xo yo _ _ _,rfl,by cases ng<;>exact .bool _ _⟩
    |own=>exact⟨_,EV iR ht xo yo _ _ _,rfl,by cases ng<;>exact .bool _ _⟩
    |dz=>exact⟨_,EV iR ht xo yo _ _ _,rfl,by cases ng<;>exact .bool _ _⟩
   ·rename_i t' o' l';cases hl:kT l' with
    |true=>rw[hl]at h2;cases h2
    | false=>
     rw[hl,au]at h2
     refine⟨_,h2,λah ρ a w hR xo yo u v hu hv=>?_⟩
     obtain⟨q,hq⟩:=hz ah ρ a w hR u hu;cases hv.2;cases hq with
     |dc=>cases hl
     |dg=>cases hl
     |aA _ _ _ _ _ b off cap us ho gR hb h1 ey hc hr=>exact⟨_,EV iR ht xo yo _ _ _,rfl,by cases ng<;>exact .bool _ _⟩
     |own=>exact⟨_,EV iR ht xo yo _ _ _,rfl,by cases ng<;>exact .bool _ _⟩
   ·cases h2
  ·cases h
 ·obtain⟨u0,hx,h1⟩:=Mi h;obtain⟨v0,hy,h2⟩:=Mi h1;obtain⟨z,h3,hp,hs⟩:=ahg h2;subst hx hy
  refine⟨_,h3,λah ρ a w hR xo yo u v hu hv=>?_⟩
  obtain⟨t',bq,hr⟩:=hs w _ ah xo yo [] [] _ _ hu.2 hv.2;exact⟨t',bq,V.HT hp,hr⟩
/-! Parts of slices that nobody writes. -/
theorem EW{x:aj A}{vt:Int}{k:Int->aj X}(h:yC x vt k=some r):∃ n,k n=some r/\(∀ (X':Type) (k':Int->aj X'),yC x vt k'=k' n)/\((x=none/\n=vt)\/∃ kd,x=some (.lf (.v (.int kd n)))):=by
 unfold yC at h;split at h
 ·exact⟨_,h,λ_ _=>rfl,.inl ⟨rfl,rfl⟩⟩
 ·exact⟨_,h,λ_ _=>rfl,.inr ⟨_,rfl⟩⟩
 ·cases h
theorem ahQ{t:TypeId}{x:A}{lo hi:aj A}{k:A->aj X}(h:AG P t x lo hi k=some r):∃ y,k y=some r/\(∀ (X':Type) (k':A->aj X'),AG P t x lo hi k'=k' y)/\
  ((∃ (s:ByteArray) (l h:Int),x = .lf (.v (.str s))/\P.underlying t=some .string/\((lo=none/\l=0)\/∃ kd,lo=some (.lf (.v (.int kd l))))/\((hi=none/\h=s.size)\/∃ kd,hi=some (.lf (.v (.int kd h))))/\0<=l/\l<=h/\h<=(s.size:Int)/\y = .lf (.v (.str (s.extract l.toNat h.toNat))))\/
   ∃(tc:TC) (g:Nat) (qn:Bool) (xs:af (T tc)) (e:TypeId) (l h:Int),x = .lf (.v (.sl tc g qn xs))/\rT P t=some e/\ld P e=some (aB tc)/\g<2/\((lo=none/\l=0)\/∃kd,lo=some (.lf (.v (.int kd l))))/\((hi=none/\h=xs.length)\/∃kd,hi=some (.lf (.v (.int kd h))))/\0<=l/\l<=h/\h<=(xs.length:Int)/\y = .lf (.v (.sl tc g false ((xs.take h.toNat).drop l.toNat)))):=by
 unfold AG at h;split at h
 ·rename_i s;split at h
  ·rename_i hu;obtain⟨l,h1,d1,e1⟩:=EW h;obtain⟨m,h2,d2,e2⟩:=EW h1;split at h2
   ·rename_i hb
    refine⟨_,h2,λX' k'=>?_,.inl ⟨s,l,m,rfl,hu,e1,e2,hb.1,hb.2.1,hb.2.2,rfl⟩⟩
    simp only[AG,hu];rw[d1,d2,bu hb]
   ·cases h2
  ·cases h
 ·rename_i tc g qn xs;split at h
  ·rename_i e he;split at h
   ·rename_i n hn;split at h
    ·rename_i n8;subst n8;cases hg:Nat.blt g 2 with
     |false=>rw[hg]at h;cases h
     | true=>
      rw[hg,aq]at h;obtain⟨l,h1,d1,e1⟩:=EW h;obtain⟨m,h2,d2,e2⟩:=EW h1;split at h2
      ·rename_i hb
       refine⟨_,h2,λX' k'=>?_,.inr ⟨tc,g,qn,xs,e,l,m,rfl,he,hn,cH hg,e1,e2,hb.1,hb.2.1,hb.2.2,rfl⟩⟩
       simp only[AG,he,hn,if_true,hg,aq];rw[d1,d2,bu hb]
      ·cases h2
    ·cases h
   ·cases h
  ·cases h
 ·cases h
theorem Zf{t:TypeId}{x:A}{lo hi:aj A}{k:A->aj X}(h:AG P t x lo hi k=some r):∃ y,k y=some r/\(∀ (X':Type) (k':A->aj X'),AG P t x lo hi k'=k' y)/\
  ∀ (w:World) (B:Nat) (ah:bE) (ρ:Nat->Loc) (u:Value) (lv hv:aj Value),RA w B ah ρ x u->(∀ a,lo=some a->∃ v,lv=some v/\RA w B ah ρ a v)->(lo=none->lv=none)->(∀ a,hi=some a->∃ v,hv=some v/\RA w B ah ρ a v)->(hi=none->hv=none)->
   ∃t',(Instr.sliceAt t u lv hv none).run P w = .ok t' w/\RA w B ah ρ y t':=by
 obtain⟨y,h1,hd,hc⟩:=ahQ h
 refine⟨y,h1,hd,λw B ah ρ u lv hv hu o9 gF AK wR=>?_⟩
 have bl:∀ {o:aj A} {ov:aj Value} {n vt:Int},(∀ a,o=some a->∃ v,ov=some v/\RA w B ah ρ a v)->(o=none->ov=none)->((o=none/\n=vt)\/∃ kd,o=some (.lf (.v (.int kd n))))->(ov=none/\n=vt)\/∃ kd,ov=some (.int kd n):=by
  intro o ov n vt g1 g2 g3;rcases g3 with ⟨e,e'⟩|⟨kd,e⟩
  ·exact .inl ⟨g2 e,e'⟩
  ·obtain⟨v,hv,hr⟩:=g1 _ e;exact .inr ⟨kd,by rw[hv,hr.2.jk]⟩
 rcases hc with ⟨s,l,m,rfl,gi,e1,e2,b1,b2,b3,rfl⟩|⟨tc,g,qn,xs,e,l,m,rfl,he,hn,hg,e1,e2,b1,b2,b3,rfl⟩
 ·have h5:=bl o9 gF e1;have h6:=bl AK wR e2;obtain rfl:=hu.2.yj;have em:(m.toNat:Int)=m:=Int.toNat_of_nonneg (by omega);refine⟨.string (s.extract l.toNat m.toNat),?_,rfl,.str _ _⟩;rw[run_sliceAt_string w t _ _ _ _ gi];have l9:0<=m:=by omega
  rcases h5 with ⟨rfl,h7⟩|⟨kl,rfl⟩<;>rcases h6 with ⟨rfl,h8⟩|⟨kh,rfl⟩
  all_goals simp_all [Instr.slice,jr gi,Instr.sliceBounds,run_sliceBound]
 ·have h5:=bl o9 gF e1;have h6:=bl AK wR e2;have gi:P.underlying t=some (.slice e):=by
   unfold rT at he;split at he
   next e' l8=>injection he with he;rw[<-he];exact l8
   ·cases he
  have kf:P.elem t=e:=by simp[Program.elem,gi]
  have r5:P.underlying t=some (.slice (P.elem t)):=by rw[kf];exact gi
  have vu:(sizeOf (P.elem t)).run P w = .ok (aB tc) w:=by
   unfold ld at hn;cases hi:P.info? e with
   |none=>simp[hi]at hn
   | some i=>
    have:i.size=aB tc:=by simpa [hi]using hn
    simp[sizeOf,typeInfo,kf,hi,this]
  have gD:∃ A n c,u = .slice A n c:=by
   cases hu.2 with
   |dc=>exact⟨_,_,_,rfl⟩
   |dg=>exact⟨_,_,_,rfl⟩
   |dz=>exact⟨_,_,_,rfl⟩
   |aA=>exact⟨_,_,_,rfl⟩
   |own=>exact⟨_,_,_,rfl⟩
  obtain⟨A,n,c,rfl⟩:=gD;obtain⟨hp,AJ,EX⟩:=hu.2.part (a:=l.toNat) (h:=m.toNat) hg (by omega) (by omega);refine⟨_,?_,by simp[V.aA,hg],hp⟩;rw[run_sliceAt_slice w t _ _ _ _ r5];rcases h5 with ⟨rfl,rfl⟩|⟨kl,rfl⟩<;>rcases h6 with ⟨rfl,rfl⟩|⟨kh,rfl⟩
  ·rw[run_slice_all w t A n c r5,vu,AJ];simp
  ·rw[run_slice_h w t A n c r5 kh m (by omega) (by omega),vu];simp
  ·rw[run_slice_l w t A n c r5 kl l (by omega) (by omega),vu,AJ];simp
  ·rw[run_slice_lh w t A n c r5 kl kh l m (by omega) (by omega) (by omega),vu];simp
/-! Parts of slices that are owned. -/
def Ig{X:Type}(n:Nat)(q:af Nat)(dh:aj Nat)(lo hi:aj A)(y:V)(k:A->aj X):aj X:=
 match y with
 |.sl t' _ _ l=>if n=aB t' then yC lo 0 λa=>yC hi ((dh.getD l.length:Nat):Int) λb=>if 0<=a/\a<=b/\b<=(l.length:Int)then k (.view q n a.toNat b.toNat)else none else none
 |_=>none
def qa{X:Type}(P:Program)(σ:S)(t:TypeId)(q:af Nat)(dh:aj Nat)(lo hi:aj A)(k:A->aj X):aj X:=
 match rT P t with
 | some e=>(match ld P e with
  |some n=>gV σ.m q λy=>Ig n q dh lo hi y k
  |none=>none)
 |none=>none
def sX{X:Type}(P:Program)(σ:S)(t:TypeId)(x:A)(lo hi:aj A)(k:A->aj X):aj X:=
 match x with
 |.lf (.own q)=>qa P σ t q none lo hi k
 |.view q _ 0 j=>qa P σ t q (some j) lo hi k
 |x=>AG P t x lo hi k
theorem Zg{n:Nat}{q:af Nat}{dh:aj Nat}{lo hi:aj A}{y:V}{k:A->aj X}(h:Ig n q dh lo hi y k=some r):∃ (tc:TC) (g:Nat) (qn:Bool) (xs:af (T tc)) (l h:Int),y = .sl tc g qn xs/\n=aB tc/\
  ((lo=none/\l=0)\/∃kd,lo=some (.lf (.v (.int kd l))))/\((hi=none/\h=((dh.getD xs.length:Nat):Int))\/∃kd,hi=some (.lf (.v (.int kd h))))/\0<=l/\l<=h/\h<=(xs.length:Int)/\k (.view q n l.toNat h.toNat)=some r/\
  ∀(X':Type) (k':A->aj X'),Ig n q dh lo hi y k'=k' (.view q n l.toNat h.toNat):=by
 unfold Ig at h;split at h
 ·rename_i tc g qn xs;split at h
  ·rename_i n8;obtain⟨l,h1,d1,e1⟩:=EW h;obtain⟨m,h2,d2,e2⟩:=EW h1;split at h2
   ·rename_i hb
    refine⟨tc,g,qn,xs,l,m,rfl,n8,e1,e2,hb.1,hb.2.1,hb.2.2,h2,λX' k'=>?_⟩
    simp only[Ig,bu n8];rw[d1,d2,bu hb]
   ·cases h2
  ·cases h
 ·cases h
theorem Zh{t:TypeId}{q:af Nat}{dh:aj Nat}{lo hi:aj A}{k:A->aj X}(h:qa P σ t q dh lo hi k=some r):∃ y,k y=some r/\
  ∀ ah ρ a w,Rl w0 N ah ρ σ a w->∀ (D:aj Addr) (n c h0:Nat) (lv hv:aj Value),cE w ah ρ q=some (.slice D n c)->h0=dh.getD n->h0<=n->(∀ a,lo=some a->∃ v,lv=some v/\RA w w0.heap.size ah ρ a v)->(lo=none->lv=none)->(∀ a,hi=some a->∃ v,hv=some v/\RA w w0.heap.size ah ρ a v)->(hi=none->hv=none)->
   ∃t',(Instr.sliceAt t (.slice D h0 c) lv hv none).run P w = .ok t' w/\RA w w0.heap.size ah ρ y t':=by
 unfold qa at h;split at h
 ·rename_i e he;split at h
  ·rename_i n hn;obtain⟨y0,SJ,h2⟩:=uk q _ h;obtain⟨tc,g,qn,xs,l,m,rfl,n8,e1,e2,b1,b2,b3,h3,_⟩:=Zg h2
   refine⟨_,h3,λah ρ a w hR D n' c h0 lv hv fG SK hle o9 gF AK wR=>?_⟩
   have bl:∀ {o:aj A} {ov:aj Value} {n vt:Int},(∀ a,o=some a->∃ v,ov=some v/\RA w w0.heap.size ah ρ a v)->(o=none->ov=none)->((o=none/\n=vt)\/∃ kd,o=some (.lf (.v (.int kd n))))->(ov=none/\n=vt)\/∃ kd,ov=some (.int kd n):=by
    intro o ov n vt g1 g2 g3;rcases g3 with ⟨e,e'⟩|⟨kd,e⟩
    ·exact .inl ⟨g2 e,e'⟩
    ·obtain⟨v,hv,hr⟩:=g1 _ e;exact .inr ⟨kd,by rw[hv,hr.2.jk]⟩
   have h5:=bl o9 gF e1;have h6:=bl AK wR e2;have gi:P.underlying t=some (.slice e):=by
    unfold rT at he;split at he
    next e' l8=>injection he with he;rw[<-he];exact l8
    ·cases he
   have kf:P.elem t=e:=by simp[Program.elem,gi]
   have r5:P.underlying t=some (.slice (P.elem t)):=by rw[kf];exact gi
   have vu:(sizeOf (P.elem t)).run P w = .ok n w:=by
    unfold ld at hn;cases hi:P.info? e with
    |none=>simp[hi]at hn
    | some i=>
     have:i.size=n:=by simpa [hi]using hn
     simp[sizeOf,typeInfo,kf,hi,this]
   obtain⟨v0,qL,di⟩:=SJ.ok hR.root;rw[fG]at qL;injection qL with qL;subst qL;have hf:RV w 0 (λ_=>none) [] (.sl tc 0 qn xs) (.slice D n' c):=di.ja;obtain⟨hp,AJ,EX⟩:=hf.part (a:=l.toNat) (h:=m.toNat) (by omega) (by omega) (by omega);have ahR:((dh.getD xs.length:Nat):Int)=(h0:Int):=by rw[SK,AJ]
   rw[ahR]at h6;refine⟨sliced D l.toNat m.toNat c n,?_,D,n',c,fG,by omega,by omega,rfl⟩;rw[run_sliceAt_slice w t _ _ _ _ r5];rcases h5 with ⟨rfl,rfl⟩|⟨kl,rfl⟩<;>rcases h6 with ⟨rfl,rfl⟩|⟨kh,rfl⟩
   ·rw[run_slice_all w t D h0 c r5,vu];simp
   ·rw[run_slice_h w t D h0 c r5 kh m (by omega) (by omega),vu];simp
   ·rw[run_slice_l w t D h0 c r5 kl l (by omega) (by omega),vu];simp
   ·rw[run_slice_lh w t D h0 c r5 kl kh l m (by omega) (by omega) (by omega),vu];simp
  ·cases h
 ·cases h
theorem ahS{t:TypeId}{x:A}{lo hi:aj A}{k:A->aj X}(h:sX P σ t x lo hi k=some r):∃ y,k y=some r/\
  ∀ ah ρ a w,Rl w0 N ah ρ σ a w->∀ (u:Value) (lv hv:aj Value),RA w w0.heap.size ah ρ x u->(∀ a,lo=some a->∃ v,lv=some v/\RA w w0.heap.size ah ρ a v)->(lo=none->lv=none)->(∀ a,hi=some a->∃ v,hv=some v/\RA w w0.heap.size ah ρ a v)->(hi=none->hv=none)->
   ∃t',(Instr.sliceAt t u lv hv none).run P w = .ok t' w/\RA w w0.heap.size ah ρ y t':=by
 unfold sX at h;split at h
 ·rename_i q;obtain⟨y,h1,hs⟩:=Zh (w0:=w0) (N:=N) h
  refine⟨y,h1,λah ρ a w hR u lv hv hu o9 gF AK wR=>?_⟩
  have gM:∃ A n c,u = .slice A n c:=by
   have:=hu.1;cases u<;>first|cases this;done|exact⟨_,_,_,rfl⟩
  obtain⟨A,n,c,rfl⟩:=gM;exact hs ah ρ a w hR A n c n lv hv hu.2 rfl (gZ _) o9 gF AK wR
 ·rename_i q s j;obtain⟨y,h1,hs⟩:=Zh (w0:=w0) (N:=N) h
  refine⟨y,h1,λah ρ a w hR u lv hv hu o9 gF AK wR=>?_⟩
  obtain⟨A,n,c,fG,_,a2,rfl⟩:=hu;have e:sliced A 0 j c s = .slice A j c:=by cases A<;>simp[sliced,Addr.add]
  rw[e];exact hs ah ρ a w hR A n c j lv hv fG rfl a2 o9 gF AK wR
 ·obtain⟨y,h1,_,hs⟩:=Zf h;exact⟨y,h1,λah ρ a w _ u lv hv=>hs w _ ah ρ u lv hv⟩
end
end Go.Proofs.YtcioagfjiccleaaGreat
namespace Go.Proofs.YtcioagfjiccleaaGreat
open Go.RowKit
set_option linter.unusedVariables false
abbrev Pt:=Bool×af V
def PV(w:World)(B:Nat)(ah:bE)(key:Nat->af Nat)(p:Pt)(u:Value):Prop:=
 ∃us:Array Value,(match p.1 with|true=>u = .agg us|false=>us = #[u])/\us.size=p.2.length/\∀(j:Nat) x,p.2[j]?=some x->∃v,us[j]?=some v/\RV w B ah (key j) x v
def AL(w:World)(cs:af V)(u:Value):Prop:=
 ∃b off,u = .pointer (some ⟨b,off,none⟩)/\b<w.heap.size/\∀(j:Nat) x,cs[j]?=some x->∃v,w.cell? ⟨b,off+j,none⟩=some v/\RV w w.heap.size (λ_=>none) [] x v
inductive PA (w:World):Pt->Value->Prop
 |v (p:Pt) (u:Value) (h:PV w w.heap.size (λ_=>none) (λ_=>[]) p u):PA w p u
 |p (c:V) (cs:List V) (u:Value) (h:AL w (c::cs) u):PA w (false,.bool true::c::cs) u
 |f (g:Nat) (c:V) (cs:List V) (u:Value) (h:AL w (c::cs) u):PA w (false,.bool false::.int .i64 (g:Int)::c::cs) (.func (.func g) #[] #[u])
def wS(w:World)(args:af Pt)(bQ:Array Value):Prop:=
 bQ.size=args.length/\∀(i:Nat) p,args[i]?=some p->∃u,bQ[i]?=some u/\PA w p u
theorem PA.pv{w:World}{x:V}{u:Value}(h:PA w (false,[x]) u):PV w w.heap.size (λ_=>none) (λ_=>[]) (false,[x]) u:=by
 cases h with
 |v _ _ h=>exact h
theorem PA.Zi{w:World}{xs:af V}{u:Value}(h:PA w (true,xs) u):PV w w.heap.size (λ_=>none) (λ_=>[]) (true,xs) u:=by
 cases h with
 |v _ _ h=>exact h
inductive iF where
 |one (p:Pt)
 |cP (ps:List Pt)
def AM(t:TC):Nat->Bool
 |0=>false
 |1=>true
 |o+2=>Nat.ble (full t) o ||Nat.beq (o % 2) 1
def V.loc:V->Bool
 |.sl t o _ _=>AM t o
 |_=>true
def lC(w:World)(B:Nat)(ah:bE)(nm:Nat->Nat):Nat->af Pt->af Value->Prop
 |_,[],[]=>True
 |off,p::ps,v::vs=>(p.2.all V.loc=true/\PV w B ah (λj=>[nm (off+j)]) p v)/\lC w B ah nm (off+p.2.length) ps vs
 |_,_,_=>False
def sY(w:World)(B:Nat)(ah:bE)(nm:Nat->Nat):iF->Value->Prop
 |.one p,v=>lC w B ah nm 0 [p] [v]
 |.cP ps,v=>∃vs:Array Value,v = .tuple vs/\lC w B ah nm 0 ps vs.toList
structure mb where
 run:(X:Type)->List Pt->(iF->Option X)->Option X
def lD(P:Program)(f:Nat)(c:mb):Prop:=
 ∀ (X:Type) (args:af Pt) (k:iF->aj X) (r:X),c.run X args k=some r->∃ res,k res=some r/\(∀ (X':Type) (k':iF->aj X'),c.run X' args k'=k' res)/\∀ (nm:Nat->Nat) (w:World) (bQ:Array Value),wS w args bQ->Hd w (λ_=>none)->
  Calls P f bQ w λe w'=>∃v aC,e = .returned v/\Below w.heap.size w w'/\(∀b k,aC b=some k->w.heap.size<=b/\b<w'.heap.size/\k≠[])/\sY w' w.heap.size aC nm res v
def pn{X:Type}(σ:S):af Lf->(af V->aj X)->aj X
 |[],k=>k []
 |x::xs,k=>jY σ x λy=>pn σ xs λys=>k (y.ja::ys)
def oq{X:Type}(σ:S)(x:A)(k:Pt->aj X):aj X:=
 match x with
 |.lf y=>pn σ [y] λvs=>k (false,vs)
 |.agg ys=>pn σ ys λvs=>k (true,vs)
 |.view q s i j=>um σ q s i j λy=>k (false,[y])
 |.jB (c::cs)=>k (false,.bool true::c.ja::cs.map V.ja)
 |_=>none
def uv{X:Type}(σ:S)(x:A)(k:Pt->aj X):aj X:=
 match x with
 |.jB (c::cs)=>k (false,.bool true::c.ja::cs.map V.ja)
 |.mK f (c::cs)=>k (false,.bool false::.int .i64 (f:Int)::c.ja::cs.map V.ja)
 | .aG r j=>(match σ.m r with
  | some (.ax cs)=>pn σ (cs.drop j) λvs=>(match vs with
   |c::cs=>k (false,.bool true::c::cs)
   |[]=>none)
  |_=>none)
 | .fn f [(r,j)]=>(match σ.m r with
  | some (.ax cs)=>pn σ (cs.drop j) λvs=>(match vs with
   |c::cs=>k (false,.bool false::.int .i64 (f:Int)::c::cs)
   |[]=>none)
  |_=>none)
 |x=>oq σ x k
def pq{X:Type}(σ:S):af Operand->(af Pt->aj X)->aj X
 |[],k=>k []
 |x::xs,k=>uv σ (aF σ x) λp=>pq σ xs λps=>k (p::ps)
def mL{X:Type}(σ:S):af Operand->(af Pt->aj X)->aj X
 |[],k=>k []
 |x::xs,k=>oq σ (aF σ x) λp=>mL σ xs λps=>k (p::ps)
def mc(c:Nat):af V->af Lf
 |[]=>[]
 |x::xs=>(bif x.aA then .v x else .own [c])::mc (c+1) xs
def jP(c:Nat)(σ:S):af V->S
 |[]=>σ
 |x::xs=>jP (c+1) (bif x.aA then σ else (σ.drop c).root c (.sl x)) xs
def nJ(c:Nat):af Pt->af (Bool×af Lf)
 |[]=>[]
 |p::ps=>(p.1,mc c p.2)::nJ (c+p.2.length) ps
def mM(c:Nat)(σ:S):af Pt->S
 |[]=>σ
 |p::ps=>mM (c+p.2.length) (jP c σ p.2) ps
def sZ{X:Type}(N:Nat)(σ:S)(d:Nat)(c:mb)(args:af Operand)(k:S->aj X):aj X:=
 bif Nat.blt d N then pq σ args λps=>c.run X ps λres=>(match res with
  | .one p=>(match sU (p.1,mc (1000000000100000+1000*d) p.2)with
   |some y=>k ((jP (1000000000100000+1000*d) σ p.2).set d y)
   |none=>none)
  |.cP ps=>k ((mM (1000000000100000+1000*d) σ ps).set d (.cP (nJ (1000000000100000+1000*d) ps))))else none
def AN{X:Type}(N:Nat)(σ:S)(d:Nat)(c:mb)(args:af Operand)(k:S->aj X):aj X:=
 bif Nat.blt d N then mL σ args λps=>c.run X ps λres=>(match res with
  | .one p=>(match sU (p.1,mc (1000000000100000+1000*d) p.2)with
   |some y=>k ((jP (1000000000100000+1000*d) σ p.2).set d y)
   |none=>none)
  |.cP ps=>k ((mM (1000000000100000+1000*d) σ ps).set d (.cP (nJ (1000000000100000+1000*d) ps))))else none
section
variable {P:Program} {w w':World} {w0:Wd} {B N:Nat} {ah aC:bE} {ρ ρ':Nat->Loc} {σ:S} {a:Act} {X:Type} {d:Nat} {r:X} {o:Oper}
theorem Ih:∀ (xs:af Lf) (k:af V->aj X),pn σ xs k=some r->∃ vs,k vs=some r/\vs.length=xs.length/\∀ ah ρ a w,Rl w0 N ah ρ σ a w->∀ (j:Nat) x y u,xs[j]?=some x->vs[j]?=some y->dN w w0.heap.size ah ρ x u->RV w w.heap.size (λ_=>none) [] y u
 |[],k,h=>⟨[],h,rfl,λ_ _ _ _ _ j x y u hx=>by simp at hx⟩
 | x :: xs,k,h=>by
  unfold pn at h;obtain⟨y,hy,h2⟩:=SB (w0:=w0) (N:=N) h;obtain⟨ys,h3,hl,hr⟩:=Ih xs _ h2
  refine⟨y.ja::ys,h3,by simp[hl],λah ρ a w hR j x' y' u cV fP hu=>?_⟩
  cases j with
  | zero=>
   simp at cV fP;subst cV fP;obtain⟨q,hq⟩:=hy ah ρ a w hR u hu;exact hq.ja
  |succ j=>exact hr ah ρ a w hR j x' y' u (by simpa using cV) (by simpa using fP) hu
theorem Zj{r' j':Nat}{cs:af Lf}{vs:af V}(hm:σ.m r'=some (.ax cs))(hl:vs.length=(cs.drop j').length)
  (hr:∀ah ρ a w,Rl w0 N ah ρ σ a w->∀(j:Nat) x y u,(cs.drop j')[j]?=some x->vs[j]?=some y->dN w w0.heap.size ah ρ x u->RV w w.heap.size (λ_=>none) [] y u)
  {ah:bE} {ρ:Nat->Loc} {a:Act} {w:World} {u:Value} (hR:Rl w0 N ah ρ σ a w) (hu:RA w w0.heap.size ah ρ (.aG r' j') u):AL w vs u:=by
 obtain⟨b,off,e1,rfl⟩:=hu;cases hR.root r' _ hm with
 | ax b' pQ cells e _ us aM lE hh hs hc=>
  rw[e1]at aM;injection aM with q1 q2;subst q1 q2
  refine⟨b,off+j',rfl,(gS.1 hh).1,λj x hx=>?_⟩
  have hj:j<(cs.drop j').length:=by rw[<-hl];exact(dJ.1 hx).1
  have Ii:=bT hj;have ahT:cs[j'+j]?=some (cs.drop j')[j]:=by rw[<-List.getElem?_drop];exact Ii
  obtain⟨k1,k2⟩:=hc _ _ ahT;refine⟨us (j'+j),?_,hr ah ρ a w hR j _ x _ Ii hx k2⟩;rw[Nat.add_assoc,cell_of_row w b _ cells _ _ hh];exact k1
theorem SL{cs:af V}{u:Value}(hu:RF w B ah cs u):AL w (cs.map V.ja) u:=by
 obtain⟨b,off,rfl,h1,h2,h3⟩:=hu
 refine⟨b,off,rfl,h1,λj x hx=>?_⟩
 rw[dH]at hx;cases hy:cs[j]? with
 |none=>rw[hy]at hx;cases hx
 | some y=>
  rw[hy]at hx;injection hx with hx;subst hx;obtain⟨_,v,h4,h5⟩:=h3 j y hy;exact⟨v,h4,h5.ja⟩
theorem Zk{x:A}{k:Pt->aj X}(h:oq σ x k=some r):∃ p,k p=some r/\∀ ah ρ a w,Rl w0 N ah ρ σ a w->∀ u,RA w w0.heap.size ah ρ x u->PA w p u:=by
 unfold oq at h;split at h
 ·rename_i y;obtain⟨vs,h2,hl,hr⟩:=Ih (w0:=w0) (N:=N) _ _ h
  refine⟨_,h2,λah ρ a w hR u hu=>.v _ _ ⟨#[u],rfl,by simp[hl],λj x hx=>?_⟩⟩
  have hj:j=0:=by
   have:=(dJ.1 hx).1;simp only[hl]at this
   simpa using this
  subst hj;exact⟨u,rfl,hr ah ρ a w hR 0 y x u rfl hx hu⟩
 ·rename_i ys;obtain⟨vs,h2,hl,hr⟩:=Ih (w0:=w0) (N:=N) _ _ h
  refine⟨_,h2,λah ρ a w hR u hu=>?_⟩
  obtain⟨us,rfl,hs⟩:=hu
  refine .v _ _ ⟨us,rfl,by rw[hl];exact hs.1,λj x hx=>?_⟩
  have hj:j<ys.length:=by rw[<-hl];exact(dJ.1 hx).1
  obtain⟨v,hv,dA⟩:=hs.2 j _ (bT hj);exact⟨v,hv,hr ah ρ a w hR j _ x v (bT hj) hx dA⟩
 ·obtain⟨z,h2,_,hz⟩:=YI h
  refine⟨_,h2,λah ρ a w hR u hu=>.v _ _ ⟨#[u],rfl,rfl,λj x hx=>?_⟩⟩
  cases j with
  | zero=>
   simp at hx;subst hx;exact⟨u,rfl,hz _ _ _ _ _ _ hR u hu _⟩
  |succ j=>simp at hx
 next c cs=>exact⟨_,h,λah ρ a w hR u hu=>.p _ _ _ (SL hu)⟩
 ·cases h
theorem ahU{x:A}{k:Pt->aj X}(h:uv σ x k=some r):∃ p,k p=some r/\∀ ah ρ a w,Rl w0 N ah ρ σ a w->∀ u,RA w w0.heap.size ah ρ x u->PA w p u:=by
 unfold uv at h;split at h
 ·rename_i c cs
  refine⟨_,h,λah ρ a w hR u hu=>?_⟩
  exact .p _ _ _ (SL hu)
 ·rename_i f c cs
  refine⟨_,h,λah ρ a w hR u hu=>?_⟩
  obtain⟨pv,rfl,hp⟩:=hu;exact .f _ _ _ _ (SL hp)
 ·rename_i r' j';split at h
  ·rename_i cs hm;obtain⟨vs,h2,hl,hr⟩:=Ih (w0:=w0) (N:=N) _ _ h;split at h2
   ·rename_i c fO
    refine⟨_,h2,λah ρ a w hR u hu=>?_⟩
    exact .p _ _ _ (Zj hm hl hr hR hu)
   ·cases h2
  ·cases h
 ·rename_i f r' j';split at h
  ·rename_i cs hm;obtain⟨vs,h2,hl,hr⟩:=Ih (w0:=w0) (N:=N) _ _ h;split at h2
   ·rename_i c fO
    refine⟨_,h2,λah ρ a w hR u hu=>?_⟩
    obtain⟨ps,rfl,hs,hp⟩:=hu;obtain⟨b,off,e1,e2⟩:=hp 0 _ rfl;have e:ps = #[.pointer (some ⟨b,off+j',none⟩)]:=by
     apply Array.ext (by simpa using hs);intro i h1 h2;have:i=0:=by simp at h2;omega
     subst this;rw[Array.getElem?_eq_getElem h1]at e2;injection e2
    subst e;exact .f _ _ _ _ (Zj hm hl hr hR ⟨b,off,e1,rfl⟩)
   ·cases h2
  ·cases h
 ·exact Zk h
theorem Zl:∀ (xs:af Operand) (k:af Pt->aj X),pq σ xs k=some r->∃ ps,k ps=some r/\∀ ah ρ a w,Rl w0 N ah ρ σ a w->wS w ps (xs.map a.eval).toArray
 |[],k,h=>⟨[],h,λ_ _ _ _ _=>⟨rfl,λi p hp=>by simp at hp⟩⟩
 | x :: xs,k,h=>by
  unfold pq at h;obtain⟨p,h2,hp⟩:=ahU (w0:=w0) (N:=N) h;obtain⟨ps,h3,jm⟩:=Zl xs _ h2
  refine⟨p::ps,h3,λah ρ a w hR=>⟨?_,λi q hq=>?_⟩⟩
  ·have:=(jm ah ρ a w hR).1;simp at this;simp[this]
  ·cases i with
   | zero=>
    simp at hq;subst hq;exact⟨_,rfl,hp ah ρ a w hR _ (hR.aF x)⟩
   | succ i=>
    obtain⟨u,hu,hr⟩:=(jm ah ρ a w hR).2 i q (by simpa using hq);exact⟨u,by simpa using hu,hr⟩
theorem SM:∀ (xs:af Operand) (k:af Pt->aj X),mL σ xs k=some r->∃ ps,k ps=some r/\∀ ah ρ a w,Rl w0 N ah ρ σ a w->wS w ps (xs.map a.eval).toArray
 |[],k,h=>⟨[],h,λ_ _ _ _ _=>⟨rfl,λi p hp=>by simp at hp⟩⟩
 | x :: xs,k,h=>by
  unfold mL at h;obtain⟨p,h2,hp⟩:=Zk (w0:=w0) (N:=N) h;obtain⟨ps,h3,jm⟩:=SM xs _ h2
  refine⟨p::ps,h3,λah ρ a w hR=>⟨?_,λi q hq=>?_⟩⟩
  ·have:=(jm ah ρ a w hR).1;simp at this;simp[this]
  ·cases i with
   | zero=>
    simp at hq;subst hq;exact⟨_,rfl,hp ah ρ a w hR _ (hR.aF x)⟩
   | succ i=>
    obtain⟨u,hu,hr⟩:=(jm ah ρ a w hR).2 i q (by simpa using hq);exact⟨u,by simpa using hu,hr⟩
theorem Zm{t:TC}{o:Nat}(h:AM t (o+2)=true)(x:T t):∀ y∈enc t o x,y.loc=true:=by
 intro y hy;have hg:=yc t o x y hy;cases y with
 | sl t' o' q l=>
  have ho:o'=o:=by simpa [V.gr]using hg
  subst ho;have hf:full t'+2<=full t:=cH (Md t o' x _ hy);show AM t' o'=true;simp only[AM,eH]at h;rcases h with h|h
  ·have h:=cH h
   match o',h with
   |0,h=>omega
   |1,h=>rfl
   | n+2,h=>
    simp only[AM,eH];left;exact jV (by omega)
  ·have h:=cz h
   match o',h with
   |0,h=>omega
   |1,h=>rfl
   | n+2,h=>
    simp only[AM,eH];right;have:n % 2=1:=by omega
    rw[this];rfl
 |_=>rfl
theorem RV.home{q:af Nat}{x:V}{v:Value}(h:RV w B ah q x v){B':Nat}(hB:B'<=B)(hl:∀ b,B<=b->aC b=ah b)(hg:∀ b k,ah b=some k->B<=b)(hx:x.loc=true):RV w B' aC q x v:=by
 induction h with
 |int=>exact .int _ _ _
 |bool=>exact .bool _ _
 |str=>exact .str _ _
 |nil=>exact .nil _
 |dc=>exact .dc _ _ _
 |dg=>exact .dg _ _ _ _ _ (by first|assumption|omega)
 |dz=>exact .dz _ _ _ _ _ (by first|assumption|omega)
 | aA q t o qn l b off cap u ho dB hb h1 ey hc hr ih=>
  have yG:o=1:=by
   match o,ho,hx with
   |0,_,hx=>cases hx
   |1,_,_=>rfl
   |n+2,ho,_=>omega
  subst yG;have Ij:=h1 rfl
  refine .aA _ _ _ _ _ _ _ _ u ho ((hl b Ij).trans dB) hb (λ_=>Nat.le_trans hB Ij) ey hc (λi h j x cV=>ih i h j x cV ?_)
  have:=yc t 1 l[i] x (iy cV);cases x with
  | sl t' o' q' l'=>
   have:o'=1:=by simpa [V.gr]using this
   subst this;rfl
  |_=>rfl
 | own q t o qn l b cap cs u dB hh hs hn hm hc hr ih=>
  exact .own _ _ _ _ _ _ _ cs u ((hl b (hg b q dB)).trans dB) hh hs hn hm hc (λi h j x cV=>ih i h j x cV (Zm hx l[i] x (iy cV)))
theorem SN:∀ (xs:af V) (c:Nat) (σ:S) (ρ:Nat->Loc) (us:af Value),60000<=c->Rl w0 N ah ρ σ a w->us.length=xs.length->(∀ (j:Nat) x u,xs[j]?=some x->us[j]?=some u->RV w w0.heap.size ah [c+j] x u)->
  ∃ρ',Rl w0 N ah ρ' (jP c σ xs) a w/\(∀r,r<c->ρ' r=ρ r)/\∀(j:Nat) x u,(mc c xs)[j]?=some x->us[j]?=some u->dN w w0.heap.size ah ρ' x u
 |[],c,σ,ρ,us,_,h,hl,hr=>⟨ρ,h,λ_ _=>rfl,λj x u hx=>by simp[mc]at hx⟩
 | x :: xs,c,σ,ρ,us,hc,h,hl,hr=>by
  cases us with
  |nil=>simp at hl
  | cons u us=>
   have di:=hr 0 x u rfl rfl;rw[Nat.add_zero]at di;have lA:∀ (j:Nat) x' u',xs[j]?=some x'->us[j]?=some u'->RV w w0.heap.size ah [c+1+j] x' u':=λj x' u' hx hu=>by
    have:=hr (j+1) x' u' (by simpa using hx) (by simpa using hu);rw[show c+1+j=c+(j+1) by omega];exact this
   cases hf:x.aA with
   | true=>
    obtain⟨ρ',aO,aM,vw⟩:=SN xs (c+1) σ ρ us (by omega) h (by simpa using hl) lA
    refine⟨ρ',?_,λr hr=>aM r (by omega),λj y v hy hv=>?_⟩
    ·simp only[jP,hf,aq];exact aO
    ·simp only[mc,hf,aq]at hy;cases j with
     | zero=>
      simp at hy hv;subst hy hv;exact⟨hf,di.key hf⟩
     |succ j=>exact vw j y v (by simpa using hy) (by simpa using hv)
   | false=>
    have gM:=di.R5 hf;obtain⟨ρ',aO,aM,vw⟩:=SN xs (c+1) _ _ us (by omega) (h.new (d:=c) (x:=.sl x) (.dP u) (.sl u x (bY _ _ _) di) (h.dQ c (.inr hc))) (by simpa using hl) lA
    refine⟨ρ',?_,λr hr=>?_,λj y v hy hv=>?_⟩
    ·simp only[jP,hf,au];exact aO
    ·rw[aM r (by omega)];exact cL _ _ _ (by omega)
    ·simp only[mc,hf,au]at hy;cases j with
     | zero=>
      simp at hy hv;subst hy hv;refine⟨gM,?_⟩;have:ρ' c = .dP u:=by rw[aM c (by omega)];exact bY _ _ _
      simp[cE,this]
     |succ j=>exact vw j y v (by simpa using hy) (by simpa using hv)
theorem ahV(xs:af V):∀ c,(mc c xs).length=xs.length:=by
 induction xs with
 |nil=>intro c;rfl
 |cons x xs ih=>intro c;simp[mc,ih]
end
end Go.Proofs.YtcioagfjiccleaaGreat
namespace Go.Proofs.YtcioagfjiccleaaGreat
open Go.RowKit
set_option linter.unusedVariables false
def enters(P:Program)(f:Nat):Prop:=∃fn,P.funcs[f]?=some fn/\(fn.name == "runtime.NumGoroutine")=false/\fn.body.isNone=false
/-! What a function gives back. -/
def MC:A->aj (Bool×af Lf)
 |.lf x=>some (false,[x])
 |.agg xs=>some (true,xs)
 |_=>none
def qP{X:Type}(P:Program)(σ:S):af ResultVar->(af (Bool×af Lf)->aj X)->aj X
 |[],k=>k []
 | .tmp t :: rest,k=>(match MC (σ.t t)with
  |some p=>qP P σ rest λps=>k (p::ps)
  |none=>none)
 | .cell p ty :: rest,k=>lu P σ ty (σ.t p) λx=>(match MC x with
  |some p=>qP P σ rest λps=>k (p::ps)
  |none=>none)
def SO(m:Nat->aj aW):Lf->aj (V×aj Nat)
 |.v x=>bif x.loc&&x.aA then some (x,none)else none
 | .own [r]=>match m r with
  |some (.sl y)=>bif y.loc then some (y,some r)else none
  |_=>none
 |_=>none
def Ik(m:Nat->aj aW)(off:Nat):af Lf->aj (af V×af (Nat×Nat))
 |[]=>some ([],[])
 | x :: xs=>match SO m x,Ik m (off+1) xs with
  |some (y,none),some (ys,rs)=>some (y::ys,rs)
  |some (y,some r),some (ys,rs)=>some (y::ys,(r,off)::rs)
  |_,_=>none
def EY(m:Nat->aj aW)(off:Nat):af (Bool×af Lf)->aj (af Pt×af (Nat×Nat))
 |[]=>some ([],[])
 | p :: ps=>match Ik m off p.2,EY m (off+p.2.length) ps with
  |some (vs,rs),some (qs,pz)=>some ((p.1,vs)::qs,rs++pz)
  |_,_=>none
def once(rs:af (Nat×Nat)):Bool:=rs.all λp=>(rs.lookup p.1).any λn=>Nat.beq n p.2
def Il{X:Type}(P:Program)(σ:S)(fn:Array ResultVar)(k:iF->aj X):aj X:=
 qP P σ fn.toList λps=>match EY σ.m 0 ps with
  | some (qs,rs)=>bif once rs then (match qs with
   |[p]=>k (.one p)
   |qs=>k (.cP qs))else none
  |none=>none
section
variable {P:Program} {w w':World} {w0:Wd} {B N:Nat} {ah aC:bE} {ρ ρ':Nat->Loc} {σ:S} {a:Act} {X:Type} {d:Nat} {r:X} {o:Oper}
theorem Zn:∀ (xs:af V) (c:Nat) (j:Nat) x u,(mc c xs)[j]?=some x->dN w B ah ρ x u->(∀ r,r<c+xs.length->ρ' r=ρ r)->dN w B ah ρ' x u
 |[],c,j,x,u,hx,_,_=>by simp[mc]at hx
 | y :: ys,c,j,x,u,hx,hr,aM=>by
  cases j with
  | zero=>
   simp only[mc,List.getElem?_cons_zero,gp]at hx;subst hx;cases hf:y.aA with
   |true=>rw[hf,aq]at hr;simp only[aq];exact hr
   | false=>
    rw[hf,au]at hr;simp only[au];refine⟨hr.1,?_⟩;have:=hr.2;simp only[cE,aM c (by simp)]at this ⊢;exact this
  | succ j=>
   simp only[mc,List.getElem?_cons_succ]at hx;exact Zn ys (c+1) j x u hx hr (λr h=>aM r (by simp;omega))
theorem PV.cells{key:Nat->af Nat}{p:Pt}{u:Value}(h:PV w B ah key p u):∃ us:af Value,us.length=p.2.length/\(∀ (j:Nat) x v,p.2[j]?=some x->us[j]?=some v->RV w B ah (key j) x v)/\
  ∀(ρ:Nat->Loc) (ls:af Lf),ls.length=p.2.length->(∀(j:Nat) x v,ls[j]?=some x->us[j]?=some v->dN w B ah ρ x v)->RP w B ah ρ (p.1,ls) u:=by
 obtain⟨us,hu,hs,hr⟩:=h;obtain⟨b,xs⟩:=p
 refine⟨us.toList,by simpa using hs,λj x v hx hv=>?_,λρ ls hl Im=>?_⟩
 ·obtain⟨v',dY,dA⟩:=hr j x hx;have:v'=v:=by
   rw[nu]at hv;rw[dY]at hv;injection hv
  subst this;exact dA
 ·have wQ:eB w B ah ρ ls us:=⟨by rw[hs,hl],λj x hx=>by
   have hj:j<us.size:=by rw[hs,<-hl];exact(dJ.1 hx).1
   exact⟨us[j],Array.getElem?_eq_getElem hj,Im j x _ hx (by rw[nu,Array.getElem?_eq_getElem hj])⟩⟩
  cases b with
  |true=>exact⟨us,hu,wQ⟩
  |false=>have hu:us = #[u]:=hu;subst hu;exact wQ
theorem Io:∀ (ps:af Pt) (c0 off:Nat) (σ:S) (ρ:Nat->Loc) (vs:af Value),60000<=c0->Rl w0 N ah ρ σ a w->lC w w0.heap.size ah (λn=>c0+n) off ps vs->
  ∃ρ',Rl w0 N ah ρ' (mM (c0+off) σ ps) a w/\(∀r,r<c0+off->ρ' r=ρ r)/\vs.length=(nJ (c0+off) ps).length/\∀(i:Nat) p v,(nJ (c0+off) ps)[i]?=some p->vs[i]?=some v->RP w w0.heap.size ah ρ' p v
 | [],c0,off,σ,ρ,vs,_,h,hr=>by
  cases vs with
  |nil=>exact⟨ρ,h,λ_ _=>rfl,rfl,λi p v hp=>by simp[nJ]at hp⟩
  |cons v vs=>exact hr.elim
 | p :: ps,c0,off,σ,ρ,vs,hc,h,hr=>by
  cases vs with
  |nil=>exact hr.elim
  | cons v vs=>
   obtain⟨⟨_,hp⟩,hr⟩:=hr;obtain⟨us,hl,l7,wT⟩:=hp.cells;obtain⟨r6,h1,jW,vw⟩:=SN p.2 (c0+off) σ ρ us (by omega) h hl (λj x u hx hu=>by
    have:RV w w0.heap.size ah [c0+(off+j)] x u:=l7 j x u hx hu;rw[<-Nat.add_assoc]at this;exact this)
   obtain⟨eX,h2,wU,hlen,jm⟩:=Io ps c0 (off+p.2.length) (jP (c0+off) σ p.2) r6 vs hc h1 hr;rw[<-Nat.add_assoc]at h2 wU hlen jm
   refine⟨eX,h2,λr hr=>(wU r (by omega)).trans (jW r hr),by simp[nJ,hlen],λi q u hq hu=>?_⟩
   cases i with
   | zero=>
    simp only[nJ,List.getElem?_cons_zero,gp]at hq hu;subst hq hu
    refine wT eX _ (ahV _ _) (λj x u hx hu=>Zn p.2 (c0+off) j x u hx (vw j x u hx hu) wU)
   | succ i=>
    simp only[nJ,List.getElem?_cons_succ]at hq hu;exact jm i q u hq hu
theorem lC.home{nm:Nat->Nat}:∀ (ps:af Pt) (off:Nat) (vs:af Value) {B':Nat},lC w B ah nm off ps vs->B'<=B->(∀ b,B<=b->aC b=ah b)->(∀ b k,ah b=some k->B<=b)->lC w B' aC nm off ps vs
 |[],_,[],_,h,_,_,_=>h
 |[],_,_::_,_,h,_,_,_=>h
 |_::_,_,[],_,h,_,_,_=>h
 | p :: ps,off,v :: vs,B',h,hB,hl,hg=>by
  obtain⟨⟨nK,us,hu,hs,hr⟩,lA⟩:=h
  refine⟨⟨nK,us,hu,hs,λj x hx=>?_⟩,lC.home ps _ vs lA hB hl hg⟩
  obtain⟨v',dY,dA⟩:=hr j x hx;exact⟨v',dY,dA.home hB hl hg (c9.1 nK x (iy hx))⟩
theorem MD(w:World)(o:Oper)(a:Act)(f:Nat)(args:Array Operand)(dV:Array TypeId)(ho:o.op = .call { callee:=.value (.func f),args,argTypes:=dV })(he:enters P f):(execOp a.eval o).run P w = .ok (.enter f (args.map a.eval)) w:=by
 obtain⟨fn,h1,h2,h3⟩:=he;have s7:¬ fn.name = "runtime.NumGoroutine":=by simpa using h2
 have CB:¬ fn.body=none:=by intro e;rw[e]at h3;cases h3
 simp[execOp,ho,resolve,Act.eval,Deferred.ofValue,invoke,callFunc,fz,Sem.run,program,h1,s7,CB]
theorem Zo{f:Nat}{args:Array Operand}{dV:Array TypeId}{c:mb}{k:S->aj X}(ho:o.op = .call { callee:=.value (.func f),args,argTypes:=dV })(hd:o.dst=some d)(he:enters P f)(hc:lD P f c)(yH:d<N){ps:af Pt}(jn:∀ ah ρ a w,Rl w0 N ah ρ σ a w->wS w ps (args.toList.map a.eval).toArray)
  (h2:(c.run X ps λres=>(match res with
  | .one p=>(match sU (p.1,mc (1000000000100000+1000*d) p.2)with
   |some y=>k ((jP (1000000000100000+1000*d) σ p.2).set d y)
   |none=>none)
  |.cP ps=>k ((mM (1000000000100000+1000*d) σ ps).set d (.cP (nJ (1000000000100000+1000*d) ps)))))=some r):∃az,k az=some r/\nE P w0 N o σ az:=by
 obtain⟨res,h3,_,Ip⟩:=hc X ps _ r h2;have step:∀ a w K Q ah ρ,Rl w0 N ah ρ σ a w->(∀ v w' aC,Below w.heap.size w w'->Rl w0 N aC ρ σ a w'->sY w' w0.heap.size aC (λn=>1000000000100000+1000*d+n) res v->K (a.put o.dst v) w')->o.wp P a w K Q:=by
  intro a w K Q ah ρ hR hK;unfold Oper.wp;rw[MD w o a f args dV ho he,Oper.upon_enter];have yI:(args.map a.eval)=(args.toList.map a.eval).toArray:=by apply Array.ext';rw[Array.toList_map]
  rw[yI]
  refine(Ip (λn=>1000000000100000+1000*d+n) w _ (jn ah ρ a w hR) (w0.on hR.below (λ_ _ h=>by cases h))).mono λe w' s8=>?_
  obtain⟨v,ic,rfl,iE,lE,iS⟩:=s8;have hB:=hR.below.size;let dD:bE:=λb=>if b<w.heap.size then ah b else ic b
  have e1:∀b,b<w.heap.size->dD b=ah b:=λb hb=>bu hb
  have e2:∀b,w.heap.size<=b->dD b=ic b:=λb hb=>bJ (by omega)
  refine hK v w' dD iE (hR.grow iE e1 (λb k hb hk=>?_)) ?_
  ·rw[e2 b hb]at hk;exact(lE b k hk).2
  ·cases res with
   |one p=>exact lC.home [p] 0 [v] iS hB e2 (λb k hk=>(lE b k hk).1)
   | cP ot=>
    obtain⟨vs,e,hv⟩:=iS;exact⟨vs,e,lC.home ot 0 vs.toList hv hB e2 (λb k hk=>(lE b k hk).1)⟩
 cases res with
 | one p=>
  simp only at h3;split at h3
  ·rename_i y hy
   refine⟨_,h3,λa w K Q hR hK=>?_⟩
   obtain⟨ah,ρ,hR⟩:=hR
   refine step a w K Q ah ρ hR λv w' aC iE aO iS=>?_
   obtain⟨ρ',ki,_,_,jm⟩:=Io [p] (1000000000100000+1000*d) 0 σ ρ [v] (by omega) aO iS;rw[hd];have SP:=jm 0 _ v rfl rfl;exact hK _ _ ⟨aC,ρ',ki.set (Sk hy SP) yH⟩
  ·cases h3
 | cP ot=>
  refine⟨_,h3,λa w K Q hR hK=>?_⟩
  obtain⟨ah,ρ,hR⟩:=hR
  refine step a w K Q ah ρ hR λv w' aC iE aO iS=>?_
  obtain⟨vs,rfl,hv⟩:=iS;obtain⟨ρ',ki,_,hlen,jm⟩:=Io ot (1000000000100000+1000*d) 0 σ ρ vs.toList (by omega) aO hv;rw[hd]
  refine hK _ _ ⟨aC,ρ',ki.set ⟨vs,rfl,by simpa using hlen,λj p hp=>?_⟩ yH⟩
  have hj:j<vs.size:=by
   have:=(dJ.1 hp).1;rw[Nat.add_zero]at hlen;rw[<-hlen]at this
   simpa using this
  exact⟨vs[j],Array.getElem?_eq_getElem hj,jm j p _ hp (by rw[nu,Array.getElem?_eq_getElem hj])⟩
theorem ahW{f:Nat}{args:Array Operand}{dV:Array TypeId}{c:mb}{k:S->aj X}(ho:o.op = .call { callee:=.value (.func f),args,argTypes:=dV })(hd:o.dst=some d)(he:enters P f)(hc:lD P f c)(h:AN N σ d c args.toList k=some r):∃ az,k az=some r/\nE P w0 N o σ az:=by
 unfold AN at h;cases hN:Nat.blt d N with
 |false=>rw[hN]at h;cases h
 | true=>
  rw[hN,aq]at h;obtain⟨ps,h2,jn⟩:=SM (w0:=w0) (N:=N) _ _ h;exact Zo ho hd he hc (cH hN) jn h2
theorem ahX{f:Nat}{args:Array Operand}{dV:Array TypeId}{c:mb}{k:S->aj X}(ho:o.op = .call { callee:=.value (.func f),args,argTypes:=dV })(hd:o.dst=some d)(he:enters P f)(hc:lD P f c)(h:sZ N σ d c args.toList k=some r):∃ az,k az=some r/\nE P w0 N o σ az:=by
 unfold sZ at h;cases hN:Nat.blt d N with
 |false=>rw[hN]at h;cases h
 | true=>
  rw[hN,aq]at h;obtain⟨ps,h2,jn⟩:=Zl (w0:=w0) (N:=N) _ _ h;exact Zo ho hd he hc (cH hN) jn h2
end
end Go.Proofs.YtcioagfjiccleaaGreat
namespace Go.Proofs.YtcioagfjiccleaaGreat
open Go.RowKit
set_option linter.unusedVariables false
def fl(ah:bE)(rs:af (Nat×Nat))(nm:Nat->Nat):bE:=λb=>
 match ah b with
 |none=>none
 | some k=>match k.getLast? with
  |none=>none
  |some r=>(rs.lookup r).map λn=>k.dropLast++[nm n]
section
variable {P:Program} {w w':World} {w0:Wd} {B N:Nat} {ah aC:bE} {ρ ρ':Nat->Loc} {σ:S} {a:Act} {X:Type} {d:Nat} {r:X} {rs:af (Nat×Nat)} {nm:Nat->Nat}
theorem RV.Iq{q:af Nat}{x:V}{v:Value}(h:RV w B ah q x v)(hf:x.aA=true)(hl:∀ b,ah b=none->aC b=none):RV w B aC q x v:=by
 induction h with
 |int=>exact .int _ _ _
 |bool=>exact .bool _ _
 |str=>exact .str _ _
 |nil=>exact .nil _
 |dc=>exact .dc _ _ _
 |dg=>exact .dg _ _ _ _ _ (by first|assumption|omega)
 |dz=>exact .dz _ _ _ _ _ (by first|assumption|omega)
 | aA q t o qn l b off cap u ho dB hb h1 ey hc hr ih=>
  exact .aA _ _ _ _ _ _ _ _ u ho (hl b dB) hb h1 ey hc (λi h j x hx=>ih i h j x hx (lQ t o l[i] ho j x hx))
 |own q t o qn l b cap cs u dB hh hs hn hm hc hr ih=>simp[V.aA]at hf;omega
theorem yJ{b:Nat}(h:ah b=none):fl ah rs nm b=none:=by simp[fl,h]
theorem RV.fl{p:af Nat}{r n:Nat}{x:V}{v:Value}(h:RV w B ah (p++[r]) x v)(hr:rs.lookup r=some n):RV w B (fl ah rs nm) (p++[nm n]) x v:=by
 generalize hq:p++[r]=q at h
 induction h generalizing p with
 |int=>exact .int _ _ _
 |bool=>exact .bool _ _
 |str=>exact .str _ _
 |nil=>exact .nil _
 |dc=>exact .dc _ _ _
 |dg=>exact .dg _ _ _ _ _ (by first|assumption|omega)
 |dz=>exact .dz _ _ _ _ _ (by first|assumption|omega)
 | aA q t o qn l b off cap u ho dB hb h1 ey hc dA ih=>
  exact .aA _ _ _ _ _ _ _ _ u ho (yJ dB) hb h1 ey hc (λi h j x hx=>(dA i h j x hx).Iq (lQ t o l[i] ho j x hx) (λb=>yJ))
 | own q t o qn l b cap cs u dB hh hs hn hm hc dA ih=>
  subst hq
  refine .own _ _ _ _ _ _ _ cs u ?_ hh hs hn hm hc (λi h j x hx=>ih i h j x hx (p:=j::i::aB t::p) rfl)
  simp[Proofs.YtcioagfjiccleaaGreat.fl,dB,hr]
theorem SQ{m:Nat->aj aW}:∀ (xs:af Lf) (off:Nat) (ys:af V) (me:af (Nat×Nat)),Ik m off xs=some (ys,me)->ys.length=xs.length/\∀ (j:Nat) x,xs[j]?=some x->∃ y,ys[j]?=some y/\y.loc=true/\((x = .v y/\y.aA=true)\/∃ r,x = .own [r]/\m r=some (.sl y)/\(r,off+j)∈me)
 | [],off,ys,me,h=>by
  simp only[Ik,gp,jL]at h;obtain⟨rfl,rfl⟩:=h;exact⟨rfl,λj x hx=>by simp at hx⟩
 | x :: xs,off,ys,me,h=>by
  have hc:∀ y z,SO m x=some (y,z)->y.loc=true/\((z=none/\x = .v y/\y.aA=true)\/∃ r,z=some r/\x = .own [r]/\m r=some (.sl y)):=by
   intro y z hz;unfold SO at hz;split at hz
   ·rename_i x';cases hl:(x'.loc&&x'.aA)with
    |false=>rw[hl]at hz;cases hz
    | true=>
     rw[hl,aq]at hz;simp only[gp,jL]at hz;obtain⟨rfl,rfl⟩:=hz;rw[aJ]at hl;exact⟨hl.1,.inl ⟨rfl,rfl,hl.2⟩⟩
   ·rename_i r;split at hz
    ·rename_i y' fP;cases hl:y'.loc with
     |false=>rw[hl]at hz;cases hz
     | true=>
      rw[hl,aq]at hz;simp only[gp,jL]at hz;obtain⟨rfl,rfl⟩:=hz;exact⟨hl,.inr ⟨r,rfl,rfl,fP⟩⟩
    ·cases hz
   ·cases hz
  unfold Ik at h;split at h
  ·rename_i y CC pz hy m7;simp only[gp,jL]at h;obtain⟨rfl,rfl⟩:=h;obtain⟨h1,h2⟩:=SQ xs (off+1) CC pz m7
   refine⟨by simp[h1],λj x' hx=>?_⟩
   cases j with
   | zero=>
    simp at hx;subst hx;obtain⟨hl,hz|⟨r,hz,_⟩⟩:=hc y none hy
    ·exact⟨y,rfl,hl,.inl hz.2⟩
    ·cases hz
   | succ j=>
    obtain⟨y',fP,hl,hz⟩:=h2 j x' (by simpa using hx)
    refine⟨y',by simpa using fP,hl,hz.imp id λ⟨r,e1,e2,e3⟩=>⟨r,e1,e2,by rw[show off+(j+1)=off+1+j by omega];exact e3⟩⟩
  ·rename_i y r CC pz hy m7;simp only[gp,jL]at h;obtain⟨rfl,rfl⟩:=h;obtain⟨h1,h2⟩:=SQ xs (off+1) CC pz m7
   refine⟨by simp[h1],λj x' hx=>?_⟩
   cases j with
   | zero=>
    simp at hx;subst hx;obtain⟨hl,hz|⟨r',hz,e1,e2⟩⟩:=hc y (some r) hy
    ·cases hz.1
    ·injection hz with hz;subst hz;exact⟨y,rfl,hl,.inr ⟨r,e1,e2,.head _⟩⟩
   | succ j=>
    obtain⟨y',fP,hl,hz⟩:=h2 j x' (by simpa using hx)
    refine⟨y',by simpa using fP,hl,hz.imp id λ⟨r,e1,e2,e3⟩=>⟨r,e1,e2,by rw[show off+(j+1)=off+1+j by omega];exact .tail _ e3⟩⟩
  ·cases h
theorem SR{m:Nat->aj aW}(hm:∀ r x,m r=some x->fj w B ah ρ r x):∀ (ps:af (Bool×af Lf)) (off:Nat) (qs:af Pt) (me:af (Nat×Nat)) (vs:af Value),EY m off ps=some (qs,me)->(∀ p∈me,rs.lookup p.1=some p.2)->vs.length=ps.length->
  (∀(i:Nat) p v,ps[i]?=some p->vs[i]?=some v->RP w B ah ρ p v)->lC w B (fl ah rs nm) nm off qs vs
 | [],off,qs,me,vs,h,_,hl,_=>by
  have:vs=[]:=List.eq_nil_of_length_eq_zero hl;subst this;simp only[EY,gp,jL]at h;obtain⟨rfl,rfl⟩:=h;trivial
 | p :: ps,off,qs,me,vs,h,gj,hl,hp=>by
  cases vs with
  |nil=>simp at hl
  | cons v vs=>
   unfold EY at h;split at h
   ·rename_i ys rs1 qs' CD h1 h2;simp only[gp,jL]at h;obtain⟨rfl,rfl⟩:=h;obtain⟨hlen,LW⟩:=SQ _ _ _ _ h1;have lA:=SR hm ps _ qs' CD vs h2 (λq hq=>gj q (List.mem_append_right _ hq)) (by simpa using hl) (λi q u hq hu=>hp (i+1) q u (by simpa using hq) (by simpa using hu));have wV:=hp 0 p v rfl rfl;have key:∀ us:Array Value,eB w B ah ρ p.2 us->(us.size=ys.length/\∀ (j:Nat) x,ys[j]?=some x->∃ u,us[j]?=some u/\RV w B (fl ah rs nm) [nm (off+j)] x u):=by
     intro us gD
     refine⟨by rw[hlen];exact gD.1,λj y hy=>?_⟩
     have hj:j<p.2.length:=by rw[<-hlen];exact(dJ.1 hy).1
     obtain⟨y',fP,nK,hz⟩:=LW j _ (bT hj);rw[hy]at fP;injection fP with fP;subst fP;obtain⟨u,hu,hr⟩:=gD.2 j _ (bT hj);refine⟨u,hu,?_⟩;rcases hz with ⟨e,hf⟩|⟨r,e,hmr,uw⟩
     ·rw[e]at hr;exact(hr.2.Iq hf (λb=>yJ)).key hf
     ·rw[e]at hr;have cQ:=hm r _ hmr;generalize he:aW.sl y=z at cQ;cases cQ with
      |ax=>cases he
      |mp=>cases he
      |gh=>cases he
      | sl v' y' aM l7=>
       injection he with he;subst he;have Ir:v'=u:=by
        have h4:=hr.2;simp only[cE,aM]at h4;injection h4
       subst Ir;exact RV.fl (p:=[]) l7 (gj (r,off+j) (List.mem_append_left _ uw))
    refine⟨⟨?_,?_⟩,?_⟩
    ·rw[c9];intro y hy;obtain⟨j,hj⟩:=List.mem_iff_getElem?.1 hy;have yh:j<p.2.length:=by rw[<-hlen];exact(dJ.1 hj).1
     obtain⟨y',fP,nK,_⟩:=LW j _ (bT yh);rw[hj]at fP;injection fP with fP;subst fP;exact nK
    ·obtain⟨b,xs⟩:=p;cases b with
     | true=>
      obtain⟨us,e,gD⟩:=wV;obtain⟨k1,k2⟩:=key us gD;exact⟨us,e,k1,k2⟩
     | false=>
      obtain⟨k1,k2⟩:=key #[v] wV;exact⟨#[v],rfl,k1,k2⟩
    ·rw[hlen];exact lA
   ·cases h
theorem ahY{t:TypeId}{x:A}{k:A->aj X}(h:lu P σ t x k=some r){u:Value}(hu:RA w B ah ρ x u):∃ ad,u = .pointer (some ad):=by
 unfold lu at h;split at h
 ·cases h
 ·split at h
  ·obtain⟨b,off,_,rfl⟩:=hu;exact⟨_,rfl⟩
  ·obtain⟨b,off,rfl,_⟩:=hu;exact⟨_,rfl⟩
  ·obtain⟨ad,rfl,_⟩:=hu;exact⟨_,rfl⟩
  ·cases h
theorem Zp{x:A}{p:Bool×af Lf}(h:MC x=some p){u:Value}(hu:RA w B ah ρ x u):RP w B ah ρ p u:=by
 unfold MC at h;split at h
 ·injection h with h;subst h
  refine⟨rfl,λj y hy=>?_⟩
  cases j with
  |zero=>simp at hy;subst hy;exact⟨u,rfl,hu⟩
  |succ j=>simp at hy
 ·injection h with h;subst h;exact hu
 ·cases h
def s9(tmps:Array Value):ResultVar->Sem Value
 |.tmp t=>pure (tmps.getD t undef)
 |.cell a t=>do loadVar t (<-asAddr (tmps.getD a undef))
theorem Is:∀ (l:af ResultVar) (k:af (Bool×af Lf)->aj X),qP P σ l k=some r->∃ ps,k ps=some r/\∀ ah ρ a w,Rl w0 N ah ρ σ a w->∃ vs,(l.mapM (s9 a.tmps)).run P w = .ok vs w/\vs.length=ps.length/\∀ (i:Nat) p v,ps[i]?=some p->vs[i]?=some v->RP w w0.heap.size ah ρ p v
 |[],k,h=>⟨[],h,λ_ _ _ _ _=>⟨[],rfl,rfl,λi p v hp=>by simp at hp⟩⟩
 | .tmp t :: rest,k,h=>by
  simp only[qP]at h;split at h
  ·rename_i p hp;obtain⟨ps,h2,jm⟩:=Is rest _ h
   refine⟨p::ps,h2,λah ρ a w hR=>?_⟩
   obtain⟨vs,bq,hl,hv⟩:=jm ah ρ a w hR
   refine⟨a.tmps.getD t undef::vs,?_,by simp[hl],λi q u hq hu=>?_⟩
   ·rw[List.mapM_cons,fz];simp only[s9,Sem.run_pure,kA,fz,bq]
   ·cases i with
    |zero=>simp only[List.getElem?_cons_zero,gp]at hq hu;subst hq hu;exact Zp hp (hR.tmp t)
    |succ i=>exact hv i q u (by simpa using hq) (by simpa using hu)
  ·cases h
 | .cell c ty :: rest,k,h=>by
  simp only[qP]at h;obtain⟨y,hy,ta⟩:=YK (w0:=w0) (N:=N) h;split at hy
  ·rename_i p hp;obtain⟨ps,h2,jm⟩:=Is rest _ hy
   refine⟨p::ps,h2,λah ρ a w hR=>?_⟩
   obtain⟨vs,bq,hl,hv⟩:=jm ah ρ a w hR;obtain⟨v,wP,yF⟩:=ta ah ρ a w hR _ (hR.tmp c);obtain⟨ad,jX⟩:=ahY h (hR.tmp c);rw[jX]at wP;have wP:(loadVar ty ad).run P w = .ok v w:=by
    simpa [Instr.loadAt,Instr.sureAddr]using wP
   refine⟨v::vs,?_,by simp[hl],λi q u hq hu=>?_⟩
   ·rw[List.mapM_cons,fz];simp only[s9,jX,asAddr,Sem.run_pure,kA,fz,bq,wP]
   ·cases i with
    |zero=>simp only[List.getElem?_cons_zero,gp]at hq hu;subst hq hu;exact Zp hp yF
    |succ i=>exact hv i q u (by simpa using hq) (by simpa using hu)
  ·cases hy
theorem ahZ{fn:Func}{k:iF->aj X}(h:Il P σ fn.results k=some r):∃ res,k res=some r/\∀ ah ρ a w,Rl w0 N ah ρ σ a w->∀ nm,∃ v aC,(results fn a.tmps).run P w = .ok v w/\(∀ b k,aC b=some k->(w0.heap.size<=b\/w0.L b≠none)/\b<w.heap.size/\k≠[])/\sY w w0.heap.size aC nm res v:=by
 unfold Il at h;obtain⟨ps,h2,jm⟩:=Is (w0:=w0) (N:=N) _ _ h;clear h;split at h2
 ·rename_i qs rs SS;cases ho:once rs with
  |false=>rw[ho]at h2;cases h2
  | true=>
   rw[ho,aq]at h2;have gj:∀ p∈rs,rs.lookup p.1=some p.2:=by
    intro p hp;have:=c9.1 ho p hp;obtain⟨n,hn,he⟩:=(Option.any_eq_true _ _).1 this;rw[hn,cz he]
   have core:∀ ah ρ a w,Rl w0 N ah ρ σ a w->∀ nm:Nat->Nat,∃ vs:af Value,(fn.results.mapM (s9 a.tmps)).run P w = .ok vs.toArray w/\(∀ b k,fl ah rs nm b=some k->(w0.heap.size<=b\/w0.L b≠none)/\b<w.heap.size/\k≠[])/\lC w w0.heap.size (fl ah rs nm) nm 0 qs vs:=by
    intro ah ρ a w hR nm;obtain⟨vs,bq,hl,hv⟩:=jm ah ρ a w hR
    refine⟨vs,?_,λb k hk=>?_,SR hR.root ps 0 qs rs vs SS gj hl hv⟩
    ·rw[Array.mapM_eq_mapM_toList];simp[bq]
    ·unfold fl at hk;split at hk
     ·cases hk
     ·rename_i k' dU;have:=hR.dn b k' dU;split at hk
      ·cases hk
      ·cases vz:rs.lookup _ with
       |none=>rw[vz]at hk;cases hk
       | some n=>
        rw[vz]at hk;injection hk with hk;subst hk;exact⟨this.1,this.2.1,by simp⟩
   have iS:∀ (tmps:Array Value),results fn tmps=(do let vs <-fn.results.mapM (s9 tmps);pure (if h:vs.size=1 then vs[0]else .tuple vs)):=λtmps=>by
    unfold results;congr 1
   split at h2
   ·rename_i p
    refine⟨_,h2,λah ρ a w hR nm=>?_⟩
    obtain⟨vs,bq,lE,aO⟩:=core ah ρ a w hR nm
    match vs,aO with
    |[v],aO=>exact⟨v,_,by rw[iS,fz,bq];rfl,lE,aO⟩
    |[],aO=>exact aO.elim
    |_::_::_,aO=>exact aO.2.elim
   ·rename_i bg
    refine⟨_,h2,λah ρ a w hR nm=>?_⟩
    obtain⟨vs,bq,lE,aO⟩:=core ah ρ a w hR nm;have dx:vs.toArray.size≠1:=by
     intro e
     match qs,vs,aO,bg with
     |[q],[v],_,bg=>exact bg q rfl
     |[],[v],aO,_=>exact aO.elim
     |_::_::_,[v],aO,_=>exact aO.2.elim
    refine⟨.tuple vs.toArray,_,?_,lE,vs.toArray,rfl,aO⟩;rw[iS,fz,bq,kA];simp only[dx,dif_neg,not_false_eq_true,Sem.run_pure]
 ·cases h2
end
end Go.Proofs.YtcioagfjiccleaaGreat
namespace Go.Proofs.YtcioagfjiccleaaGreat
open Go.RowKit
set_option linter.unusedVariables false
inductive In where
 |ax (cs:List V)
 |sl (y:V)
def nF(i:Nat):Nat:=20000+1000*i
def nC(i j:Nat)(x:V):Nat:=bif x.aA then 20001+1000*i+j else 60000+1000*i+j
def AO(i j:Nat)(x:V):Lf:=bif x.plain then .v x else .own [nC i j x]
def AP(i:Nat):Nat->af V->af Lf
 |_,[]=>[]
 |j,x::xs=>AO i j x::AP i (j+1) xs
def ME(i:Nat):Nat->af V->(Nat->aj aW)->(Nat->aj aW)
 |_,[],m=>m
 |j,x::xs,m=>ME i (j+1) xs (bif x.plain then m else bP m (nC i j x) (some (.sl x)))
def MF:Nat->af In->(Nat->aj aW)->(Nat->aj aW)
 |_,[],m=>m
 |i,.ax cs::r,m=>MF (i+1) r (ME i 0 cs (bP m (nF i) (some (.ax (AP i 0 cs)))))
 |i,.sl y::r,m=>MF (i+1) r (bP m (nF i) (some (.sl y)))
inductive Ar where
 |pt (p:Pt)
 |mut (i off:Nat)
def MG(ins:af In):Ar->A
 |.pt (false,[x])=>.lf (.v x)
 |.pt (true,xs)=>.agg (xs.map .v)
 |.pt (false,.bool false::.int .i64 g::c::cs)=>.mK g.toNat (c::cs)
 |.pt _=>.undef
 | .mut i off=>match ins[i]? with
  |some (.ax _)=>.aG (nF i) off
  |some (.sl _)=>.lf (.own [nF i])
  |none=>.undef
def wW(ins:af In)(args:af Ar):S:=⟨λk=>match args[k]? with
 |some x=>MG ins x
 |none=>.undef,MF 0 ins (λ_=>none)⟩
def td(w w':World)(aC:bE)(ρ:Nat->Loc)(nm:Nat->Nat):Nat->Nat->af In->af In->Prop
 |_,_,[],[]=>True
 | i,pos,.ax cs :: r,.ax fO :: r'=>(∃ b off cells pE e e',ρ (nF i) = .ax b off/\w.heap[b]?=some (.cells cells e (0,0))/\w'.heap[b]?=some (.cells pE e' (0,0))/\aC b=some [nm pos]/\off+fO.length<=pE.size/\fO.length=cs.length/\
   ∀(j:Nat) x',fO[j]?=some x'->∃u,pE[off+j]?=some u/\((x'.plain=true/\∀(w:World) (B:Nat) (ah:bE) (q:af Nat),RV w B ah q x' u)\/(x' = .nil/\u = .slice none 0 0/\∃x0,cs[j]?=some x0/\x0.aA=false)\/(x'.plain=false/\x'.aA=true/\x'.l5=true/\(∃x0,cs[j]?=some x0/\Wk x0 x')/\cells[off+j]?=some u)\/(x'.aA=false/\RV w' w.heap.size aC [nm (pos+1+j)] x' u)))/\
   td w w' aC ρ nm (i+1) (pos+1+cs.length) r r'
 |i,pos,.sl y::r,.sl y'::r'=>(y' = .nil\/∃v,ρ (nF i) = .dP v/\RV w' w.heap.size aC [nm pos] y' v)/\td w w' aC ρ nm (i+1) (pos+1) r r'
 |_,_,_,_=>False
def It(w w':World)(aC:bE)(ρ:Nat->Loc)(nm:Nat->Nat):Nat->Nat->af In->af In->Prop
 |_,_,[],[]=>True
 | i,pos,.ax cs :: r,.ax fO :: r'=>(∃ b off cells pE e e',ρ (nF i) = .ax b off/\w.heap[b]?=some (.cells cells e (0,0))/\w'.heap[b]?=some (.cells pE e' (0,0))/\aC b=some [nm pos]/\off+fO.length<=pE.size/\fO.length=cs.length/\
   ∀(j:Nat) x',fO[j]?=some x'->∃u,pE[off+j]?=some u/\((x'.plain=true/\∀(w:World) (B:Nat) (ah:bE) (q:af Nat),RV w B ah q x' u)\/(x'.plain=false/\x'.aA=true/\cells[off+j]?=some u)\/(x'.aA=false/\RV w' w.heap.size aC [nm (pos+1+j)] x' u)))/\
   It w w' aC ρ nm (i+1) (pos+1+cs.length) r r'
 |i,pos,.sl y::r,.sl y'::r'=>(y' = .nil\/∃v,ρ (nF i) = .dP v/\RV w' w.heap.size aC [nm pos] y' v)/\It w w' aC ρ nm (i+1) (pos+1) r r'
 |_,_,_,_=>False
def iF.len:iF->Nat
 |.one p=>p.2.length
 |.cP ps=>(ps.map λp=>p.2.length).sum
def qQ(w:World)(B:Nat)(ah:bE)(ρ:Nat->Loc):Nat->af In->Prop
 |_,[]=>True
 |i,.ax cs::r=>fj w B ah ρ (nF i) (.ax (AP i 0 cs))/\(∀(j:Nat) x,cs[j]?=some x->x.plain=false->fj w B ah ρ (nC i j x) (.sl x))/\qQ w B ah ρ (i+1) r
 |i,.sl y::r=>fj w B ah ρ (nF i) (.sl y)/\qQ w B ah ρ (i+1) r
/-! The end: what is given back,and what the written parameters hold. -/
def SU(m:Nat->aj aW)(i j:Nat)(x0:V):Lf->aj (V×aj Nat)
 |.v x=>bif x.plain then some (x,none)else (bif !x.l5 && !x0.aA then some (.nil,none)else none)
 | .own [r]=>match m r with
  |some (.sl y)=>bif y.aA then (bif !x0.plain&&(x0.aA&&x0.l5)&&Nat.beq r (20001+1000*i+j)&&Nat.blt r 60000 then some (x0,none)else none)else (bif y.loc then some (y,some r)else none)
  |_=>none
 |_=>none
def CE(m:Nat->aj aW)(i pos:Nat):Nat->af V->af Lf->aj (af V×af (Nat×Nat))
 |_,[],[]=>some ([],[])
 | j,x0 :: xs,l :: ls=>match SU m i j x0 l,CE m i pos (j+1) xs ls with
  |some (y,none),some (ys,rs)=>some (y::ys,rs)
  |some (y,some r),some (ys,rs)=>some (y::ys,(r,pos+1+j)::rs)
  |_,_=>none
 |_,_,_=>none
def V.gone:V->Bool
 |.sl _ o _ _=>Nat.ble 1000000 o
 |_=>false
def AQ(m:Nat->aj aW):Nat->Nat->af In->aj (af In×af (Nat×Nat))
 |_,_,[]=>some ([],[])
 | i,pos,.ax cs :: r=>match bif Nat.blt (nF i) 60000 then m (nF i)else none with
  | some (.ax ls)=>match CE m i pos 0 cs ls,AQ m (i+1) (pos+1+cs.length) r with
   |some (fO,rs),some (os,pz)=>some (.ax fO::os,(nF i,pos)::(rs++pz))
   |_,_=>none
  |_=>none
 | i,pos,.sl y0 :: r=>bif y0.gone then (match AQ m (i+1) (pos+1) r with
   |some (os,pz)=>some (.sl .nil::os,pz)
   |none=>none)else match bif Nat.blt (nF i) 60000 then m (nF i)else none with
  | some (.sl y')=>bif y'.loc && !y'.aA then (match AQ m (i+1) (pos+1) r with
   |some (os,pz)=>some (.sl y'::os,(nF i,pos)::pz)
   |none=>none)else none
  |_=>none
def Iu{X:Type}(P:Program)(σ:S)(fn:Array ResultVar)(ins:af In)(k:af In->iF->aj X):aj X:=
 qP P σ fn.toList λps=>match EY σ.m 0 ps with
  | some (qs,rs)=>match AQ σ.m 0 (qs.map λp=>p.2.length).sum ins with
   | some (os,pz)=>bif once (rs++pz)then (match qs with
    |[p]=>k os (.one p)
    |qs=>k os (.cP qs))else none
   |none=>none
  |none=>none
/-! Types of parameters and results. -/
def mg:af (Bool×TC×Nat)->Type
 |[]=>ak
 |[(_,t,_)]=>T t
 |(_,t,_)::r=>T t×mg r
def vA:(l:af (Bool×TC×Nat))->mg l->af Pt
 |[],_=>[]
 |[(b,t,g)],x=>[(b,enc t g x)]
 |(b,t,g)::q::r,x=>(b,enc t g x.1)::vA (q::r) x.2
def ou:(l:af (Bool×TC×Nat))->af Pt->aj (mg l)
 |[],[]=>some ()
 |[(b,t,g)],[(b',vs)]=>bif b==b' then dec t g vs else none
 | (b,t,g) :: q :: r,(b',vs) :: ps=>bif b==b' then (match dec t g vs,ou (q :: r) ps with
  |some x,some xs=>some (x,xs)
  |_,_=>none)else none
 |_,_=>none
def pF(l:af (Bool×TC×Nat)):iF->aj (mg l)
 |.one p=>ou l [p]
 |.cP ps=>bif Nat.beq ps.length 1 then none else ou l ps
def fK(l:af (Bool×TC×Nat))(x:mg l):iF:=
 match vA l x with
 |[p]=>.one p
 |ps=>.cP ps
inductive PK where
 |v (b:Bool) (t:TC)
 |p (t:TC) (g off:Nat)
 |s (t:TC) (g:Nat)
def nL:af PK->Type
 |[]=>ak
 |.v _ t::r=>T t×nL r
 |.p t _ _::r=>T t×nL r
 |.s t _::r=>af (T t)×nL r
def vB:af (Bool×TC×Nat)->Type
 |[]=>ak
 |(true,t,_)::r=>T t×vB r
 |(false,t,_)::r=>af (T t)×vB r
def jQ:(l:af (Bool×TC×Nat))->vB l->af In
 |[],_=>[]
 |(true,t,g)::r,x=>.ax (enc t g x.1)::jQ r x.2
 |(false,t,g)::r,x=>.sl (bif Nat.ble 1000000 g then .nil else .sl t (g+2) false x.1)::jQ r x.2
def fC:af PK->af (Bool×TC×Nat)
 |[]=>[]
 |.v _ _::r=>fC r
 |.p t g _::r=>(true,t,g)::fC r
 |.s t g::r=>(false,t,g)::fC r
def qR:(l:af PK)->nL l->af In
 |[],_=>[]
 |.v _ _::r,x=>qR r x.2
 |.p t g _::r,x=>.ax (enc t g x.1)::qR r x.2
 |.s t g::r,x=>.sl (.sl t (g+2) false x.1)::qR r x.2
def m8:(l:af PK)->Nat->nL l->af Ar
 |[],_,_=>[]
 |.v b t::r,i,x=>.pt (b,enc t 0 x.1)::m8 r i x.2
 |.p _ _ off::r,i,x=>.mut i off::m8 r (i+1) x.2
 |.s _ _::r,i,x=>.mut i 0::m8 r (i+1) x.2
structure pG where
 ps:List PK
 ro:List (Bool×TC×Nat)
 F:nL ps->Option (mg ro×vB (fC ps))
def wX(P:Program)(f:Nat)(c:pG):Prop:=
 ∀ x y,c.F x=some y->∀ (nm:Nat->Nat) (w:World) (ah:bE) (ρ:Nat->Loc) (bQ:Array Value),qQ w w.heap.size ah ρ 0 (qR c.ps x)->(∀ b k,ah b=some k->b<w.heap.size/\k≠[])->
     bQ.size=c.ps.length->(∀i,RA w w.heap.size ah ρ ((wW (qR c.ps x) (m8 c.ps 0 x)).t i) (bQ.getD i undef))->∀hQ:Hd w ah,
     Calls P f bQ w λe w'=>∃v aC,e = .returned v/\kQ ⟨w,ah,λ_=>none,hQ,λ_ _=>rfl⟩ w w'/\(∀b k,aC b=some k->(w.heap.size<=b\/ah b≠none)/\b<w'.heap.size/\k≠[])/\sY w' w.heap.size aC nm (fK c.ro y.1) v/\It w w' aC ρ nm 0 (fK c.ro y.1).len (qR c.ps x) (jQ (fC c.ps) y.2)
end Go.Proofs.YtcioagfjiccleaaGreat
namespace Go.Proofs.YtcioagfjiccleaaGreat
open Go.RowKit
set_option linter.unusedVariables false
def Iv(w:World)(ρ:Nat->Loc):Nat->af In->Prop
 |_,[]=>True
 |i,.ax cs::r=>(∃b off cells e,ρ (nF i) = .ax b off/\w.heap[b]?=some (.cells cells e (0,0))/\∀(j:Nat) x,cs[j]?=some x->x.plain=false->x.aA=true->∃u,cells[off+j]?=some u/\ρ (20001+1000*i+j) = .dP u)/\Iv w ρ (i+1) r
 |i,.sl y::r=>(∃v,ρ (nF i) = .dP v)/\Iv w ρ (i+1) r
section
variable {P:Program} {w w':World} {w0:Wd} {B N:Nat} {ah aC:bE} {ρ ρ':Nat->Loc} {σ:S} {a:Act} {X:Type} {d:Nat} {r:X} {rs:af (Nat×Nat)} {nm:Nat->Nat}
theorem SV{m:Nat->aj aW}{i pos:Nat}:∀ (xs:af V) (ls:af Lf) (j0:Nat) (ys:af V) (me:af (Nat×Nat)),CE m i pos j0 xs ls=some (ys,me)->ys.length=xs.length/\ls.length=xs.length/\
  ∀(j:Nat) y,ys[j]?=some y->∃l x0,ls[j]?=some l/\xs[j]?=some x0/\((l = .v y/\y.plain=true)\/(l = .v .nil/\y = .nil/\x0.aA=false)\/(l = .own [20001+1000*i+(j0+j)]/\y=x0/\y.plain=false/\(y.aA&&y.l5)=true/\20001+1000*i+(j0+j)<60000)\/(∃q,l = .own [q]/\m q=some (.sl y)/\y.aA=false/\(q,pos+1+(j0+j))∈me))
 | [],[],j0,ys,me,h=>by
  simp only[CE,gp,jL]at h;obtain⟨rfl,rfl⟩:=h;exact⟨rfl,rfl,λj y hy=>by simp at hy⟩
 |[],_::_,j0,ys,me,h=>by simp[CE]at h
 |_::_,[],j0,ys,me,h=>by simp[CE]at h
 | x0 :: xs,l :: ls,j0,ys,me,h=>by
  have hc:∀ y z,SU m i j0 x0 l=some (y,z)->(z=none/\l = .v y/\y.plain=true)\/(z=none/\l = .v .nil/\y = .nil/\x0.aA=false)\/(z=none/\l = .own [20001+1000*i+j0]/\y=x0/\y.plain=false/\(y.aA&&y.l5)=true/\20001+1000*i+j0<60000)\/(∃ q,z=some q/\l = .own [q]/\m q=some (.sl y)/\y.aA=false):=by
   intro y z hz;unfold SU at hz;split at hz
   ·rename_i x;cases hp:x.plain with
    | false=>
     rw[hp,au]at hz;cases hb:(!x.l5 && !x0.aA)with
     |false=>rw[hb]at hz;cases hz
     | true=>
      rw[hb,aq]at hz;simp only[gp,jL]at hz;obtain⟨rfl,rfl⟩:=hz;rw[aJ,hD,hD]at hb;have hx:x = .nil:=by
       cases x<;>first|rfl|(exact absurd hb.1 (by simp[V.l5]))
      subst hx;exact .inr (.inl ⟨rfl,rfl,rfl,hb.2⟩)
    | true=>
     rw[hp,aq]at hz;simp only[gp,jL]at hz;obtain⟨rfl,rfl⟩:=hz;exact .inl ⟨rfl,rfl,hp⟩
   ·rename_i q;split at hz
    ·rename_i y1 SW;cases hf:y1.aA with
     | true=>
      rw[hf,aq]at hz;cases hb:(!x0.plain&&(x0.aA&&x0.l5)&&Nat.beq q (20001+1000*i+j0)&&Nat.blt q 60000)with
      |false=>rw[hb]at hz;cases hz
      | true=>
       rw[hb,aq]at hz;simp only[gp,jL]at hz;obtain⟨rfl,rfl⟩:=hz;rw[aJ,aJ,aJ,hD]at hb;obtain⟨⟨⟨b1,b2⟩,b3⟩,b4⟩:=hb;obtain rfl:=cz b3;exact .inr (.inr (.inl ⟨rfl,rfl,rfl,b1,b2,by have:=cH b4;omega⟩))
     | false=>
      rw[hf,au]at hz;cases hl:y1.loc with
      |false=>rw[hl]at hz;cases hz
      | true=>
       rw[hl,aq]at hz;simp only[gp,jL]at hz;obtain⟨rfl,rfl⟩:=hz;exact .inr (.inr (.inr ⟨q,rfl,rfl,SW,hf⟩))
    ·cases hz
   ·cases hz
  unfold CE at h;split at h
  ·rename_i y CC pz hy m7;simp only[gp,jL]at h;obtain⟨rfl,rfl⟩:=h;obtain⟨h1,h2,h3⟩:=SV xs ls (j0+1) CC pz m7
   refine⟨by simp[h1],by simp[h2],λj y' fP=>?_⟩
   cases j with
   | zero=>
    simp at fP;subst fP;refine⟨l,x0,rfl,rfl,?_⟩;rcases hc y none hy with ⟨_,e1,e2⟩|⟨_,e1,e2,e3⟩|⟨_,e1,e2,e3,e4,e5⟩|⟨q,hq,_⟩
    ·exact .inl ⟨e1,e2⟩
    ·exact .inr (.inl ⟨e1,e2,e3⟩)
    ·exact .inr (.inr (.inl ⟨e1,e2,e3,e4,e5⟩))
    ·cases hq
   | succ j=>
    obtain⟨l',x',g1,g2,g3⟩:=h3 j y' (by simpa using fP);rw[show j0+1+j=j0+(j+1) by omega]at g3;exact⟨l',x',by simpa using g1,by simpa using g2,g3⟩
  ·rename_i y q CC pz hy m7;simp only[gp,jL]at h;obtain⟨rfl,rfl⟩:=h;obtain⟨h1,h2,h3⟩:=SV xs ls (j0+1) CC pz m7
   refine⟨by simp[h1],by simp[h2],λj y' fP=>?_⟩
   cases j with
   | zero=>
    simp at fP;subst fP;refine⟨l,x0,rfl,rfl,?_⟩;rcases hc y (some q) hy with ⟨e0,_⟩|⟨e0,_⟩|⟨e0,_⟩|⟨q',hq,e1,e2,e3⟩
    ·cases e0
    ·cases e0
    ·cases e0
    ·injection hq with hq;subst hq;exact .inr (.inr (.inr ⟨q,e1,e2,e3,.head _⟩))
   | succ j=>
    obtain⟨l',x',g1,g2,g3⟩:=h3 j y' (by simpa using fP);rw[show j0+1+j=j0+(j+1) by omega]at g3;exact⟨l',x',by simpa using g1,by simpa using g2,g3.imp id (λg=>g.imp id (λg=>g.imp id λ⟨q',e1,e2,e3,e4⟩=>⟨q',e1,e2,e3,.tail _ e4⟩))⟩
  ·cases h
theorem MH{w1:World}{wY:Nat->Loc}{m:Nat->aj aW}(wZ:∀ r,20000<=r->r<60000->ρ r=wY r)(hm:∀ r x,m r=some x->fj w w1.heap.size ah ρ r x):
  ∀(ins:af In) (i pos:Nat) (outs:af In) (me:af (Nat×Nat)),AQ m i pos ins=some (outs,me)->(∀p∈me,rs.lookup p.1=some p.2)->Iv w1 wY i ins->td w1 w (fl ah rs nm) wY nm i pos ins outs
 | [],i,pos,outs,me,h,gj,he=>by
  simp only[AQ,gp,jL]at h;obtain⟨rfl,rfl⟩:=h;trivial
 | .ax cs :: r,i,pos,outs,me,h,gj,he=>by
  unfold AQ at h;cases hi:Nat.blt (nF i) 60000 with
  |false=>rw[hi]at h;cases h
  | true=>
   rw[hi,aq]at h;have hi:=cH hi;split at h
   ·rename_i ls Im;split at h
    ·rename_i fO rs1 os CD h1 h2;simp only[gp,jL]at h;obtain⟨rfl,rfl⟩:=h;obtain⟨⟨b,off,cells,e,Zq,SK,vC⟩,Iw⟩:=he;obtain⟨k1,k2,k3⟩:=SV _ _ _ _ _ h1
     refine⟨?_,MH wZ hm r (i+1) _ os CD h2 (λp hp=>gj p (.tail _ (List.mem_append_right _ hp))) Iw⟩
     have cQ:=hm _ _ Im;have SX:=wZ (nF i) (by unfold nF;omega) (by omega);generalize hx:aW.ax ls=x at cQ;cases cQ with
     |sl=>cases hx
     |mp=>cases hx
     |gh=>cases hx
     | ax b' pQ pE e' ls' us aM hl hh hs hc=>
      injection hx with hx;subst hx;rw[SX,Zq]at aM;injection aM with e1 e2;subst e1 e2
      refine⟨b,off,cells,pE,e,e',Zq,SK,hh,?_,by rw[k1,<-k2];exact hs,k1,λj y hy=>?_⟩
      ·have:=gj _ (List.Mem.head _);simp[fl,hl,this]
      ·obtain⟨l,x0,g1,g2,g3⟩:=k3 j y hy;obtain⟨c1,c2⟩:=hc j l g1;refine⟨_,c1,?_⟩;rw[fQ]at g3;rcases g3 with ⟨rfl,hp⟩ | ⟨rfl,rfl,Mw⟩ | ⟨rfl,rfl,hp,pZ,bC⟩ | ⟨q,rfl,hq,hf,uw⟩
       ·exact .inl ⟨hp,λ_ _ _ _=>c2.2.vj hp⟩
       ·exact .inr (.inl ⟨rfl,by have h9:=c2.2;generalize us j=u9 at h9 ⊢;cases h9;rfl,x0,g2,Mw⟩)
       ·rw[aJ]at pZ;obtain⟨hf,SY⟩:=pZ;obtain⟨u,hu,ah0⟩:=vC j y g2 hp hf;refine .inr (.inr (.inl ⟨hp,hf,SY,⟨y,g2,.same _⟩,?_⟩));have h3:=c2.2;have SZ:=wZ (20001+1000*i+j) (by omega) bC;simp only[cE,SZ,ah0]at h3;injection h3 with h3;rw[<-h3];exact hu
       ·refine .inr (.inr (.inr ⟨hf,?_⟩));have cQ:=hm _ _ hq;generalize hx:aW.sl y=x at cQ;cases cQ with
        |ax=>cases hx
        |mp=>cases hx
        |gh=>cases hx
        | sl v y' aM hr=>
         injection hx with hx;subst hx;have h3:=c2.2;simp only[cE,aM]at h3;injection h3 with h3;rw[<-h3];exact RV.fl (p:=[]) hr (gj _ (.tail _ (List.mem_append_left _ uw)))
    ·cases h
   ·cases h
 | .sl y :: r,i,pos,outs,me,h,gj,he=>by
  unfold AQ at h;cases hg:y.gone with
  | true=>
   rw[hg,aq]at h;split at h
   next os CD h2=>simp only[gp,jL]at h;obtain⟨rfl,rfl⟩:=h;exact⟨.inl rfl,MH wZ hm r (i+1) _ os CD h2 gj he.2⟩
   ·cases h
  |false=>
  rw[hg,au]at h;cases hi:Nat.blt (nF i) 60000 with
  |false=>rw[hi]at h;cases h
  | true=>
   rw[hi,aq]at h;have hi:=cH hi;split at h
   ·rename_i y' fP;cases hl:(y'.loc && !y'.aA)with
    |false=>rw[hl]at h;cases h
    | true=>
     rw[hl,aq]at h;split at h
     ·rename_i os CD h2;simp only[gp,jL]at h;obtain⟨rfl,rfl⟩:=h;obtain⟨⟨v,hv⟩,Iw⟩:=he
      refine⟨.inr ⟨v,hv,?_⟩,MH wZ hm r (i+1) _ os CD h2 (λp hp=>gj p (.tail _ hp)) Iw⟩
      have SX:=wZ (nF i) (by unfold nF;omega) (by omega);have cQ:=hm _ _ fP;generalize hx:aW.sl y'=x at cQ;cases cQ with
      |ax=>cases hx
      |mp=>cases hx
      |gh=>cases hx
      | sl v' y'' aM hr=>
       injection hx with hx;subst hx;rw[SX,hv]at aM;injection aM with aM;subst aM;exact RV.fl (p:=[]) hr (gj _ (.head _))
     ·cases h
   ·cases h
theorem ah1{w1:World}{wY:Nat->Loc}{fn:Func}{ins:af In}{k:af In->iF->aj X}(hw:w0.w=w1)(hF:∀ r,20000<=r->r<60000->w0.F r=some (wY r))(he:Iv w1 wY 0 ins)(h:Iu P σ fn.results ins k=some r):
  ∃outs res,k outs res=some r/\∀ah ρ a w,Rl w0 N ah ρ σ a w->∀nm,∃v aC,(results fn a.tmps).run P w = .ok v w/\(∀b k,aC b=some k->(w0.heap.size<=b\/w0.L b≠none)/\b<w.heap.size/\k≠[])/\sY w w0.heap.size aC nm res v/\td w1 w aC wY nm 0 res.len ins outs:=by
 unfold Iu at h;obtain⟨ps,h2,jm⟩:=Is (w0:=w0) (N:=N) _ _ h;clear h;split at h2
 ·rename_i qs S0 SS;split at h2
  ·rename_i os S1 hos;cases ho:once (S0++S1)with
   |false=>rw[ho]at h2;cases h2
   | true=>
    rw[ho,aq]at h2;generalize Zr:S0++S1=rs at ho;have gj:∀ p∈rs,rs.lookup p.1=some p.2:=by
     intro p hp;have:=c9.1 ho p hp;obtain⟨n,hn,he⟩:=(Option.any_eq_true _ _).1 this;rw[hn,cz he]
    have core:∀ ah ρ a w,Rl w0 N ah ρ σ a w->∀ nm:Nat->Nat,∃ vs:af Value,(fn.results.mapM (s9 a.tmps)).run P w = .ok vs.toArray w/\(∀ b k,fl ah rs nm b=some k->(w0.heap.size<=b\/w0.L b≠none)/\b<w.heap.size/\k≠[])/\lC w w0.heap.size (fl ah rs nm) nm 0 qs vs/\
      td w1 w (fl ah rs nm) wY nm 0 (qs.map λp=>p.2.length).sum ins os:=by
     intro ah ρ a w hR nm;obtain⟨vs,bq,hl,hv⟩:=jm ah ρ a w hR
     refine⟨vs,?_,λb k hk=>?_,SR hR.root ps 0 qs S0 vs SS (λp hp=>gj p (by rw[<-Zr];exact List.mem_append_left _ hp)) hl hv,
      MH (λr h1 h2=>hR.fix r _ (hF r h1 h2)) (by rw[<-hw];exact hR.root) ins 0 _ os S1 hos (λp hp=>gj p (by rw[<-Zr];exact List.mem_append_right _ hp)) he⟩
     ·rw[Array.mapM_eq_mapM_toList];simp[bq]
     ·unfold fl at hk;split at hk
      ·cases hk
      ·rename_i k' dU;have:=hR.dn b k' dU;split at hk
       ·cases hk
       ·cases vz:rs.lookup _ with
        |none=>rw[vz]at hk;cases hk
        | some n=>
         rw[vz]at hk;injection hk with hk;subst hk;exact⟨this.1,this.2.1,by simp⟩
    have iS:∀ (tmps:Array Value),results fn tmps=(do let vs <-fn.results.mapM (s9 tmps);pure (if h:vs.size=1 then vs[0]else .tuple vs)):=λtmps=>by
     unfold results;congr 1
    split at h2
    ·rename_i p
     refine⟨_,_,h2,λah ρ a w hR nm=>?_⟩
     obtain⟨vs,bq,lE,aO,hO⟩:=core ah ρ a w hR nm;have hO:td w1 w (fl ah rs nm) wY nm 0 (iF.one p).len ins os:=by simpa [iF.len]using hO
     match vs,aO with
     |[v],aO=>exact⟨v,_,by rw[iS,fz,bq];rfl,lE,aO,hO⟩
     |[],aO=>exact aO.elim
     |_::_::_,aO=>exact aO.2.elim
    ·rename_i bg
     refine⟨_,_,h2,λah ρ a w hR nm=>?_⟩
     obtain⟨vs,bq,lE,aO,hO⟩:=core ah ρ a w hR nm;have dx:vs.toArray.size≠1:=by
      intro e;clear hO;have e:vs.length=1:=by simpa using e
      match qs,vs,aO,bg,e with
      |[q],[v],_,bg,_=>exact bg q rfl
      |[],[v],aO,_,_=>exact aO.elim
      |_::_::_,[v],aO,_,_=>exact aO.2.elim
     refine⟨.tuple vs.toArray,_,?_,lE,⟨vs.toArray,rfl,aO⟩,hO⟩;rw[iS,fz,bq,kA];simp only[dx,dif_neg,not_false_eq_true,Sem.run_pure]
  ·cases h2
 ·cases h2
theorem Zs{i:Nat}:∀ (cs:af V) (j0:Nat) (m:Nat->aj aW) (r:Nat) (x:aW),ME i j0 cs m r=some x->m r=some x\/∃ j y,cs[j]?=some y/\y.plain=false/\r=nC i (j0+j) y/\x = .sl y
 |[],j0,m,r,x,h=>.inl h
 | c :: cs,j0,m,r,x,h=>by
  unfold ME at h;rcases Zs cs (j0+1) _ r x h with h1|⟨j,y,h1,h2,h3,h4⟩
  ·cases hp:c.plain with
   |true=>rw[hp]at h1;exact .inl h1
   | false=>
    rw[hp,au]at h1;by_cases hr:r=nC i j0 c
    ·subst hr;rw[bY]at h1;injection h1 with h1;exact .inr ⟨0,c,rfl,hp,rfl,h1.symm⟩
    ·rw[cL _ _ _ hr]at h1;exact .inl h1
  ·exact .inr ⟨j+1,y,by simpa using h1,h2,by rw[h3];congr 1;omega,h4⟩
theorem qQ.roots:∀ (ins:af In) (i:Nat) (m:Nat->aj aW),qQ w B ah ρ i ins->(∀ r x,m r=some x->fj w B ah ρ r x)->∀ r x,MF i ins m r=some x->fj w B ah ρ r x
 |[],i,m,_,hm,r,x,h=>hm r x h
 | .ax cs :: ins,i,m,he,hm,r,x,h=>by
  obtain⟨h1,h2,h3⟩:=he
  refine qQ.roots ins (i+1) _ h3 (λr x hx=>?_) r x h
  rcases Zs cs 0 _ r x hx with h4|⟨j,y,g1,g2,g3,g4⟩
  ·by_cases hr:r=nF i
   ·subst hr;rw[bY]at h4;injection h4 with h4;subst h4;exact h1
   ·rw[cL _ _ _ hr]at h4;exact hm r x h4
  ·rw[fQ]at g3;subst g3 g4;exact h2 j y g1 g2
 | .sl y :: ins,i,m,he,hm,r,x,h=>by
  obtain⟨h1,h3⟩:=he
  refine qQ.roots ins (i+1) _ h3 (λr x hx=>?_) r x h
  by_cases hr:r=nF i
  ·subst hr;rw[bY]at hx;injection hx with hx;subst hx;exact h1
  ·rw[cL _ _ _ hr]at hx;exact hm r x hx
theorem S2{i:Nat}:∀ (cs:af V) (j0 j:Nat) x,cs[j]?=some x->(AP i j0 cs)[j]?=some (AO i (j0+j) x)
 |[],j0,j,x,h=>by simp at h
 |c::cs,j0,0,x,h=>by simp at h;subst h;rfl
 | c :: cs,j0,j+1,x,h=>by
  simp only[AP,List.getElem?_cons_succ];rw[S2 cs (j0+1) j x (by simpa using h)];congr 2;omega
theorem qQ.S3:∀ (ins:af In) (i:Nat),qQ w B ah ρ i ins->Iv w ρ i ins
 |[],_,_=>trivial
 | .ax cs :: ins,i,he=>by
  obtain⟨h1,_,h3⟩:=he;refine⟨?_,qQ.S3 ins (i+1) h3⟩;generalize hx:aW.ax (AP i 0 cs)=x at h1;cases h1 with
  |sl=>cases hx
  |mp=>cases hx
  |gh=>cases hx
  | ax b off cells e ls us aM hl hh hs hc=>
   injection hx with hx;subst hx
   refine⟨b,off,cells,e,aM,hh,λj x hj hp hf=>?_⟩
   obtain⟨c1,c2⟩:=hc j _ (S2 cs 0 j x hj);rw[fQ]at c2;refine⟨_,c1,?_⟩;have e1:AO i j x = .own [20001+1000*i+j]:=by simp[AO,hp,nC,hf]
   rw[e1]at c2;have h4:=c2.2;simp only[cE]at h4;split at h4
   next v hv=>injection h4 with h4;rw[<-h4];exact hv
   ·cases h4
 | .sl y :: ins,i,he=>by
  obtain⟨h1,h3⟩:=he;refine⟨?_,qQ.S3 ins (i+1) h3⟩;cases h1 with
  |sl v y' aM hr=>exact⟨v,aM⟩
end
end Go.Proofs.YtcioagfjiccleaaGreat
namespace Go.Proofs.YtcioagfjiccleaaGreat
open Go.RowKit
set_option linter.unusedVariables false
def cc(n:Nat):af Nat->Bool
 |[]=>false
 |m::l=>Nat.beq n m ||cc n l
theorem vD{n:Nat}:∀ {l:af Nat},cc n l=true ↔ n∈l
 |[]=>by simp[cc]
 | m :: l=>by
  simp only[cc,eH,iL,vD (l:=l)];constructor
  ·rintro(h | h)
   ·exact .inl (cz h)
   ·exact .inr h
  ·rintro(h | h)
   ·left;subst h;exact Nat.beq_refl n
   ·exact .inr h
theorem Zt{n:Nat}{l:af Nat}(h:cc n l=false):n ∉ l:=λk=>by rw[vD.2 k]at h;cases h
def cF(k l:af Nat):Bool:=match k.getLast? with
 |some r=>cc r l
 |none=>false
def Lf.bA(ns cn:af Nat):Lf->Lf
 |.own k=>bif cF k cn ||(cF k ns && !(Nat.beq k.length 1))then .dead else .own k
 |x=>x
def A.bA(ns cn:af Nat):A->A
 |.lf x=>.lf (x.bA ns cn)
 |.agg cs=>.agg (cs.map (Lf.bA ns cn))
 |.cP xs=>.cP (xs.map λp=>(p.1,p.2.map (Lf.bA ns cn)))
 |.ptr k=>bif cF k cn ||cF k ns then .undef else .ptr k
 |.aG r j=>bif cc r cn then .undef else .aG r j
 |.pk r n=>bif cc r cn then .undef else .pk r n
 |.view k s i j=>bif cF k cn ||cF k ns then .undef else .view k s i j
 |.fn f cap=>bif cap.any (λp=>cc p.1 cn)then .undef else .fn f cap
 |x=>x
def aW.bA(ns cn:af Nat):aW->aW
 |.ax cs=>.ax (cs.map (Lf.bA ns cn))
 |.gh xs=>.gh (xs.map (A.bA ns cn))
 |x=>x
def S.bA(σ:S)(ns cn:af Nat)(nr:af (Nat×aW)):S:=⟨λk=>(σ.t k).bA ns cn,λr=>match nr.lookup r with
 |some x=>some x
 |none=>bif cc r ns ||cc r cn then none else (σ.m r).map (aW.bA ns cn)⟩
structure tf (w w':World) (ah dD:bE) (ρ eX:Nat->Loc) (ns cn:List Nat):Prop where
 size:w.heap.size<=w'.heap.size
 same:∀b,b<w.heap.size->(∀k,ah b=some k->cF k ns=false)->w'.heap[b]?=w.heap[b]?/\dD b=ah b
 eW:∀r,cc r cn=false->eX r=ρ r
 ah:∀b k,ah b=some k->b<w.heap.size/\k≠[]
section
variable {P:Program} {w w':World} {w0:Wd} {B N:Nat} {ah dD aC:bE} {ρ eX:Nat->Loc} {σ:S} {a:Act} {X:Type} {d:Nat} {r:X} {ns cn:af Nat}
theorem CF{j i s:Nat}{q l:af Nat}(h:q≠[]):cF (j :: i :: s :: q) l=cF q l:=by
 cases q with
 |nil=>exact absurd rfl h
 |cons x q=>simp[cF,List.getLast?_cons_cons]
theorem RV.kU(hv:tf w w' ah dD ρ eX ns cn){q:af Nat}{x:V}{v:Value}(h:RV w B ah q x v)(hq:cF q ns=false\/x.aA=true):RV w' B dD q x v:=by
 induction h with
 |int=>exact .int _ _ _
 |bool=>exact .bool _ _
 |str=>exact .str _ _
 |nil=>exact .nil _
 |dc=>exact .dc _ _ _
 |dg=>exact .dg _ _ _ _ _ (by first|assumption|omega)
 |dz=>exact .dz _ _ _ _ _ (by first|assumption|omega)
 | aA q t o qn l b off cap u ho hl hb h1 ey hc hr ih=>
  obtain⟨e1,e2⟩:=hv.same b hb (λk hk=>by rw[hl]at hk;cases hk);exact .aA _ _ _ _ _ _ _ _ u ho (e2.trans hl) (mG hb hv.size) h1 ey (λi h j x hx=>(mH (a:=⟨b,_,none⟩) e1).trans (hc i h j x hx)) (λi h j x hx=>ih i h j x hx (.inr (lQ t o l[i] ho j x hx)))
 | own q t o qn l b cap cs u hl hh hs hn hm hc hr ih=>
  have m0:cF q ns=false:=by
   rcases hq with hq|hq
   ·exact hq
   ·simp[V.aA]at hq;omega
  have bg:q≠[]:=(hv.ah b q hl).2;obtain⟨e1,e2⟩:=hv.same b (hv.ah b q hl).1 (λk hk=>by rw[hl]at hk;injection hk with hk;subst hk;exact m0);exact .own _ _ _ _ _ _ _ cs u (e2.trans hl) (e1.trans hh) hs hn hm hc (λi h j x hx=>ih i h j x hx (.inl (by rw[CF bg];exact m0)))
theorem S4(hv:tf w w' ah dD ρ eX ns cn):∀ (k:af Nat) (ad:Addr),cF k ns=false->cF k cn=false->addrAt w ah ρ k=some ad->addrAt w' dD eX k=some ad
 |[],_,_,_,h=>by simp[addrAt]at h
 |[_],_,_,_,h=>by simp[addrAt]at h
 |[_,_],_,_,_,h=>by simp[addrAt]at h
 |[_,_,_],_,_,_,h=>by simp[addrAt]at h
 | [j,i,s,r],_,h1,h2,h=>by
  have h1:cF [r] ns=false:=by rwa [CF (by simp)]at h1
  have h2:cc r cn=false:=by rw[CF (by simp)]at h2;exact h2
  simp only[addrAt]at h ⊢;rw[hv.eW r h2];split at h
  ·rename_i v b n c hr;split at h
   next hl=>obtain⟨_,e2⟩:=hv.same b (hv.ah b _ hl).1 (λk hk=>by rw[hl]at hk;injection hk with hk;subst hk;exact h1);rw[bu (e2.trans hl)];exact h
   ·cases h
  ·cases h
 | j :: i :: s :: x :: y :: q,ad,h1,h2,h=>by
  rw[CF (by simp)]at h1 h2;simp only[addrAt]at h ⊢;cases ha:addrAt w ah ρ (x::y::q)with
  |none=>rw[ha]at h;cases h
  | some qC=>
   rw[S4 hv _ _ h1 h2 ha];rw[ha]at h;cases hc:w.cell? qC with
   |none=>simp[hc]at h
   | some v=>
    obtain⟨j',i',s',q',hk,gR,_,_⟩:=ye _ _ ha;have bg:q'≠[]:=(hv.ah _ _ gR).2;have m0:cF q' ns=false:=by
     rw[hk,CF bg]at h1;exact h1
    obtain⟨e1,_⟩:=hv.same qC.block (hv.ah _ _ gR).1 (λk hk=>by rw[gR]at hk;injection hk with hk;subst hk;exact m0);have e:w'.cell? qC=some v:=(mH e1).trans hc;simp only[Option.bind_some,hc]at h;simp only[Option.bind_some,e];split at h
    ·split at h
     next hl=>obtain⟨_,e2⟩:=hv.same _ (hv.ah _ _ hl).1 (λk hk=>by rw[hl]at hk;injection hk with hk;subst hk;exact h1);rw[bu (e2.trans hl)];exact h
     ·cases h
    ·cases h
theorem Zu(hv:tf w w' ah dD ρ eX ns cn)(k:af Nat)(u:Value)(h1:k.length=1\/cF k ns=false)(h2:cF k cn=false)(h:cE w ah ρ k=some u):cE w' dD eX k=some u:=by
 match k,h1,h2,h with
 |[],_,_,h=>simp[cE,addrAt]at h
 | [r],_,h2,h=>
  simp only[cE]at h ⊢;rw[hv.eW r h2];exact h
 | x :: y :: q,h1,h2,h=>
  have h1:cF (x :: y :: q) ns=false:=by
   rcases h1 with h1|h1
   ·simp at h1
   ·exact h1
  simp only[cE]at h ⊢;cases ha:addrAt w ah ρ (x::y::q)with
  |none=>rw[ha]at h;cases h
  | some ad=>
   rw[S4 hv _ _ h1 h2 ha];rw[ha]at h;have h:w.cell? ad=some u:=h;obtain⟨j',i',s',q',hk,gR,_,_⟩:=ye _ _ ha;have bg:q'≠[]:=(hv.ah _ _ gR).2;rw[hk,CF bg]at h1;obtain⟨e1,_⟩:=hv.same ad.block (hv.ah _ _ gR).1 (λk hk=>by rw[gR]at hk;injection hk with hk;subst hk;exact h1);exact(mH e1).trans h
theorem dN.kU(hv:tf w w' ah dD ρ eX ns cn){x:Lf}{u:Value}(h:dN w B ah ρ x u):dN w' B dD eX (x.bA ns cn) u:=by
 cases x with
 |v x=>exact⟨h.1,h.2.kU hv (.inr h.1)⟩
 |dead=>trivial
 | own k=>
  have e:Lf.bA ns cn (.own k)=(bif cF k cn ||(cF k ns && !(Nat.beq k.length 1))then .dead else .own k):=rfl;rw[e];cases hb:(cF k cn ||(cF k ns && !(Nat.beq k.length 1)))with
  |true=>trivial
  | false=>
   rw[oX]at hb;refine⟨h.1,Zu hv k u ?_ hb.1 h.2⟩;have hb:=hb.2;cases hn:cF k ns with
   |false=>exact .inr rfl
   | true=>
    rw[hn,dF,Bool.not_eq_false']at hb;exact .inl (cz hb)
theorem eB.kU(hv:tf w w' ah dD ρ eX ns cn){cs:af Lf}{us:Array Value}(h:eB w B ah ρ cs us):eB w' B dD eX (cs.map (Lf.bA ns cn)) us:=by
 refine⟨by rw[eV];exact h.1,λj x hx=>?_⟩
 rw[dH]at hx;cases hy:cs[j]? with
 |none=>rw[hy]at hx;cases hx
 | some y=>
  rw[hy]at hx;injection hx with hx;subst hx;obtain⟨u,hu,r⟩:=h.2 j y hy;exact⟨u,hu,r.kU hv⟩
theorem RP.kU(hv:tf w w' ah dD ρ eX ns cn){p:Bool×af Lf}{u:Value}(h:RP w B ah ρ p u):RP w' B dD eX (p.1,p.2.map (Lf.bA ns cn)) u:=by
 obtain⟨b,cs⟩:=p;cases b with
 |true=>obtain⟨us,e,h⟩:=h;exact⟨us,e,h.kU hv⟩
 |false=>exact eB.kU hv h
theorem RA.kU(hv:tf w w' ah dD ρ eX ns cn){x:A}{u:Value}(h:RA w B ah ρ x u):RA w' B dD eX (x.bA ns cn) u:=by
 cases x with
 |undef=>trivial
 |skip=>exact h
 |lf x=>exact dN.kU hv h
 |agg cs=>exact RP.kU hv (p:=(true,cs)) h
 | cP xs=>
  obtain⟨us,e,hs,h⟩:=h
  refine⟨us,e,by rw[eV];exact hs,λj p hp=>?_⟩
  rw[dH]at hp;cases hy:xs[j]? with
  |none=>rw[hy]at hp;cases hp
  | some y=>
   rw[hy]at hp;injection hp with hp;subst hp;obtain⟨v,dY,r⟩:=h j y hy;exact⟨v,dY,r.kU hv⟩
 | ptr k=>
  have e:A.bA ns cn (.ptr k)=(bif cF k cn ||cF k ns then .undef else .ptr k):=rfl;rw[e];cases hb:(cF k cn ||cF k ns)with
  |true=>trivial
  | false=>
   rw[oX]at hb;obtain⟨ad,e,h⟩:=h;exact⟨ad,e,S4 hv k ad hb.2 hb.1 h⟩
 | view k s i j=>
  have e:A.bA ns cn (.view k s i j)=(bif cF k cn ||cF k ns then .undef else .view k s i j):=rfl;rw[e];cases hb:(cF k cn ||cF k ns)with
  |true=>trivial
  | false=>
   rw[oX]at hb;obtain⟨A,n,c,h,g⟩:=h;exact⟨A,n,c,Zu hv k _ (.inr hb.2) hb.1 h,g⟩
 | pk r n=>
  have e:A.bA ns cn (.pk r n)=(bif cc r cn then .undef else .pk r n):=rfl;rw[e];cases hb:cc r cn with
  |true=>trivial
  | false=>
   obtain⟨b,e,h⟩:=h;exact⟨b,(hv.eW r hb).trans e,h⟩
 | aG r j=>
  have e:A.bA ns cn (.aG r j)=(bif cc r cn then .undef else .aG r j):=rfl;rw[e];cases hb:cc r cn with
  |true=>trivial
  | false=>
   obtain⟨b,off,e,h⟩:=h;exact⟨b,off,(hv.eW r hb).trans e,h⟩
 | jB cs=>
  obtain⟨b,off,e,hb,hl,h⟩:=h;obtain⟨e1,e2⟩:=hv.same b hb (λk hk=>by rw[hl]at hk;cases hk)
  refine⟨b,off,e,mG hb hv.size,e2.trans hl,λj x hx=>?_⟩
  obtain⟨hf,v,dY,hr⟩:=h j x hx;exact⟨hf,v,(mH (a:=⟨b,_,none⟩) e1).trans dY,hr.kU hv (.inr hf)⟩
 | mK f cs=>
  obtain⟨pv,e0,h⟩:=h;refine⟨pv,e0,?_⟩;obtain⟨b,off,e,hb,hl,h⟩:=h;obtain⟨e1,e2⟩:=hv.same b hb (λk hk=>by rw[hl]at hk;cases hk)
  refine⟨b,off,e,mG hb hv.size,e2.trans hl,λj x hx=>?_⟩
  obtain⟨hf,v,dY,hr⟩:=h j x hx;exact⟨hf,v,(mH (a:=⟨b,_,none⟩) e1).trans dY,hr.kU hv (.inr hf)⟩
 | fn f cap=>
  have e:A.bA ns cn (.fn f cap)=(bif cap.any (λp=>cc p.1 cn)then .undef else .fn f cap):=rfl;rw[e];cases hb:cap.any (λp=>cc p.1 cn)with
  |true=>trivial
  | false=>
   obtain⟨vs,e,hs,h⟩:=h
   refine⟨vs,e,hs,λj p hp=>?_⟩
   obtain⟨b,off,e2,h2⟩:=h j p hp;have:=mW.1 hb p (iy hp);exact⟨b,off,(hv.eW _ (by simpa using this)).trans e2,h2⟩
theorem fj.kU(hv:tf w w' ah dD ρ eX ns cn){n:Nat}{x:aW}(h:fj w B ah ρ n x)(h1:cc n ns=false)(h2:cc n cn=false):fj w' B dD eX n (x.bA ns cn):=by
 cases h with
 | ax b off cells e cs us aM hl hh hs hc=>
  obtain⟨e1,e2⟩:=hv.same b (hv.ah b _ hl).1 (λk hk=>by rw[hl]at hk;injection hk with hk;subst hk;exact h1)
  refine .ax b off cells e _ us ((hv.eW n h2).trans aM) (e2.trans hl) (e1.trans hh) (by rw[eV];exact hs) (λj x hx=>?_)
  rw[dH]at hx;cases hy:cs[j]? with
  |none=>rw[hy]at hx;cases hx
  | some y=>
   rw[hy]at hx;injection hx with hx;subst hx;exact⟨(hc j y hy).1,(hc j y hy).2.kU hv⟩
 |sl v y aM hr=>exact .sl v y ((hv.eW n h2).trans aM) (hr.kU hv (.inl h1))
 | mp b c es l aM hl hh he=>
  obtain⟨e1,e2⟩:=hv.same b (hv.ah b _ hl).1 (λk hk=>by rw[hl]at hk;injection hk with hk;subst hk;exact h1);exact .mp b c es l ((hv.eW n h2).trans aM) (e2.trans hl) (e1.trans hh) he
 | gh us xs aM hx=>
  refine .gh us _ ((hv.eW n h2).trans aM) (λj x hj=>?_)
  rw[dH]at hj;cases hy:xs[j]? with
  |none=>rw[hy]at hj;cases hj
  | some y=>
   rw[hy]at hj;injection hj with hj;subst hj;exact(hx j y hy).kU hv
theorem Rl.kU(h:Rl w0 N ah ρ σ a w)(hv:tf w w' ah dD ρ eX ns cn)(hb:kQ w0 w w')(hl:∀ b k,dD b=some k->(w0.heap.size<=b\/w0.L b≠none)/\b<w'.heap.size/\k≠[])(hF:∀ r,cc r cn=true->w0.F r=none){nr:af (Nat×aW)}
  (qJ:∀r x,nr.lookup r=some x->fj w' w0.heap.size dD eX r x):Rl w0 N dD eX (σ.bA ns cn nr) a w':=by
 refine⟨h.below.trans hb,hl,λr x hx=>?_,λk=>(h.tmp k).kU hv,h.size,h.defers,λr l hr=>?_,h.dQ⟩
 ·simp only[S.bA]at hx;split at hx
  next y hy=>injection hx with hx;subst hx;exact qJ r y hy
  ·cases hm:(cc r ns || cc r cn)with
   |true=>rw[hm]at hx;cases hx
   | false=>
    rw[hm,au]at hx;rw[oX]at hm;cases hy:σ.m r with
    |none=>rw[hy]at hx;cases hx
    | some y=>
     rw[hy]at hx;injection hx with hx;subst hx;exact(h.root r y hy).kU hv hm.1 hm.2
 ·have hc:cc r cn=false:=by
   cases hc:cc r cn with
   |false=>rfl
   |true=>rw[hF r hc]at hr;cases hr
  exact(hv.eW r hc).trans (h.fix r l hr)
end
end Go.Proofs.YtcioagfjiccleaaGreat
namespace Go.Proofs.YtcioagfjiccleaaGreat
open Go.RowKit
set_option linter.unusedVariables false
inductive Mu where
 |ax (r:Nat) (cs:List Lf) (vs:List (V×Option Nat))
 |sl (q:Nat) (y:V)
def Mu.root:Mu->Nat
 |.ax r _ _=>r
 |.sl q _=>q
def w5(m:Nat->aj aW):Lf->aj (V×aj Nat)
 |.v x=>some (x.ja,none)
 | .own [q]=>match m q with
  |some (.sl y)=>bif y.aA then some (y.ja,none)else some (y,some q)
  |_=>none
 |_=>none
def th(m:Nat->aj aW):af Lf->aj (af (V×aj Nat))
 |[]=>some []
 | l :: ls=>match w5 m l,th m ls with
  |some v,some vs=>some (v::vs)
  |_,_=>none
def w6(σ:S):PK->A->aj (aj Mu)
 |.v _ _,_=>some none
 | .p _ _ off,.aG r j=>(match (bif Nat.beq j off then σ.m r else none)with
  | some (.ax cs)=>(match th σ.m cs with
   |some vs=>bif Nat.blt cs.length 999 then some (some (.ax r cs vs))else none
   |none=>none)
  |_=>none)
 | .s _ _,.lf (.own [q])=>(match σ.m q with
  |some (.sl y)=>bif y.aA then none else some (some (.sl q y))
  |_=>none)
 |_,_=>none
def lF(σ:S):af PK->af Operand->aj (af Mu)
 |[],[]=>some []
 | p :: ps,x :: xs=>(match w6 σ p (aF σ x),lF σ ps xs with
  |some (some mu),some aL=>some (mu::aL)
  |some none,some aL=>some aL
  |_,_=>none)
 |_,_=>none
def EZ(i:Nat):Nat->af (V×aj Nat)->af (Nat×Nat)
 |_,[]=>[]
 |j,(_,some q)::vs=>(q,60000+1000*i+j)::EZ i (j+1) vs
 |j,(_,none)::vs=>EZ i (j+1) vs
def mN:Nat->af Mu->af (Nat×Nat)
 |_,[]=>[]
 |i,.ax r _ vs::aL=>(r,nF i)::(EZ i 0 vs++mN (i+1) aL)
 |i,.sl q _::aL=>(q,nF i)::mN (i+1) aL
def MI(ns:af Nat):Lf->Bool
 |.own k=>!cF k ns
 |_=>true
def qS{X:Type}(σ:S)(ns:af Nat):af Lf->(af V->aj X)->aj X
 |[],k=>k []
 |x::xs,k=>bif MI ns x then jY σ x λy=>qS σ ns xs λys=>k (y.ja::ys)else none
def qb{X:Type}(σ:S)(ns:af Nat)(x:A)(k:Pt->aj X):aj X:=
 match x with
 |.lf y=>qS σ ns [y] λvs=>k (false,vs)
 |.agg ys=>qS σ ns ys λvs=>k (true,vs)
 |.mK f (c::cs)=>k (false,.bool false::.int .i64 (f:Int)::c.ja::cs.map V.ja)
 | .fn f [(r,j)]=>bif cc r ns then none else (match σ.m r with
  | some (.ax cs)=>(match sS (cs.drop j)with
   |some (c::vs)=>k (false,.bool false::.int .i64 (f:Int)::c::vs)
   |_=>none)
  |_=>none)
 |_=>none
def jR{X:Type}(σ:S)(ns:af Nat):(ps:af PK)->af Operand->af Mu->(nL ps->aj X)->aj X
 |[],[],[],k=>k ()
 | .v b t :: ps,x :: xs,aL,k=>qb σ ns (aF σ x) λp=>bif p.1==b then (match dec t 0 p.2 with
  |some y=>jR σ ns ps xs aL λys=>k (y,ys)
  |none=>none)else none
 | .p t g _ :: ps,_ :: xs,.ax _ _ vs :: aL,k=>(match (bif Nat.beq (g % 2) 0 then dec t g (vs.map (·.1))else none)with
  |some y=>jR σ ns ps xs aL λys=>k (y,ys)
  |none=>none)
 | .s t g :: ps,_ :: xs,.sl _ y :: aL,k=>(match (bif Nat.beq (g % 2) 0 then y.dX t (g+2)else none)with
  |some z=>jR σ ns ps xs aL λys=>k (z,ys)
  |none=>none)
 |_,_,_,_=>none
def yK(w:World)(ρ:Nat->Loc)(rs:af Nat):Nat->Loc:=λn=>
 if n<60000 then (if (n-20000) % 1000=0 then ρ (rs.getD ((n-20000) / 1000) 0)else (match ρ (rs.getD ((n-20000) / 1000) 0)with
  |.ax b off=>.dP ((w.cell? ⟨b,off+((n-20000) % 1000-1),none⟩).getD undef)
  |.dP v=>.dP v
  |.bQ us=>.bQ us))
 else (match ρ (rs.getD ((n-60000) / 1000) 0)with
  |.ax b off=>.dP ((w.cell? ⟨b,off+(n-60000) % 1000,none⟩).getD undef)
  |.dP v=>.dP v
  |.bQ us=>.bQ us)
theorem Ix{w:World}{ρ:Nat->Loc}{rs:af Nat}{i r:Nat}(h:rs[i]?=some r)(hi:i<40):yK w ρ rs (nF i)=ρ r:=by
 have h1:nF i<60000:=by unfold nF;omega
 have h2:(nF i-20000) % 1000=0:=by unfold nF;omega
 have h3:(nF i-20000) / 1000=i:=by unfold nF;omega
 have h4:rs.getD i 0=r:=by rw[iz,h];rfl
 unfold yK;rw[bu h1,bu h2,h3,h4]
theorem ah2{w:World}{ρ:Nat->Loc}{rs:af Nat}{i j r b off:Nat}{u:Value}{x:V}(h:rs[i]?=some r)(hi:i<40)(hj:j<999)(aM:ρ r = .ax b off)(hu:w.cell? ⟨b,off+j,none⟩=some u):yK w ρ rs (nC i j x) = .dP u:=by
 have h4:rs.getD i 0=r:=by rw[iz,h];rfl
 unfold yK nC;cases x.aA with
 | true=>
  have h1:20001+1000*i+j<60000:=by omega
  have h2:¬ (20001+1000*i+j-20000) % 1000=0:=by omega
  have h3:(20001+1000*i+j-20000) / 1000=i:=by omega
  have h5:(20001+1000*i+j-20000) % 1000-1=j:=by omega
  simp only[aq];rw[bu h1,bJ h2,h3,h4,aM,h5];simp[hu]
 | false=>
  have h1:¬ 60000+1000*i+j<60000:=by omega
  have h3:(60000+1000*i+j-60000) / 1000=i:=by omega
  have h5:(60000+1000*i+j-60000) % 1000=j:=by omega
  simp only[au];rw[bJ h1,h3,h4,aM,h5];simp[hu]
def V.MJ:V->Bool
 |.sl _ o _ _=>Nat.beq (o % 2) 0
 |_=>true
section
variable {P:Program} {w w':World} {w0:Wd} {B N:Nat} {ah dD aC:bE} {ρ eX:Nat->Loc} {σ:S} {a:Act} {X:Type} {d:Nat} {r:X} {ns cn:af Nat}
theorem RV.Zv{B':Nat}{q:af Nat}{x:V}{v:Value}(h:RV w B ah q x v)(hx:x.MJ=true):RV w B' ah q x v:=by
 induction h with
 |int=>exact .int _ _ _
 |bool=>exact .bool _ _
 |str=>exact .str _ _
 |nil=>exact .nil _
 |dc=>exact .dc _ _ _
 |dg=>exact .dg _ _ _ _ _ (by first|assumption|omega)
 |dz=>exact .dz _ _ _ _ _ (by first|assumption|omega)
 | aA q t o qn l b off cap u ho hl hb h1 ey hc hr ih=>
  have hx:=cz hx;have ho0:o=0:=by omega
  subst ho0
  refine .aA _ _ _ _ _ _ _ _ u ho hl hb (by omega) ey hc (λi h j x cV=>ih i h j x cV ?_)
  have:=yc t 0 l[i] x (iy cV);cases x with
  | sl t' o' q' l'=>
   have:o'=0:=by simpa [V.gr]using this
   subst this;rfl
  |_=>rfl
 | own q t o qn l b cap cs u hl hh hs hn hm hc hr ih=>
  have hx:=cz hx
  refine .own _ _ _ _ _ _ _ cs u hl hh hs hn hm hc (λi h j x cV=>ih i h j x cV ?_)
  have:=yc t o l[i] x (iy cV);cases x with
  | sl t' o' q' l'=>
   have:o'=o:=by simpa [V.gr]using this
   subst this;show Nat.beq (o' % 2) 0=true;rw[show o' % 2=0 by omega];rfl
  |_=>rfl
theorem RV.out{q q':af Nat}{x:V}{v:Value}(h:RV w B ah q x v)(h1:∀ b,ah b=none->aC b=none)(h2:∀ b k,ah b=some k->k≠[]/\(cF k ns=false->aC b=none))(hq:x.aA=true\/cF q ns=false){B':Nat}:RV w B' aC q' x.ja v:=by
 induction h generalizing q' with
 |int=>exact .int _ _ _
 |bool=>exact .bool _ _
 |str=>exact .str _ _
 |nil=>exact .nil _
 |dc=>exact .dc _ _ _
 |dg=>exact .dg _ _ _ _ _ (by first|assumption|omega)
 |dz=>exact .dz _ _ _ _ _ (by first|assumption|omega)
 | aA q t o qn l b off cap u ho hl hb ef ey hc hr ih=>
  refine .aA _ _ _ _ _ _ _ _ u (by omega) (h1 b hl) hb (by omega) ey (λi h j x hx=>?_) (λi h j x hx=>?_)
  ·obtain⟨y,hy,_⟩:=yd t o l[i] j x hx;exact hc i h j y hy
  ·obtain⟨y,hy,rfl⟩:=yd t o l[i] j x hx;exact ih i h j y hy (.inl (lQ t o l[i] ho j y hy))
 | own q t o qn l b cap cs u hl hh hs hn hm hc hr ih=>
  have m0:cF q ns=false:=by
   rcases hq with hq|hq
   ·simp[V.aA]at hq;omega
   ·exact hq
  obtain⟨bg,dB⟩:=h2 b q hl
  refine .aA _ _ _ _ _ _ _ _ u (by omega) (dB m0) (gS.1 hh).1 (by omega) hn (λi h j x hx=>?_) (λi h j x hx=>?_)
  ·obtain⟨y,hy,_⟩:=yd t o l[i] j x hx;have:=hc i h j y hy;rw[fQ,cell_of_row w b _ cs _ _ hh];exact this
  ·obtain⟨y,hy,rfl⟩:=yd t o l[i] j x hx;exact ih i h j y hy (.inr (by rw[CF bg];exact m0))
theorem ah3{x:Lf}{k:V->aj X}(h:jY σ x k=some r):∃ y,k y=some r/\∀ ah ρ a w,Rl w0 N ah ρ σ a w->∀ u,dN w w0.heap.size ah ρ x u->∃ q,(x = .own q\/y.aA=true)/\RV w w0.heap.size ah q y u:=by
 cases x with
 |v y=>exact⟨y,h,λah ρ a w hR u hu=>⟨[],.inr hu.1,hu.2⟩⟩
 |dead=>cases h
 | own q=>
  obtain⟨y,hy,h'⟩:=uk q k h
  refine⟨y,h',λah ρ a w hR u hu=>⟨q,.inl rfl,?_⟩⟩
  obtain⟨v,hv,hr⟩:=hy.ok hR.root;have:v=u:=by
   have h2:=hu.2;rw[hv]at h2;injection h2
  subst this;exact hr
structure CG (ns:List Nat) (ah aC:bE):Prop where
 none:∀b,ah b=none->aC b=none
 rest:∀b k,ah b=some k->k≠[]/\(cF k ns=false->aC b=Option.none)
theorem S5:∀ (xs:af Lf) (k:af V->aj X),qS σ ns xs k=some r->∃ vs,k vs=some r/\vs.length=xs.length/\∀ ah ρ a w aC,Rl w0 N ah ρ σ a w->CG ns ah aC->∀ (j:Nat) x y u,xs[j]?=some x->vs[j]?=some y->dN w w0.heap.size ah ρ x u->RV w w.heap.size aC [] y u
 |[],k,h=>⟨[],h,rfl,λ_ _ _ _ _ _ _ j x y u hx=>by simp at hx⟩
 | x :: xs,k,h=>by
  unfold qS at h;cases ho:MI ns x with
  |false=>rw[ho]at h;cases h
  | true=>
   rw[ho,aq]at h;obtain⟨y,h2,hy⟩:=ah3 (w0:=w0) (N:=N) h;obtain⟨ys,h3,hl,hr⟩:=S5 xs _ h2
   refine⟨y.ja::ys,h3,by simp[hl],λah ρ a w aC hR hS j x' y' u cV fP hu=>?_⟩
   cases j with
   | zero=>
    simp at cV fP;subst cV fP;obtain⟨q,hq,l7⟩:=hy ah ρ a w hR u hu;refine l7.out hS.none hS.rest ?_;rcases hq with rfl|hq
    ·exact .inr (by simpa [MI]using ho)
    ·exact .inl hq
   |succ j=>exact hr ah ρ a w aC hR hS j x' y' u (by simpa using cV) (by simpa using fP) hu
inductive PM (w:World) (aC:bE):Pt->Value->Prop
 |v (p:Pt) (u:Value) (h:PV w w.heap.size aC (λ_=>[]) p u):PM w aC p u
 |f (g:Nat) (c:V) (cs:List V) (u:Value) (h:RF w w.heap.size aC (c::cs) u):PM w aC (false,.bool false::.int .i64 (g:Int)::c::cs) (.func (.func g) #[] #[u])
theorem ah4{g:Nat}{c:V}{cs ys:af V}(hl:(V.bool false :: .int .i64 (g:Int) :: c :: cs).length=ys.length)(h:∀ (j:Nat) x z,(V.bool false :: .int .i64 (g:Int) :: c :: cs)[j]?=some x->ys[j]?=some z->Wk x z):∃ c' fO,ys = .bool false :: .int .i64 (g:Int) :: c' :: fO/\bW (c :: cs) (c' :: fO):=by
 match ys,hl,h with
 | a :: b :: c' :: fO,hl,h=>
  have h0:=h 0 _ a rfl rfl;have h1:=h 1 _ b rfl rfl;cases h0;cases h1;exact⟨c',fO,rfl,by simpa using hl,λj x z hx hz=>h (j+2) x z (by simpa using hx) (by simpa using hz)⟩
 |[],hl,_=>simp at hl
 |[_],hl,_=>simp at hl
 |[_,_],hl,_=>simp at hl
theorem RF.tj{cs ds:af V}{u:Value}(h:RF w B ah cs u)(hw:bW cs ds)(hf:∀ (j:Nat) z,ds[j]?=some z->z.aA=true):RF w B ah ds u:=by
 obtain⟨b,off,rfl,hb,hl,hc⟩:=h
 refine⟨b,off,rfl,hb,hl,λj x hx=>?_⟩
 have hj:j<cs.length:=by rw[hw.1];exact(dJ.1 hx).1
 obtain⟨_,v,h4,h5⟩:=hc j _ (bT hj);exact⟨hf j x hx,v,h4,h5.wk (hw.2 j _ x (bT hj) hx)⟩
theorem RF.ja{cs:af V}{u:Value}(h:RF w B ah cs u)(h1:∀ b,ah b=none->aC b=none)(h2:∀ b k,ah b=some k->k≠[]/\(cF k ns=false->aC b=none)){B':Nat}:RF w B' aC (cs.map V.ja) u:=by
 obtain⟨b,off,rfl,hb,hl,hc⟩:=h
 refine⟨b,off,rfl,hb,h1 b hl,λj x hx=>?_⟩
 rw[dH]at hx;cases hy:cs[j]? with
 |none=>rw[hy]at hx;cases hx
 | some y=>
  rw[hy]at hx;injection hx with hx;subst hx;obtain⟨hf,v,h4,h5⟩:=hc j y hy;exact⟨V.ag9 y,v,h4,h5.out h1 h2 (.inl hf)⟩
theorem ah5{x:A}{k:Pt->aj X}(h:qb σ ns x k=some r):∃ p,k p=some r/\∀ ah ρ a w aC,Rl w0 N ah ρ σ a w->CG ns ah aC->∀ u,RA w w0.heap.size ah ρ x u->PM w aC p u:=by
 unfold qb at h;split at h
 ·rename_i y;obtain⟨vs,h2,hl,hr⟩:=S5 (w0:=w0) (N:=N) _ _ h
  refine⟨_,h2,λah ρ a w aC hR hS u hu=>.v _ _ ⟨#[u],rfl,by simp[hl],λj x hx=>?_⟩⟩
  have hj:j=0:=by
   have:=(dJ.1 hx).1;simp only[hl]at this
   simpa using this
  subst hj;exact⟨u,rfl,hr ah ρ a w aC hR hS 0 y x u rfl hx hu⟩
 ·rename_i ys;obtain⟨vs,h2,hl,hr⟩:=S5 (w0:=w0) (N:=N) _ _ h
  refine⟨_,h2,λah ρ a w aC hR hS u hu=>?_⟩
  obtain⟨us,rfl,hs⟩:=hu
  refine .v _ _ ⟨us,rfl,by rw[hl];exact hs.1,λj x hx=>?_⟩
  have hj:j<ys.length:=by rw[<-hl];exact(dJ.1 hx).1
  obtain⟨v,hv,dA⟩:=hs.2 j _ (bT hj);exact⟨v,hv,hr ah ρ a w aC hR hS j _ x v (bT hj) hx dA⟩
 ·rename_i f c cs
  refine⟨_,h,λah ρ a w aC hR hS u hu=>?_⟩
  obtain⟨pv,rfl,qc⟩:=hu;exact .f f _ _ _ (qc.ja hS.none hS.rest)
 ·rename_i f r' j;cases CH:cc r' ns with
  |true=>rw[CH]at h;cases h
  | false=>
   rw[CH,au]at h;split at h
   ·rename_i cs hm;split at h
    ·rename_i c vs iP;obtain⟨e,hp⟩:=Mk _ _ iP
     refine⟨_,h,λah ρ a w aC hR hS u hu=>?_⟩
     obtain⟨us,rfl,gD,ey⟩:=hu;obtain⟨b,off,aM,kS⟩:=ey 0 _ rfl;have kS:us[0]?=some (.pointer (some ⟨b,off+j,none⟩)):=kS;have ah6:us.size=1:=gD;have ah7:us = #[.pointer (some ⟨b,off+j,none⟩)]:=by
      apply Array.ext';apply List.ext_getElem?;intro i;cases i with
      |zero=>simpa using kS
      |succ i=>rw[List.getElem?_eq_none (by simp[ah6]),List.getElem?_eq_none (by simp)]
     subst ah7;refine .f f _ _ _ ?_;cases hR.root r' _ hm with
     | ax b' pQ cells e' _ Mn gE lE hh hs hc=>
      rw[aM]at gE;injection gE with q1 q2;subst q1 q2
      refine⟨b,off+j,rfl,(gS.1 hh).1,(hS.rest b _ lE).2 (by simpa [cF]using CH),λi x hx=>?_⟩
      have Iy:=hp x (iy hx);have Ii:(cs.drop j)[i]?=some (.v x):=by rw[e,dH,hx];rfl
      rw[List.getElem?_drop]at Ii;obtain⟨k1,k2⟩:=hc _ _ Ii;refine⟨(by cases x<;>first|rfl|cases Iy),Mn (j+i),?_,k2.2.vj Iy⟩;rw[Nat.add_assoc,cell_of_row w b _ cells _ _ hh];exact k1
    ·cases h
   ·cases h
 ·cases h
def AR(σ:S):Mu->Prop
 |.ax r cs vs=>σ.m r=some (.ax cs)/\th σ.m cs=some vs/\cs.length<999
 |.sl q y=>σ.m q=some (.sl y)/\y.aA=false
def Iz:af Mu->af In->Prop
 |[],[]=>True
 |.ax _ _ vs::aL,.ax xs::ins=>(bW (vs.map (·.1)) xs/\∀x∈xs,x.l5=true/\x.MJ=true)/\Iz aL ins
 |.sl _ y::aL,.sl y'::ins=>(Wk y y'/\y'.MJ=true)/\Iz aL ins
 |_,_=>False
def E0(w:World)(B:Nat)(ah:bE)(ρ:Nat->Loc)(ins:af In):af Ar->af Value->Prop
 |[],[]=>True
 |x::xs,v::vs=>RA w B ah ρ (MG ins x) v/\E0 w B ah ρ ins xs vs
 |_,_=>False
theorem E0.get{ins:af In}:∀ (xs:af Ar) (vs:af Value),E0 w B ah ρ ins xs vs->vs.length=xs.length/\∀ i,RA w B ah ρ ((wW ins xs).t i) (vs.toArray.getD i undef)
 |[],[],_=>⟨rfl,λi=>trivial⟩
 |[],_::_,h=>h.elim
 |_::_,[],h=>h.elim
 | x :: xs,v :: vs,h=>by
  obtain⟨h1,h2⟩:=E0.get xs vs h.2
  refine⟨by simp[h1],λi=>?_⟩
  cases i with
  |zero=>exact h.1
  | succ i=>
   have:=h2 i;simp only[wW,List.getElem?_cons_succ,jy,List.getElem?_toArray]at this ⊢;exact this
theorem ah8{t:TC}{g:Nat}{x:T t}(hg:Nat.beq (g % 2) 0=true):∀ y∈enc t g x,y.l5=true/\y.MJ=true:=by
 intro y hy;refine⟨R4 t g x y hy,?_⟩;have:=yc t g x y hy;cases y with
 | sl t' o' q' l'=>
  have:o'=g:=by simpa [V.gr]using this
  subst this;exact hg
 |_=>rfl
def ah9(σ:S):PK->A->aj Mu->Prop
 |.v _ _,_,none=>True
 |.p _ _ off,x,some (.ax r cs vs)=>x = .aG r off/\AR σ (.ax r cs vs)
 |.s _ _,x,some (.sl q y)=>x = .lf (.own [q])/\AR σ (.sl q y)
 |_,_,_=>False
theorem w7{p:PK}{x:A}{z:aj Mu}(h:w6 σ p x=some z):ah9 σ p x z:=by
 cases p with
 | v b t=>
  have h:(some none:aj (aj Mu))=some z:=h;injection h with h;subst h;trivial
 | p t g off=>
  cases x with
  | aG r j=>
   have h:(match (bif Nat.beq j off then σ.m r else none)with
    | some (.ax cs)=>(match th σ.m cs with
     |some vs=>bif Nat.blt cs.length 999 then some (some (.ax r cs vs))else none
     |none=>none)
    |_=>none)=some z:=h
   cases hj:Nat.beq j off with
   |false=>rw[hj]at h;cases h
   | true=>
    obtain rfl:=cz hj;rw[hj,aq]at h;split at h
    ·rename_i cs dL;split at h
     ·rename_i vs ia;cases hl:Nat.blt cs.length 999 with
      |false=>rw[hl]at h;cases h
      | true=>
       rw[hl,aq]at h;injection h with h;subst h;exact⟨rfl,dL,ia,by have:=cH hl;omega⟩
     ·cases h
    ·cases h
  |_=>cases h
 | s t g=>
  have hx:(∃ q,x = .lf (.own [q])):=by
   unfold w6 at h;split at h
   next e=>cases e
   next e=>cases e
   ·exact⟨_,rfl⟩
   ·cases h
  obtain⟨q,rfl⟩:=hx;have h:(match σ.m q with
   |some (.sl y)=>bif y.aA then none else some (some (.sl q y))
   |_=>none)=some z:=h
  split at h
  ·rename_i y hy;cases hf:y.aA with
   |true=>rw[hf]at h;cases h
   | false=>
    rw[hf,au]at h;injection h with h;subst h;exact⟨rfl,hy,hf⟩
  ·cases h
theorem MK:∀ (ps:af PK) (xs:af Operand) (aL:af Mu),lF σ ps xs=some aL->∀ mu∈aL,AR σ mu
 |[],[],aL,h=>by injection h with h;subst h;simp
 | p :: ps,x :: xs,aL,h=>by
  unfold lF at h;split at h
  ·rename_i mu lR h1 h2;injection h with h;subst h;have ih:=MK ps xs lR h2;have h1:=w7 h1;intro z hz;rcases iL.1 hz with rfl | hz
   ·cases p with
    |v=>exact h1.elim
    | p=>
     cases z with
     |ax=>exact h1.2
     |sl=>exact h1.elim
    | s=>
     cases z with
     |ax=>exact h1.elim
     |sl=>exact h1.2
   ·exact ih z hz
  next lR h1 h2=>injection h with h;subst h;exact MK ps xs lR h2
  ·cases h
 |[],_::_,aL,h=>by cases h
 |_::_,[],aL,h=>by cases h
theorem IA:∀ {ps:af PK} (i i':Nat) (x:nL ps),(m8 ps i x).length=(m8 ps i' x).length
 |[],_,_,_=>rfl
 |.v _ _::ps,i,i',x=>by simp only[m8,n9];rw[IA i i']
 |.p _ _ _::ps,i,i',x=>by simp only[m8,n9];rw[IA (i+1) (i'+1)]
 |.s _ _::ps,i,i',x=>by simp only[m8,n9];rw[IA (i+1) (i'+1)]
theorem ML:∀ (ps:af PK) (xs:af Operand) (aL:af Mu) (k:nL ps->aj X),lF σ ps xs=some aL->jR σ ns ps xs aL k=some r->∃ x,k x=some r/\Iz aL (qR ps x)/\(m8 ps 0 x).length=xs.length/\
  ∀ah ρ a w aC ρ',Rl w0 N ah ρ σ a w->CG ns ah aC->∀(ins:af In) (i:Nat),(∀j z,(qR ps x)[j]?=some z->ins[i+j]?=some z)->(∀j mu,aL[j]?=some mu->ρ' (nF (i+j))=ρ mu.root)->E0 w w.heap.size aC ρ' ins (m8 ps i x) (xs.map a.eval)
 | [],[],aL,k,hm,h=>by
  injection hm with hm;subst hm;exact⟨(),h,trivial,rfl,λ_ _ _ _ _ _ _ _ _ _ _ _=>trivial⟩
 | .v b t :: ps,x :: xs,aL,k,hm,h=>by
  have og:lF σ ps xs=some aL:=by
   unfold lF at hm;split at hm
   next mu lR h1 h2=>exact(w7 h1).elim
   next lR h1 h2=>rw[h2];exact hm
   ·cases hm
  unfold jR at h;obtain⟨p,h2,hp⟩:=ah5 (w0:=w0) (N:=N) h;cases hb:p.1==b with
  |false=>rw[hb]at h2;cases h2
  | true=>
   rw[hb,aq]at h2;have hb:p.1=b:=by simpa using hb
   subst hb;split at h2
   ·rename_i y hy;obtain⟨ys,h3,h4,h5,h6⟩:=ML ps xs aL _ og h2
    refine⟨(y,ys),h3,h4,?_,λah ρ a w aC ρ' hR hS ins i hi aM=>⟨?_,h6 ah ρ a w aC ρ' hR hS ins i hi aM⟩⟩
    ·simp[m8,h5]
    ·have qc:=hp ah ρ a w aC hR hS _ (hR.aF x);have hk:=nB t 0 p.2 y hy;generalize a.eval x=ux at qc ⊢;rcases qc with ⟨_,_,us,hu,hs,hr⟩ | ⟨g,c,cs,pv,qc⟩
     case f=>
      have he:∀(j:Nat) z,(enc t 0 y)[j]?=some z->z.aA=true:=λj z hz=>lQ t 0 y (by omega) j z hz
      show RA _ _ _ _ (MG ins (.pt (false,enc t 0 y))) _;obtain⟨c',fO,e,hw⟩:=ah4 hk.1 hk.2;rw[e]at he ⊢;exact⟨pv,rfl,qc.tj hw λj z hz=>he (j+2) z (by simpa using hz)⟩
     have lz:∀ (j:Nat) z,(enc t 0 y)[j]?=some z->∃ v,us[j]?=some v/\z.aA=true/\RV w w.heap.size aC [] z v:=by
      intro j z hz;have hj:j<p.2.length:=by rw[hk.1];exact(dJ.1 hz).1
      obtain⟨v,hv,dA⟩:=hr j _ (bT hj);exact⟨v,hv,lQ t 0 y (by omega) j z hz,dA.wk (hk.2 j _ z (bT hj) hz)⟩
     have hlen:us.size=(enc t 0 y).length:=hs.trans hk.1;obtain⟨b,vs⟩:=p;cases b with
     | true=>
      show RA _ _ _ _ (.agg ((enc t 0 y).map .v)) _
      refine⟨us,hu,by rw[eV];exact hlen,λj z hz=>?_⟩
      rw[dH]at hz;cases EO:(enc t 0 y)[j]? with
      |none=>rw[EO]at hz;cases hz
      | some z'=>
       rw[EO]at hz;injection hz with hz;subst hz;obtain⟨v,hv,g1,g2⟩:=lz j z' EO;exact⟨v,hv,g1,g2⟩
     | false=>
      have hu:us = #[ux]:=hu;subst hu;show RA _ _ _ _ (MG ins (.pt (false,enc t 0 y))) _
      match he:enc t 0 y,lz,hlen with
      | [z],lz,_=>
       obtain⟨v,hv,g1,g2⟩:=lz 0 z rfl;have:ux=v:=by simpa using hv
       rw[this];exact⟨g1,g2⟩
      |[],_,_=>trivial
      |_::_::_,_,hlen=>exact absurd hlen (by simp)
   ·cases h2
 | .p t g off :: ps,x :: xs,aL,k,hm,h=>by
  unfold lF at hm;split at hm
  ·rename_i mu lR h1 h2;injection hm with hm;subst hm;have h1:=w7 h1;cases mu with
   |sl=>exact h1.elim
   | ax r cs vs=>
    have h1:aF σ x = .aG r off/\AR σ (.ax r cs vs):=h1;unfold jR at h;split at h
    ·rename_i y hy;cases hg:Nat.beq (g % 2) 0 with
     |false=>rw[hg]at hy;cases hy
     | true=>
      rw[hg,aq]at hy;obtain⟨ys,h3,h4,h5,h6⟩:=ML ps xs lR _ h2 h
      refine⟨(y,ys),h3,⟨⟨nB t g _ y hy,ah8 hg⟩,h4⟩,by simp[m8,IA 1 0,h5],λah ρ a w aC ρ' hR hS ins i hi aM=>⟨?_,?_⟩⟩
      ·have CI:=hi 0 _ rfl;rw[Nat.add_zero]at CI;have hx:=hR.aF x;rw[h1.1]at hx;obtain⟨b,o,e1,e2⟩:=hx;show RA _ _ _ _ (match ins[i]? with|some (.ax _)=>.aG (nF i) off|some (.sl _)=>.lf (.own [nF i])|none=>.undef) _;rw[CI];have di:=aM 0 _ rfl;rw[Nat.add_zero]at di;exact⟨b,o,di.trans e1,e2⟩
      ·refine h6 ah ρ a w aC ρ' hR hS ins (i+1) (λj z hz=>?_) (λj mu iG=>?_)
       ·rw[show i+1+j=i+(j+1) by omega];exact hi (j+1) z hz
       ·rw[show i+1+j=i+(j+1) by omega];exact aM (j+1) mu iG
    ·cases h
  next lR h1 h2=>exact(w7 h1).elim
  ·cases hm
 | .s t g :: ps,x :: xs,aL,k,hm,h=>by
  unfold lF at hm;split at hm
  ·rename_i mu lR h1 h2;injection hm with hm;subst hm;have h1:=w7 h1;cases mu with
   |ax=>exact h1.elim
   | sl q y0=>
    have h1:aF σ x = .lf (.own [q])/\AR σ (.sl q y0):=h1;unfold jR at h;split at h
    ·rename_i y hy;cases hg:Nat.beq (g % 2) 0 with
     |false=>rw[hg]at hy;cases hy
     | true=>
      rw[hg,aq]at hy;obtain⟨ys,h3,h4,h5,h6⟩:=ML ps xs lR _ h2 h
      refine⟨(y,ys),h3,⟨⟨V.eJ hy,?_⟩,h4⟩,by simp[m8,IA 1 0,h5],λah ρ a w aC ρ' hR hS ins i hi aM=>⟨?_,?_⟩⟩
      ·show Nat.beq ((g+2) % 2) 0=true;rw[show (g+2) % 2=g % 2 by omega];exact hg
      ·have CI:=hi 0 _ rfl;rw[Nat.add_zero]at CI;have hx:=hR.aF x;rw[h1.1]at hx;show RA _ _ _ _ (match ins[i]? with|some (.ax _)=>.aG (nF i) 0|some (.sl _)=>.lf (.own [nF i])|none=>.undef) _;rw[CI];have di:=aM 0 _ rfl;rw[Nat.add_zero]at di;refine⟨hx.1,?_⟩;have h2:=hx.2;simp only[cE]at h2 ⊢;rw[di];exact h2
      ·refine h6 ah ρ a w aC ρ' hR hS ins (i+1) (λj z hz=>?_) (λj mu iG=>?_)
       ·rw[show i+1+j=i+(j+1) by omega];exact hi (j+1) z hz
       ·rw[show i+1+j=i+(j+1) by omega];exact aM (j+1) mu iG
    ·cases h
  next lR h1 h2=>exact(w7 h1).elim
  ·cases hm
 |[],_::_,aL,k,hm,h=>by cases hm
 |_::_,[],aL,k,hm,h=>by cases hm
end
end Go.Proofs.YtcioagfjiccleaaGreat
namespace Go.Proofs.YtcioagfjiccleaaGreat
open Go.RowKit
set_option linter.unusedVariables false
def ow(c0:Nat):Nat->af (V×aj Nat)->af Nat
 |_,[]=>[]
 |n,(_,some q)::vs=>q::ow c0 (n+1) vs
 |n,(_,none)::vs=>(c0+n)::ow c0 (n+1) vs
def AS(c0:Nat):Nat->af Mu->af Nat
 |_,[]=>[]
 |pos,.ax r _ vs::aL=>r::(ow c0 (pos+1) vs++AS c0 (pos+1+vs.length) aL)
 |pos,.sl q _::aL=>q::AS c0 (pos+1) aL
def w8:af Nat->af V->af Nat
 |n::dW,x::xs=>bif x.aA then w8 dW xs else n::w8 dW xs
 |_,_=>[]
def ox(c0:Nat):Nat->af Mu->af In->af Nat
 |pos,.ax _ _ vs::aL,.ax xs::outs=>w8 (ow c0 (pos+1) vs) xs++ox c0 (pos+1+vs.length) aL outs
 |pos,.sl _ _::aL,.sl _::outs=>ox c0 (pos+1) aL outs
 |_,_,_=>[]
def qT(ns cn:af Nat):af Nat->af Lf->af V->af Lf
 |n::dW,l::ls,x::xs=>(bif x.plain then .v x else bif x.aA then l.bA ns cn else .own [n])::qT ns cn dW ls xs
 |_,_,_=>[]
def vE:af Nat->af V->af (Nat×aW)
 |n::dW,x::xs=>bif x.aA then vE dW xs else (n,.sl x)::vE dW xs
 |_,_=>[]
def m9(ns cn:af Nat)(c0:Nat):Nat->af Mu->af In->af (Nat×aW)
 |pos,.ax r cs vs::aL,.ax xs::outs=>(r,.ax (qT ns cn (ow c0 (pos+1) vs) cs xs))::(vE (ow c0 (pos+1) vs) xs++m9 ns cn c0 (pos+1+vs.length) aL outs)
 |pos,.sl q _::aL,.sl y::outs=>bif y.l5 then (q,.sl y)::m9 ns cn c0 (pos+1) aL outs else m9 ns cn c0 (pos+1) aL outs
 |_,_,_=>[]
def MM:af Nat->Bool
 |[]=>true
 |n::l=>!cc n l&&MM l
def Zw:In->Bool
 |.ax xs=>xs.all λx=>x.aA ||x.loc
 |.sl y=>y.loc
def ju:aj Tmp->Nat
 |some d=>1000000000100000+1000*d
 |none=>90000
def oy{X:Type}(N:Nat)(σ:S)(dst:aj Tmp)(res:iF)(k:S->aj X):aj X:=
 match dst with
 |none=>k σ
 | some d=>bif Nat.blt d N then (match res with
  | .one p=>(match sU (p.1,mc (1000000000100000+1000*d) p.2)with
   |some y=>k ((jP (1000000000100000+1000*d) σ p.2).set d y)
   |none=>none)
  |.cP ps=>k ((mM (1000000000100000+1000*d) σ ps).set d (.cP (nJ (1000000000100000+1000*d) ps))))else none
def CJ(N:Nat)(aL:af Mu)(outs:af In)(cn:af Nat):Bool:=
 MM cn&&(aL.all λmu=>!cc mu.root cn)&&(cn.all λn=>Nat.blt n N ||Nat.ble 60000 n)&&outs.all Zw
def AT{X:Type}(N:Nat)(σ:S)(dst:aj Tmp)(aL:af Mu)(ns cn:af Nat)(res:iF)(outs:af In)(k:S->aj X):aj X:=
 bif CJ N aL outs cn then oy N (σ.bA ns cn (m9 ns cn (ju dst) res.len aL outs)) dst res k else none
def nM{X:Type}(N:Nat)(σ:S)(dst:aj Tmp)(c:pG)(args:af Operand)(k:S->aj X):aj X:=
 match lF σ c.ps args with
 | some aL=>bif once (mN 0 aL)&&Nat.ble aL.length 40 then
   jR σ ((mN 0 aL).map (·.1)) c.ps args aL λx=>(match c.F x with
    |some y=>AT N σ dst aL ((mN 0 aL).map (·.1)) (ox (ju dst) (fK c.ro y.1).len aL (jQ (fC c.ps) y.2)) (fK c.ro y.1) (jQ (fC c.ps) y.2) k
    |none=>none)else none
 |none=>none
section
variable {P:Program} {w w':World} {w0:Wd} {B N:Nat} {ah dD aC:bE} {ρ eX ρ':Nat->Loc} {σ:S} {a:Act} {X:Type} {d:Nat} {r:X} {ns cn:af Nat} {o:Oper} {rs:af Nat} {eR:af (Nat×Nat)}
theorem Zx{n:Nat}:∀ {l:af (Nat×Nat)},cc n (l.map (·.1))=false->l.lookup n=none
 |[],_=>rfl
 | p :: l,h=>by
  simp only[kN,cc,oX]at h;rw[List.lookup_cons];have:(n==p.1)=false:=by
   cases hb:n==p.1 with
   |false=>rfl
   | true=>
    have e:n=p.1:=by simpa using hb
    have h1:=h.1;rw[<-e,Nat.beq_refl]at h1;cases h1
  rw[this];exact Zx h.2
theorem aia{b:Nat}{k:af Nat}{n m:Nat}(h:ah b=some k)(hk:k.getLast?=some n)(hm:eR.lookup n=some m):fl ah eR id b=some (k.dropLast++[m]):=by
 simp[fl,h,hk,hm]
theorem aib(bg:∀ b k,ah b=some k->k≠[]):CG (eR.map (·.1)) ah (fl ah eR id):=by
 refine⟨λb h=>yJ h,λb k h=>⟨bg b k h,λhl=>?_⟩⟩
 simp only[fl,h];cases hk:k.getLast? with
 |none=>rfl
 | some n=>
  simp only[cF,hk]at hl;simp[Zx hl]
theorem S6{m:Nat->aj aW}:∀ (cs:af Lf) (vs:af (V×aj Nat)),th m cs=some vs->vs.length=cs.length/\∀ (j:Nat) l,cs[j]?=some l->∃ v,vs[j]?=some v/\w5 m l=some v
 |[],vs,h=>by injection h with h;subst h;exact⟨rfl,λj l hl=>by simp at hl⟩
 | c :: cs,vs,h=>by
  unfold th at h;split at h
  ·rename_i v Cp h1 h2;injection h with h;subst h;obtain⟨k1,k2⟩:=S6 cs Cp h2
   refine⟨by simp[k1],λj l hl=>?_⟩
   cases j with
   |zero=>simp at hl;subst hl;exact⟨v,rfl,h1⟩
   |succ j=>exact k2 j l (by simpa using hl)
  ·cases h
theorem aic{l:Lf}{v:V}{qo:aj Nat}(h:w5 σ.m l=some (v,qo))(hR:Rl w0 N ah ρ σ a w)(hS:CG ns ah aC){u:Value}(hu:dN w w0.heap.size ah ρ l u):
  (qo=none/\∀B' q',RV w B' aC q' v u)\/(∃q,qo=some q/\v.aA=false/\RV w w0.heap.size ah [q] v u):=by
 unfold w5 at h;split at h
 ·simp only[gp,jL]at h;obtain⟨rfl,rfl⟩:=h;exact .inl ⟨rfl,λB' q'=>hu.2.out hS.none hS.rest (.inl hu.1)⟩
 ·rename_i q;split at h
  ·rename_i y hy;have cQ:=hR.root q _ hy;generalize hx:aW.sl y=x at cQ;cases cQ with
   |ax=>cases hx
   |mp=>cases hx
   |gh=>cases hx
   | sl v' y' aM hr=>
    injection hx with hx;subst hx;have Ir:v'=u:=by
     have h2:=hu.2;simp only[cE,aM]at h2;injection h2
    subst Ir;cases hf:y.aA with
    | true=>
     rw[hf,aq]at h;simp only[gp,jL]at h;obtain⟨rfl,rfl⟩:=h;exact .inl ⟨rfl,λB' q'=>hr.out hS.none hS.rest (.inl hf)⟩
    | false=>
     rw[hf,au]at h;simp only[gp,jL]at h;obtain⟨rfl,rfl⟩:=h;exact .inr ⟨q,rfl,hf,hr⟩
  ·cases h
 ·cases h
theorem Zy{i:Nat}{v:V}{q:Nat}:∀ (vs:af (V×aj Nat)) (j0 j:Nat),vs[j]?=some (v,some q)->(q,60000+1000*i+(j0+j))∈EZ i j0 vs
 |[],j0,j,h=>by simp at h
 | (v',qo) :: vs,j0,j,h=>by
  cases j with
  | zero=>
   simp at h;obtain⟨rfl,rfl⟩:=h;exact .head _
  | succ j=>
   have:=Zy (i:=i) vs (j0+1) j (by simpa using h);rw[show j0+1+j=j0+(j+1) by omega]at this;cases qo with
   |none=>exact this
   |some q'=>exact .tail _ this
theorem S7{i:Nat}:∀ (cs:af V) (j0:Nat),(AP i j0 cs).length=cs.length
 |[],_=>rfl
 |c::cs,j0=>by simp[AP,S7 cs]
theorem RV.oe{q:af Nat}{x:V}{u:Value}(h:RV w B ah q x u)(hp:x.plain=false)(hn:x.l5=true):oe u=true:=by
 cases h<;>first|rfl|cases hp|cases hn
theorem Wk.S8{x y:V}(h:Wk x y)(hx:x.aA=false):y.aA=false:=by
 cases h with
 |same=>exact hx
 |nil=>cases hx
 |q=>exact hx
 |gr t o o' qn l h1 h2=>simp[V.aA];omega
theorem S9(hR:Rl w0 N ah ρ σ a w)(hS:CG ns ah (fl ah eR id)):∀ (aL:af Mu) (ins:af In) (i:Nat),(∀ p∈mN i aL,eR.lookup p.1=some p.2)->(∀ j mu,aL[j]?=some mu->rs[i+j]?=some mu.root)->(∀ mu∈aL,AR σ mu)->Iz aL ins->i+aL.length<=40->
  qQ w w.heap.size (fl ah eR id) (yK w ρ rs) i ins
 |[],[],_,_,_,_,_,_=>trivial
 |[],_::_,_,_,_,_,h,_=>h.elim
 |.ax _ _ _::_,[],_,_,_,_,h,_=>h.elim
 |.sl _ _::_,[],_,_,_,_,h,_=>h.elim
 |.ax _ _ _::_,.sl _::_,_,_,_,_,h,_=>h.elim
 |.sl _ _::_,.ax _::_,_,_,_,_,h,_=>h.elim
 | .ax r cs vs :: aL,.ax xs :: ins,i,yL,gj,iG,hrel,hi=>by
  obtain⟨hm,hg,hlen⟩:=iG _ (.head _);obtain⟨⟨hw,hx⟩,CK⟩:=hrel;obtain⟨g1,g2⟩:=S6 cs vs hg;have jN:=gj 0 _ rfl;rw[Nat.add_zero]at jN;simp only[n9]at hi;have iQ:xs.length=cs.length:=by rw[<-hw.1,eV,g1]
  have cQ:=hR.root r _ hm;generalize hz:aW.ax cs=z at cQ;cases cQ with
  |sl=>cases hz
  |mp=>cases hz
  |gh=>cases hz
  | ax b off cells e fO us aM hl hh hs hc=>
   injection hz with hz;subst hz;have lz:∀ (j:Nat) x,xs[j]?=some x->cells[off+j]?=some (us j)/\RV w w.heap.size (fl ah eR id) [nC i j x] x (us j)/\(x.plain=false->yK w ρ rs (nC i j x) = .dP (us j)):=by
    intro j x hj;have yh:j<cs.length:=by rw[<-iQ];exact(dJ.1 hj).1
    obtain⟨v,hv,IB⟩:=g2 j _ (bT yh);obtain⟨c1,c2⟩:=hc j _ (bT yh);obtain⟨v,qo⟩:=v;have Ta:Wk v x:=hw.2 j v x (by rw[dH,hv];rfl) hj;obtain⟨o8,Co⟩:=hx x (iy hj)
    refine⟨c1,?_,λhp=>?_⟩
    ·rcases aic IB hR hS c2 with ⟨rfl,h1⟩ | ⟨q,rfl,hf,h1⟩
     ·exact(h1 _ _).wk Ta
     ·have SZ:=Ta.S8 hf;have hq:=yL (q,60000+1000*i+(0+j)) (.tail _ (List.mem_append_left _ (Zy vs 0 j hv)));rw[fQ]at hq;have h2:=(RV.fl (nm:=id) (p:=[]) h1 hq).wk Ta;have e1:nC i j x=60000+1000*i+j:=by simp[nC,SZ]
      rw[e1];exact h2.Zv Co
    ·exact ah2 jN (by omega) (by omega) aM (by rw[cell_of_row w b _ cells _ _ hh];exact c1)
   refine⟨.ax b off cells e _ us ((Ix jN (by omega)).trans aM) ?_ hh (by rw[S7,iQ];exact hs) (λj z hz=>?_),λj x hj hp=>?_,S9 hR hS aL ins (i+1) (λp hp=>yL p (.tail _ (List.mem_append_right _ hp))) (λj mu CL=>?_) (λmu h=>iG mu (.tail _ h)) CK (by omega)⟩
   ·exact aia hl rfl (yL _ (.head _))
   ·have hj:j<xs.length:=by rw[<-S7 (i:=i) xs 0];exact(dJ.1 hz).1
    have xb:=S2 (i:=i) xs 0 j _ (bT hj);rw[hz]at xb;injection xb with xb;subst xb;rw[fQ];obtain⟨c1,c2,c3⟩:=lz j _ (bT hj);refine⟨c1,?_⟩;cases hp:(xs[j]).plain with
    | true=>
     have e1:AO i j xs[j] = .v xs[j]:=by simp[AO,hp]
     rw[e1];exact⟨V.HT hp,c2.vj hp⟩
    | false=>
     have e1:AO i j xs[j] = .own [nC i j xs[j]]:=by simp[AO,hp]
     rw[e1];exact⟨c2.oe hp (hx _ (dy _)).1,by simp only[cE,c3 hp]⟩
   ·obtain⟨c1,c2,c3⟩:=lz j x hj;exact .sl _ x (c3 hp) c2
   ·have:=gj (j+1) mu (by simpa using CL);rw[show i+(j+1)=i+1+j by omega]at this;exact this
 | .sl q y :: aL,.sl y' :: ins,i,yL,gj,iG,hrel,hi=>by
  obtain⟨hm,hf⟩:=iG _ (.head _);obtain⟨⟨hw,hx⟩,CK⟩:=hrel;have jN:=gj 0 _ rfl;rw[Nat.add_zero]at jN;simp only[n9]at hi;have cQ:=hR.root q _ hm;generalize hz:aW.sl y=z at cQ;cases cQ with
  |ax=>cases hz
  |mp=>cases hz
  |gh=>cases hz
  | sl v y0 aM hr=>
   injection hz with hz;subst hz
   refine⟨.sl v y' ((Ix jN (by omega)).trans aM) ?_,S9 hR hS aL ins (i+1) (λp hp=>yL p (.tail _ hp)) (λj mu CL=>?_) (λmu h=>iG mu (.tail _ h)) CK (by omega)⟩
   ·exact((RV.fl (nm:=id) (p:=[]) hr (yL _ (.head _))).wk hw).Zv hx
   ·have:=gj (j+1) mu (by simpa using CL);rw[show i+(j+1)=i+1+j by omega]at this;exact this
end
end Go.Proofs.YtcioagfjiccleaaGreat
namespace Go.Proofs.YtcioagfjiccleaaGreat
open Go.RowKit
set_option linter.unusedVariables false
def Tb:Loc->Nat×Nat
 |.ax b off=>(b,off)
 |.dP _=>(0,0)
 |.bQ _=>(0,0)
def AU(w:World)(b off:Nat):Nat->af Nat->af V->af (Nat×Value)
 |j,n::dW,x::xs=>bif x.aA then AU w b off (j+1) dW xs else (n,(w.cell? ⟨b,off+j,none⟩).getD undef)::AU w b off (j+1) dW xs
 |_,_,_=>[]
def uy(w:World)(ρ:Nat->Loc)(c0:Nat):Nat->af Mu->af In->af (Nat×Value)
 |pos,.ax r _ vs::aL,.ax xs::outs=>AU w (Tb (ρ r)).1 (Tb (ρ r)).2 0 (ow c0 (pos+1) vs) xs++uy w ρ c0 (pos+1+vs.length) aL outs
 |pos,.sl _ _::aL,.sl _::outs=>uy w ρ c0 (pos+1) aL outs
 |_,_,_=>[]
def Zz(l:af (Nat×Value))(ρ:Nat->Loc):Nat->Loc:=λn=>match l.lookup n with
 |some v=>.dP v
 |none=>ρ n
theorem Tc{w:World}{b off:Nat}:∀ (dW:af Nat) (xs:af V) (j:Nat),(AU w b off j dW xs).map (·.1)=w8 dW xs
 |[],[],_=>rfl
 |[],_::_,_=>rfl
 |_::_,[],_=>rfl
 | n :: dW,x :: xs,j=>by
  simp only[AU,w8];cases x.aA with
  |true=>exact Tc dW xs (j+1)
  |false=>simp only[au,kN];rw[Tc dW xs (j+1)]
theorem MN{w:World}{ρ:Nat->Loc}{c0:Nat}:∀ (aL:af Mu) (outs:af In) (pos:Nat),(uy w ρ c0 pos aL outs).map (·.1)=ox c0 pos aL outs
 | .ax r _ vs :: aL,.ax xs :: outs,pos=>by
  simp only[uy,ox,List.map_append];rw[Tc,MN aL outs]
 | .sl _ _ :: aL,.sl _ :: outs,pos=>by
  simp only[uy,ox];exact MN aL outs _
 |[],_,_=>by simp[uy,ox]
 |.ax _ _ _::_,[],_=>rfl
 |.sl _ _::_,[],_=>rfl
 |.ax _ _ _::_,.sl _::_,_=>rfl
 |.sl _ _::_,.ax _::_,_=>rfl
theorem ZA{n:Nat}:∀ {l:af (Nat×Value)},cc n (l.map (·.1))=false->l.lookup n=none
 |[],_=>rfl
 | p :: l,h=>by
  simp only[kN,cc,oX]at h;rw[List.lookup_cons];cases hb:n==p.1 with
  |false=>exact ZA h.2
  | true=>
   have e:n=p.1:=by simpa using hb
   have h1:=h.1;rw[<-e,Nat.beq_refl]at h1;cases h1
theorem ZB:∀ {l:af (Nat×Value)},MM (l.map (·.1))=true->∀ p∈l,l.lookup p.1=some p.2
 |[],_,p,hp=>by cases hp
 | q :: l,h,p,hp=>by
  simp only[kN,MM,aJ,hD]at h;rw[List.lookup_cons];rcases iL.1 hp with rfl|hp
  ·simp
  ·cases hb:p.1==q.1 with
   |false=>exact ZB h.2 p hp
   | true=>
    have e:p.1=q.1:=by simpa using hb
    exact absurd (List.mem_map_of_mem (f:=(·.1)) hp) (by rw[e];exact Zt h.1)
theorem IC{c0:Nat}:∀ (vs:af (V×aj Nat)) (n:Nat),(ow c0 n vs).length=vs.length
 |[],_=>rfl
 |(_,some _)::vs,n=>by simp[ow,IC vs]
 |(_,none)::vs,n=>by simp[ow,IC vs]
theorem ZC{ns cn:af Nat}:∀ (dW:af Nat) (ls:af Lf) (xs:af V),dW.length=ls.length->xs.length=ls.length->(qT ns cn dW ls xs).length=ls.length/\
  ∀(j:Nat) z,(qT ns cn dW ls xs)[j]?=some z->∃n l x,dW[j]?=some n/\ls[j]?=some l/\xs[j]?=some x/\z=(bif x.plain then .v x else bif x.aA then l.bA ns cn else .own [n])
 |[],[],[],_,_=>⟨rfl,λj z hz=>by simp[qT]at hz⟩
 | n :: dW,l :: ls,x :: xs,h1,h2=>by
  obtain⟨k1,k2⟩:=ZC (ns:=ns) (cn:=cn) dW ls xs (by simpa using h1) (by simpa using h2)
  refine⟨by simp[qT,k1],λj z hz=>?_⟩
  cases j with
  |zero=>simp only[qT,List.getElem?_cons_zero,gp]at hz;exact⟨n,l,x,rfl,rfl,rfl,hz.symm⟩
  |succ j=>exact k2 j z (by simpa [qT]using hz)
 |[],_::_,_,h1,_=>by simp at h1
 |_::_,[],_,h1,_=>by simp at h1
 |_::_,_::_,[],_,h2=>by simp at h2
 |[],[],_::_,_,h2=>by simp at h2
theorem ZD:∀ (dW:af Nat) (xs:af V),∀ p∈vE dW xs,∃ (j:Nat) (x:V),dW[j]?=some p.1/\xs[j]?=some x/\x.aA=false/\p.2 = .sl x
 |[],[],p,hp=>by cases hp
 |[],_::_,p,hp=>by cases hp
 |_::_,[],p,hp=>by cases hp
 | n :: dW,x :: xs,p,hp=>by
  simp only[vE]at hp;have rest:p∈vE dW xs->∃ (j:Nat) (y:V),(n :: dW)[j]?=some p.1/\(x :: xs)[j]?=some y/\y.aA=false/\p.2 = .sl y:=λhp=>by
   obtain⟨j,y,h1,h2,h3,h4⟩:=ZD dW xs p hp;exact⟨j+1,y,by simpa using h1,by simpa using h2,h3,h4⟩
  cases hf:x.aA with
  |true=>rw[hf]at hp;exact rest hp
  | false=>
   rw[hf,au]at hp;rcases iL.1 hp with rfl|hp
   ·exact⟨0,x,rfl,rfl,hf,rfl⟩
   ·exact rest hp
theorem ZE{w:World}{b off n:Nat}{x:V}:∀ (dW:af Nat) (xs:af V) (j0 j:Nat),dW[j]?=some n->xs[j]?=some x->x.aA=false->(n,(w.cell? ⟨b,off+(j0+j),none⟩).getD undef)∈AU w b off j0 dW xs
 |[],_,_,j,h,_,_=>by simp at h
 |_::_,[],_,j,_,h,_=>by simp at h
 | m :: dW,y :: xs,j0,j,h1,h2,hf=>by
  cases j with
  | zero=>
   simp at h1 h2;subst h1 h2;simp only[AU,hf,au];exact .head _
  | succ j=>
   have:=ZE (w:=w) (b:=b) (off:=off) dW xs (j0+1) j (by simpa using h1) (by simpa using h2) hf;rw[show j0+1+j=j0+(j+1) by omega]at this;simp only[AU];cases y.aA with
   |true=>exact this
   |false=>exact .tail _ this
section
variable {P:Program} {w w':World} {w0:Wd} {B N:Nat} {ah dD aC:bE} {ρ eX ρ':Nat->Loc} {σ:S} {a:Act} {X:Type} {d:Nat} {r:X} {ns cn:af Nat} {o:Oper} {rs:af Nat} {eR:af (Nat×Nat)} {nm MO:Nat->Nat} {c0:Nat}
theorem RV.CM{q:af Nat}{x:V}{v:Value}(h:RV w B ah q x v){B':Nat}(hB:B'<=B)(hl:∀ b,B<=b->aC b=ah b)(hg:∀ b k,ah b=some k->aC b=some k)(hx:x.loc=true):RV w B' aC q x v:=by
 induction h with
 |int=>exact .int _ _ _
 |bool=>exact .bool _ _
 |str=>exact .str _ _
 |nil=>exact .nil _
 |dc=>exact .dc _ _ _
 |dg=>exact .dg _ _ _ _ _ (by first|assumption|omega)
 |dz=>exact .dz _ _ _ _ _ (by first|assumption|omega)
 | aA q t o qn l b off cap u ho dB hb h1 ey hc hr ih=>
  have yG:o=1:=by
   match o,ho,hx with
   |0,_,hx=>cases hx
   |1,_,_=>rfl
   |n+2,ho,_=>omega
  subst yG;have Ij:=h1 rfl
  refine .aA _ _ _ _ _ _ _ _ u ho ((hl b Ij).trans dB) hb (λ_=>Nat.le_trans hB Ij) ey hc (λi h j x cV=>ih i h j x cV ?_)
  have:=yc t 1 l[i] x (iy cV);cases x with
  | sl t' o' q' l'=>
   have:o'=1:=by simpa [V.gr]using this
   subst this;rfl
  |_=>rfl
 | own q t o qn l b cap cs u dB hh hs hn hm hc hr ih=>
  exact .own _ _ _ _ _ _ _ cs u (hg b q dB) hh hs hn hm hc (λi h j x cV=>ih i h j x cV (Zm hx l[i] x (iy cV)))
theorem lC.CM{nm:Nat->Nat}:∀ (ps:af Pt) (off:Nat) (vs:af Value) {B':Nat},lC w B ah nm off ps vs->B'<=B->(∀ b,B<=b->aC b=ah b)->(∀ b k,ah b=some k->aC b=some k)->(∀ n,off<=n->n<off+(ps.map λp=>p.2.length).sum->nm n=MO n)->lC w B' aC MO off ps vs
 |[],_,[],_,h,_,_,_,_=>h
 |[],_,_::_,_,h,_,_,_,_=>h
 |_::_,_,[],_,h,_,_,_,_=>h
 | p :: ps,off,v :: vs,B',h,hB,hl,hg,hn=>by
  obtain⟨⟨nK,us,hu,hs,hr⟩,lA⟩:=h;simp only[kN,List.sum_cons]at hn
  refine⟨⟨nK,us,hu,hs,λj x hx=>?_⟩,lC.CM ps _ vs lA hB hl hg (λn h1 h2=>hn n (by omega) (by omega))⟩
  obtain⟨v',dY,dA⟩:=hr j x hx;have hj:j<p.2.length:=(dJ.1 hx).1;refine⟨v',dY,?_⟩;show RV w B' aC [MO (off+j)] x v';rw[<-hn (off+j) (by omega) (by omega)];exact dA.CM hB hl hg (c9.1 nK x (iy hx))
theorem Td(hR:Rl w0 N ah ρ σ a w)(hv:tf w w' ah dD ρ eX ns cn)(lE:∀ b k,aC b=some k->dD b=some k)(oZ:∀ b,w.heap.size<=b->dD b=aC b)(hB:w0.heap.size<=w.heap.size):
  ∀(aL:af Mu) (ins outs:af In) (i pos:Nat),(∀j mu,aL[j]?=some mu->rs[i+j]?=some mu.root)->(∀mu∈aL,AR σ mu)->Iz aL ins->i+aL.length<=40->It w w' aC (yK w ρ rs) nm i pos ins outs->
  (∀k n,(AS c0 pos aL)[k]?=some n->nm (pos+k)=n)->(∀p∈uy w' ρ c0 pos aL outs,eX p.1 = .dP p.2)->(∀mu∈aL,cc mu.root cn=false)->outs.all Zw=true->∀p∈m9 ns cn c0 pos aL outs,fj w' w0.heap.size dD eX p.1 p.2
 |[],[],[],_,_,_,_,_,_,_,_,_,_,_,p,hp=>by simp[m9]at hp
 |[],[],_::_,_,_,_,_,_,_,h,_,_,_,_,_,_=>h.elim
 |[],_::_,_,_,_,_,_,h,_,_,_,_,_,_,_,_=>h.elim
 |.ax _ _ _::_,[],_,_,_,_,_,h,_,_,_,_,_,_,_,_=>h.elim
 |.sl _ _::_,[],_,_,_,_,_,h,_,_,_,_,_,_,_,_=>h.elim
 |.ax _ _ _::_,.sl _::_,_,_,_,_,_,h,_,_,_,_,_,_,_,_=>h.elim
 |.sl _ _::_,.ax _::_,_,_,_,_,_,h,_,_,_,_,_,_,_,_=>h.elim
 |.ax _ _ _::_,.ax _::_,[],_,_,_,_,_,_,h,_,_,_,_,_,_=>h.elim
 |.sl _ _::_,.sl _::_,[],_,_,_,_,_,_,h,_,_,_,_,_,_=>h.elim
 |.ax _ _ _::_,.ax _::_,.sl _::_,_,_,_,_,_,_,h,_,_,_,_,_,_=>h.elim
 |.sl _ _::_,.sl _::_,.ax _::_,_,_,_,_,_,_,h,_,_,_,_,_,_=>h.elim
 | .ax r cs vs :: aL,.ax xs0 :: ins,.ax xs :: outs,i,pos,gj,iG,hrel,hi,hO,dR,CN,qN,nK,p,hp=>by
  obtain⟨hm,hg,hlen⟩:=iG _ (.head _);obtain⟨⟨hw,hx⟩,CK⟩:=hrel;obtain⟨g1,g2⟩:=S6 cs vs hg;have jN:=gj 0 _ rfl;rw[Nat.add_zero]at jN;simp only[n9]at hi;have Te:xs0.length=cs.length:=by rw[<-hw.1,eV,g1]
  obtain⟨⟨b,off,cells,pE,e,e',h1,h2,h3,h4,h5,h6,h7⟩,Tf⟩:=hO;have cQ:=hR.root r _ hm;generalize hz:aW.ax cs=z at cQ;cases cQ with
  |sl=>cases hz
  |mp=>cases hz
  |gh=>cases hz
  | ax b0 xd ZF e0 fO us aM hl hh hs hc=>
   injection hz with hz;subst hz;rw[Ix jN (by omega)]at h1;have h1:ρ r = .ax b off:=h1;rw[aM]at h1;injection h1 with e1 e2;subst e1 e2;have aid:ZF=cells:=by
    rw[hh]at h2;injection h2 with h2;injection h2
   subst aid;have di:=qN _ (.head _);have wU:eX r = .ax b0 xd:=(hv.eW r di).trans aM;have vo:nm pos=r:=by have:=dR 0 r rfl;rwa [Nat.add_zero]at this
   have aie:∀ (j:Nat) n,(ow c0 (pos+1) vs)[j]?=some n->nm (pos+1+j)=n:=by
    intro j n hn;have hj:j<(ow c0 (pos+1) vs).length:=(dJ.1 hn).1;have:=dR (j+1) n (by simp only[AS,List.getElem?_cons_succ];rw[List.getElem?_append_left hj];exact hn);rw[show pos+1+j=pos+(j+1) by omega];exact this
   have lz:∀ (j:Nat) x,xs[j]?=some x->∃ u,pE[xd+j]?=some u/\w'.cell? ⟨b0,xd+j,none⟩=some u/\((x.plain=true/\∀ (w:World) (B:Nat) (ah:bE) (q:af Nat),RV w B ah q x u)\/(x.plain=false/\x.aA=true/\ZF[xd+j]?=some u)\/(x.aA=false/\RV w' w.heap.size aC [nm (pos+1+j)] x u)):=by
    intro j x hj;obtain⟨u,hu,hd⟩:=h7 j x hj;exact⟨u,hu,by rw[cell_of_row w' b0 _ pE _ _ h3];exact hu,hd⟩
   have nt:∀ (j:Nat) n x u,(ow c0 (pos+1) vs)[j]?=some n->xs[j]?=some x->x.aA=false->w'.cell? ⟨b0,xd+j,none⟩=some u->eX n = .dP u:=by
    intro j n x u hn hxj hf hu;have uw:=ZE (w:=w') (b:=b0) (off:=xd) _ xs 0 j hn hxj hf;rw[fQ,hu]at uw;exact CN (n,u) (by simp only[uy,aM,Tb];exact List.mem_append_left _ uw)
   simp only[m9]at hp;rcases iL.1 hp with rfl|hp
   ·obtain⟨k1,k2⟩:=ZC (ns:=ns) (cn:=cn) (ow c0 (pos+1) vs) cs xs (by rw[IC,g1]) (by rw[h6,Te])
    refine .ax b0 xd pE e' _ (λj=>pE.getD (xd+j) undef) wU (lE _ _ (by rw[h4,vo])) h3 (by show xd+(qT _ _ _ _ _).length<=_;rw[k1,<-Te,<-h6];exact h5) (λj z hz=>?_)
    obtain⟨n,l,x,n1,n2,n3,rfl⟩:=k2 j z hz;obtain⟨u,hu,Tg,hd⟩:=lz j x n3;have eu:pE.getD (xd+j) undef=u:=by rw[jy,hu];rfl
    rw[eu];refine⟨hu,?_⟩;rcases hd with ⟨d1,d2⟩|⟨d1,d2,d3⟩|⟨d1,d2⟩
    ·rw[d1,aq];exact⟨V.HT d1,d2 _ _ _ _⟩
    ·rw[d1,d2,au,aq];obtain⟨c1,c2⟩:=hc j l n2;rw[c1]at d3;injection d3 with d3;rw[<-d3];exact c2.kU hv
    ·have wV:x.plain=false:=by
      cases wV:x.plain with
      |false=>rfl
      |true=>rw[V.HT wV]at d1;cases d1
     rw[wV,d1,au,au];exact⟨d2.R5 d1,by simp only[cE,nt j n x u n1 n3 d1 Tg]⟩
   ·rcases List.mem_append.1 hp with hp | hp
    ·obtain⟨j,x,n1,n2,n3,n4⟩:=ZD _ _ p hp;obtain⟨u,hu,Tg,hd⟩:=lz j x n2;rw[n4];refine .sl u x (nt j p.1 x u n1 n2 n3 Tg) ?_;rcases hd with ⟨d1,d2⟩ | ⟨d1,d2,d3⟩ | ⟨d1,d2⟩
     ·exact d2 _ _ _ _
     ·rw[n3]at d2;cases d2
     ·rw[aie j _ n1]at d2;refine d2.CM hB oZ lE ?_;rw[List.all_cons,aJ]at nK;have:=c9.1 nK.1 x (iy n2)
      rwa [n3,Bool.false_or]at this
    ·rw[List.all_cons,aJ]at nK
     refine Td hR hv lE oZ hB aL ins outs (i+1) (pos+1+vs.length) (λj mu CL=>?_) (λmu h=>iG mu (.tail _ h)) CK (by omega) ?_ (λk n hn=>?_) (λp hp=>CN p ?_) (λmu h=>qN mu (.tail _ h)) nK.2 p hp
     ·have:=gj (j+1) mu (by simpa using CL);rw[show i+(j+1)=i+1+j by omega]at this;exact this
     ·rw[g1,<-Te];exact Tf
     ·have:=dR (1+vs.length+k) n (by
       rw[show 1+vs.length+k=(vs.length+k)+1 by omega];simp only[AS,List.getElem?_cons_succ];rw[List.getElem?_append_right (by rw[IC];omega),IC];rw[show vs.length+k-vs.length=k by omega];exact hn)
      rw[show pos+1+vs.length+k=pos+(1+vs.length+k) by omega];exact this
     ·simp only[uy];exact List.mem_append_right _ hp
 | .sl q y0 :: aL,.sl y1 :: ins,.sl y :: outs,i,pos,gj,iG,hrel,hi,hO,dR,CN,qN,nK,p,hp=>by
  obtain⟨hm,hf⟩:=iG _ (.head _);obtain⟨_,CK⟩:=hrel;have jN:=gj 0 _ rfl;rw[Nat.add_zero]at jN;simp only[n9]at hi;obtain⟨hO1,Tf⟩:=hO;rw[List.all_cons,aJ]at nK;have vo:nm pos=q:=by have:=dR 0 q rfl;rwa [Nat.add_zero]at this
  have hp:(p=(q,.sl y)/\y.l5=true)\/p∈m9 ns cn c0 (pos+1) aL outs:=by
   simp only[m9]at hp;cases hy:y.l5 with
   |false=>rw[hy]at hp;exact .inr hp
   | true=>
    rw[hy]at hp;rcases iL.1 hp with h|h
    ·exact .inl ⟨h,rfl⟩
    ·exact .inr h
  rcases hp with ⟨rfl,hy⟩|hp
  ·obtain⟨v,h1,h2⟩:=hO1.resolve_left (by rintro rfl;cases hy);rw[Ix jN (by omega)]at h1;rw[vo]at h2;exact .sl v y ((hv.eW q (qN _ (.head _))).trans h1) (h2.CM hB oZ lE nK.1)
  ·refine Td hR hv lE oZ hB aL ins outs (i+1) (pos+1) (λj mu CL=>?_) (λmu h=>iG mu (.tail _ h)) CK (by omega) Tf (λk n hn=>?_) (λp hp=>CN p hp) (λmu h=>qN mu (.tail _ h)) nK.2 p hp
   ·have:=gj (j+1) mu (by simpa using CL);rw[show i+(j+1)=i+1+j by omega]at this;exact this
   ·have:=dR (k+1) n (by simpa [AS]using hn);rw[show pos+1+k=pos+(k+1) by omega];exact this
end
end Go.Proofs.YtcioagfjiccleaaGreat
