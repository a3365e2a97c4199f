/-
  Running the program over pure contents, and that it follows (part 2). Nothing here is a claim.
-/
import Derived.Laws.StructEq
import Derived.Test.YtjldnlbiefpekaaDoorV1
set_option linter.unusedSimpArgs false
namespace Go.Proofs.YtjldnlbiefpekaaDoor
open Go.RowKit
set_option linter.unusedVariables false
def aa7{X:Type}(N:Nat)(σ:S)(dst:Option Tmp)(c x y:A)(k:S->Option X):Option X:=
 match c with
 | .lf (.v (.bool b))=>bif b then eK N σ dst x k else eK N σ dst y k
 | _=>none
def oK{X:Type}(P:Program)(s:TypeId)(x:A)(f:Nat)(k:A->Option X):Option X:=
 match yd P s f,x with
 | some fd,.agg cs=>(match fE P fd.type,ve P fd.type with
  | some n,some true=>if fd.offset+n<=cs.length then k (.agg ((cs.drop fd.offset).take n))else none
  | some _,some false=>(match cs[fd.offset]? with
   | some y=>k (.lf y)
   | none=>none)
  | _,_=>none)
 | _,_=>none
def sK{X:Type}(mx:Bool)(x y:A)(k:A->Option X):Option X:=
 match x,y with
 | .lf (.v (.int kx a)),.lf (.v (.int _ b))=>k (.lf (.v (.int kx (bif mx then (if b > a then b else a)else (if b<a then b else a)))))
 | _,_=>none
def qW{X:Type}(P:Program)(t:TypeId)(x i:A)(k:A->Option X):Option X:=
 match x,i with
 | .lf (.v (.str s)),.lf (.v (.int _ iv))=>(match P.underlying t with
  | some .string=>if h:0<=iv/\iv.toNat<s.size then k (.lf (.v (.int .u8 ((s[iv.toNat]'h.2).toNat:Int))))else none
  | _=>none)
 | _,_=>none
def oL{X:Type}(x:Option A)(d:Int)(k:Int->Option X):Option X:=
 match x with
 | none=>k d
 | some (.lf (.v (.int _ n)))=>k n
 | _=>none
def qX{X:Type}(P:Program)(t:TypeId)(x:A)(lo hi:Option A)(k:A->Option X):Option X:=
 match x with
 | .lf (.v (.str s))=>(match P.underlying t with
  | some .string=>oL lo 0 fun l=>oL hi (s.size:Int) fun h=>if 0<=l/\l<=h/\h<=(s.size:Int)then k (.lf (.v (.str (s.extract l.toNat h.toNat))))else none
  | _=>none)
 | .lf (.v (.sl t' g qn l))=>(match lK P t with
  | some e=>(match fE P e with
   | some n=>if n=aj t' then (bif Nat.blt g 2 then oL lo 0 fun a=>oL hi (l.length:Int) fun b=>if 0<=a/\a<=b/\b<=(l.length:Int)then k (.lf (.v (.sl t' g false ((l.take b.toNat).drop a.toNat))))else none else none)else none
   | none=>none)
  | none=>none)
 | _=>none
def qY(P:Program)(src dst:TypeId):Bool:=
 match P.underlying src,P.underlying dst with
 | some (.slice e),some .string=>(match P.underlying e with
  | some (.int .u8)=>true
  | _=>false)
 | _,_=>false
def oM{X:Type}(P:Program)(src dst:TypeId)(z:V)(k:A->Option X):Option X:=
 match z with
 | .sl .u8 _ _ l=>bif qY P src dst then k (.lf (.v (.str (strOfNums l))))else none
 | .nil=>bif qY P src dst then k (.lf (.v (.str (strOfNums []))))else none
 | _=>none
def jc{X:Type}(P:Program)(σ:S)(src dst:TypeId)(x:A)(k:A->Option X):Option X:=
 match x with
 | .lf (.v (.int _ n))=>(match P.underlying src,P.underlying dst with
  | some _,some (.int kd)=>k (.lf (.v (.int kd (kd.wrap n))))
  | _,_=>none)
 | .lf y=>dP σ y fun z=>oM P src dst z k
 | _=>none
section
variable {P:Program} {w w':World} {w0:Wd} {B N:Nat} {lab af:aG} {ρ ρ':Nat->Loc} {σ:S} {a:Act} {X:Type} {d:Nat} {r:X} {o:Oper}
theorem Sx{α:Type}(f:α->List Value)(s:Nat)(hf:∀ x,(f x).length=s)(l:List α):(l.flatMap f).length=l.length*s:=by
 induction l with
 | nil=>simp
 | cons a l ih=>rw[List.flatMap_cons,List.length_append,hf,ih,List.length_cons,Nat.succ_mul];omega
theorem Sy{α:Type}(f:α->List Value)(s:Nat)(hf:∀ x,(f x).length=s):∀ (l:List α) (k:Nat) (hk:k<l.length) (j:Nat),j<s->(l.flatMap f)[k*s+j]?=(f l[k])[j]?:=by
 intro l
 induction l with
 | nil=>intro k hk;simp at hk
 | cons a l ih=>
  intro k hk j hj
  rw[List.flatMap_cons]
  cases k with
  | zero=>rw[Nat.zero_mul,Nat.zero_add,List.getElem?_append_left (by rw[hf];exact hj)];rfl
  | succ k=>
   have e:(k+1)*s+j=s+(k*s+j):=by rw[Nat.succ_mul];omega
   rw[e,List.getElem?_append_right (by rw[hf];omega),hf,Nat.add_sub_cancel_left]
   exact ih k (by simpa using hk) j hj
theorem Ke(z:Array Value)(s n:Nat)(hs:z.size=s)(h0:0<s):(madeCells z (n*s)).toList=(List.replicate n z.toList).flatten:=by
 have e:(List.replicate n z.toList).flatten=(List.replicate n ()).flatMap (fun _=>z.toList):=by
  rw[List.flatMap_def,List.map_replicate]
 rw[e]
 have hl:((List.replicate n ()).flatMap (fun _=>z.toList)).length=n*s:=by
  rw[Sx (fun _=>z.toList) s (fun _=>by simpa using hs)]
  simp
 apply List.ext_getElem?
 intro i
 rcases Nat.lt_or_ge i (n*s)with hi | hi
 ·have hk:i / s<n:=Nat.div_lt_of_lt_mul (by rw[Nat.mul_comm];exact hi)
  have hj:i % s<s:=Nat.mod_lt _ h0
  have ei:i=i / s*s+i % s:=by rw[Nat.mul_comm];exact(Nat.div_add_mod i s).symm
  have h2:=Sy (fun _=>z.toList) s (fun _=>by simpa using hs) (List.replicate n ()) (i / s) (by simpa using hk) (i % s) hj
  rw[<-ei]at h2
  rw[h2]
  have hz:i % s<z.size:=by omega
  simp only[madeCells,Array.toList_map,Array.toList_range,List.getElem?_map,List.getElem?_range hi,Option.map_some,hs]
  simp[hz]
 ·rw[List.getElem?_eq_none (by rw[Array.length_toList,size_madeCells];exact hi),List.getElem?_eq_none (by rw[hl];exact hi)]
theorem Sz{t:TypeId}{len:Nat}{parts:Array (Nat×Operand)}{k:S->Option X}(h:sJ P N σ d t len parts.toList k=some r):∃ aa,k aa=some r/\∀ lab ρ a w,Rl w0 N lab ρ σ a w->
  ∃ w' af ρ' v,(Instr.buildSlice t len (parts.map fun(i,x)=>(i,a.eval x))).run P w = .ok v w'/\Rl w0 N af ρ' aa (a.put (some d) v) w':=by
 unfold sJ at h
 split at h
 ·rename_i e tc dS
  obtain⟨cK,ht,i,hi,hsz,dI⟩:=sH dS
  split at h
  ·rename_i z hz
   cases hc:(Nat.beq (full tc) 0&&Nat.beq z.cells.size (aj tc)&&Nat.blt (len*aj tc) 16777217)with
   | false=>rw[hc]at h;cases h
   | true=>
    rw[hc,cond_true]at h
    simp only[Bool.and_eq_true]at hc
    have hf:=Nat.eq_of_beq_eq_true hc.1.1
    have dy:=Nat.eq_of_beq_eq_true hc.1.2
    have SA:len*aj tc<16777217:=by have:=Nat.le_of_ble_eq_true hc.2;omega
    have kM:i.zero=some z:=by unfold zeroOf at hz;simpa [hi]using hz
    split at h
    ·rename_i cs bU
     split at h
     ·rename_i vs cN
      split at h
      ·rename_i l hl
       obtain⟨hd,h⟩:=ja h
       refine⟨_,h,fun lab ρ a w hR=>?_⟩
       obtain⟨Bi,lM,iN⟩:=E1 tc 0 len vs l hl
       have E2:bH w w0.heap.size lab ρ (List.replicate len (z.cells.toList.map ey)).flatten (madeCells z.cells (len*aj tc)):=by
        have e1:(List.replicate len (z.cells.toList.map ey)).flatten=((List.replicate len z.cells.toList).flatten).map ey:=by
         rw[List.map_flatten,List.map_replicate]
        rw[e1,<-Ke z.cells (aj tc) len dy (lF tc)]
        refine⟨by simp,fun j x hx=>?_⟩
        rw[List.getElem?_map]at hx
        cases hv:(madeCells z.cells (len*aj tc)).toList[j]? with
        | none=>rw[hv]at hx;cases hx
        | some v=>
         rw[hv]at hx
         injection hx with hx
         subst hx
         exact⟨v,by simpa using hv,Bb v⟩
       obtain⟨cW,oN,aA⟩:=Bg (w:=w) (B:=w0.heap.size) (lab:=lab) (ρ:=ρ) _ _ _ (parts.toList.map fun p=>(p.1,a.eval p.2)) cs bU E2 (by simp) (fun j p q hp hq=>by
        rw[List.getElem?_map]at hp hq
        cases hx:parts.toList[j]? with
        | none=>rw[hx]at hp;cases hp
        | some x=>
         rw[hx]at hp hq
         injection hp with hp
         injection hq with hq
         subst hp hq
         exact⟨rfl,hR.ah x.2⟩)
       have Kf:=Bh cs vs cN
       have SB:cW.size=len*aj tc:=by rw[aA.1,Kf,List.length_map,lM]
       have aC:(Instr.buildSlice t len (parts.map fun(i,x)=>(i,a.eval x))).run P w = .ok (.slice (some ⟨w.heap.size,0,none⟩) len len) (w.alloc (.cells cW e)):=by
        have yp:(parts.map fun(i,x)=>(i,a.eval x)).toList=parts.toList.map fun p=>(p.1,a.eval p.2):=by simp
        by_cases h0:len*aj tc=0
        ·have hm:madeCells z.cells (len*aj tc) = #[]:=by rw[h0];simp[madeCells]
         rw[hm]at oN
         have E3:len*i.size=0:=by rw[hsz];exact h0
         rw[<-hsz]at oN
         have e0:∀ f:Nat->Value,Array.map f (Array.range 0) = #[]:=fun f=>by simp
         simp only[Instr.buildSlice,Sem.run_bind,run_underlying cK,Result.andThen_ok,sizeOf,typeInfo]
         simp[hi,E3]
         rw[e0,oN]
         simp[newRow]
        ·exact run_buildSlice (P:=P) w t e len _ cW i z cK hi kM (by rw[hsz];omega) (by rw[hsz];exact h0) (by rw[hsz,yp];exact oN)
       refine⟨_,aH lab w.heap.size (some [d]),aH ρ d (.bS (.slice (some ⟨w.heap.size,0,none⟩) len len)),_,aC,(hR.vh (hR.cB d (.inl hd)) (fun r hr=>aQ _ _ _ hr) (.sl _ _ (aJ _ _ _) ?_)).set ⟨rfl,by simp[aP,aJ]⟩ hd⟩
       have gA:∀ i' (h':i'<l.length) j x,(enc tc 0 l[i'])[j]?=some x->∃ v,cW[i'*aj tc+j]?=some v/\∀ (w':World) (B':Nat) (af:aG) (q':List Nat),RV w' B' af q' x v:=by
        intro i' h' j x hx
        obtain⟨y,hy,hw⟩:=iN i' h' j x hx
        obtain⟨v,hv,hr⟩:=aA.2 (i'*aj tc+j) (.v y) (by rw[Kf,List.getElem?_map,hy];rfl)
        exact⟨v,hv,fun w' B' af q'=>(hr.2.wk hw).qQ (xV tc 0 l[i'] hf x (List.mem_of_getElem? hx))⟩
       have:=RV.own (w:=w.alloc (.cells cW e)) (B:=w0.heap.size) (lab:=aH lab w.heap.size (some [d])) [d] tc 0 true l w.heap.size len cW (fun i j=>(cW[i*aj tc+j]?).getD undef)
        (aJ _ _ _) (by rw[ht];exact heap_alloc_new w _) SB (by omega) ⟨by have:=Nat.le_mul_of_pos_right len (lF tc);unfold maxLen;omega,fun _=>Bi.symm⟩ (fun i' h' j x hx=>?_) (fun i' h' j x hx=>?_)
       ·rw[Bi]at this
        exact this
       ·obtain⟨v,hv,_⟩:=gA i' h' j x hx
        rw[hv];rfl
       ·obtain⟨v,hv,hr⟩:=gA i' h' j x hx
        rw[hv];exact hr _ _ _ _
      ·cases h
     ·cases h
    ·cases h
  ·cases h
 ·cases h
theorem Kg{mx:Bool}{x y:A}{k:A->Option X}(h:sK mx x y k=some r):∃ z,k z=some r/\∀ (w:World) (B:Nat) (lab:aG) (ρ:Nat->Loc) (t ty:TypeId) (u v:Value),RA w B lab ρ x u->RA w B lab ρ y v->
  ∃ t',((bif mx then Builtin.max_ #[t,t] ty #[u,v]else Builtin.min_ #[t,t] ty #[u,v]):Sem Value).run P w = .ok t' w/\RA w B lab ρ z t':=by
 unfold sK at h
 split at h
 ·refine⟨_,h,fun w B lab ρ t ty u v hu hv=>?_⟩
  obtain rfl:=hu.2.eE
  obtain rfl:=hv.2.eE
  cases mx with
  | true=>exact⟨_,by simp[Builtin.max_,Builtin.max2],rfl,.int _ _ _⟩
  | false=>exact⟨_,by simp[Builtin.min_,Builtin.min2],rfl,.int _ _ _⟩
 ·cases h
theorem SC{t:TypeId}{x i:A}{k:A->Option X}(h:qW P t x i k=some r):∃ z,k z=some r/\∀ (w:World) (B:Nat) (lab:aG) (ρ:Nat->Loc) (u v:Value),RA w B lab ρ x u->RA w B lab ρ i v->
  ∃ t',(Instr.index t u v).run P w = .ok t' w/\RA w B lab ρ z t':=by
 unfold qW at h
 split at h
 ·rename_i s kk iv
  split at h
  ·rename_i hu
   split at h
   ·rename_i U
    refine⟨_,h,fun w B lab ρ u v fZ hv=>?_⟩
    obtain rfl:=fZ.2.jU
    obtain rfl:=hv.2.eE
    exact⟨_,by simp[Instr.index,asIntOf,run_underlying hu,U.1,U.2],rfl,.int _ _ _⟩
   ·cases h
  ·cases h
 ·cases h
theorem Kh{src dst:TypeId}(h:qY P src dst=true):∃ e,P.underlying src=some (.slice e)/\P.underlying dst=some .string/\P.underlying e=some (.int .u8):=by
 unfold qY at h
 split at h
 ·rename_i e h1 h2
  split at h
  ·rename_i h3
   exact⟨e,h1,h2,h3⟩
  ·cases h
 ·cases h
theorem getD_at(l:List Int)(i:Nat)(hi:i<l.length):l.getD i 0=l[i]:=by rw[List.getD_eq_getElem?_getD,List.getElem?_eq_getElem hi];rfl
theorem RV.toStr{src dst e:TypeId}(hs:P.underlying src=some (.slice e))(hd:P.underlying dst=some .string)(he:P.underlying e=some (.int .u8)){o:Nat}{qn:Bool}{l:List (T .u8)}{q:List Nat}{B:Nat}{u:Value}(h:RV w B lab q (.sl .u8 o qn l) u):
  (convert src dst u).run P w = .ok (.string (strOfNums l)) w:=by
 generalize hy:V.sl .u8 o qn l=y at h
 cases h with
 | int=>cases hy
 | bool=>cases hy
 | str=>cases hy
 | nil=>cases hy
 | aY q t o'=>
  injection hy with e1 e2 e3 e4
  subst e1
  obtain rfl:=eq_of_heq e4
  rw[run_convert_bytes_nil w src e hs he 0 0 dst hd];rfl
 | bn q t o' A c ho=>
  injection hy with e1 e2 e3 e4
  subst e1
  obtain rfl:=eq_of_heq e4
  have hl:(loadCells A 0).run P w = .ok (([]:List Int).map (Value.int .u8)).toArray w:=run_loadCells_list (P:=P) w A [] (fun j v hj=>by simp at hj)
  rw[run_convert_bytes_string w src dst e _ 0 c hs he hd,run_bytesToString w A 0 c [] hl]
  rfl
 | bF q t o' A c ho=>
  injection hy with e1 e2 e3 e4
  subst e1
  obtain rfl:=eq_of_heq e4
  have hl:(loadCells A 0).run P w = .ok (([]:List Int).map (Value.int .u8)).toArray w:=run_loadCells_list (P:=P) w A [] (fun j v hj=>by simp at hj)
  rw[run_convert_bytes_string w src dst e _ 0 c hs he hd,run_bytesToString w A 0 c [] hl]
  rfl
 | av q t o' E4 l' b off cap uu ho hl U h1 hcap hc hr=>
  injection hy with e1 e2 e3 e4
  subst e1
  obtain rfl:=eq_of_heq e4
  refine run_convert_bytes_arg w src e hs he b off _ cap l rfl (fun i hi=>?_) dst hd
  have h2:=hc i hi 0 (.int .u8 l[i]) rfl
  have h3:=(hr i hi 0 (.int .u8 l[i]) rfl).eE
  simp only[aj,Nat.mul_one,Nat.add_zero]at h2
  have hg:=getD_at (show List Int from l) i hi
  rw[h2,h3]
  exact congrArg (fun z=>some (Value.int .u8 z)) hg.symm
 | own q t o' E4 l' b cap cs uu hl hh iI hn hm hc hr=>
  injection hy with e1 e2 e3 e4
  subst e1
  obtain rfl:=eq_of_heq e4
  refine run_convert_bytes_arg w src e hs he b 0 _ cap l rfl (fun i hi=>?_) dst hd
  have h2:=hc i hi 0 (.int .u8 l[i]) rfl
  have h3:=(hr i hi 0 (.int .u8 l[i]) rfl).eE
  simp only[aj,Nat.mul_one,Nat.add_zero]at h2
  have hg:=getD_at (show List Int from l) i hi
  rw[h3]at h2
  have h4:w.cell? ⟨b,0+i,none⟩=some (.int .u8 l[i]):=by simp[World.cell?,hh,h2]
  rw[h4]
  exact congrArg (fun z=>some (Value.int .u8 z)) hg.symm
theorem SD{src dst:TypeId}{x:A}{k:A->Option X}(h:jc P σ src dst x k=some r):∃ z,k z=some r/\∀ lab ρ a w,Rl w0 N lab ρ σ a w->∀ u,RA w w0.heap.size lab ρ x u->
  ∃ t',(convert src dst u).run P w = .ok t' w/\RA w w0.heap.size lab ρ z t':=by
 unfold jc at h
 split at h
 ·rename_i kk n
  split at h
  ·rename_i d1 kd hs hd
   refine⟨_,h,fun lab ρ a w _ u hu=>?_⟩
   obtain rfl:=hu.2.eE
   exact⟨_,by simp[convert,run_underlying hs,run_underlying hd,Conv.intToInt],rfl,.int _ _ _⟩
  ·cases h
 ·rename_i y _
  have key:∃ z,(∀ lab ρ a w,Rl w0 N lab ρ σ a w->∀ u,bw w w0.heap.size lab ρ y u->∃ q,RV w w0.heap.size lab q z u)/\oM P src dst z k=some r:=by
   cases y with
   | v z=>exact⟨z,fun lab ρ a w _ u hu=>⟨[],hu.2⟩,h⟩
   | dead=>cases h
   | own q=>
    obtain⟨z,hz,h⟩:=l6 q _ h
    refine⟨z,fun lab ρ a w hR u hu=>?_,h⟩
    obtain⟨v,hv,hr⟩:=hz.ok hR.root
    have h3:=hu.2
    rw[hv]at h3
    injection h3 with h3
    subst h3
    exact⟨q,hr⟩
  obtain⟨z,hz,h2⟩:=key
  clear h
  unfold oM at h2
  split at h2
  ·rename_i o qn l
   cases ht:qY P src dst with
   | false=>rw[ht]at h2;cases h2
   | true=>
    rw[ht,cond_true]at h2
    obtain⟨e,e1,e2,e3⟩:=Kh ht
    refine⟨_,h2,fun lab ρ a w hR u hu=>?_⟩
    obtain⟨q,hr⟩:=hz lab ρ a w hR u hu
    exact⟨_,hr.toStr e1 e2 e3,rfl,.str _ _⟩
  ·cases ht:qY P src dst with
   | false=>rw[ht]at h2;cases h2
   | true=>
    rw[ht,cond_true]at h2
    obtain⟨e,e1,e2,e3⟩:=Kh ht
    refine⟨_,h2,fun lab ρ a w hR u hu=>?_⟩
    obtain⟨q,hr⟩:=hz lab ρ a w hR u hu
    cases hr
    exact⟨_,by rw[run_convert_bytes_nil w src e e1 e3 0 0 dst e2];rfl,rfl,.str _ _⟩
  ·cases h2
 ·cases h
theorem SE{s:TypeId}{x:A}{f:Nat}{k:A->Option X}(h:oK P s x f k=some r):∃ z,k z=some r/\∀ (w:World) (B:Nat) (lab:aG) (ρ:Nat->Loc) (u:Value),RA w B lab ρ x u->
  ∃ t',(Instr.field s u f).run P w = .ok t' w/\RA w B lab ρ z t':=by
 unfold oK at h
 split at h
 ·rename_i fd cs jw
  have eM:∃ fs,P.underlying s=some (.struct fs)/\fs[f]?=some fd:=by
   unfold yd at jw
   split at jw
   ·rename_i fs hu;exact⟨fs,hu,jw⟩
   ·cases jw
  obtain⟨fs,cE,jd⟩:=eM
  split at h
  ·rename_i n hn fQ
   split at h
   ·rename_i hle
    refine⟨_,h,fun w B lab ρ u hu=>?_⟩
    obtain⟨us,rfl,hR⟩:=hu
    have ox:(isAgg fd.type).run P w = .ok true w:=by
     unfold ve at fQ
     split at fQ
     ·rename_i fs' hu;unfold isAgg;rw[Sem.run_bind,run_underlying hu w];rfl
     ·rename_i c e hu;unfold isAgg;rw[Sem.run_bind,run_underlying hu w];rfl
     ·cases fQ
     ·cases fQ
    unfold fE at hn
    cases hi:P.info? fd.type with
    | none=>simp[hi]at hn
    | some i=>
     have bZ:i.size=n:=by simpa [hi]using hn
     refine⟨.agg (us.extract fd.offset (fd.offset+n)),by simp[Instr.field,run_underlying cE,jd,asAgg,part,Sem.run_bind,ox,sizeOf,typeInfo,hi,bZ],_,rfl,?_,fun j y hy=>?_⟩
     ·have:=hR.1
      simp
      omega
     ·obtain⟨hj,cA⟩:=A7 _ _ _ _ _ hy
      obtain⟨v,hv,hr⟩:=hR.2 _ y cA
      refine⟨v,?_,hr⟩
      rw[Array.getElem?_extract]
      have:=hR.1
      rw[if_pos (by omega)]
      exact hv
   ·cases h
  ·rename_i n hn fQ
   split at h
   ·rename_i y hy
    refine⟨_,h,fun w B lab ρ u hu=>?_⟩
    obtain⟨us,rfl,hR⟩:=hu
    obtain⟨v,hv,hr⟩:=hR.2 _ y hy
    have ox:(isAgg fd.type).run P w = .ok false w:=by
     unfold ve at fQ
     split at fQ
     ·cases fQ
     ·cases fQ
     ·rename_i d hs ha hu
      unfold isAgg
      rw[Sem.run_bind,run_underlying hu w]
      cases d <;>first | rfl | (rename_i x;exact absurd rfl (hs x)) | (rename_i x y;exact absurd rfl (ha x y)) | simp_all
     ·cases fQ
    exact⟨v,by simp[Instr.field,run_underlying cE,jd,asAgg,part,Sem.run_bind,ox,hv],hr⟩
   ·cases h
  ·cases h
 ·cases h
end
end Go.Proofs.YtjldnlbiefpekaaDoor
namespace Go.Proofs.YtjldnlbiefpekaaDoor
open Go.RowKit
set_option linter.unusedVariables false
def V.val:V->Value
 | .int k n=>.int k n
 | .bool b=>.bool b
 | .str s=>.string s
 | _=>undef
def Bj:TypeDesc->V->V->Option Bool
 | .int _,.int k a,.int k' b=>if k=k' then some (a==b)else none
 | .bool,.bool a,.bool b=>some (a==b)
 | .string,.str a,.str b=>some (a.toList==b.toList)
 | _,_,_=>none
def yu(P:Program)(g:TypeId->List V->List V->Option Bool)(xs ys:List V):List Field->Option Bool
 | []=>some true
 | f :: fs=>bif f.name == "_" then yu P g xs ys fs else (match fE P f.type with
  | some n=>bif Nat.ble (f.offset+n) xs.length then (match g f.type ((xs.drop f.offset).take n) ((ys.drop f.offset).take n),yu P g xs ys fs with
   | some a,some b=>some (a&&b)
   | _,_=>none)else none
  | none=>none)
def qZ(P:Program):Nat->TypeId->List V->List V->Option Bool
 | 0,_,_,_=>none
 | n+1,t,xs,ys=>match P.underlying t with
  | some (.struct fs)=>bif P.stoodInHeld t || !Nat.beq xs.length ys.length then none else yu P (qZ P n) xs ys fs.toList
  | some d=>(match xs,ys with
   | [x],[y]=>Bj d x y
   | _,_=>none)
  | none=>none
def Bk:BinOp->Option Bool
 | .eql=>some false
 | .neq=>some true
 | _=>none
def sL{α:Type}:List α->Bool
 | []=>true
 | _=>false
def isStr(P:Program)(t:TypeId):Bool:=match P.underlying t with
 | some (.struct _)=>true
 | _=>false
def gb{X:Type}(P:Program)(σ:S)(op:BinOp)(t:TypeId)(x y:A)(k:A->Option X):Option X:=
 match Bk op,x,y with
 | some ng,.agg cs,.agg ds=>(match oy cs,oy ds with
  | some xs,some ys=>bif P.eqGuardType P.depth t || !isStr P t then none else (match qZ P 20 t xs ys with
   | some b=>k (.lf (.v (.bool (bif ng then !b else b))))
   | none=>none)
  | _,_=>none)
 | some ng,.lf l,.lf (.v .nil)=>(match lK P t with
  | some _=>dP σ l fun z=>(match z with
   | .nil=>k (.lf (.v (.bool (bif ng then false else true))))
   | .sl _ _ true _=>k (.lf (.v (.bool (bif ng then true else false))))
   | .sl _ _ false l=>bif sL l then none else k (.lf (.v (.bool (bif ng then true else false))))
   | _=>none)
  | none=>none)
 | _,_,_=>vK x fun a=>vK y fun b=>gX P t op a b fun z=>k (.lf (.v z))
section
variable {P:Program} {w w':World} {w0:Wd} {B N:Nat} {lab af:aG} {ρ ρ':Nat->Loc} {σ:S} {a:Act} {X:Type} {d:Nat} {r:X} {o:Oper}
theorem SF{ds:TypeDesc}{x y:V}{b:Bool}{t:TypeId}{n:Nat}(ht:P.underlying t=some ds)(h:Bj ds x y=some b):(Op.equalIn (n+1) t x.val y.val).run P w = .ok b w:=by
 unfold Bj at h
 split at h
 ·split at h
  ·rename_i k' _ a k b' hk
   subst hk
   injection h with h
   subst h
   exact run_equalIn_int w n t _ _ _ _ ht
  ·cases h
 ·injection h with h
  subst h
  exact run_equalIn_bool' w n t _ _ ht
 ·injection h with h
  subst h
  exact run_equalIn_string w n t _ _ ht
 ·cases h
def mb(P:Program)(t:TypeId)(xs:List V)(u:Value):Prop:=
 match P.underlying t with
 | some (.struct _)=>u = .agg (xs.map V.val).toArray
 | _=>∃ x,xs=[x]/\u=x.val
theorem Ki{t:TypeId}{n off:Nat}{xs:List V}(hn:fE P t=some n)(hle:off+n<=xs.length)(hu:∃ d,P.underlying t=some d/\(∀ c e,d ≠ .array c e)/\((∀ fs,d ≠ .struct fs)->n=1)):
  ∃ u,(part t (xs.map V.val).toArray off).run P w = .ok u w/\mb P t ((xs.drop off).take n) u:=by
 obtain⟨d,hd,ha,h1⟩:=hu
 unfold fE at hn
 cases hi:P.info? t with
 | none=>simp[hi]at hn
 | some i=>
  have bZ:i.size=n:=by simpa [hi]using hn
  by_cases hs:∃ fs,d = .struct fs
  ·obtain⟨fs,rfl⟩:=hs
   have ox:(isAgg t).run P w = .ok true w:=by
    unfold isAgg;rw[Sem.run_bind,run_underlying hd w];rfl
   refine⟨.agg ((xs.map V.val).toArray.extract off (off+n)),by simp[part,Sem.run_bind,ox,sizeOf,typeInfo,hi,bZ],?_⟩
   unfold mb
   rw[hd]
   simp only
   congr 1
   apply Array.ext'
   simp[List.map_drop,List.map_take]
  ·have ox:(isAgg t).run P w = .ok false w:=by
    unfold isAgg
    rw[Sem.run_bind,run_underlying hd w]
    cases d <;>first | rfl | (exfalso;exact hs ⟨_,rfl⟩) | (exfalso;exact ha _ _ rfl)
   have q7:n=1:=h1 fun fs e=>hs ⟨fs,e⟩
   subst q7
   have aV:off<xs.length:=by omega
   have gA:(xs.map V.val).toArray[off]?=some (xs[off]).val:=by simp[aV]
   refine⟨(xs[off]).val,by simp[part,Sem.run_bind,ox,gA],?_⟩
   have e1:(xs.drop off).take 1=[xs[off]]:=by
    rw[List.drop_eq_getElem_cons aV];rfl
   unfold mb
   rw[hd]
   split
   ·rename_i fs e;injection e with e;exact absurd ⟨fs,e⟩ hs
   ·exact⟨_,e1,rfl⟩
theorem SG{n:Nat}{t:TypeId}{xs ys:List V}{b:Bool}(h:qZ P n t xs ys=some b):∃ d,P.underlying t=some d/\(∀ c e,d ≠ .array c e)/\((∀ fs,d ≠ .struct fs)->xs.length=1):=by
 cases n with
 | zero=>cases h
 | succ n=>
  unfold qZ at h
  split at h
  ·rename_i fs jd
   exact⟨_,jd,(fun c e h=>by cases h),fun h=>absurd rfl (h fs)⟩
  ·rename_i d l5 hd
   split at h
   ·rename_i x y
    exact⟨d,hd,(fun c e he=>by subst he;simp[Bj]at h),fun _=>rfl⟩
   ·cases h
  ·cases h
theorem E5{n:Nat}{xs ys:List V}(hlen:xs.length=ys.length)(IH:∀ t xs ys b,qZ P n t xs ys=some b->∀ u v,mb P t xs u->mb P t ys v->∀ k,(Op.equalIn (k+n) t u v).run P w = .ok b w)(k:Nat):∀ (fs:List Field) (b:Bool),yu P (qZ P n) xs ys fs=some b->
  (Op.eqFields (k+n) (xs.map V.val).toArray (ys.map V.val).toArray fs).run P w = .ok b w
 | [],b,h=>by
  injection h with h
  subst h
  simp[Op.eqFields]
 | f :: fs,b,h=>by
  unfold yu at h
  cases bW:f.name == "_" with
  | true=>
   rw[bW,cond_true]at h
   have:f.name = "_":=by simpa using bW
   simp only[Op.eqFields,this,ne_eq,not_true,if_false]
   exact E5 hlen IH k fs b h
  | false=>
   rw[bW,cond_false]at h
   have az:f.name ≠ "_":=by simpa using bW
   split at h
   ·rename_i s hs
    cases hle:Nat.ble (f.offset+s) xs.length with
    | false=>rw[hle]at h;cases h
    | true=>
     rw[hle,cond_true]at h
     have hle:=Nat.le_of_ble_eq_true hle
     split at h
     ·rename_i c e h1 h2
      injection h with h
      subst h
      obtain⟨d1,sM,Kj,vj⟩:=SG h1
      have oE:((xs.drop f.offset).take s).length=s:=by simp;omega
      obtain⟨u,sN,E6⟩:=Ki (w:=w) hs hle ⟨d1,sM,Kj,fun h=>oE.symm.trans (vj h)⟩
      obtain⟨v,nu,oO⟩:=Ki (w:=w) (xs:=ys) (off:=f.offset) hs (by omega) ⟨d1,sM,Kj,fun h=>oE.symm.trans (vj h)⟩
      have hr:=IH _ _ _ c h1 u v E6 oO k
      have eW:=E5 hlen IH k fs e h2
      simp only[Op.eqFields,az,ne_eq,not_false_eq_true,if_true,Sem.run_bind,sN,nu,hr,Result.andThen_ok]
      cases c
      ·simp
      ·simpa using eW
     ·cases h
   ·cases h
theorem Kk:∀ (n:Nat) (t:TypeId) (xs ys:List V) (b:Bool),qZ P n t xs ys=some b->∀ u v,mb P t xs u->mb P t ys v->∀ k,(Op.equalIn (k+n) t u v).run P w = .ok b w
 | 0,t,xs,ys,b,h=>by cases h
 | n+1,t,xs,ys,b,h=>by
  intro u v hu hv k
  unfold qZ at h
  split at h
  ·rename_i fs jd
   cases hc:(P.stoodInHeld t || !Nat.beq xs.length ys.length)with
   | true=>rw[hc]at h;cases h
   | false=>
    rw[hc,cond_false]at h
    rw[Bool.or_eq_false_iff,Bool.not_eq_false']at hc
    have hlen:=Nat.eq_of_beq_eq_true hc.2
    unfold mb at hu hv
    rw[jd]at hu hv
    simp only at hu hv
    subst hu hv
    have hf:P.fieldsOf t=fs:=by simp[Program.fieldsOf,jd]
    rw[<-Nat.add_assoc,run_equalIn_struct w (k+n) t _ _ (by rw[hf];exact jd) hc.1,hf]
    exact E5 hlen (Kk n) k fs.toList b h
  ·rename_i d l5 hd
   split at h
   ·rename_i x y
    unfold mb at hu hv
    rw[hd]at hu hv
    split at hu
    ·rename_i fs e;injection e with e;exact absurd e (l5 fs)
    ·split at hv
     ·rename_i fs e;injection e with e;exact absurd e (l5 fs)
     ·obtain⟨x',e1,rfl⟩:=hu
      obtain⟨y',e2,rfl⟩:=hv
      injection e1 with e1
      injection e2 with e2
      subst e1 e2
      exact SF hd h
   ·cases h
  ·cases h
theorem Kl{cs:List Lf}{xs:List V}(h:oy cs=some xs){u:Value}(hu:RA w B lab ρ (.agg cs) u):u = .agg (xs.map V.val).toArray:=by
 obtain⟨e,hp⟩:=EG _ _ h
 obtain⟨us,rfl,hs,hr⟩:=hu
 congr 1
 apply Array.ext'
 apply List.ext_getElem?
 intro j
 rw[List.toList_toArray,List.getElem?_map,Array.getElem?_toList]
 cases hx:xs[j]? with
 | none=>
  rw[Option.map_none]
  refine Array.getElem?_eq_none ?_
  rw[hs,e,List.length_map]
  exact List.getElem?_eq_none_iff.1 hx
 | some x=>
  obtain⟨v,hv,vk⟩:=hr j (.v x) (by rw[e,List.getElem?_map,hx];rfl)
  rw[hv,Option.map_some]
  congr 1
  have:=hp x (List.mem_of_getElem? hx)
  have h2:=vk.2
  cases h2 <;>first | rfl | cases this
theorem vl{op:BinOp}{ng:Bool}(cO:Bk op=some ng){t e:TypeId}(ht:P.underlying t=some (.slice e))(xo yo:Operand)(A:Option Addr)(n c:Nat):
  (do eqGuard op t xo yo (.slice A n c) (.slice none 0 0);binOp op t (.slice A n c) (.slice none 0 0):Sem Value).run P w = .ok (.bool (bif ng then !A.isNone else A.isNone)) w:=by
 have he:(Op.equal t (.slice A n c) (.slice none 0 0)).run P w = .ok A.isNone w:=by
  have h:∀ d,(Op.equalIn (d+1) t (.slice A n c) (.slice none 0 0)).run P w = .ok A.isNone w:=by
   intro d
   cases A <;>simp[Op.equalIn,run_underlying ht]
  exact h 9999
 cases op <;>simp[Bk]at cO <;>subst cO <;>simp[eqGuard,binOp,he]
theorem SH{op:BinOp}{t:TypeId}{x y:A}{k:A->Option X}(h:gb P σ op t x y k=some r):∃ z,k z=some r/\∀ lab ρ a w,Rl w0 N lab ρ σ a w->∀ xo yo u v,RA w w0.heap.size lab ρ x u->RA w w0.heap.size lab ρ y v->
  ∃ t',(do eqGuard op t xo yo u v;binOp op t u v:Sem Value).run P w = .ok t' w/\RA w w0.heap.size lab ρ z t':=by
 unfold gb at h
 split at h
 ·rename_i ng cs ds cO
  split at h
  ·rename_i xs ys dB iM
   cases hg:(P.eqGuardType P.depth t || !isStr P t)with
   | true=>rw[hg]at h;cases h
   | false=>
    rw[hg,cond_false]at h
    rw[Bool.or_eq_false_iff,Bool.not_eq_false']at hg
    obtain⟨hg,eM⟩:=hg
    split at h
    ·rename_i b U
     refine⟨_,h,fun lab ρ a w hR xo yo u v hu hv=>?_⟩
     have hu:=Kl dB hu
     have hv:=Kl iM hv
     subst hu hv
     have hs:∃ fs,P.underlying t=some (.struct fs):=by
      unfold isStr at eM
      split at eM
      ·rename_i fs jd;exact⟨fs,jd⟩
      ·cases eM
     obtain⟨fs,jd⟩:=hs
     have hr:=Kk (w:=w) 20 t xs ys b U (.agg (xs.map V.val).toArray) (.agg (ys.map V.val).toArray) (by unfold mb;rw[jd]) (by unfold mb;rw[jd]) 9980
     refine⟨.bool (bif ng then !b else b),?_,rfl,.bool _ _⟩
     rw[Sem.run_bind,run_eqGuard_agg w op t xo yo _ _ hg,Result.andThen_ok]
     cases op <;>simp[Bk]at cO <;>subst cO
     ·rw[run_eql_struct,hr];rfl
     ·rw[run_neq_struct,hr];rfl
    ·cases h
  ·cases h
 ·rename_i ng l cO
  split at h
  ·rename_i e he
   have ht:P.underlying t=some (.slice e):=by
    unfold lK at he
    split at he
    ·rename_i e' hu;injection he with he;rw[<-he];exact hu
    ·cases he
   obtain⟨z,hz,h2⟩:=EZ (w0:=w0) (N:=N) h
   clear h
   split at h2
   ·refine⟨_,h2,fun lab ρ a w hR xo yo u v hu hv=>?_⟩
    obtain⟨q,hq⟩:=hz lab ρ a w hR u hu
    cases hq
    cases hv.2
    exact⟨_,vl cO ht xo yo none 0 0,rfl,by cases ng <;>exact .bool _ _⟩
   ·refine⟨_,h2,fun lab ρ a w hR xo yo u v hu hv=>?_⟩
    obtain⟨q,hq⟩:=hz lab ρ a w hR u hu
    cases hv.2
    cases hq with
    | av _ _ _ _ _ b off cap us ho hl U h1 hcap hc hr=>exact⟨_,vl cO ht xo yo _ _ _,rfl,by cases ng <;>exact .bool _ _⟩
    | own=>exact⟨_,vl cO ht xo yo _ _ _,rfl,by cases ng <;>exact .bool _ _⟩
    | bF=>exact⟨_,vl cO ht xo yo _ _ _,rfl,by cases ng <;>exact .bool _ _⟩
   ·rename_i t' o' l'
    cases hl:sL l' with
    | true=>rw[hl]at h2;cases h2
    | false=>
     rw[hl,cond_false]at h2
     refine⟨_,h2,fun lab ρ a w hR xo yo u v hu hv=>?_⟩
     obtain⟨q,hq⟩:=hz lab ρ a w hR u hu
     cases hv.2
     cases hq with
     | aY=>cases hl
     | bn=>cases hl
     | av _ _ _ _ _ b off cap us ho cY U h1 hcap hc hr=>exact⟨_,vl cO ht xo yo _ _ _,rfl,by cases ng <;>exact .bool _ _⟩
     | own=>exact⟨_,vl cO ht xo yo _ _ _,rfl,by cases ng <;>exact .bool _ _⟩
   ·cases h2
  ·cases h
 ·obtain⟨u0,hx,h1⟩:=A6 h
  obtain⟨v0,hy,h2⟩:=A6 h1
  obtain⟨z,h3,hp,hs⟩:=R1 h2
  subst hx hy
  refine⟨_,h3,fun lab ρ a w hR xo yo u v hu hv=>?_⟩
  obtain⟨t',aC,hr⟩:=hs w _ lab xo yo [] [] _ _ hu.2 hv.2
  exact⟨t',aC,V.yc hp,hr⟩
/-! Parts of slices that nobody writes. -/
theorem vm{x:Option A}{mc:Int}{k:Int->Option X}(h:oL x mc k=some r):∃ n,k n=some r/\(∀ (X':Type) (k':Int->Option X'),oL x mc k'=k' n)/\((x=none/\n=mc)\/∃ kd,x=some (.lf (.v (.int kd n)))):=by
 unfold oL at h
 split at h
 ·exact⟨_,h,fun _ _=>rfl,.inl ⟨rfl,rfl⟩⟩
 ·exact⟨_,h,fun _ _=>rfl,.inr ⟨_,rfl⟩⟩
 ·cases h
theorem SI{t:TypeId}{x:A}{lo hi:Option A}{k:A->Option X}(h:qX P t x lo hi k=some r):∃ y,k y=some r/\(∀ (X':Type) (k':A->Option X'),qX P t x lo hi k'=k' y)/\
  ((∃ (s:ByteArray) (l h:Int),x = .lf (.v (.str s))/\P.underlying t=some .string/\((lo=none/\l=0)\/∃ kd,lo=some (.lf (.v (.int kd l))))/\((hi=none/\h=s.size)\/∃ kd,hi=some (.lf (.v (.int kd h))))/\0<=l/\l<=h/\h<=(s.size:Int)/\y = .lf (.v (.str (s.extract l.toNat h.toNat))))\/
   ∃ (tc:TC) (g:Nat) (qn:Bool) (xs:List (T tc)) (e:TypeId) (l h:Int),x = .lf (.v (.sl tc g qn xs))/\lK P t=some e/\fE P e=some (aj tc)/\g<2/\((lo=none/\l=0)\/∃ kd,lo=some (.lf (.v (.int kd l))))/\((hi=none/\h=xs.length)\/∃ kd,hi=some (.lf (.v (.int kd h))))/\0<=l/\l<=h/\h<=(xs.length:Int)/\y = .lf (.v (.sl tc g false ((xs.take h.toNat).drop l.toNat)))):=by
 unfold qX at h
 split at h
 ·rename_i s
  split at h
  ·rename_i hu
   obtain⟨l,h1,d1,e1⟩:=vm h
   obtain⟨m,h2,d2,e2⟩:=vm h1
   split at h2
   ·rename_i U
    refine⟨_,h2,fun X' k'=>?_,.inl ⟨s,l,m,rfl,hu,e1,e2,U.1,U.2.1,U.2.2,rfl⟩⟩
    simp only[qX,hu]
    rw[d1,d2,if_pos U]
   ·cases h2
  ·cases h
 ·rename_i tc g qn xs
  split at h
  ·rename_i e he
   split at h
   ·rename_i n hn
    split at h
    ·rename_i gQ
     subst gQ
     cases hg:Nat.blt g 2 with
     | false=>rw[hg]at h;cases h
     | true=>
      rw[hg,cond_true]at h
      obtain⟨l,h1,d1,e1⟩:=vm h
      obtain⟨m,h2,d2,e2⟩:=vm h1
      split at h2
      ·rename_i U
       refine⟨_,h2,fun X' k'=>?_,.inr ⟨tc,g,qn,xs,e,l,m,rfl,he,hn,Nat.le_of_ble_eq_true hg,e1,e2,U.1,U.2.1,U.2.2,rfl⟩⟩
       simp only[qX,he,hn,if_true,hg,cond_true]
       rw[d1,d2,if_pos U]
      ·cases h2
    ·cases h
   ·cases h
  ·cases h
 ·cases h
theorem Km{t:TypeId}{x:A}{lo hi:Option A}{k:A->Option X}(h:qX P t x lo hi k=some r):∃ y,k y=some r/\(∀ (X':Type) (k':A->Option X'),qX P t x lo hi k'=k' y)/\
  ∀ (w:World) (B:Nat) (lab:aG) (ρ:Nat->Loc) (u:Value) (lv hv:Option Value),RA w B lab ρ x u->(∀ a,lo=some a->∃ v,lv=some v/\RA w B lab ρ a v)->(lo=none->lv=none)->(∀ a,hi=some a->∃ v,hv=some v/\RA w B lab ρ a v)->(hi=none->hv=none)->
   ∃ t',(Instr.sliceAt t u lv hv none).run P w = .ok t' w/\RA w B lab ρ y t':=by
 obtain⟨y,h1,hd,hc⟩:=SI h
 refine⟨y,h1,hd,fun w B lab ρ u lv hv hu oE ez Bl Bm=>?_⟩
 have bl:∀ {o:Option A} {ov:Option Value} {n mc:Int},(∀ a,o=some a->∃ v,ov=some v/\RA w B lab ρ a v)->(o=none->ov=none)->((o=none/\n=mc)\/∃ kd,o=some (.lf (.v (.int kd n))))->(ov=none/\n=mc)\/∃ kd,ov=some (.int kd n):=by
  intro o ov n mc g1 g2 g3
  rcases g3 with ⟨e,e'⟩ | ⟨kd,e⟩
  ·exact .inl ⟨g2 e,e'⟩
  ·obtain⟨v,hv,hr⟩:=g1 _ e
   exact .inr ⟨kd,by rw[hv,hr.2.eE]⟩
 rcases hc with ⟨s,l,m,rfl,cK,e1,e2,b1,b2,b3,rfl⟩ | ⟨tc,g,qn,xs,e,l,m,rfl,he,hn,hg,e1,e2,b1,b2,b3,rfl⟩
 ·have h5:=bl oE ez e1
  have h6:=bl Bl Bm e2
  obtain rfl:=hu.2.jU
  have em:(m.toNat:Int)=m:=Int.toNat_of_nonneg (by omega)
  refine⟨.string (s.extract l.toNat m.toNat),?_,rfl,.str _ _⟩
  rw[run_sliceAt_string w t _ _ _ _ cK]
  have hb0:0<=m:=by omega
  rcases h5 with ⟨rfl,h7⟩ | ⟨kl,rfl⟩ <;>rcases h6 with ⟨rfl,h8⟩ | ⟨kh,rfl⟩
  all_goals simp_all [Instr.slice,run_underlying cK,Instr.sliceBounds,run_sliceBound]
 ·have h5:=bl oE ez e1
  have h6:=bl Bl Bm e2
  have cK:P.underlying t=some (.slice e):=by
   unfold lK at he
   split at he
   ·rename_i e' fZ;injection he with he;rw[<-he];exact fZ
   ·cases he
  have iN:P.elem t=e:=by simp[Program.elem,cK]
  have me:P.underlying t=some (.slice (P.elem t)):=by rw[iN];exact cK
  have oP:(sizeOf (P.elem t)).run P w = .ok (aj tc) w:=by
   unfold fE at hn
   cases hi:P.info? e with
   | none=>simp[hi]at hn
   | some i=>
    have:i.size=aj tc:=by simpa [hi]using hn
    simp[sizeOf,typeInfo,iN,hi,this]
  have cE:∃ A n c,u = .slice A n c:=by
   cases hu.2 with
   | aY=>exact⟨_,_,_,rfl⟩
   | bn=>exact⟨_,_,_,rfl⟩
   | bF=>exact⟨_,_,_,rfl⟩
   | av=>exact⟨_,_,_,rfl⟩
   | own=>exact⟨_,_,_,rfl⟩
  obtain⟨A,n,c,rfl⟩:=cE
  obtain⟨hp,q7,Bn⟩:=hu.2.part (a:=l.toNat) (h:=m.toNat) hg (by omega) (by omega)
  refine⟨_,?_,by simp[V.av,hg],hp⟩
  rw[run_sliceAt_slice w t _ _ _ _ me]
  rcases h5 with ⟨rfl,rfl⟩ | ⟨kl,rfl⟩ <;>rcases h6 with ⟨rfl,rfl⟩ | ⟨kh,rfl⟩
  ·rw[run_slice_all w t A n c me,oP,q7]
   simp
  ·rw[run_slice_h w t A n c me kh m (by omega) (by omega),oP]
   simp
  ·rw[run_slice_l w t A n c me kl l (by omega) (by omega),oP,q7]
   simp
  ·rw[run_slice_lh w t A n c me kl kh l m (by omega) (by omega) (by omega),oP]
   simp
/-! Parts of slices that are owned. -/
def yw{X:Type}(n:Nat)(q:List Nat)(lo hi:Option A)(y:V)(k:A->Option X):Option X:=
 match y with
 | .sl t' _ _ l=>if n=aj t' then oL lo 0 fun a=>oL hi (l.length:Int) fun b=>if 0<=a/\a<=b/\b<=(l.length:Int)then k (.view q n a.toNat b.toNat)else none else none
 | _=>none
def q8{X:Type}(P:Program)(σ:S)(t:TypeId)(q:List Nat)(lo hi:Option A)(k:A->Option X):Option X:=
 match lK P t with
 | some e=>(match fE P e with
  | some n=>c7 σ.m q fun y=>yw n q lo hi y k
  | none=>none)
 | none=>none
def jY{X:Type}(P:Program)(σ:S)(t:TypeId)(x:A)(lo hi:Option A)(k:A->Option X):Option X:=
 match x with
 | .lf (.own q)=>q8 P σ t q lo hi k
 | x=>qX P t x lo hi k
theorem Kn{n:Nat}{q:List Nat}{lo hi:Option A}{y:V}{k:A->Option X}(h:yw n q lo hi y k=some r):∃ (tc:TC) (g:Nat) (qn:Bool) (xs:List (T tc)) (l h:Int),y = .sl tc g qn xs/\n=aj tc/\
  ((lo=none/\l=0)\/∃ kd,lo=some (.lf (.v (.int kd l))))/\((hi=none/\h=xs.length)\/∃ kd,hi=some (.lf (.v (.int kd h))))/\0<=l/\l<=h/\h<=(xs.length:Int)/\k (.view q n l.toNat h.toNat)=some r/\
  ∀ (X':Type) (k':A->Option X'),yw n q lo hi y k'=k' (.view q n l.toNat h.toNat):=by
 unfold yw at h
 split at h
 ·rename_i tc g qn xs
  split at h
  ·rename_i gQ
   obtain⟨l,h1,d1,e1⟩:=vm h
   obtain⟨m,h2,d2,e2⟩:=vm h1
   split at h2
   ·rename_i U
    refine⟨tc,g,qn,xs,l,m,rfl,gQ,e1,e2,U.1,U.2.1,U.2.2,h2,fun X' k'=>?_⟩
    simp only[yw,if_pos gQ]
    rw[d1,d2,if_pos U]
   ·cases h2
  ·cases h
 ·cases h
theorem SJ{t:TypeId}{x:A}{lo hi:Option A}{k:A->Option X}(h:jY P σ t x lo hi k=some r):∃ y,k y=some r/\
  ∀ lab ρ a w,Rl w0 N lab ρ σ a w->∀ (u:Value) (lv hv:Option Value),RA w w0.heap.size lab ρ x u->(∀ a,lo=some a->∃ v,lv=some v/\RA w w0.heap.size lab ρ a v)->(lo=none->lv=none)->(∀ a,hi=some a->∃ v,hv=some v/\RA w w0.heap.size lab ρ a v)->(hi=none->hv=none)->
   ∃ t',(Instr.sliceAt t u lv hv none).run P w = .ok t' w/\RA w w0.heap.size lab ρ y t':=by
 unfold jY at h
 split at h
 ·rename_i q
  unfold q8 at h
  split at h
  ·rename_i e he
   split at h
   ·rename_i n hn
    obtain⟨y0,SK,h2⟩:=l6 q _ h
    obtain⟨tc,g,qn,xs,l,m,rfl,gQ,e1,e2,b1,b2,b3,h3,_⟩:=Kn h2
    refine⟨_,h3,fun lab ρ a w hR u lv hv hu oE ez Bl Bm=>?_⟩
    have bl:∀ {o:Option A} {ov:Option Value} {n mc:Int},(∀ a,o=some a->∃ v,ov=some v/\RA w w0.heap.size lab ρ a v)->(o=none->ov=none)->((o=none/\n=mc)\/∃ kd,o=some (.lf (.v (.int kd n))))->(ov=none/\n=mc)\/∃ kd,ov=some (.int kd n):=by
     intro o ov n mc g1 g2 g3
     rcases g3 with ⟨e,e'⟩ | ⟨kd,e⟩
     ·exact .inl ⟨g2 e,e'⟩
     ·obtain⟨v,hv,hr⟩:=g1 _ e
      exact .inr ⟨kd,by rw[hv,hr.2.eE]⟩
    have h5:=bl oE ez e1
    have h6:=bl Bl Bm e2
    have cK:P.underlying t=some (.slice e):=by
     unfold lK at he
     split at he
     ·rename_i e' fZ;injection he with he;rw[<-he];exact fZ
     ·cases he
    have iN:P.elem t=e:=by simp[Program.elem,cK]
    have me:P.underlying t=some (.slice (P.elem t)):=by rw[iN];exact cK
    have oP:(sizeOf (P.elem t)).run P w = .ok n w:=by
     unfold fE at hn
     cases hi:P.info? e with
     | none=>simp[hi]at hn
     | some i=>
      have:i.size=n:=by simpa [hi]using hn
      simp[sizeOf,typeInfo,iN,hi,this]
    obtain⟨v0,jx,aW⟩:=SK.ok hR.root
    have q9:=hu.2
    rw[jx]at q9
    injection q9 with q9
    subst q9
    have hf:RV w 0 (fun _=>none) [] (.sl tc 0 qn xs) v0:=aW.fm
    have cE:∃ A n c,v0 = .slice A n c:=by
     cases hf with
     | aY=>exact⟨_,_,_,rfl⟩
     | bn=>exact⟨_,_,_,rfl⟩
     | bF=>exact⟨_,_,_,rfl⟩
     | av=>exact⟨_,_,_,rfl⟩
    obtain⟨A,n',c,rfl⟩:=cE
    obtain⟨hp,q7,Bn⟩:=hf.part (a:=l.toNat) (h:=m.toNat) (by omega) (by omega) (by omega)
    refine⟨sliced A l.toNat m.toNat c n,?_,A,n',c,jx,by omega,by omega,rfl⟩
    rw[run_sliceAt_slice w t _ _ _ _ me]
    rcases h5 with ⟨rfl,rfl⟩ | ⟨kl,rfl⟩ <;>rcases h6 with ⟨rfl,rfl⟩ | ⟨kh,rfl⟩
    ·rw[run_slice_all w t A n' c me,oP,q7]
     simp
    ·rw[run_slice_h w t A n' c me kh m (by omega) (by omega),oP]
     simp
    ·rw[run_slice_l w t A n' c me kl l (by omega) (by omega),oP,q7]
     simp
    ·rw[run_slice_lh w t A n' c me kl kh l m (by omega) (by omega) (by omega),oP]
     simp
   ·cases h
  ·cases h
 ·obtain⟨y,h1,_,hs⟩:=Km h
  exact⟨y,h1,fun lab ρ a w _ u lv hv=>hs w _ lab ρ u lv hv⟩
end
end Go.Proofs.YtjldnlbiefpekaaDoor
namespace Go.Proofs.YtjldnlbiefpekaaDoor
open Go.RowKit
set_option linter.unusedVariables false
abbrev Pt:=Bool×List V
def PV(w:World)(B:Nat)(lab:aG)(key:Nat->List Nat)(p:Pt)(u:Value):Prop:=
 ∃ us:Array Value,(match p.1 with | true=>u = .agg us | false=>us = #[u])/\us.size=p.2.length/\∀ (j:Nat) x,p.2[j]?=some x->∃ v,us[j]?=some v/\RV w B lab (key j) x v
def rm(w:World)(cs:List V)(u:Value):Prop:=
 ∃ b off,u = .pointer (some ⟨b,off,none⟩)/\b<w.heap.size/\∀ (j:Nat) x,cs[j]?=some x->∃ v,w.cell? ⟨b,off+j,none⟩=some v/\RV w w.heap.size (fun _=>none) [] x v
inductive PA (w:World):Pt->Value->Prop
 | v (p:Pt) (u:Value) (h:PV w w.heap.size (fun _=>none) (fun _=>[]) p u):PA w p u
 | p (c:V) (cs:List V) (u:Value) (h:rm w (c :: cs) u):PA w (false,.bool true :: c :: cs) u
 | f (g:Nat) (c:V) (cs:List V) (u:Value) (h:rm w (c :: cs) u):PA w (false,.bool false :: .int .i64 (g:Int) :: c :: cs) (.func (.func g) #[] #[u])
def rq(w:World)(args:List Pt)(aN:Array Value):Prop:=
 aN.size=args.length/\∀ (i:Nat) p,args[i]?=some p->∃ u,aN[i]?=some u/\PA w p u
theorem PA.pv{w:World}{x:V}{u:Value}(h:PA w (false,[x]) u):PV w w.heap.size (fun _=>none) (fun _=>[]) (false,[x]) u:=by
 cases h with
 | v _ _ h=>exact h
inductive dj where
 | one (p:Pt)
 | aU (ps:List Pt)
def ru(t:TC):Nat->Bool
 | 0=>false
 | 1=>true
 | o+2=>Nat.ble (full t) o || Nat.beq (o % 2) 1
def V.loc:V->Bool
 | .sl t o _ _=>ru t o
 | _=>true
def eX(w:World)(B:Nat)(lab:aG)(nm:Nat->Nat):Nat->List Pt->List Value->Prop
 | _,[],[]=>True
 | off,p :: ps,v :: vs=>(p.2.all V.loc=true/\PV w B lab (fun j=>[nm (off+j)]) p v)/\eX w B lab nm (off+p.2.length) ps vs
 | _,_,_=>False
def jy(w:World)(B:Nat)(lab:aG)(nm:Nat->Nat):dj->Value->Prop
 | .one p,v=>eX w B lab nm 0 [p] [v]
 | .aU ps,v=>∃ vs:Array Value,v = .tuple vs/\eX w B lab nm 0 ps vs.toList
structure cx where
 run:(X:Type)->List Pt->(dj->Option X)->Option X
def cy(P:Program)(f:Nat)(c:cx):Prop:=
 ∀ (X:Type) (args:List Pt) (k:dj->Option X) (r:X),c.run X args k=some r->∃ res,k res=some r/\(∀ (X':Type) (k':dj->Option X'),c.run X' args k'=k' res)/\∀ (nm:Nat->Nat) (w:World) (aN:Array Value),rq w args aN->Hd w (fun _=>none)->
  Calls P f aN w fun e w'=>∃ v af,e = .returned v/\Below w.heap.size w w'/\(∀ b k,af b=some k->w.heap.size<=b/\b<w'.heap.size/\k≠[])/\jy w' w.heap.size af nm res v
def iO{X:Type}(σ:S):List Lf->(List V->Option X)->Option X
 | [],k=>k []
 | x :: xs,k=>dP σ x fun y=>iO σ xs fun ys=>k (y.fm :: ys)
def gZ{X:Type}(σ:S)(x:A)(k:Pt->Option X):Option X:=
 match x with
 | .lf y=>iO σ [y] fun vs=>k (false,vs)
 | .agg ys=>iO σ ys fun vs=>k (true,vs)
 | .view q s i j=>lJ σ q s i j fun y=>k (false,[y])
 | .dO (c :: cs)=>k (false,.bool true :: c.fm :: cs.map V.fm)
 | _=>none
def oQ{X:Type}(σ:S)(x:A)(k:Pt->Option X):Option X:=
 match x with
 | .dO (c :: cs)=>k (false,.bool true :: c.fm :: cs.map V.fm)
 | .gU f (c :: cs)=>k (false,.bool false :: .int .i64 (f:Int) :: c.fm :: cs.map V.fm)
 | .aE r j=>(match σ.m r with
  | some (.blk cs)=>iO σ (cs.drop j) fun vs=>(match vs with
   | c :: cs=>k (false,.bool true :: c :: cs)
   | []=>none)
  | _=>none)
 | .fn f [(r,j)]=>(match σ.m r with
  | some (.blk cs)=>iO σ (cs.drop j) fun vs=>(match vs with
   | c :: cs=>k (false,.bool false :: .int .i64 (f:Int) :: c :: cs)
   | []=>none)
  | _=>none)
 | x=>gZ σ x k
def rz{X:Type}(σ:S):List Operand->(List Pt->Option X)->Option X
 | [],k=>k []
 | x :: xs,k=>oQ σ (ah σ x) fun p=>rz σ xs fun ps=>k (p :: ps)
def fo{X:Type}(σ:S):List Operand->(List Pt->Option X)->Option X
 | [],k=>k []
 | x :: xs,k=>gZ σ (ah σ x) fun p=>fo σ xs fun ps=>k (p :: ps)
def fG(c:Nat):List V->List Lf
 | []=>[]
 | x :: xs=>(bif x.av then .v x else .own [c]) :: fG (c+1) xs
def dw(c:Nat)(σ:S):List V->S
 | []=>σ
 | x :: xs=>dw (c+1) (bif x.av then σ else (σ.drop c).root c (.sl x)) xs
def gf(c:Nat):List Pt->List (Bool×List Lf)
 | []=>[]
 | p :: ps=>(p.1,fG c p.2) :: gf (c+p.2.length) ps
def eN(c:Nat)(σ:S):List Pt->S
 | []=>σ
 | p :: ps=>eN (c+p.2.length) (dw c σ p.2) ps
def rA{X:Type}(N:Nat)(σ:S)(d:Nat)(c:cx)(args:List Operand)(k:S->Option X):Option X:=
 bif Nat.blt d N then rz σ args fun ps=>c.run X ps fun res=>(match res with
  | .one p=>(match lN (p.1,fG (1000000000100000+1000*d) p.2)with
   | some y=>k ((dw (1000000000100000+1000*d) σ p.2).set d y)
   | none=>none)
  | .aU ps=>k ((eN (1000000000100000+1000*d) σ ps).set d (.aU (gf (1000000000100000+1000*d) ps))))else none
def oR{X:Type}(N:Nat)(σ:S)(d:Nat)(c:cx)(args:List Operand)(k:S->Option X):Option X:=
 bif Nat.blt d N then fo σ args fun ps=>c.run X ps fun res=>(match res with
  | .one p=>(match lN (p.1,fG (1000000000100000+1000*d) p.2)with
   | some y=>k ((dw (1000000000100000+1000*d) σ p.2).set d y)
   | none=>none)
  | .aU ps=>k ((eN (1000000000100000+1000*d) σ ps).set d (.aU (gf (1000000000100000+1000*d) ps))))else none
section
variable {P:Program} {w w':World} {w0:Wd} {B N:Nat} {lab af:aG} {ρ ρ':Nat->Loc} {σ:S} {a:Act} {X:Type} {d:Nat} {r:X} {o:Oper}
theorem yx:∀ (xs:List Lf) (k:List V->Option X),iO σ xs k=some r->∃ vs,k vs=some r/\vs.length=xs.length/\∀ lab ρ a w,Rl w0 N lab ρ σ a w->∀ (j:Nat) x y u,xs[j]?=some x->vs[j]?=some y->bw w w0.heap.size lab ρ x u->RV w w.heap.size (fun _=>none) [] y u
 | [],k,h=>⟨[],h,rfl,fun _ _ _ _ _ j x y u hx=>by simp at hx⟩
 | x :: xs,k,h=>by
  unfold iO at h
  obtain⟨y,hy,h2⟩:=EZ (w0:=w0) (N:=N) h
  obtain⟨ys,h3,hl,hr⟩:=yx xs _ h2
  refine⟨y.fm :: ys,h3,by simp[hl],fun lab ρ a w hR j x' y' u bx cA hu=>?_⟩
  cases j with
  | zero=>
   simp at bx cA
   subst bx cA
   obtain⟨q,hq⟩:=hy lab ρ a w hR u hu
   exact hq.fm
  | succ j=>exact hr lab ρ a w hR j x' y' u (by simpa using bx) (by simpa using cA) hu
theorem Ko{r' j':Nat}{cs:List Lf}{vs:List V}(hm:σ.m r'=some (.blk cs))(hl:vs.length=(cs.drop j').length)
  (hr:∀ lab ρ a w,Rl w0 N lab ρ σ a w->∀ (j:Nat) x y u,(cs.drop j')[j]?=some x->vs[j]?=some y->bw w w0.heap.size lab ρ x u->RV w w.heap.size (fun _=>none) [] y u)
  {lab:aG} {ρ:Nat->Loc} {a:Act} {w:World} {u:Value} (hR:Rl w0 N lab ρ σ a w) (hu:RA w w0.heap.size lab ρ (.aE r' j') u):rm w vs u:=by
 obtain⟨b,off,e1,rfl⟩:=hu
 cases hR.root r' _ hm with
 | blk b' lA cells e _ us aq fH hh hs hc=>
  rw[e1]at aq
  injection aq with q1 q2
  subst q1 q2
  refine⟨b,off+j',rfl,(Array.getElem?_eq_some_iff.1 hh).1,fun j x hx=>?_⟩
  have hj:j<(cs.drop j').length:=by rw[<-hl];exact(List.getElem?_eq_some_iff.1 hx).1
  have Kp:=List.getElem?_eq_getElem hj
  have SL:cs[j'+j]?=some (cs.drop j')[j]:=by rw[<-List.getElem?_drop];exact Kp
  obtain⟨k1,k2⟩:=hc _ _ SL
  refine⟨us (j'+j),?_,hr lab ρ a w hR j _ x _ Kp hx k2⟩
  rw[Nat.add_assoc,cell_of_row w b _ cells _ _ hh]
  exact k1
theorem E7{cs:List V}{u:Value}(hu:RF w B lab cs u):rm w (cs.map V.fm) u:=by
 obtain⟨b,off,rfl,h1,h2,h3⟩:=hu
 refine⟨b,off,rfl,h1,fun j x hx=>?_⟩
 rw[List.getElem?_map]at hx
 cases hy:cs[j]? with
 | none=>rw[hy]at hx;cases hx
 | some y=>
  rw[hy]at hx
  injection hx with hx
  subst hx
  obtain⟨_,v,h4,h5⟩:=h3 j y hy
  exact⟨v,h4,h5.fm⟩
theorem Kq{x:A}{k:Pt->Option X}(h:gZ σ x k=some r):∃ p,k p=some r/\∀ lab ρ a w,Rl w0 N lab ρ σ a w->∀ u,RA w w0.heap.size lab ρ x u->PA w p u:=by
 unfold gZ at h
 split at h
 ·rename_i y
  obtain⟨vs,h2,hl,hr⟩:=yx (w0:=w0) (N:=N) _ _ h
  refine⟨_,h2,fun lab ρ a w hR u hu=>.v _ _ ⟨#[u],rfl,by simp[hl],fun j x hx=>?_⟩⟩
  have hj:j=0:=by
   have:=(List.getElem?_eq_some_iff.1 hx).1
   simp only[hl]at this
   simpa using this
  subst hj
  exact⟨u,rfl,hr lab ρ a w hR 0 y x u rfl hx hu⟩
 ·rename_i ys
  obtain⟨vs,h2,hl,hr⟩:=yx (w0:=w0) (N:=N) _ _ h
  refine⟨_,h2,fun lab ρ a w hR u hu=>?_⟩
  obtain⟨us,rfl,hs⟩:=hu
  refine .v _ _ ⟨us,rfl,by rw[hl];exact hs.1,fun j x hx=>?_⟩
  have hj:j<ys.length:=by rw[<-hl];exact(List.getElem?_eq_some_iff.1 hx).1
  obtain⟨v,hv,bq⟩:=hs.2 j _ (List.getElem?_eq_getElem hj)
  exact⟨v,hv,hr lab ρ a w hR j _ x v (List.getElem?_eq_getElem hj) hx bq⟩
 ·obtain⟨z,h2,_,hz⟩:=JT h
  refine⟨_,h2,fun lab ρ a w hR u hu=>.v _ _ ⟨#[u],rfl,rfl,fun j x hx=>?_⟩⟩
  cases j with
  | zero=>
   simp at hx
   subst hx
   exact⟨u,rfl,hz _ _ _ _ _ _ hR u hu _⟩
  | succ j=>simp at hx
 ·rename_i c cs
  exact⟨_,h,fun lab ρ a w hR u hu=>.p _ _ _ (E7 hu)⟩
 ·cases h
theorem SM{x:A}{k:Pt->Option X}(h:oQ σ x k=some r):∃ p,k p=some r/\∀ lab ρ a w,Rl w0 N lab ρ σ a w->∀ u,RA w w0.heap.size lab ρ x u->PA w p u:=by
 unfold oQ at h
 split at h
 ·rename_i c cs
  refine⟨_,h,fun lab ρ a w hR u hu=>?_⟩
  exact .p _ _ _ (E7 hu)
 ·rename_i f c cs
  refine⟨_,h,fun lab ρ a w hR u hu=>?_⟩
  obtain⟨pv,rfl,hp⟩:=hu
  exact .f _ _ _ _ (E7 hp)
 ·rename_i r' j'
  split at h
  ·rename_i cs hm
   obtain⟨vs,h2,hl,hr⟩:=yx (w0:=w0) (N:=N) _ _ h
   split at h2
   ·rename_i c cS
    refine⟨_,h2,fun lab ρ a w hR u hu=>?_⟩
    exact .p _ _ _ (Ko hm hl hr hR hu)
   ·cases h2
  ·cases h
 ·rename_i f r' j'
  split at h
  ·rename_i cs hm
   obtain⟨vs,h2,hl,hr⟩:=yx (w0:=w0) (N:=N) _ _ h
   split at h2
   ·rename_i c cS
    refine⟨_,h2,fun lab ρ a w hR u hu=>?_⟩
    obtain⟨ps,rfl,hs,hp⟩:=hu
    obtain⟨b,off,e1,e2⟩:=hp 0 _ rfl
    have e:ps = #[.pointer (some ⟨b,off+j',none⟩)]:=by
     apply Array.ext (by simpa using hs)
     intro i h1 h2
     have:i=0:=by simp at h2;omega
     subst this
     rw[Array.getElem?_eq_getElem h1]at e2
     injection e2
    subst e
    exact .f _ _ _ _ (Ko hm hl hr hR ⟨b,off,e1,rfl⟩)
   ·cases h2
  ·cases h
 ·exact Kq h
theorem Kr:∀ (xs:List Operand) (k:List Pt->Option X),rz σ xs k=some r->∃ ps,k ps=some r/\∀ lab ρ a w,Rl w0 N lab ρ σ a w->rq w ps (xs.map a.eval).toArray
 | [],k,h=>⟨[],h,fun _ _ _ _ _=>⟨rfl,fun i p hp=>by simp at hp⟩⟩
 | x :: xs,k,h=>by
  unfold rz at h
  obtain⟨p,h2,hp⟩:=SM (w0:=w0) (N:=N) h
  obtain⟨ps,h3,dD⟩:=Kr xs _ h2
  refine⟨p :: ps,h3,fun lab ρ a w hR=>⟨?_,fun i q hq=>?_⟩⟩
  ·have:=(dD lab ρ a w hR).1
   simp at this
   simp[this]
  ·cases i with
   | zero=>
    simp at hq
    subst hq
    exact⟨_,rfl,hp lab ρ a w hR _ (hR.ah x)⟩
   | succ i=>
    obtain⟨u,hu,hr⟩:=(dD lab ρ a w hR).2 i q (by simpa using hq)
    exact⟨u,by simpa using hu,hr⟩
theorem E8:∀ (xs:List Operand) (k:List Pt->Option X),fo σ xs k=some r->∃ ps,k ps=some r/\∀ lab ρ a w,Rl w0 N lab ρ σ a w->rq w ps (xs.map a.eval).toArray
 | [],k,h=>⟨[],h,fun _ _ _ _ _=>⟨rfl,fun i p hp=>by simp at hp⟩⟩
 | x :: xs,k,h=>by
  unfold fo at h
  obtain⟨p,h2,hp⟩:=Kq (w0:=w0) (N:=N) h
  obtain⟨ps,h3,dD⟩:=E8 xs _ h2
  refine⟨p :: ps,h3,fun lab ρ a w hR=>⟨?_,fun i q hq=>?_⟩⟩
  ·have:=(dD lab ρ a w hR).1
   simp at this
   simp[this]
  ·cases i with
   | zero=>
    simp at hq
    subst hq
    exact⟨_,rfl,hp lab ρ a w hR _ (hR.ah x)⟩
   | succ i=>
    obtain⟨u,hu,hr⟩:=(dD lab ρ a w hR).2 i q (by simpa using hq)
    exact⟨u,by simpa using hu,hr⟩
theorem Ks{t:TC}{o:Nat}(h:ru t (o+2)=true)(x:T t):∀ y∈enc t o x,y.loc=true:=by
 intro y hy
 have hg:=om t o x y hy
 cases y with
 | sl t' o' q l=>
  have ho:o'=o:=by simpa [V.gr]using hg
  subst ho
  have hf:full t'+2<=full t:=Nat.le_of_ble_eq_true (AY t o' x _ hy)
  show ru t' o'=true
  simp only[ru,Bool.or_eq_true]at h
  rcases h with h | h
  ·have h:=Nat.le_of_ble_eq_true h
   match o',h with
   | 0,h=>omega
   | 1,h=>rfl
   | n+2,h=>
    simp only[ru,Bool.or_eq_true]
    left
    exact Nat.ble_eq_true_of_le (by omega)
  ·have h:=Nat.eq_of_beq_eq_true h
   match o',h with
   | 0,h=>omega
   | 1,h=>rfl
   | n+2,h=>
    simp only[ru,Bool.or_eq_true]
    right
    have:n % 2=1:=by omega
    rw[this]
    rfl
 | _=>rfl
theorem RV.home{q:List Nat}{x:V}{v:Value}(h:RV w B lab q x v){B':Nat}(hB:B'<=B)(hl:∀ b,B<=b->af b=lab b)(hg:∀ b k,lab b=some k->B<=b)(hx:x.loc=true):RV w B' af q x v:=by
 induction h with
 | int=>exact .int _ _ _
 | bool=>exact .bool _ _
 | str=>exact .str _ _
 | nil=>exact .nil _
 | aY=>exact .aY _ _ _
 | bn=>exact .bn _ _ _ _ _ (by first | assumption | omega)
 | bF=>exact .bF _ _ _ _ _ (by first | assumption | omega)
 | av q t o qn l b off cap u ho bI U h1 hcap hc hr ih=>
  have oS:o=1:=by
   match o,ho,hx with
   | 0,_,hx=>cases hx
   | 1,_,_=>rfl
   | n+2,ho,_=>omega
  subst oS
  have yz:=h1 rfl
  refine .av _ _ _ _ _ _ _ _ u ho ((hl b yz).trans bI) U (fun _=>Nat.le_trans hB yz) hcap hc (fun i h j x bx=>ih i h j x bx ?_)
  have:=om t 1 l[i] x (List.mem_of_getElem? bx)
  cases x with
  | sl t' o' q' l'=>
   have:o'=1:=by simpa [V.gr]using this
   subst this
   rfl
  | _=>rfl
 | own q t o qn l b cap cs u bI hh hs hn hm hc hr ih=>
  exact .own _ _ _ _ _ _ _ cs u ((hl b (hg b q bI)).trans bI) hh hs hn hm hc (fun i h j x bx=>ih i h j x bx (Ks hx l[i] x (List.mem_of_getElem? bx)))
theorem E9:∀ (xs:List V) (c:Nat) (σ:S) (ρ:Nat->Loc) (us:List Value),60000<=c->Rl w0 N lab ρ σ a w->us.length=xs.length->(∀ (j:Nat) x u,xs[j]?=some x->us[j]?=some u->RV w w0.heap.size lab [c+j] x u)->
  ∃ ρ',Rl w0 N lab ρ' (dw c σ xs) a w/\(∀ r,r<c->ρ' r=ρ r)/\∀ (j:Nat) x u,(fG c xs)[j]?=some x->us[j]?=some u->bw w w0.heap.size lab ρ' x u
 | [],c,σ,ρ,us,_,h,hl,hr=>⟨ρ,h,fun _ _=>rfl,fun j x u hx=>by simp[fG]at hx⟩
 | x :: xs,c,σ,ρ,us,hc,h,hl,hr=>by
  cases us with
  | nil=>simp at hl
  | cons u us=>
   have aW:=hr 0 x u rfl rfl
   rw[Nat.add_zero]at aW
   have eW:∀ (j:Nat) x' u',xs[j]?=some x'->us[j]?=some u'->RV w w0.heap.size lab [c+1+j] x' u':=fun j x' u' hx hu=>by
    have:=hr (j+1) x' u' (by simpa using hx) (by simpa using hu)
    rw[show c+1+j=c+(j+1) by omega]
    exact this
   cases hf:x.av with
   | true=>
    obtain⟨ρ',aA,aq,mg⟩:=E9 xs (c+1) σ ρ us (by omega) h (by simpa using hl) eW
    refine⟨ρ',?_,fun r hr=>aq r (by omega),fun j y v hy hv=>?_⟩
    ·simp only[dw,hf,cond_true]
     exact aA
    ·simp only[fG,hf,cond_true]at hy
     cases j with
     | zero=>
      simp at hy hv
      subst hy hv
      exact⟨hf,aW.key hf⟩
     | succ j=>exact mg j y v (by simpa using hy) (by simpa using hv)
   | false=>
    have dJ:=aW.AZ hf
    obtain⟨ρ',aA,aq,mg⟩:=E9 xs (c+1) _ _ us (by omega) (h.new (d:=c) (x:=.sl x) (.bS u) (.sl u x (aJ _ _ _) aW) (h.cB c (.inr hc))) (by simpa using hl) eW
    refine⟨ρ',?_,fun r hr=>?_,fun j y v hy hv=>?_⟩
    ·simp only[dw,hf,cond_false]
     exact aA
    ·rw[aq r (by omega)]
     exact aQ _ _ _ (by omega)
    ·simp only[fG,hf,cond_false]at hy
     cases j with
     | zero=>
      simp at hy hv
      subst hy hv
      refine⟨dJ,?_⟩
      have:ρ' c = .bS u:=by rw[aq c (by omega)];exact aJ _ _ _
      simp[aP,this]
     | succ j=>exact mg j y v (by simpa using hy) (by simpa using hv)
theorem SN(xs:List V):∀ c,(fG c xs).length=xs.length:=by
 induction xs with
 | nil=>intro c;rfl
 | cons x xs ih=>intro c;simp[fG,ih]
end
end Go.Proofs.YtjldnlbiefpekaaDoor
namespace Go.Proofs.YtjldnlbiefpekaaDoor
open Go.RowKit
set_option linter.unusedVariables false
def enters(P:Program)(f:Nat):Prop:=∃ fn,P.funcs[f]?=some fn/\(fn.name == "runtime.NumGoroutine")=false/\fn.body.isNone=false
/-! What a function gives back. -/
def Bo:A->Option (Bool×List Lf)
 | .lf x=>some (false,[x])
 | .agg xs=>some (true,xs)
 | _=>none
def jz{X:Type}(P:Program)(σ:S):List ResultVar->(List (Bool×List Lf)->Option X)->Option X
 | [],k=>k []
 | .tmp t :: rest,k=>(match Bo (σ.t t)with
  | some p=>jz P σ rest fun ps=>k (p :: ps)
  | none=>none)
 | .cell p ty :: rest,k=>eF P σ ty (σ.t p) fun x=>(match Bo x with
  | some p=>jz P σ rest fun ps=>k (p :: ps)
  | none=>none)
def Fa(m:Nat->Option au):Lf->Option (V×Option Nat)
 | .v x=>bif x.loc&&x.av then some (x,none)else none
 | .own [r]=>match m r with
  | some (.sl y)=>bif y.loc then some (y,some r)else none
  | _=>none
 | _=>none
def yA(m:Nat->Option au)(off:Nat):List Lf->Option (List V×List (Nat×Nat))
 | []=>some ([],[])
 | x :: xs=>match Fa m x,yA m (off+1) xs with
  | some (y,none),some (ys,rs)=>some (y :: ys,rs)
  | some (y,some r),some (ys,rs)=>some (y :: ys,(r,off) :: rs)
  | _,_=>none
def vn(m:Nat->Option au)(off:Nat):List (Bool×List Lf)->Option (List Pt×List (Nat×Nat))
 | []=>some ([],[])
 | p :: ps=>match yA m off p.2,vn m (off+p.2.length) ps with
  | some (vs,rs),some (qs,iP)=>some ((p.1,vs) :: qs,rs++iP)
  | _,_=>none
def once(rs:List (Nat×Nat)):Bool:=rs.all fun p=>(rs.lookup p.1).any fun n=>Nat.beq n p.2
def yB{X:Type}(P:Program)(σ:S)(fn:Array ResultVar)(k:dj->Option X):Option X:=
 jz P σ fn.toList fun ps=>match vn σ.m 0 ps with
  | some (qs,rs)=>bif once rs then (match qs with
   | [p]=>k (.one p)
   | qs=>k (.aU qs))else none
  | none=>none
section
variable {P:Program} {w w':World} {w0:Wd} {B N:Nat} {lab af:aG} {ρ ρ':Nat->Loc} {σ:S} {a:Act} {X:Type} {d:Nat} {r:X} {o:Oper}
theorem Kt:∀ (xs:List V) (c:Nat) (j:Nat) x u,(fG c xs)[j]?=some x->bw w B lab ρ x u->(∀ r,r<c+xs.length->ρ' r=ρ r)->bw w B lab ρ' x u
 | [],c,j,x,u,hx,_,_=>by simp[fG]at hx
 | y :: ys,c,j,x,u,hx,hr,aq=>by
  cases j with
  | zero=>
   simp only[fG,List.getElem?_cons_zero,Option.some.injEq]at hx
   subst hx
   cases hf:y.av with
   | true=>rw[hf,cond_true]at hr;simp only[cond_true];exact hr
   | false=>
    rw[hf,cond_false]at hr
    simp only[cond_false]
    refine⟨hr.1,?_⟩
    have:=hr.2
    simp only[aP,aq c (by simp)]at this ⊢
    exact this
  | succ j=>
   simp only[fG,List.getElem?_cons_succ]at hx
   exact Kt ys (c+1) j x u hx hr (fun r h=>aq r (by simp;omega))
theorem PV.cells{key:Nat->List Nat}{p:Pt}{u:Value}(h:PV w B lab key p u):∃ us:List Value,us.length=p.2.length/\(∀ (j:Nat) x v,p.2[j]?=some x->us[j]?=some v->RV w B lab (key j) x v)/\
  ∀ (ρ:Nat->Loc) (ls:List Lf),ls.length=p.2.length->(∀ (j:Nat) x v,ls[j]?=some x->us[j]?=some v->bw w B lab ρ x v)->RP w B lab ρ (p.1,ls) u:=by
 obtain⟨us,hu,hs,hr⟩:=h
 obtain⟨b,xs⟩:=p
 refine⟨us.toList,by simpa using hs,fun j x v hx hv=>?_,fun ρ ls hl yC=>?_⟩
 ·obtain⟨v',bT,bq⟩:=hr j x hx
  have:v'=v:=by
   rw[Array.getElem?_toList]at hv
   rw[bT]at hv
   injection hv
  subst this
  exact bq
 ·have vk:bH w B lab ρ ls us:=⟨by rw[hs,hl],fun j x hx=>by
   have hj:j<us.size:=by rw[hs,<-hl];exact(List.getElem?_eq_some_iff.1 hx).1
   exact⟨us[j],Array.getElem?_eq_getElem hj,yC j x _ hx (by rw[Array.getElem?_toList,Array.getElem?_eq_getElem hj])⟩⟩
  cases b with
  | true=>exact⟨us,hu,vk⟩
  | false=>have hu:us = #[u]:=hu;subst hu;exact vk
theorem yD:∀ (ps:List Pt) (c0 off:Nat) (σ:S) (ρ:Nat->Loc) (vs:List Value),60000<=c0->Rl w0 N lab ρ σ a w->eX w w0.heap.size lab (fun n=>c0+n) off ps vs->
  ∃ ρ',Rl w0 N lab ρ' (eN (c0+off) σ ps) a w/\(∀ r,r<c0+off->ρ' r=ρ r)/\vs.length=(gf (c0+off) ps).length/\∀ (i:Nat) p v,(gf (c0+off) ps)[i]?=some p->vs[i]?=some v->RP w w0.heap.size lab ρ' p v
 | [],c0,off,σ,ρ,vs,_,h,hr=>by
  cases vs with
  | nil=>exact⟨ρ,h,fun _ _=>rfl,rfl,fun i p v hp=>by simp[gf]at hp⟩
  | cons v vs=>exact hr.elim
 | p :: ps,c0,off,σ,ρ,vs,hc,h,hr=>by
  cases vs with
  | nil=>exact hr.elim
  | cons v vs=>
   obtain⟨⟨_,hp⟩,hr⟩:=hr
   obtain⟨us,hl,iJ,kN⟩:=hp.cells
   obtain⟨oT,h1,dA,mg⟩:=E9 p.2 (c0+off) σ ρ us (by omega) h hl (fun j x u hx hu=>by
    have:RV w w0.heap.size lab [c0+(off+j)] x u:=iJ j x u hx hu
    rw[<-Nat.add_assoc]at this
    exact this)
   obtain⟨ct,h2,nv,hlen,dD⟩:=yD ps c0 (off+p.2.length) (dw (c0+off) σ p.2) oT vs hc h1 hr
   rw[<-Nat.add_assoc]at h2 nv hlen dD
   refine⟨ct,h2,fun r hr=>(nv r (by omega)).trans (dA r hr),by simp[gf,hlen],fun i q u hq hu=>?_⟩
   cases i with
   | zero=>
    simp only[gf,List.getElem?_cons_zero,Option.some.injEq]at hq hu
    subst hq hu
    refine kN ct _ (SN _ _) (fun j x u hx hu=>Kt p.2 (c0+off) j x u hx (mg j x u hx hu) nv)
   | succ i=>
    simp only[gf,List.getElem?_cons_succ]at hq hu
    exact dD i q u hq hu
theorem eX.home{nm:Nat->Nat}:∀ (ps:List Pt) (off:Nat) (vs:List Value) {B':Nat},eX w B lab nm off ps vs->B'<=B->(∀ b,B<=b->af b=lab b)->(∀ b k,lab b=some k->B<=b)->eX w B' af nm off ps vs
 | [],_,[],_,h,_,_,_=>h
 | [],_,_ :: _,_,h,_,_,_=>h
 | _ :: _,_,[],_,h,_,_,_=>h
 | p :: ps,off,v :: vs,B',h,hB,hl,hg=>by
  obtain⟨⟨iQ,us,hu,hs,hr⟩,eW⟩:=h
  refine⟨⟨iQ,us,hu,hs,fun j x hx=>?_⟩,eX.home ps _ vs eW hB hl hg⟩
  obtain⟨v',bT,bq⟩:=hr j x hx
  exact⟨v',bT,bq.home hB hl hg (List.all_eq_true.1 iQ x (List.mem_of_getElem? hx))⟩
theorem Bp(w:World)(o:Oper)(a:Act)(f:Nat)(args:Array Operand)(bD:Array TypeId)(ho:o.op = .call { callee:=.value (.func f),args,argTypes:=bD })(he:enters P f):(execOp a.eval o).run P w = .ok (.enter f (args.map a.eval)) w:=by
 obtain⟨fn,h1,h2,h3⟩:=he
 have yE:¬ fn.name = "runtime.NumGoroutine":=by simpa using h2
 have sO:¬ fn.body=none:=by intro e;rw[e]at h3;cases h3
 simp[execOp,ho,resolve,Act.eval,Deferred.ofValue,invoke,callFunc,Sem.run_bind,Sem.run,program,h1,yE,sO]
theorem Ku{f:Nat}{args:Array Operand}{bD:Array TypeId}{c:cx}{k:S->Option X}(ho:o.op = .call { callee:=.value (.func f),args,argTypes:=bD })(hd:o.dst=some d)(he:enters P f)(hc:cy P f c)(oU:d<N){ps:List Pt}(cX:∀ lab ρ a w,Rl w0 N lab ρ σ a w->rq w ps (args.toList.map a.eval).toArray)
  (h2:(c.run X ps fun res=>(match res with
  | .one p=>(match lN (p.1,fG (1000000000100000+1000*d) p.2)with
   | some y=>k ((dw (1000000000100000+1000*d) σ p.2).set d y)
   | none=>none)
  | .aU ps=>k ((eN (1000000000100000+1000*d) σ ps).set d (.aU (gf (1000000000100000+1000*d) ps)))))=some r):∃ aa,k aa=some r/\gz P w0 N o σ aa:=by
 obtain⟨res,h3,_,yF⟩:=hc X ps _ r h2
 have step:∀ a w K Q lab ρ,Rl w0 N lab ρ σ a w->(∀ v w' af,Below w.heap.size w w'->Rl w0 N af ρ σ a w'->jy w' w0.heap.size af (fun n=>1000000000100000+1000*d+n) res v->K (a.put o.dst v) w')->o.wp P a w K Q:=by
  intro a w K Q lab ρ hR hK
  unfold Oper.wp
  rw[Bp w o a f args bD ho he,Oper.upon_enter]
  have kO:(args.map a.eval)=(args.toList.map a.eval).toArray:=by apply Array.ext';rw[Array.toList_map]
  rw[kO]
  refine(yF (fun n=>1000000000100000+1000*d+n) w _ (cX lab ρ a w hR) (w0.on hR.below (fun _ _ h=>by cases h))).mono fun e w' fR=>?_
  obtain⟨v,gi,rfl,c8,fH,dU⟩:=fR
  have hB:=hR.below.size
  let bE:aG:=fun b=>if b<w.heap.size then lab b else gi b
  have e1:∀ b,b<w.heap.size->bE b=lab b:=fun b U=>if_pos U
  have e2:∀ b,w.heap.size<=b->bE b=gi b:=fun b U=>if_neg (by omega)
  refine hK v w' bE c8 (hR.grow c8 e1 (fun b k U hk=>?_)) ?_
  ·rw[e2 b U]at hk
   exact(fH b k hk).2
  ·cases res with
   | one p=>exact eX.home [p] 0 [v] dU hB e2 (fun b k hk=>(fH b k hk).1)
   | aU jA=>
    obtain⟨vs,e,hv⟩:=dU
    exact⟨vs,e,eX.home jA 0 vs.toList hv hB e2 (fun b k hk=>(fH b k hk).1)⟩
 cases res with
 | one p=>
  simp only at h3
  split at h3
  ·rename_i y hy
   refine⟨_,h3,fun a w K Q hR hK=>?_⟩
   obtain⟨lab,ρ,hR⟩:=hR
   refine step a w K Q lab ρ hR fun v w' af c8 aA dU=>?_
   obtain⟨ρ',fS,_,_,dD⟩:=yD [p] (1000000000100000+1000*d) 0 σ ρ [v] (by omega) aA dU
   rw[hd]
   have Fb:=dD 0 _ v rfl rfl
   exact hK _ _ ⟨af,ρ',fS.set (EN hy Fb) oU⟩
  ·cases h3
 | aU jA=>
  refine⟨_,h3,fun a w K Q hR hK=>?_⟩
  obtain⟨lab,ρ,hR⟩:=hR
  refine step a w K Q lab ρ hR fun v w' af c8 aA dU=>?_
  obtain⟨vs,rfl,hv⟩:=dU
  obtain⟨ρ',fS,_,hlen,dD⟩:=yD jA (1000000000100000+1000*d) 0 σ ρ vs.toList (by omega) aA hv
  rw[hd]
  refine hK _ _ ⟨af,ρ',fS.set ⟨vs,rfl,by simpa using hlen,fun j p hp=>?_⟩ oU⟩
  have hj:j<vs.size:=by
   have:=(List.getElem?_eq_some_iff.1 hp).1
   rw[Nat.add_zero]at hlen
   rw[<-hlen]at this
   simpa using this
  exact⟨vs[j],Array.getElem?_eq_getElem hj,dD j p _ hp (by rw[Array.getElem?_toList,Array.getElem?_eq_getElem hj])⟩
theorem SO{f:Nat}{args:Array Operand}{bD:Array TypeId}{c:cx}{k:S->Option X}(ho:o.op = .call { callee:=.value (.func f),args,argTypes:=bD })(hd:o.dst=some d)(he:enters P f)(hc:cy P f c)(h:oR N σ d c args.toList k=some r):∃ aa,k aa=some r/\gz P w0 N o σ aa:=by
 unfold oR at h
 cases hN:Nat.blt d N with
 | false=>rw[hN]at h;cases h
 | true=>
  rw[hN,cond_true]at h
  obtain⟨ps,h2,cX⟩:=E8 (w0:=w0) (N:=N) _ _ h
  exact Ku ho hd he hc (Nat.le_of_ble_eq_true hN) cX h2
theorem SP{f:Nat}{args:Array Operand}{bD:Array TypeId}{c:cx}{k:S->Option X}(ho:o.op = .call { callee:=.value (.func f),args,argTypes:=bD })(hd:o.dst=some d)(he:enters P f)(hc:cy P f c)(h:rA N σ d c args.toList k=some r):∃ aa,k aa=some r/\gz P w0 N o σ aa:=by
 unfold rA at h
 cases hN:Nat.blt d N with
 | false=>rw[hN]at h;cases h
 | true=>
  rw[hN,cond_true]at h
  obtain⟨ps,h2,cX⟩:=Kr (w0:=w0) (N:=N) _ _ h
  exact Ku ho hd he hc (Nat.le_of_ble_eq_true hN) cX h2
end
end Go.Proofs.YtjldnlbiefpekaaDoor
namespace Go.Proofs.YtjldnlbiefpekaaDoor
open Go.RowKit
set_option linter.unusedVariables false
def cr(lab:aG)(rs:List (Nat×Nat))(nm:Nat->Nat):aG:=fun b=>
 match lab b with
 | none=>none
 | some k=>match k.getLast? with
  | none=>none
  | some r=>(rs.lookup r).map fun n=>k.dropLast++[nm n]
section
variable {P:Program} {w w':World} {w0:Wd} {B N:Nat} {lab af:aG} {ρ ρ':Nat->Loc} {σ:S} {a:Act} {X:Type} {d:Nat} {r:X} {rs:List (Nat×Nat)} {nm:Nat->Nat}
theorem RV.yG{q:List Nat}{x:V}{v:Value}(h:RV w B lab q x v)(hf:x.av=true)(hl:∀ b,lab b=none->af b=none):RV w B af q x v:=by
 induction h with
 | int=>exact .int _ _ _
 | bool=>exact .bool _ _
 | str=>exact .str _ _
 | nil=>exact .nil _
 | aY=>exact .aY _ _ _
 | bn=>exact .bn _ _ _ _ _ (by first | assumption | omega)
 | bF=>exact .bF _ _ _ _ _ (by first | assumption | omega)
 | av q t o qn l b off cap u ho bI U h1 hcap hc hr ih=>
  exact .av _ _ _ _ _ _ _ _ u ho (hl b bI) U h1 hcap hc (fun i h j x hx=>ih i h j x hx (fP t o l[i] ho j x hx))
 | own q t o qn l b cap cs u bI hh hs hn hm hc hr ih=>simp[V.av]at hf;omega
theorem oV{b:Nat}(h:lab b=none):cr lab rs nm b=none:=by simp[cr,h]
theorem RV.cr{p:List Nat}{r n:Nat}{x:V}{v:Value}(h:RV w B lab (p++[r]) x v)(hr:rs.lookup r=some n):RV w B (cr lab rs nm) (p++[nm n]) x v:=by
 generalize hq:p++[r]=q at h
 induction h generalizing p with
 | int=>exact .int _ _ _
 | bool=>exact .bool _ _
 | str=>exact .str _ _
 | nil=>exact .nil _
 | aY=>exact .aY _ _ _
 | bn=>exact .bn _ _ _ _ _ (by first | assumption | omega)
 | bF=>exact .bF _ _ _ _ _ (by first | assumption | omega)
 | av q t o qn l b off cap u ho bI U h1 hcap hc bq ih=>
  exact .av _ _ _ _ _ _ _ _ u ho (oV bI) U h1 hcap hc (fun i h j x hx=>(bq i h j x hx).yG (fP t o l[i] ho j x hx) (fun b=>oV))
 | own q t o qn l b cap cs u bI hh hs hn hm hc bq ih=>
  subst hq
  refine .own _ _ _ _ _ _ _ cs u ?_ hh hs hn hm hc (fun i h j x hx=>ih i h j x hx (p:=j :: i :: aj t :: p) rfl)
  simp[Proofs.YtjldnlbiefpekaaDoor.cr,bI,hr]
theorem Fc{m:Nat->Option au}:∀ (xs:List Lf) (off:Nat) (ys:List V) (fI:List (Nat×Nat)),yA m off xs=some (ys,fI)->ys.length=xs.length/\∀ (j:Nat) x,xs[j]?=some x->∃ y,ys[j]?=some y/\y.loc=true/\((x = .v y/\y.av=true)\/∃ r,x = .own [r]/\m r=some (.sl y)/\(r,off+j)∈fI)
 | [],off,ys,fI,h=>by
  simp only[yA,Option.some.injEq,Prod.mk.injEq]at h
  obtain⟨rfl,rfl⟩:=h
  exact⟨rfl,fun j x hx=>by simp at hx⟩
 | x :: xs,off,ys,fI,h=>by
  have hc:∀ y z,Fa m x=some (y,z)->y.loc=true/\((z=none/\x = .v y/\y.av=true)\/∃ r,z=some r/\x = .own [r]/\m r=some (.sl y)):=by
   intro y z hz
   unfold Fa at hz
   split at hz
   ·rename_i x'
    cases hl:(x'.loc&&x'.av)with
    | false=>rw[hl]at hz;cases hz
    | true=>
     rw[hl,cond_true]at hz
     simp only[Option.some.injEq,Prod.mk.injEq]at hz
     obtain⟨rfl,rfl⟩:=hz
     rw[Bool.and_eq_true]at hl
     exact⟨hl.1,.inl ⟨rfl,rfl,hl.2⟩⟩
   ·rename_i r
    split at hz
    ·rename_i y' cA
     cases hl:y'.loc with
     | false=>rw[hl]at hz;cases hz
     | true=>
      rw[hl,cond_true]at hz
      simp only[Option.some.injEq,Prod.mk.injEq]at hz
      obtain⟨rfl,rfl⟩:=hz
      exact⟨hl,.inr ⟨r,rfl,rfl,cA⟩⟩
    ·cases hz
   ·cases hz
  unfold yA at h
  split at h
  ·rename_i y sP iP hy iM
   simp only[Option.some.injEq,Prod.mk.injEq]at h
   obtain⟨rfl,rfl⟩:=h
   obtain⟨h1,h2⟩:=Fc xs (off+1) sP iP iM
   refine⟨by simp[h1],fun j x' hx=>?_⟩
   cases j with
   | zero=>
    simp at hx
    subst hx
    obtain⟨hl,hz | ⟨r,hz,_⟩⟩:=hc y none hy
    ·exact⟨y,rfl,hl,.inl hz.2⟩
    ·cases hz
   | succ j=>
    obtain⟨y',cA,hl,hz⟩:=h2 j x' (by simpa using hx)
    refine⟨y',by simpa using cA,hl,hz.imp id fun⟨r,e1,e2,e3⟩=>⟨r,e1,e2,by rw[show off+(j+1)=off+1+j by omega];exact e3⟩⟩
  ·rename_i y r sP iP hy iM
   simp only[Option.some.injEq,Prod.mk.injEq]at h
   obtain⟨rfl,rfl⟩:=h
   obtain⟨h1,h2⟩:=Fc xs (off+1) sP iP iM
   refine⟨by simp[h1],fun j x' hx=>?_⟩
   cases j with
   | zero=>
    simp at hx
    subst hx
    obtain⟨hl,hz | ⟨r',hz,e1,e2⟩⟩:=hc y (some r) hy
    ·cases hz.1
    ·injection hz with hz
     subst hz
     exact⟨y,rfl,hl,.inr ⟨r,e1,e2,.head _⟩⟩
   | succ j=>
    obtain⟨y',cA,hl,hz⟩:=h2 j x' (by simpa using hx)
    refine⟨y',by simpa using cA,hl,hz.imp id fun⟨r,e1,e2,e3⟩=>⟨r,e1,e2,by rw[show off+(j+1)=off+1+j by omega];exact .tail _ e3⟩⟩
  ·cases h
theorem Fe{m:Nat->Option au}(hm:∀ r x,m r=some x->bP w B lab ρ r x):∀ (ps:List (Bool×List Lf)) (off:Nat) (qs:List Pt) (fI:List (Nat×Nat)) (vs:List Value),vn m off ps=some (qs,fI)->(∀ p∈fI,rs.lookup p.1=some p.2)->vs.length=ps.length->
  (∀ (i:Nat) p v,ps[i]?=some p->vs[i]?=some v->RP w B lab ρ p v)->eX w B (cr lab rs nm) nm off qs vs
 | [],off,qs,fI,vs,h,_,hl,_=>by
  have:vs=[]:=List.eq_nil_of_length_eq_zero hl
  subst this
  simp only[vn,Option.some.injEq,Prod.mk.injEq]at h
  obtain⟨rfl,rfl⟩:=h
  trivial
 | p :: ps,off,qs,fI,vs,h,cG,hl,hp=>by
  cases vs with
  | nil=>simp at hl
  | cons v vs=>
   unfold vn at h
   split at h
   ·rename_i ys SQ SR sQ h1 h2
    simp only[Option.some.injEq,Prod.mk.injEq]at h
    obtain⟨rfl,rfl⟩:=h
    obtain⟨hlen,hcells⟩:=Fc _ _ _ _ h1
    have eW:=Fe hm ps _ SR sQ vs h2 (fun q hq=>cG q (List.mem_append_right _ hq)) (by simpa using hl) (fun i q u hq hu=>hp (i+1) q u (by simpa using hq) (by simpa using hu))
    have lP:=hp 0 p v rfl rfl
    have key:∀ us:Array Value,bH w B lab ρ p.2 us->(us.size=ys.length/\∀ (j:Nat) x,ys[j]?=some x->∃ u,us[j]?=some u/\RV w B (cr lab rs nm) [nm (off+j)] x u):=by
     intro us cE
     refine⟨by rw[hlen];exact cE.1,fun j y hy=>?_⟩
     have hj:j<p.2.length:=by rw[<-hlen];exact(List.getElem?_eq_some_iff.1 hy).1
     obtain⟨y',cA,iQ,hz⟩:=hcells j _ (List.getElem?_eq_getElem hj)
     rw[hy]at cA
     injection cA with cA
     subst cA
     obtain⟨u,hu,hr⟩:=cE.2 j _ (List.getElem?_eq_getElem hj)
     refine⟨u,hu,?_⟩
     rcases hz with ⟨e,hf⟩ | ⟨r,e,SS,rB⟩
     ·rw[e]at hr
      exact(hr.2.yG hf (fun b=>oV)).key hf
     ·rw[e]at hr
      have bB:=hm r _ SS
      generalize he:au.sl y=z at bB
      cases bB with
      | blk=>cases he
      | mp=>cases he
      | gh=>cases he
      | sl v' y' aq iJ=>
       injection he with he
       subst he
       have q9:v'=u:=by
        have h4:=hr.2
        simp only[aP,aq]at h4
        injection h4
       subst q9
       exact RV.cr (p:=[]) iJ (cG (r,off+j) (List.mem_append_left _ rB))
    refine⟨⟨?_,?_⟩,?_⟩
    ·rw[List.all_eq_true]
     intro y hy
     obtain⟨j,hj⟩:=List.mem_iff_getElem?.1 hy
     have ou:j<p.2.length:=by rw[<-hlen];exact(List.getElem?_eq_some_iff.1 hj).1
     obtain⟨y',cA,iQ,_⟩:=hcells j _ (List.getElem?_eq_getElem ou)
     rw[hj]at cA
     injection cA with cA
     subst cA
     exact iQ
    ·obtain⟨b,xs⟩:=p
     cases b with
     | true=>
      obtain⟨us,e,cE⟩:=lP
      obtain⟨k1,k2⟩:=key us cE
      exact⟨us,e,k1,k2⟩
     | false=>
      obtain⟨k1,k2⟩:=key #[v] lP
      exact⟨#[v],rfl,k1,k2⟩
    ·rw[hlen]
     exact eW
   ·cases h
theorem SU{t:TypeId}{x:A}{k:A->Option X}(h:eF P σ t x k=some r){u:Value}(hu:RA w B lab ρ x u):∃ ad,u = .pointer (some ad):=by
 unfold eF at h
 split at h
 ·cases h
 ·split at h
  ·obtain⟨b,off,_,rfl⟩:=hu;exact⟨_,rfl⟩
  ·obtain⟨b,off,rfl,_⟩:=hu;exact⟨_,rfl⟩
  ·obtain⟨ad,rfl,_⟩:=hu;exact⟨_,rfl⟩
  ·cases h
theorem Kv{x:A}{p:Bool×List Lf}(h:Bo x=some p){u:Value}(hu:RA w B lab ρ x u):RP w B lab ρ p u:=by
 unfold Bo at h
 split at h
 ·injection h with h
  subst h
  refine⟨rfl,fun j y hy=>?_⟩
  cases j with
  | zero=>simp at hy;subst hy;exact⟨u,rfl,hu⟩
  | succ j=>simp at hy
 ·injection h with h
  subst h
  exact hu
 ·cases h
def oW(tmps:Array Value):ResultVar->Sem Value
 | .tmp t=>pure (tmps.getD t undef)
 | .cell a t=>do loadVar t (<-asAddr (tmps.getD a undef))
theorem yH:∀ (l:List ResultVar) (k:List (Bool×List Lf)->Option X),jz P σ l k=some r->∃ ps,k ps=some r/\∀ lab ρ a w,Rl w0 N lab ρ σ a w->∃ vs,(l.mapM (oW a.tmps)).run P w = .ok vs w/\vs.length=ps.length/\∀ (i:Nat) p v,ps[i]?=some p->vs[i]?=some v->RP w w0.heap.size lab ρ p v
 | [],k,h=>⟨[],h,fun _ _ _ _ _=>⟨[],rfl,rfl,fun i p v hp=>by simp at hp⟩⟩
 | .tmp t :: rest,k,h=>by
  simp only[jz]at h
  split at h
  ·rename_i p hp
   obtain⟨ps,h2,dD⟩:=yH rest _ h
   refine⟨p :: ps,h2,fun lab ρ a w hR=>?_⟩
   obtain⟨vs,aC,hl,hv⟩:=dD lab ρ a w hR
   refine⟨a.tmps.getD t undef :: vs,?_,by simp[hl],fun i q u hq hu=>?_⟩
   ·rw[List.mapM_cons,Sem.run_bind]
    simp only[oW,Sem.run_pure,Result.andThen_ok,Sem.run_bind,aC]
   ·cases i with
    | zero=>simp only[List.getElem?_cons_zero,Option.some.injEq]at hq hu;subst hq hu;exact Kv hp (hR.tmp t)
    | succ i=>exact hv i q u (by simpa using hq) (by simpa using hu)
  ·cases h
 | .cell c ty :: rest,k,h=>by
  simp only[jz]at h
  obtain⟨y,hy,kP⟩:=JU (w0:=w0) (N:=N) h
  split at hy
  ·rename_i p hp
   obtain⟨ps,h2,dD⟩:=yH rest _ hy
   refine⟨p :: ps,h2,fun lab ρ a w hR=>?_⟩
   obtain⟨vs,aC,hl,hv⟩:=dD lab ρ a w hR
   obtain⟨v,nu,oO⟩:=kP lab ρ a w hR _ (hR.tmp c)
   obtain⟨ad,eS⟩:=SU h (hR.tmp c)
   rw[eS]at nu
   have nu:(loadVar ty ad).run P w = .ok v w:=by
    simpa [Instr.loadAt,Instr.sureAddr]using nu
   refine⟨v :: vs,?_,by simp[hl],fun i q u hq hu=>?_⟩
   ·rw[List.mapM_cons,Sem.run_bind]
    simp only[oW,eS,asAddr,Sem.run_pure,Result.andThen_ok,Sem.run_bind,aC,nu]
   ·cases i with
    | zero=>simp only[List.getElem?_cons_zero,Option.some.injEq]at hq hu;subst hq hu;exact Kv hp oO
    | succ i=>exact hv i q u (by simpa using hq) (by simpa using hu)
  ·cases hy
theorem SV{fn:Func}{k:dj->Option X}(h:yB P σ fn.results k=some r):∃ res,k res=some r/\∀ lab ρ a w,Rl w0 N lab ρ σ a w->∀ nm,∃ v af,(results fn a.tmps).run P w = .ok v w/\(∀ b k,af b=some k->(w0.heap.size<=b\/w0.L b≠none)/\b<w.heap.size/\k≠[])/\jy w w0.heap.size af nm res v:=by
 unfold yB at h
 obtain⟨ps,h2,dD⟩:=yH (w0:=w0) (N:=N) _ _ h
 clear h
 split at h2
 ·rename_i qs rs Ff
  cases ho:once rs with
  | false=>rw[ho]at h2;cases h2
  | true=>
   rw[ho,cond_true]at h2
   have cG:∀ p∈rs,rs.lookup p.1=some p.2:=by
    intro p hp
    have:=List.all_eq_true.1 ho p hp
    obtain⟨n,hn,he⟩:=(Option.any_eq_true _ _).1 this
    rw[hn,Nat.eq_of_beq_eq_true he]
   have core:∀ lab ρ a w,Rl w0 N lab ρ σ a w->∀ nm:Nat->Nat,∃ vs:List Value,(fn.results.mapM (oW a.tmps)).run P w = .ok vs.toArray w/\(∀ b k,cr lab rs nm b=some k->(w0.heap.size<=b\/w0.L b≠none)/\b<w.heap.size/\k≠[])/\eX w w0.heap.size (cr lab rs nm) nm 0 qs vs:=by
    intro lab ρ a w hR nm
    obtain⟨vs,aC,hl,hv⟩:=dD lab ρ a w hR
    refine⟨vs,?_,fun b k hk=>?_,Fe hR.root ps 0 qs rs vs Ff cG hl hv⟩
    ·rw[Array.mapM_eq_mapM_toList]
     simp[aC]
    ·unfold cr at hk
     split at hk
     ·cases hk
     ·rename_i k' b8
      have:=hR.bf b k' b8
      split at hk
      ·cases hk
      ·cases mh:rs.lookup _ with
       | none=>rw[mh]at hk;cases hk
       | some n=>
        rw[mh]at hk
        injection hk with hk
        subst hk
        exact⟨this.1,this.2.1,by simp⟩
   have dU:∀ (tmps:Array Value),results fn tmps=(do let vs <-fn.results.mapM (oW tmps);pure (if h:vs.size=1 then vs[0]else .tuple vs)):=fun tmps=>by
    unfold results
    congr 1
   split at h2
   ·rename_i p
    refine⟨_,h2,fun lab ρ a w hR nm=>?_⟩
    obtain⟨vs,aC,fH,aA⟩:=core lab ρ a w hR nm
    match vs,aA with
    | [v],aA=>exact⟨v,_,by rw[dU,Sem.run_bind,aC];rfl,fH,aA⟩
    | [],aA=>exact aA.elim
    | _ :: _ :: _,aA=>exact aA.2.elim
   ·rename_i az
    refine⟨_,h2,fun lab ρ a w hR nm=>?_⟩
    obtain⟨vs,aC,fH,aA⟩:=core lab ρ a w hR nm
    have hsz:vs.toArray.size≠1:=by
     intro e
     match qs,vs,aA,az with
     | [q],[v],_,az=>exact az q rfl
     | [],[v],aA,_=>exact aA.elim
     | _ :: _ :: _,[v],aA,_=>exact aA.2.elim
    refine⟨.tuple vs.toArray,_,?_,fH,vs.toArray,rfl,aA⟩
    rw[dU,Sem.run_bind,aC,Result.andThen_ok]
    simp only[hsz,dif_neg,not_false_eq_true,Sem.run_pure]
 ·cases h2
end
end Go.Proofs.YtjldnlbiefpekaaDoor
namespace Go.Proofs.YtjldnlbiefpekaaDoor
open Go.RowKit
set_option linter.unusedVariables false
inductive In where
 | blk (cs:List V)
 | sl (y:V)
def nF(i:Nat):Nat:=20000+1000*i
def nC(i j:Nat)(x:V):Nat:=bif x.av then 20001+1000*i+j else 60000+1000*i+j
def rC(i j:Nat)(x:V):Lf:=bif x.plain then .v x else .own [nC i j x]
def rD(i:Nat):Nat->List V->List Lf
 | _,[]=>[]
 | j,x :: xs=>rC i j x :: rD i (j+1) xs
def Bq(i:Nat):Nat->List V->(Nat->Option au)->(Nat->Option au)
 | _,[],m=>m
 | j,x :: xs,m=>Bq i (j+1) xs (bif x.plain then m else aH m (nC i j x) (some (.sl x)))
def Br:Nat->List In->(Nat->Option au)->(Nat->Option au)
 | _,[],m=>m
 | i,.blk cs :: r,m=>Br (i+1) r (Bq i 0 cs (aH m (nF i) (some (.blk (rD i 0 cs)))))
 | i,.sl y :: r,m=>Br (i+1) r (aH m (nF i) (some (.sl y)))
inductive Ar where
 | pt (p:Pt)
 | mut (i off:Nat)
def Fg(ins:List In):Ar->A
 | .pt (false,[x])=>.lf (.v x)
 | .pt (true,xs)=>.agg (xs.map .v)
 | .pt _=>.undef
 | .mut i off=>match ins[i]? with
  | some (.blk _)=>.aE (nF i) off
  | some (.sl _)=>.lf (.own [nF i])
  | none=>.undef
def rE(ins:List In)(args:List Ar):S:=⟨fun k=>match args[k]? with
 | some x=>Fg ins x
 | none=>.undef,Br 0 ins (fun _=>none)⟩
def kQ(w w':World)(af:aG)(ρ:Nat->Loc)(nm:Nat->Nat):Nat->Nat->List In->List In->Prop
 | _,_,[],[]=>True
 | i,pos,.blk cs :: r,.blk cS :: r'=>(∃ b off cells iR e e',ρ (nF i) = .blk b off/\w.heap[b]?=some (.cells cells e (0,0))/\w'.heap[b]?=some (.cells iR e' (0,0))/\af b=some [nm pos]/\off+cS.length<=iR.size/\cS.length=cs.length/\
   ∀ (j:Nat) x',cS[j]?=some x'->∃ u,iR[off+j]?=some u/\((x'.plain=true/\∀ (w:World) (B:Nat) (lab:aG) (q:List Nat),RV w B lab q x' u)\/(x' = .nil/\u = .slice none 0 0/\∃ x0,cs[j]?=some x0/\x0.av=false)\/(x'.plain=false/\x'.av=true/\x'.fC=true/\(∃ x0,cs[j]?=some x0/\Wk x0 x')/\cells[off+j]?=some u)\/(x'.av=false/\RV w' w.heap.size af [nm (pos+1+j)] x' u)))/\
   kQ w w' af ρ nm (i+1) (pos+1+cs.length) r r'
 | i,pos,.sl y :: r,.sl y' :: r'=>(y' = .nil\/∃ v,ρ (nF i) = .bS v/\RV w' w.heap.size af [nm pos] y' v)/\kQ w w' af ρ nm (i+1) (pos+1) r r'
 | _,_,_,_=>False
def yI(w w':World)(af:aG)(ρ:Nat->Loc)(nm:Nat->Nat):Nat->Nat->List In->List In->Prop
 | _,_,[],[]=>True
 | i,pos,.blk cs :: r,.blk cS :: r'=>(∃ b off cells iR e e',ρ (nF i) = .blk b off/\w.heap[b]?=some (.cells cells e (0,0))/\w'.heap[b]?=some (.cells iR e' (0,0))/\af b=some [nm pos]/\off+cS.length<=iR.size/\cS.length=cs.length/\
   ∀ (j:Nat) x',cS[j]?=some x'->∃ u,iR[off+j]?=some u/\((x'.plain=true/\∀ (w:World) (B:Nat) (lab:aG) (q:List Nat),RV w B lab q x' u)\/(x'.plain=false/\x'.av=true/\cells[off+j]?=some u)\/(x'.av=false/\RV w' w.heap.size af [nm (pos+1+j)] x' u)))/\
   yI w w' af ρ nm (i+1) (pos+1+cs.length) r r'
 | i,pos,.sl y :: r,.sl y' :: r'=>(y' = .nil\/∃ v,ρ (nF i) = .bS v/\RV w' w.heap.size af [nm pos] y' v)/\yI w w' af ρ nm (i+1) (pos+1) r r'
 | _,_,_,_=>False
def dj.len:dj->Nat
 | .one p=>p.2.length
 | .aU ps=>(ps.map fun p=>p.2.length).sum
def jB(w:World)(B:Nat)(lab:aG)(ρ:Nat->Loc):Nat->List In->Prop
 | _,[]=>True
 | i,.blk cs :: r=>bP w B lab ρ (nF i) (.blk (rD i 0 cs))/\(∀ (j:Nat) x,cs[j]?=some x->x.plain=false->bP w B lab ρ (nC i j x) (.sl x))/\jB w B lab ρ (i+1) r
 | i,.sl y :: r=>bP w B lab ρ (nF i) (.sl y)/\jB w B lab ρ (i+1) r
/-! The end: what is given back,and what the written parameters hold. -/
def Fh(m:Nat->Option au)(i j:Nat)(x0:V):Lf->Option (V×Option Nat)
 | .v x=>bif x.plain then some (x,none)else (bif !x.fC && !x0.av then some (.nil,none)else none)
 | .own [r]=>match m r with
  | some (.sl y)=>bif y.av then (bif !x0.plain&&(x0.av&&x0.fC)&&Nat.beq r (20001+1000*i+j)&&Nat.blt r 60000 then some (x0,none)else none)else (bif y.loc then some (y,some r)else none)
  | _=>none
 | _=>none
def sR(m:Nat->Option au)(i pos:Nat):Nat->List V->List Lf->Option (List V×List (Nat×Nat))
 | _,[],[]=>some ([],[])
 | j,x0 :: xs,l :: ls=>match Fh m i j x0 l,sR m i pos (j+1) xs ls with
  | some (y,none),some (ys,rs)=>some (y :: ys,rs)
  | some (y,some r),some (ys,rs)=>some (y :: ys,(r,pos+1+j) :: rs)
  | _,_=>none
 | _,_,_=>none
def V.gone:V->Bool
 | .sl _ o _ _=>Nat.ble 1000000 o
 | _=>false
def rF(m:Nat->Option au):Nat->Nat->List In->Option (List In×List (Nat×Nat))
 | _,_,[]=>some ([],[])
 | i,pos,.blk cs :: r=>match bif Nat.blt (nF i) 60000 then m (nF i)else none with
  | some (.blk ls)=>match sR m i pos 0 cs ls,rF m (i+1) (pos+1+cs.length) r with
   | some (cS,rs),some (os,iP)=>some (.blk cS :: os,(nF i,pos) :: (rs++iP))
   | _,_=>none
  | _=>none
 | i,pos,.sl y0 :: r=>bif y0.gone then (match rF m (i+1) (pos+1) r with
   | some (os,iP)=>some (.sl .nil :: os,iP)
   | none=>none)else match bif Nat.blt (nF i) 60000 then m (nF i)else none with
  | some (.sl y')=>bif y'.loc && !y'.av then (match rF m (i+1) (pos+1) r with
   | some (os,iP)=>some (.sl y' :: os,(nF i,pos) :: iP)
   | none=>none)else none
  | _=>none
def yJ{X:Type}(P:Program)(σ:S)(fn:Array ResultVar)(ins:List In)(k:List In->dj->Option X):Option X:=
 jz P σ fn.toList fun ps=>match vn σ.m 0 ps with
  | some (qs,rs)=>match rF σ.m 0 (qs.map fun p=>p.2.length).sum ins with
   | some (os,iP)=>bif once (rs++iP)then (match qs with
    | [p]=>k os (.one p)
    | qs=>k os (.aU qs))else none
   | none=>none
  | none=>none
/-! Types of parameters and results. -/
def hG:List (Bool×TC×Nat)->Type
 | []=>Unit
 | [(_,t,_)]=>T t
 | (_,t,_) :: r=>T t×hG r
def mj:(l:List (Bool×TC×Nat))->hG l->List Pt
 | [],_=>[]
 | [(b,t,g)],x=>[(b,enc t g x)]
 | (b,t,g) :: q :: r,x=>(b,enc t g x.1) :: mj (q :: r) x.2
def hJ:(l:List (Bool×TC×Nat))->List Pt->Option (hG l)
 | [],[]=>some ()
 | [(b,t,g)],[(b',vs)]=>bif b==b' then dec t g vs else none
 | (b,t,g) :: q :: r,(b',vs) :: ps=>bif b==b' then (match dec t g vs,hJ (q :: r) ps with
  | some x,some xs=>some (x,xs)
  | _,_=>none)else none
 | _,_=>none
def oX(l:List (Bool×TC×Nat)):dj->Option (hG l)
 | .one p=>hJ l [p]
 | .aU ps=>bif Nat.beq ps.length 1 then none else hJ l ps
def cC(l:List (Bool×TC×Nat))(x:hG l):dj:=
 match mj l x with
 | [p]=>.one p
 | ps=>.aU ps
inductive PK where
 | v (b:Bool) (t:TC)
 | p (t:TC) (g off:Nat)
 | s (t:TC) (g:Nat)
def iS:List PK->Type
 | []=>Unit
 | .v _ t :: r=>T t×iS r
 | .p t _ _ :: r=>T t×iS r
 | .s t _ :: r=>List (T t)×iS r
def oY:List (Bool×TC×Nat)->Type
 | []=>Unit
 | (true,t,_) :: r=>T t×oY r
 | (false,t,_) :: r=>List (T t)×oY r
def dY:(l:List (Bool×TC×Nat))->oY l->List In
 | [],_=>[]
 | (true,t,g) :: r,x=>.blk (enc t g x.1) :: dY r x.2
 | (false,t,g) :: r,x=>.sl (bif Nat.ble 1000000 g then .nil else .sl t (g+2) false x.1) :: dY r x.2
def cF:List PK->List (Bool×TC×Nat)
 | []=>[]
 | .v _ _ :: r=>cF r
 | .p t g _ :: r=>(true,t,g) :: cF r
 | .s t g :: r=>(false,t,g) :: cF r
def kR:(l:List PK)->iS l->List In
 | [],_=>[]
 | .v _ _ :: r,x=>kR r x.2
 | .p t g _ :: r,x=>.blk (enc t g x.1) :: kR r x.2
 | .s t g :: r,x=>.sl (.sl t (g+2) false x.1) :: kR r x.2
def hU:(l:List PK)->Nat->iS l->List Ar
 | [],_,_=>[]
 | .v b t :: r,i,x=>.pt (b,enc t 0 x.1) :: hU r i x.2
 | .p _ _ off :: r,i,x=>.mut i off :: hU r (i+1) x.2
 | .s _ _ :: r,i,x=>.mut i 0 :: hU r (i+1) x.2
structure gE where
 ps:List PK
 ro:List (Bool×TC×Nat)
 F:iS ps->Option (hG ro×oY (cF ps))
def nw(P:Program)(f:Nat)(c:gE):Prop:=
 ∀ x y,c.F x=some y->∀ (nm:Nat->Nat) (w:World) (lab:aG) (ρ:Nat->Loc) (aN:Array Value),jB w w.heap.size lab ρ 0 (kR c.ps x)->(∀ b k,lab b=some k->b<w.heap.size/\k≠[])->
     aN.size=c.ps.length->(∀ i,RA w w.heap.size lab ρ ((rE (kR c.ps x) (hU c.ps 0 x)).t i) (aN.getD i undef))->∀ hQ:Hd w lab,
     Calls P f aN w fun e w'=>∃ v af,e = .returned v/\eD ⟨w,lab,fun _=>none,hQ,fun _ _=>rfl⟩ w w'/\(∀ b k,af b=some k->(w.heap.size<=b\/lab b≠none)/\b<w'.heap.size/\k≠[])/\jy w' w.heap.size af nm (cC c.ro y.1) v/\yI w w' af ρ nm 0 (cC c.ro y.1).len (kR c.ps x) (dY (cF c.ps) y.2)
end Go.Proofs.YtjldnlbiefpekaaDoor
namespace Go.Proofs.YtjldnlbiefpekaaDoor
open Go.RowKit
set_option linter.unusedVariables false
def yK(w:World)(ρ:Nat->Loc):Nat->List In->Prop
 | _,[]=>True
 | i,.blk cs :: r=>(∃ b off cells e,ρ (nF i) = .blk b off/\w.heap[b]?=some (.cells cells e (0,0))/\∀ (j:Nat) x,cs[j]?=some x->x.plain=false->x.av=true->∃ u,cells[off+j]?=some u/\ρ (20001+1000*i+j) = .bS u)/\yK w ρ (i+1) r
 | i,.sl y :: r=>(∃ v,ρ (nF i) = .bS v)/\yK w ρ (i+1) r
section
variable {P:Program} {w w':World} {w0:Wd} {B N:Nat} {lab af:aG} {ρ ρ':Nat->Loc} {σ:S} {a:Act} {X:Type} {d:Nat} {r:X} {rs:List (Nat×Nat)} {nm:Nat->Nat}
theorem Fi{m:Nat->Option au}{i pos:Nat}:∀ (xs:List V) (ls:List Lf) (j0:Nat) (ys:List V) (fI:List (Nat×Nat)),sR m i pos j0 xs ls=some (ys,fI)->ys.length=xs.length/\ls.length=xs.length/\
  ∀ (j:Nat) y,ys[j]?=some y->∃ l x0,ls[j]?=some l/\xs[j]?=some x0/\((l = .v y/\y.plain=true)\/(l = .v .nil/\y = .nil/\x0.av=false)\/(l = .own [20001+1000*i+(j0+j)]/\y=x0/\y.plain=false/\(y.av&&y.fC)=true/\20001+1000*i+(j0+j)<60000)\/(∃ q,l = .own [q]/\m q=some (.sl y)/\y.av=false/\(q,pos+1+(j0+j))∈fI))
 | [],[],j0,ys,fI,h=>by
  simp only[sR,Option.some.injEq,Prod.mk.injEq]at h
  obtain⟨rfl,rfl⟩:=h
  exact⟨rfl,rfl,fun j y hy=>by simp at hy⟩
 | [],_ :: _,j0,ys,fI,h=>by simp[sR]at h
 | _ :: _,[],j0,ys,fI,h=>by simp[sR]at h
 | x0 :: xs,l :: ls,j0,ys,fI,h=>by
  have hc:∀ y z,Fh m i j0 x0 l=some (y,z)->(z=none/\l = .v y/\y.plain=true)\/(z=none/\l = .v .nil/\y = .nil/\x0.av=false)\/(z=none/\l = .own [20001+1000*i+j0]/\y=x0/\y.plain=false/\(y.av&&y.fC)=true/\20001+1000*i+j0<60000)\/(∃ q,z=some q/\l = .own [q]/\m q=some (.sl y)/\y.av=false):=by
   intro y z hz
   unfold Fh at hz
   split at hz
   ·rename_i x
    cases hp:x.plain with
    | false=>
     rw[hp,cond_false]at hz
     cases U:(!x.fC && !x0.av)with
     | false=>rw[U]at hz;cases hz
     | true=>
      rw[U,cond_true]at hz
      simp only[Option.some.injEq,Prod.mk.injEq]at hz
      obtain⟨rfl,rfl⟩:=hz
      rw[Bool.and_eq_true,Bool.not_eq_true',Bool.not_eq_true']at U
      have hx:x = .nil:=by
       cases x <;>first | rfl | (exact absurd U.1 (by simp[V.fC]))
      subst hx
      exact .inr (.inl ⟨rfl,rfl,rfl,U.2⟩)
    | true=>
     rw[hp,cond_true]at hz
     simp only[Option.some.injEq,Prod.mk.injEq]at hz
     obtain⟨rfl,rfl⟩:=hz
     exact .inl ⟨rfl,rfl,hp⟩
   ·rename_i q
    split at hz
    ·rename_i y1 SW
     cases hf:y1.av with
     | true=>
      rw[hf,cond_true]at hz
      cases U:(!x0.plain&&(x0.av&&x0.fC)&&Nat.beq q (20001+1000*i+j0)&&Nat.blt q 60000)with
      | false=>rw[U]at hz;cases hz
      | true=>
       rw[U,cond_true]at hz
       simp only[Option.some.injEq,Prod.mk.injEq]at hz
       obtain⟨rfl,rfl⟩:=hz
       rw[Bool.and_eq_true,Bool.and_eq_true,Bool.and_eq_true,Bool.not_eq_true']at U
       obtain⟨⟨⟨b1,b2⟩,b3⟩,b4⟩:=U
       obtain rfl:=Nat.eq_of_beq_eq_true b3
       exact .inr (.inr (.inl ⟨rfl,rfl,rfl,b1,b2,by have:=Nat.le_of_ble_eq_true b4;omega⟩))
     | false=>
      rw[hf,cond_false]at hz
      cases hl:y1.loc with
      | false=>rw[hl]at hz;cases hz
      | true=>
       rw[hl,cond_true]at hz
       simp only[Option.some.injEq,Prod.mk.injEq]at hz
       obtain⟨rfl,rfl⟩:=hz
       exact .inr (.inr (.inr ⟨q,rfl,rfl,SW,hf⟩))
    ·cases hz
   ·cases hz
  unfold sR at h
  split at h
  ·rename_i y sP iP hy iM
   simp only[Option.some.injEq,Prod.mk.injEq]at h
   obtain⟨rfl,rfl⟩:=h
   obtain⟨h1,h2,h3⟩:=Fi xs ls (j0+1) sP iP iM
   refine⟨by simp[h1],by simp[h2],fun j y' cA=>?_⟩
   cases j with
   | zero=>
    simp at cA
    subst cA
    refine⟨l,x0,rfl,rfl,?_⟩
    rcases hc y none hy with ⟨_,e1,e2⟩ | ⟨_,e1,e2,e3⟩ | ⟨_,e1,e2,e3,e4,e5⟩ | ⟨q,hq,_⟩
    ·exact .inl ⟨e1,e2⟩
    ·exact .inr (.inl ⟨e1,e2,e3⟩)
    ·exact .inr (.inr (.inl ⟨e1,e2,e3,e4,e5⟩))
    ·cases hq
   | succ j=>
    obtain⟨l',x',g1,g2,g3⟩:=h3 j y' (by simpa using cA)
    rw[show j0+1+j=j0+(j+1) by omega]at g3
    exact⟨l',x',by simpa using g1,by simpa using g2,g3⟩
  ·rename_i y q sP iP hy iM
   simp only[Option.some.injEq,Prod.mk.injEq]at h
   obtain⟨rfl,rfl⟩:=h
   obtain⟨h1,h2,h3⟩:=Fi xs ls (j0+1) sP iP iM
   refine⟨by simp[h1],by simp[h2],fun j y' cA=>?_⟩
   cases j with
   | zero=>
    simp at cA
    subst cA
    refine⟨l,x0,rfl,rfl,?_⟩
    rcases hc y (some q) hy with ⟨e0,_⟩ | ⟨e0,_⟩ | ⟨e0,_⟩ | ⟨q',hq,e1,e2,e3⟩
    ·cases e0
    ·cases e0
    ·cases e0
    ·injection hq with hq
     subst hq
     exact .inr (.inr (.inr ⟨q,e1,e2,e3,.head _⟩))
   | succ j=>
    obtain⟨l',x',g1,g2,g3⟩:=h3 j y' (by simpa using cA)
    rw[show j0+1+j=j0+(j+1) by omega]at g3
    exact⟨l',x',by simpa using g1,by simpa using g2,g3.imp id (fun g=>g.imp id (fun g=>g.imp id fun⟨q',e1,e2,e3,e4⟩=>⟨q',e1,e2,e3,.tail _ e4⟩))⟩
  ·cases h
theorem Bs{w1:World}{nx:Nat->Loc}{m:Nat->Option au}(vo:∀ r,20000<=r->r<60000->ρ r=nx r)(hm:∀ r x,m r=some x->bP w w1.heap.size lab ρ r x):
  ∀ (ins:List In) (i pos:Nat) (outs:List In) (fI:List (Nat×Nat)),rF m i pos ins=some (outs,fI)->(∀ p∈fI,rs.lookup p.1=some p.2)->yK w1 nx i ins->kQ w1 w (cr lab rs nm) nx nm i pos ins outs
 | [],i,pos,outs,fI,h,cG,he=>by
  simp only[rF,Option.some.injEq,Prod.mk.injEq]at h
  obtain⟨rfl,rfl⟩:=h
  trivial
 | .blk cs :: r,i,pos,outs,fI,h,cG,he=>by
  unfold rF at h
  cases hi:Nat.blt (nF i) 60000 with
  | false=>rw[hi]at h;cases h
  | true=>
   rw[hi,cond_true]at h
   have hi:=Nat.le_of_ble_eq_true hi
   split at h
   ·rename_i ls yC
    split at h
    ·rename_i cS SQ os sQ h1 h2
     simp only[Option.some.injEq,Prod.mk.injEq]at h
     obtain⟨rfl,rfl⟩:=h
     obtain⟨⟨b,off,cells,e,Kw,SX,sS⟩,sU⟩:=he
     obtain⟨k1,k2,k3⟩:=Fi _ _ _ _ _ h1
     refine⟨?_,Bs vo hm r (i+1) _ os sQ h2 (fun p hp=>cG p (.tail _ (List.mem_append_right _ hp))) sU⟩
     have bB:=hm _ _ yC
     have Fj:=vo (nF i) (by unfold nF;omega) (by omega)
     generalize hx:au.blk ls=x at bB
     cases bB with
     | sl=>cases hx
     | mp=>cases hx
     | gh=>cases hx
     | blk b' lA iR e' ls' us aq hl hh hs hc=>
      injection hx with hx
      subst hx
      rw[Fj,Kw]at aq
      injection aq with e1 e2
      subst e1 e2
      refine⟨b,off,cells,iR,e,e',Kw,SX,hh,?_,by rw[k1,<-k2];exact hs,k1,fun j y hy=>?_⟩
      ·have:=cG _ (List.Mem.head _)
       simp[cr,hl,this]
      ·obtain⟨l,x0,g1,g2,g3⟩:=k3 j y hy
       obtain⟨c1,c2⟩:=hc j l g1
       refine⟨_,c1,?_⟩
       rw[Nat.zero_add]at g3
       rcases g3 with ⟨rfl,hp⟩ | ⟨rfl,rfl,SY⟩ | ⟨rfl,rfl,hp,jd,aV⟩ | ⟨q,rfl,hq,hf,rB⟩
       ·exact .inl ⟨hp,fun _ _ _ _=>c2.2.qQ hp⟩
       ·exact .inr (.inl ⟨rfl,by have h9:=c2.2;generalize us j=u9 at h9 ⊢;cases h9;rfl,x0,g2,SY⟩)
       ·rw[Bool.and_eq_true]at jd
        obtain⟨hf,SZ⟩:=jd
        obtain⟨u,hu,S0⟩:=sS j y g2 hp hf
        refine .inr (.inr (.inl ⟨hp,hf,SZ,⟨y,g2,.same _⟩,?_⟩))
        have h3:=c2.2
        have Fk:=vo (20001+1000*i+j) (by omega) aV
        simp only[aP,Fk,S0]at h3
        injection h3 with h3
        rw[<-h3]
        exact hu
       ·refine .inr (.inr (.inr ⟨hf,?_⟩))
        have bB:=hm _ _ hq
        generalize hx:au.sl y=x at bB
        cases bB with
        | blk=>cases hx
        | mp=>cases hx
        | gh=>cases hx
        | sl v y' aq hr=>
         injection hx with hx
         subst hx
         have h3:=c2.2
         simp only[aP,aq]at h3
         injection h3 with h3
         rw[<-h3]
         exact RV.cr (p:=[]) hr (cG _ (.tail _ (List.mem_append_left _ rB)))
    ·cases h
   ·cases h
 | .sl y :: r,i,pos,outs,fI,h,cG,he=>by
  unfold rF at h
  cases hg:y.gone with
  | true=>
   rw[hg,cond_true]at h
   split at h
   ·rename_i os sQ h2
    simp only[Option.some.injEq,Prod.mk.injEq]at h
    obtain⟨rfl,rfl⟩:=h
    exact⟨.inl rfl,Bs vo hm r (i+1) _ os sQ h2 cG he.2⟩
   ·cases h
  | false=>
  rw[hg,cond_false]at h
  cases hi:Nat.blt (nF i) 60000 with
  | false=>rw[hi]at h;cases h
  | true=>
   rw[hi,cond_true]at h
   have hi:=Nat.le_of_ble_eq_true hi
   split at h
   ·rename_i y' cA
    cases hl:(y'.loc && !y'.av)with
    | false=>rw[hl]at h;cases h
    | true=>
     rw[hl,cond_true]at h
     split at h
     ·rename_i os sQ h2
      simp only[Option.some.injEq,Prod.mk.injEq]at h
      obtain⟨rfl,rfl⟩:=h
      obtain⟨⟨v,hv⟩,sU⟩:=he
      refine⟨.inr ⟨v,hv,?_⟩,Bs vo hm r (i+1) _ os sQ h2 (fun p hp=>cG p (.tail _ hp)) sU⟩
      have Fj:=vo (nF i) (by unfold nF;omega) (by omega)
      have bB:=hm _ _ cA
      generalize hx:au.sl y'=x at bB
      cases bB with
      | blk=>cases hx
      | mp=>cases hx
      | gh=>cases hx
      | sl v' S1 aq hr=>
       injection hx with hx
       subst hx
       rw[Fj,hv]at aq
       injection aq with aq
       subst aq
       exact RV.cr (p:=[]) hr (cG _ (.head _))
     ·cases h
   ·cases h
theorem S2{w1:World}{nx:Nat->Loc}{fn:Func}{ins:List In}{k:List In->dj->Option X}(hw:w0.w=w1)(hF:∀ r,20000<=r->r<60000->w0.F r=some (nx r))(he:yK w1 nx 0 ins)(h:yJ P σ fn.results ins k=some r):
  ∃ outs res,k outs res=some r/\∀ lab ρ a w,Rl w0 N lab ρ σ a w->∀ nm,∃ v af,(results fn a.tmps).run P w = .ok v w/\(∀ b k,af b=some k->(w0.heap.size<=b\/w0.L b≠none)/\b<w.heap.size/\k≠[])/\jy w w0.heap.size af nm res v/\kQ w1 w af nx nm 0 res.len ins outs:=by
 unfold yJ at h
 obtain⟨ps,h2,dD⟩:=yH (w0:=w0) (N:=N) _ _ h
 clear h
 split at h2
 ·rename_i qs Fl Ff
  split at h2
  ·rename_i os Fm S3
   cases ho:once (Fl++Fm)with
   | false=>rw[ho]at h2;cases h2
   | true=>
    rw[ho,cond_true]at h2
    generalize Kx:Fl++Fm=rs at ho
    have cG:∀ p∈rs,rs.lookup p.1=some p.2:=by
     intro p hp
     have:=List.all_eq_true.1 ho p hp
     obtain⟨n,hn,he⟩:=(Option.any_eq_true _ _).1 this
     rw[hn,Nat.eq_of_beq_eq_true he]
    have core:∀ lab ρ a w,Rl w0 N lab ρ σ a w->∀ nm:Nat->Nat,∃ vs:List Value,(fn.results.mapM (oW a.tmps)).run P w = .ok vs.toArray w/\(∀ b k,cr lab rs nm b=some k->(w0.heap.size<=b\/w0.L b≠none)/\b<w.heap.size/\k≠[])/\eX w w0.heap.size (cr lab rs nm) nm 0 qs vs/\
      kQ w1 w (cr lab rs nm) nx nm 0 (qs.map fun p=>p.2.length).sum ins os:=by
     intro lab ρ a w hR nm
     obtain⟨vs,aC,hl,hv⟩:=dD lab ρ a w hR
     refine⟨vs,?_,fun b k hk=>?_,Fe hR.root ps 0 qs Fl vs Ff (fun p hp=>cG p (by rw[<-Kx];exact List.mem_append_left _ hp)) hl hv,
      Bs (fun r h1 h2=>hR.fix r _ (hF r h1 h2)) (by rw[<-hw];exact hR.root) ins 0 _ os Fm S3 (fun p hp=>cG p (by rw[<-Kx];exact List.mem_append_right _ hp)) he⟩
     ·rw[Array.mapM_eq_mapM_toList]
      simp[aC]
     ·unfold cr at hk
      split at hk
      ·cases hk
      ·rename_i k' b8
       have:=hR.bf b k' b8
       split at hk
       ·cases hk
       ·cases mh:rs.lookup _ with
        | none=>rw[mh]at hk;cases hk
        | some n=>
         rw[mh]at hk
         injection hk with hk
         subst hk
         exact⟨this.1,this.2.1,by simp⟩
    have dU:∀ (tmps:Array Value),results fn tmps=(do let vs <-fn.results.mapM (oW tmps);pure (if h:vs.size=1 then vs[0]else .tuple vs)):=fun tmps=>by
     unfold results
     congr 1
    split at h2
    ·rename_i p
     refine⟨_,_,h2,fun lab ρ a w hR nm=>?_⟩
     obtain⟨vs,aC,fH,aA,hO⟩:=core lab ρ a w hR nm
     have hO:kQ w1 w (cr lab rs nm) nx nm 0 (dj.one p).len ins os:=by simpa [dj.len]using hO
     match vs,aA with
     | [v],aA=>exact⟨v,_,by rw[dU,Sem.run_bind,aC];rfl,fH,aA,hO⟩
     | [],aA=>exact aA.elim
     | _ :: _ :: _,aA=>exact aA.2.elim
    ·rename_i az
     refine⟨_,_,h2,fun lab ρ a w hR nm=>?_⟩
     obtain⟨vs,aC,fH,aA,hO⟩:=core lab ρ a w hR nm
     have hsz:vs.toArray.size≠1:=by
      intro e
      clear hO
      have e:vs.length=1:=by simpa using e
      match qs,vs,aA,az,e with
      | [q],[v],_,az,_=>exact az q rfl
      | [],[v],aA,_,_=>exact aA.elim
      | _ :: _ :: _,[v],aA,_,_=>exact aA.2.elim
     refine⟨.tuple vs.toArray,_,?_,fH,⟨vs.toArray,rfl,aA⟩,hO⟩
     rw[dU,Sem.run_bind,aC,Result.andThen_ok]
     simp only[hsz,dif_neg,not_false_eq_true,Sem.run_pure]
  ·cases h2
 ·cases h2
theorem Ky{i:Nat}:∀ (cs:List V) (j0:Nat) (m:Nat->Option au) (r:Nat) (x:au),Bq i j0 cs m r=some x->m r=some x\/∃ j y,cs[j]?=some y/\y.plain=false/\r=nC i (j0+j) y/\x = .sl y
 | [],j0,m,r,x,h=>.inl h
 | c :: cs,j0,m,r,x,h=>by
  unfold Bq at h
  rcases Ky cs (j0+1) _ r x h with h1 | ⟨j,y,h1,h2,h3,h4⟩
  ·cases hp:c.plain with
   | true=>rw[hp]at h1;exact .inl h1
   | false=>
    rw[hp,cond_false]at h1
    by_cases hr:r=nC i j0 c
    ·subst hr
     rw[aJ]at h1
     injection h1 with h1
     exact .inr ⟨0,c,rfl,hp,rfl,h1.symm⟩
    ·rw[aQ _ _ _ hr]at h1
     exact .inl h1
  ·exact .inr ⟨j+1,y,by simpa using h1,h2,by rw[h3];congr 1;omega,h4⟩
theorem jB.roots:∀ (ins:List In) (i:Nat) (m:Nat->Option au),jB w B lab ρ i ins->(∀ r x,m r=some x->bP w B lab ρ r x)->∀ r x,Br i ins m r=some x->bP w B lab ρ r x
 | [],i,m,_,hm,r,x,h=>hm r x h
 | .blk cs :: ins,i,m,he,hm,r,x,h=>by
  obtain⟨h1,h2,h3⟩:=he
  refine jB.roots ins (i+1) _ h3 (fun r x hx=>?_) r x h
  rcases Ky cs 0 _ r x hx with h4 | ⟨j,y,g1,g2,g3,g4⟩
  ·by_cases hr:r=nF i
   ·subst hr
    rw[aJ]at h4
    injection h4 with h4
    subst h4
    exact h1
   ·rw[aQ _ _ _ hr]at h4
    exact hm r x h4
  ·rw[Nat.zero_add]at g3
   subst g3 g4
   exact h2 j y g1 g2
 | .sl y :: ins,i,m,he,hm,r,x,h=>by
  obtain⟨h1,h3⟩:=he
  refine jB.roots ins (i+1) _ h3 (fun r x hx=>?_) r x h
  by_cases hr:r=nF i
  ·subst hr
   rw[aJ]at hx
   injection hx with hx
   subst hx
   exact h1
  ·rw[aQ _ _ _ hr]at hx
   exact hm r x hx
theorem Fo{i:Nat}:∀ (cs:List V) (j0 j:Nat) x,cs[j]?=some x->(rD i j0 cs)[j]?=some (rC i (j0+j) x)
 | [],j0,j,x,h=>by simp at h
 | c :: cs,j0,0,x,h=>by simp at h;subst h;rfl
 | c :: cs,j0,j+1,x,h=>by
  simp only[rD,List.getElem?_cons_succ]
  rw[Fo cs (j0+1) j x (by simpa using h)]
  congr 2
  omega
theorem jB.Fp:∀ (ins:List In) (i:Nat),jB w B lab ρ i ins->yK w ρ i ins
 | [],_,_=>trivial
 | .blk cs :: ins,i,he=>by
  obtain⟨h1,_,h3⟩:=he
  refine⟨?_,jB.Fp ins (i+1) h3⟩
  generalize hx:au.blk (rD i 0 cs)=x at h1
  cases h1 with
  | sl=>cases hx
  | mp=>cases hx
  | gh=>cases hx
  | blk b off cells e ls us aq hl hh hs hc=>
   injection hx with hx
   subst hx
   refine⟨b,off,cells,e,aq,hh,fun j x hj hp hf=>?_⟩
   obtain⟨c1,c2⟩:=hc j _ (Fo cs 0 j x hj)
   rw[Nat.zero_add]at c2
   refine⟨_,c1,?_⟩
   have e1:rC i j x = .own [20001+1000*i+j]:=by simp[rC,hp,nC,hf]
   rw[e1]at c2
   have h4:=c2.2
   simp only[aP]at h4
   split at h4
   ·rename_i v hv
    injection h4 with h4
    rw[<-h4]
    exact hv
   ·cases h4
 | .sl y :: ins,i,he=>by
  obtain⟨h1,h3⟩:=he
  refine⟨?_,jB.Fp ins (i+1) h3⟩
  cases h1 with
  | sl v y' aq hr=>exact⟨v,aq⟩
end
end Go.Proofs.YtjldnlbiefpekaaDoor
namespace Go.Proofs.YtjldnlbiefpekaaDoor
open Go.RowKit
set_option linter.unusedVariables false
def aM(n:Nat):List Nat->Bool
 | []=>false
 | m :: l=>Nat.beq n m || aM n l
theorem mm{n:Nat}:∀ {l:List Nat},aM n l=true ↔ n∈l
 | []=>by simp[aM]
 | m :: l=>by
  simp only[aM,Bool.or_eq_true,List.mem_cons,mm (l:=l)]
  constructor
  ·rintro(h | h)
   ·exact .inl (Nat.eq_of_beq_eq_true h)
   ·exact .inr h
  ·rintro(h | h)
   ·left;subst h;exact Nat.beq_refl n
   ·exact .inr h
theorem Kz{n:Nat}{l:List Nat}(h:aM n l=false):n ∉ l:=fun k=>by rw[mm.2 k]at h;cases h
def aT(k:List Nat)(l:List Nat):Bool:=match k.getLast? with
 | some r=>aM r l
 | none=>false
def Lf.aF(ns cn:List Nat):Lf->Lf
 | .own k=>bif aT k cn || (aT k ns && !(Nat.beq k.length 1))then .dead else .own k
 | x=>x
def A.aF(ns cn:List Nat):A->A
 | .lf x=>.lf (x.aF ns cn)
 | .agg cs=>.agg (cs.map (Lf.aF ns cn))
 | .aU xs=>.aU (xs.map fun p=>(p.1,p.2.map (Lf.aF ns cn)))
 | .ptr k=>bif aT k cn || aT k ns then .undef else .ptr k
 | .aE r j=>bif aM r cn then .undef else .aE r j
 | .pk r n=>bif aM r cn then .undef else .pk r n
 | .view k s i j=>bif aT k cn || aT k ns then .undef else .view k s i j
 | .fn f cap=>bif cap.any (fun p=>aM p.1 cn)then .undef else .fn f cap
 | x=>x
def au.aF(ns cn:List Nat):au->au
 | .blk cs=>.blk (cs.map (Lf.aF ns cn))
 | .gh xs=>.gh (xs.map (A.aF ns cn))
 | x=>x
def S.aF(σ:S)(ns cn:List Nat)(nr:List (Nat×au)):S:=⟨fun k=>(σ.t k).aF ns cn,fun r=>match nr.lookup r with
 | some x=>some x
 | none=>bif aM r ns || aM r cn then none else (σ.m r).map (au.aF ns cn)⟩
structure kS (w w':World) (lab bE:aG) (ρ ct:Nat->Loc) (ns cn:List Nat):Prop where
 size:w.heap.size<=w'.heap.size
 same:∀ b,b<w.heap.size->(∀ k,lab b=some k->aT k ns=false)->w'.heap[b]?=w.heap[b]?/\bE b=lab b
 bY:∀ r,aM r cn=false->ct r=ρ r
 lab:∀ b k,lab b=some k->b<w.heap.size/\k≠[]
section
variable {P:Program} {w w':World} {w0:Wd} {B N:Nat} {lab bE af:aG} {ρ ct:Nat->Loc} {σ:S} {a:Act} {X:Type} {d:Nat} {r:X} {ns cn:List Nat}
theorem sV{j i s:Nat}{q:List Nat}{l:List Nat}(h:q≠[]):aT (j :: i :: s :: q) l=aT q l:=by
 cases q with
 | nil=>exact absurd rfl h
 | cons x q=>simp[aT,List.getLast?_cons_cons]
theorem RV.eO(hv:kS w w' lab bE ρ ct ns cn){q:List Nat}{x:V}{v:Value}(h:RV w B lab q x v)(hq:aT q ns=false\/x.av=true):RV w' B bE q x v:=by
 induction h with
 | int=>exact .int _ _ _
 | bool=>exact .bool _ _
 | str=>exact .str _ _
 | nil=>exact .nil _
 | aY=>exact .aY _ _ _
 | bn=>exact .bn _ _ _ _ _ (by first | assumption | omega)
 | bF=>exact .bF _ _ _ _ _ (by first | assumption | omega)
 | av q t o qn l b off cap u ho hl U h1 hcap hc hr ih=>
  obtain⟨e1,e2⟩:=hv.same b U (fun k hk=>by rw[hl]at hk;cases hk)
  exact .av _ _ _ _ _ _ _ _ u ho (e2.trans hl) (Nat.lt_of_lt_of_le U hv.size) h1 hcap (fun i h j x hx=>(World.cell?_of_block (a:=⟨b,_,none⟩) e1).trans (hc i h j x hx)) (fun i h j x hx=>ih i h j x hx (.inr (fP t o l[i] ho j x hx)))
 | own q t o qn l b cap cs u hl hh hs hn hm hc hr ih=>
  have gx:aT q ns=false:=by
   rcases hq with hq | hq
   ·exact hq
   ·simp[V.av]at hq;omega
  have az:q≠[]:=(hv.lab b q hl).2
  obtain⟨e1,e2⟩:=hv.same b (hv.lab b q hl).1 (fun k hk=>by rw[hl]at hk;injection hk with hk;subst hk;exact gx)
  exact .own _ _ _ _ _ _ _ cs u (e2.trans hl) (e1.trans hh) hs hn hm hc (fun i h j x hx=>ih i h j x hx (.inl (by rw[sV az];exact gx)))
theorem Fq(hv:kS w w' lab bE ρ ct ns cn):∀ (k:List Nat) (ad:Addr),aT k ns=false->aT k cn=false->addrAt w lab ρ k=some ad->addrAt w' bE ct k=some ad
 | [],_,_,_,h=>by simp[addrAt]at h
 | [_],_,_,_,h=>by simp[addrAt]at h
 | [_,_],_,_,_,h=>by simp[addrAt]at h
 | [_,_,_],_,_,_,h=>by simp[addrAt]at h
 | [j,i,s,r],_,h1,h2,h=>by
  have h1:aT [r] ns=false:=by rwa [sV (by simp)]at h1
  have h2:aM r cn=false:=by rw[sV (by simp)]at h2;exact h2
  simp only[addrAt]at h ⊢
  rw[hv.bY r h2]
  split at h
  ·rename_i v b n c hr
   split at h
   ·rename_i hl
    obtain⟨_,e2⟩:=hv.same b (hv.lab b _ hl).1 (fun k hk=>by rw[hl]at hk;injection hk with hk;subst hk;exact h1)
    rw[if_pos (e2.trans hl)]
    exact h
   ·cases h
  ·cases h
 | j :: i :: s :: x :: y :: q,ad,h1,h2,h=>by
  rw[sV (by simp)]at h1 h2
  simp only[addrAt]at h ⊢
  cases ha:addrAt w lab ρ (x :: y :: q)with
  | none=>rw[ha]at h;cases h
  | some js=>
   rw[Fq hv _ _ h1 h2 ha]
   rw[ha]at h
   cases hc:w.cell? js with
   | none=>simp[hc]at h
   | some v=>
    obtain⟨j',i',s',q',hk,cY,_,_⟩:=qP _ _ ha
    have az:q'≠[]:=(hv.lab _ _ cY).2
    have gx:aT q' ns=false:=by
     rw[hk,sV az]at h1
     exact h1
    obtain⟨e1,_⟩:=hv.same js.block (hv.lab _ _ cY).1 (fun k hk=>by rw[cY]at hk;injection hk with hk;subst hk;exact gx)
    have e:w'.cell? js=some v:=(World.cell?_of_block e1).trans hc
    simp only[Option.bind_some,hc]at h
    simp only[Option.bind_some,e]
    split at h
    ·split at h
     ·rename_i hl
      obtain⟨_,e2⟩:=hv.same _ (hv.lab _ _ hl).1 (fun k hk=>by rw[hl]at hk;injection hk with hk;subst hk;exact h1)
      rw[if_pos (e2.trans hl)]
      exact h
     ·cases h
    ·cases h
theorem KB(hv:kS w w' lab bE ρ ct ns cn)(k:List Nat)(u:Value)(h1:k.length=1\/aT k ns=false)(h2:aT k cn=false)(h:aP w lab ρ k=some u):aP w' bE ct k=some u:=by
 match k,h1,h2,h with
 | [],_,_,h=>simp[aP,addrAt]at h
 | [r],_,h2,h=>
  simp only[aP]at h ⊢
  rw[hv.bY r h2]
  exact h
 | x :: y :: q,h1,h2,h=>
  have h1:aT (x :: y :: q) ns=false:=by
   rcases h1 with h1 | h1
   ·simp at h1
   ·exact h1
  simp only[aP]at h ⊢
  cases ha:addrAt w lab ρ (x :: y :: q)with
  | none=>rw[ha]at h;cases h
  | some ad=>
   rw[Fq hv _ _ h1 h2 ha]
   rw[ha]at h
   have h:w.cell? ad=some u:=h
   obtain⟨j',i',s',q',hk,cY,_,_⟩:=qP _ _ ha
   have az:q'≠[]:=(hv.lab _ _ cY).2
   rw[hk,sV az]at h1
   obtain⟨e1,_⟩:=hv.same ad.block (hv.lab _ _ cY).1 (fun k hk=>by rw[cY]at hk;injection hk with hk;subst hk;exact h1)
   exact(World.cell?_of_block e1).trans h
theorem bw.eO(hv:kS w w' lab bE ρ ct ns cn){x:Lf}{u:Value}(h:bw w B lab ρ x u):bw w' B bE ct (x.aF ns cn) u:=by
 cases x with
 | v x=>exact⟨h.1,h.2.eO hv (.inr h.1)⟩
 | dead=>trivial
 | own k=>
  have e:Lf.aF ns cn (.own k)=(bif aT k cn || (aT k ns && !(Nat.beq k.length 1))then .dead else .own k):=rfl
  rw[e]
  cases U:(aT k cn || (aT k ns && !(Nat.beq k.length 1)))with
  | true=>trivial
  | false=>
   rw[Bool.or_eq_false_iff]at U
   refine⟨h.1,KB hv k u ?_ U.1 h.2⟩
   have U:=U.2
   cases hn:aT k ns with
   | false=>exact .inr rfl
   | true=>
    rw[hn,Bool.true_and,Bool.not_eq_false']at U
    exact .inl (Nat.eq_of_beq_eq_true U)
theorem bH.eO(hv:kS w w' lab bE ρ ct ns cn){cs:List Lf}{us:Array Value}(h:bH w B lab ρ cs us):bH w' B bE ct (cs.map (Lf.aF ns cn)) us:=by
 refine⟨by rw[List.length_map];exact h.1,fun j x hx=>?_⟩
 rw[List.getElem?_map]at hx
 cases hy:cs[j]? with
 | none=>rw[hy]at hx;cases hx
 | some y=>
  rw[hy]at hx
  injection hx with hx
  subst hx
  obtain⟨u,hu,r⟩:=h.2 j y hy
  exact⟨u,hu,r.eO hv⟩
theorem RP.eO(hv:kS w w' lab bE ρ ct ns cn){p:Bool×List Lf}{u:Value}(h:RP w B lab ρ p u):RP w' B bE ct (p.1,p.2.map (Lf.aF ns cn)) u:=by
 obtain⟨b,cs⟩:=p
 cases b with
 | true=>obtain⟨us,e,h⟩:=h;exact⟨us,e,h.eO hv⟩
 | false=>exact bH.eO hv h
theorem RA.eO(hv:kS w w' lab bE ρ ct ns cn){x:A}{u:Value}(h:RA w B lab ρ x u):RA w' B bE ct (x.aF ns cn) u:=by
 cases x with
 | undef=>trivial
 | skip=>exact h
 | lf x=>exact bw.eO hv h
 | agg cs=>exact RP.eO hv (p:=(true,cs)) h
 | aU xs=>
  obtain⟨us,e,hs,h⟩:=h
  refine⟨us,e,by rw[List.length_map];exact hs,fun j p hp=>?_⟩
  rw[List.getElem?_map]at hp
  cases hy:xs[j]? with
  | none=>rw[hy]at hp;cases hp
  | some y=>
   rw[hy]at hp
   injection hp with hp
   subst hp
   obtain⟨v,bT,r⟩:=h j y hy
   exact⟨v,bT,r.eO hv⟩
 | ptr k=>
  have e:A.aF ns cn (.ptr k)=(bif aT k cn || aT k ns then .undef else .ptr k):=rfl
  rw[e]
  cases U:(aT k cn || aT k ns)with
  | true=>trivial
  | false=>
   rw[Bool.or_eq_false_iff]at U
   obtain⟨ad,e,h⟩:=h
   exact⟨ad,e,Fq hv k ad U.2 U.1 h⟩
 | view k s i j=>
  have e:A.aF ns cn (.view k s i j)=(bif aT k cn || aT k ns then .undef else .view k s i j):=rfl
  rw[e]
  cases U:(aT k cn || aT k ns)with
  | true=>trivial
  | false=>
   rw[Bool.or_eq_false_iff]at U
   obtain⟨A,n,c,h,g⟩:=h
   exact⟨A,n,c,KB hv k _ (.inr U.2) U.1 h,g⟩
 | pk r n=>
  have e:A.aF ns cn (.pk r n)=(bif aM r cn then .undef else .pk r n):=rfl
  rw[e]
  cases U:aM r cn with
  | true=>trivial
  | false=>
   obtain⟨b,e,h⟩:=h
   exact⟨b,(hv.bY r U).trans e,h⟩
 | aE r j=>
  have e:A.aF ns cn (.aE r j)=(bif aM r cn then .undef else .aE r j):=rfl
  rw[e]
  cases U:aM r cn with
  | true=>trivial
  | false=>
   obtain⟨b,off,e,h⟩:=h
   exact⟨b,off,(hv.bY r U).trans e,h⟩
 | dO cs=>
  obtain⟨b,off,e,U,hl,h⟩:=h
  obtain⟨e1,e2⟩:=hv.same b U (fun k hk=>by rw[hl]at hk;cases hk)
  refine⟨b,off,e,Nat.lt_of_lt_of_le U hv.size,e2.trans hl,fun j x hx=>?_⟩
  obtain⟨hf,v,bT,hr⟩:=h j x hx
  exact⟨hf,v,(World.cell?_of_block (a:=⟨b,_,none⟩) e1).trans bT,hr.eO hv (.inr hf)⟩
 | gU f cs=>
  obtain⟨pv,e0,h⟩:=h
  refine⟨pv,e0,?_⟩
  obtain⟨b,off,e,U,hl,h⟩:=h
  obtain⟨e1,e2⟩:=hv.same b U (fun k hk=>by rw[hl]at hk;cases hk)
  refine⟨b,off,e,Nat.lt_of_lt_of_le U hv.size,e2.trans hl,fun j x hx=>?_⟩
  obtain⟨hf,v,bT,hr⟩:=h j x hx
  exact⟨hf,v,(World.cell?_of_block (a:=⟨b,_,none⟩) e1).trans bT,hr.eO hv (.inr hf)⟩
 | fn f cap=>
  have e:A.aF ns cn (.fn f cap)=(bif cap.any (fun p=>aM p.1 cn)then .undef else .fn f cap):=rfl
  rw[e]
  cases U:cap.any (fun p=>aM p.1 cn)with
  | true=>trivial
  | false=>
   obtain⟨vs,e,hs,h⟩:=h
   refine⟨vs,e,hs,fun j p hp=>?_⟩
   obtain⟨b,off,e2,h2⟩:=h j p hp
   have:=List.any_eq_false.1 U p (List.mem_of_getElem? hp)
   exact⟨b,off,(hv.bY _ (by simpa using this)).trans e2,h2⟩
theorem bP.eO(hv:kS w w' lab bE ρ ct ns cn){n:Nat}{x:au}(h:bP w B lab ρ n x)(h1:aM n ns=false)(h2:aM n cn=false):bP w' B bE ct n (x.aF ns cn):=by
 cases h with
 | blk b off cells e cs us aq hl hh hs hc=>
  obtain⟨e1,e2⟩:=hv.same b (hv.lab b _ hl).1 (fun k hk=>by rw[hl]at hk;injection hk with hk;subst hk;exact h1)
  refine .blk b off cells e _ us ((hv.bY n h2).trans aq) (e2.trans hl) (e1.trans hh) (by rw[List.length_map];exact hs) (fun j x hx=>?_)
  rw[List.getElem?_map]at hx
  cases hy:cs[j]? with
  | none=>rw[hy]at hx;cases hx
  | some y=>
   rw[hy]at hx
   injection hx with hx
   subst hx
   exact⟨(hc j y hy).1,(hc j y hy).2.eO hv⟩
 | sl v y aq hr=>exact .sl v y ((hv.bY n h2).trans aq) (hr.eO hv (.inl h1))
 | mp b c es l aq hl hh he=>
  obtain⟨e1,e2⟩:=hv.same b (hv.lab b _ hl).1 (fun k hk=>by rw[hl]at hk;injection hk with hk;subst hk;exact h1)
  exact .mp b c es l ((hv.bY n h2).trans aq) (e2.trans hl) (e1.trans hh) he
 | gh us xs aq hx=>
  refine .gh us _ ((hv.bY n h2).trans aq) (fun j x hj=>?_)
  rw[List.getElem?_map]at hj
  cases hy:xs[j]? with
  | none=>rw[hy]at hj;cases hj
  | some y=>
   rw[hy]at hj
   injection hj with hj
   subst hj
   exact(hx j y hy).eO hv
theorem Rl.eO(h:Rl w0 N lab ρ σ a w)(hv:kS w w' lab bE ρ ct ns cn)(U:eD w0 w w')(hl:∀ b k,bE b=some k->(w0.heap.size<=b\/w0.L b≠none)/\b<w'.heap.size/\k≠[])(hF:∀ r,aM r cn=true->w0.F r=none){nr:List (Nat×au)}
  (jb:∀ r x,nr.lookup r=some x->bP w' w0.heap.size bE ct r x):Rl w0 N bE ct (σ.aF ns cn nr) a w':=by
 refine⟨h.below.trans U,hl,fun r x hx=>?_,fun k=>(h.tmp k).eO hv,h.size,h.defers,fun r l hr=>?_,h.cB⟩
 ·simp only[S.aF]at hx
  split at hx
  ·rename_i y hy
   injection hx with hx
   subst hx
   exact jb r y hy
  ·cases hm:(aM r ns || aM r cn)with
   | true=>rw[hm]at hx;cases hx
   | false=>
    rw[hm,cond_false]at hx
    rw[Bool.or_eq_false_iff]at hm
    cases hy:σ.m r with
    | none=>rw[hy]at hx;cases hx
    | some y=>
     rw[hy]at hx
     injection hx with hx
     subst hx
     exact(h.root r y hy).eO hv hm.1 hm.2
 ·have hc:aM r cn=false:=by
   cases hc:aM r cn with
   | false=>rfl
   | true=>rw[hF r hc]at hr;cases hr
  exact(hv.bY r hc).trans (h.fix r l hr)
end
end Go.Proofs.YtjldnlbiefpekaaDoor
namespace Go.Proofs.YtjldnlbiefpekaaDoor
open Go.RowKit
set_option linter.unusedVariables false
inductive Mu where
 | blk (r:Nat) (cs:List Lf) (vs:List (V×Option Nat))
 | sl (q:Nat) (y:V)
def Mu.root:Mu->Nat
 | .blk r _ _=>r
 | .sl q _=>q
def ny(m:Nat->Option au):Lf->Option (V×Option Nat)
 | .v x=>some (x.fm,none)
 | .own [q]=>match m q with
  | some (.sl y)=>bif y.av then some (y.fm,none)else some (y,some q)
  | _=>none
 | _=>none
def kT(m:Nat->Option au):List Lf->Option (List (V×Option Nat))
 | []=>some []
 | l :: ls=>match ny m l,kT m ls with
  | some v,some vs=>some (v :: vs)
  | _,_=>none
def nA(σ:S):PK->A->Option (Option Mu)
 | .v _ _,_=>some none
 | .p _ _ off,.aE r j=>(match (bif Nat.beq j off then σ.m r else none)with
  | some (.blk cs)=>(match kT σ.m cs with
   | some vs=>bif Nat.blt cs.length 999 then some (some (.blk r cs vs))else none
   | none=>none)
  | _=>none)
 | .s _ _,.lf (.own [q])=>(match σ.m q with
  | some (.sl y)=>bif y.av then none else some (some (.sl q y))
  | _=>none)
 | _,_=>none
def eY(σ:S):List PK->List Operand->Option (List Mu)
 | [],[]=>some []
 | p :: ps,x :: xs=>(match nA σ p (ah σ x),eY σ ps xs with
  | some (some mu),some ak=>some (mu :: ak)
  | some none,some ak=>some ak
  | _,_=>none)
 | _,_=>none
def vp(i:Nat):Nat->List (V×Option Nat)->List (Nat×Nat)
 | _,[]=>[]
 | j,(_,some q) :: vs=>(q,60000+1000*i+j) :: vp i (j+1) vs
 | j,(_,none) :: vs=>vp i (j+1) vs
def fT:Nat->List Mu->List (Nat×Nat)
 | _,[]=>[]
 | i,.blk r _ vs :: ak=>(r,nF i) :: (vp i 0 vs++fT (i+1) ak)
 | i,.sl q _ :: ak=>(q,nF i) :: fT (i+1) ak
def Bt(ns:List Nat):Lf->Bool
 | .own k=>!aT k ns
 | _=>true
def jC{X:Type}(σ:S)(ns:List Nat):List Lf->(List V->Option X)->Option X
 | [],k=>k []
 | x :: xs,k=>bif Bt ns x then dP σ x fun y=>jC σ ns xs fun ys=>k (y.fm :: ys)else none
def jZ{X:Type}(σ:S)(ns:List Nat)(x:A)(k:Pt->Option X):Option X:=
 match x with
 | .lf y=>jC σ ns [y] fun vs=>k (false,vs)
 | .agg ys=>jC σ ns ys fun vs=>k (true,vs)
 | _=>none
def dZ{X:Type}(σ:S)(ns:List Nat):(ps:List PK)->List Operand->List Mu->(iS ps->Option X)->Option X
 | [],[],[],k=>k ()
 | .v b t :: ps,x :: xs,ak,k=>jZ σ ns (ah σ x) fun p=>bif p.1==b then (match dec t 0 p.2 with
  | some y=>dZ σ ns ps xs ak fun ys=>k (y,ys)
  | none=>none)else none
 | .p t g _ :: ps,_ :: xs,.blk _ _ vs :: ak,k=>(match (bif Nat.beq (g % 2) 0 then dec t g (vs.map (·.1))else none)with
  | some y=>dZ σ ns ps xs ak fun ys=>k (y,ys)
  | none=>none)
 | .s t g :: ps,_ :: xs,.sl _ y :: ak,k=>(match (bif Nat.beq (g % 2) 0 then y.bN t (g+2)else none)with
  | some z=>dZ σ ns ps xs ak fun ys=>k (z,ys)
  | none=>none)
 | _,_,_,_=>none
def oZ(w:World)(ρ:Nat->Loc)(rs:List Nat):Nat->Loc:=fun n=>
 if n<60000 then (if (n-20000) % 1000=0 then ρ (rs.getD ((n-20000) / 1000) 0)else (match ρ (rs.getD ((n-20000) / 1000) 0)with
  | .blk b off=>.bS ((w.cell? ⟨b,off+((n-20000) % 1000-1),none⟩).getD undef)
  | .bS v=>.bS v
  | .aN us=>.aN us))
 else (match ρ (rs.getD ((n-60000) / 1000) 0)with
  | .blk b off=>.bS ((w.cell? ⟨b,off+(n-60000) % 1000,none⟩).getD undef)
  | .bS v=>.bS v
  | .aN us=>.aN us)
theorem yL{w:World}{ρ:Nat->Loc}{rs:List Nat}{i r:Nat}(h:rs[i]?=some r)(hi:i<40):oZ w ρ rs (nF i)=ρ r:=by
 have h1:nF i<60000:=by unfold nF;omega
 have h2:(nF i-20000) % 1000=0:=by unfold nF;omega
 have h3:(nF i-20000) / 1000=i:=by unfold nF;omega
 have h4:rs.getD i 0=r:=by rw[List.getD_eq_getElem?_getD,h];rfl
 unfold oZ
 rw[if_pos h1,if_pos h2,h3,h4]
theorem S4{w:World}{ρ:Nat->Loc}{rs:List Nat}{i j r b off:Nat}{u:Value}{x:V}(h:rs[i]?=some r)(hi:i<40)(hj:j<999)(aq:ρ r = .blk b off)(hu:w.cell? ⟨b,off+j,none⟩=some u):oZ w ρ rs (nC i j x) = .bS u:=by
 have h4:rs.getD i 0=r:=by rw[List.getD_eq_getElem?_getD,h];rfl
 unfold oZ nC
 cases x.av with
 | true=>
  have h1:20001+1000*i+j<60000:=by omega
  have h2:¬ (20001+1000*i+j-20000) % 1000=0:=by omega
  have h3:(20001+1000*i+j-20000) / 1000=i:=by omega
  have h5:(20001+1000*i+j-20000) % 1000-1=j:=by omega
  simp only[cond_true]
  rw[if_pos h1,if_neg h2,h3,h4,aq,h5]
  simp[hu]
 | false=>
  have h1:¬ 60000+1000*i+j<60000:=by omega
  have h3:(60000+1000*i+j-60000) / 1000=i:=by omega
  have h5:(60000+1000*i+j-60000) % 1000=j:=by omega
  simp only[cond_false]
  rw[if_neg h1,h3,h4,aq,h5]
  simp[hu]
def V.Bu:V->Bool
 | .sl _ o _ _=>Nat.beq (o % 2) 0
 | _=>true
section
variable {P:Program} {w w':World} {w0:Wd} {B N:Nat} {lab bE af:aG} {ρ ct:Nat->Loc} {σ:S} {a:Act} {X:Type} {d:Nat} {r:X} {ns cn:List Nat}
theorem RV.KC{B':Nat}{q:List Nat}{x:V}{v:Value}(h:RV w B lab q x v)(hx:x.Bu=true):RV w B' lab q x v:=by
 induction h with
 | int=>exact .int _ _ _
 | bool=>exact .bool _ _
 | str=>exact .str _ _
 | nil=>exact .nil _
 | aY=>exact .aY _ _ _
 | bn=>exact .bn _ _ _ _ _ (by first | assumption | omega)
 | bF=>exact .bF _ _ _ _ _ (by first | assumption | omega)
 | av q t o qn l b off cap u ho hl U h1 hcap hc hr ih=>
  have hx:=Nat.eq_of_beq_eq_true hx
  have S5:o=0:=by omega
  subst S5
  refine .av _ _ _ _ _ _ _ _ u ho hl U (by omega) hcap hc (fun i h j x bx=>ih i h j x bx ?_)
  have:=om t 0 l[i] x (List.mem_of_getElem? bx)
  cases x with
  | sl t' o' q' l'=>
   have:o'=0:=by simpa [V.gr]using this
   subst this
   rfl
  | _=>rfl
 | own q t o qn l b cap cs u hl hh hs hn hm hc hr ih=>
  have hx:=Nat.eq_of_beq_eq_true hx
  refine .own _ _ _ _ _ _ _ cs u hl hh hs hn hm hc (fun i h j x bx=>ih i h j x bx ?_)
  have:=om t o l[i] x (List.mem_of_getElem? bx)
  cases x with
  | sl t' o' q' l'=>
   have:o'=o:=by simpa [V.gr]using this
   subst this
   show Nat.beq (o' % 2) 0=true
   rw[show o' % 2=0 by omega]
   rfl
  | _=>rfl
theorem RV.out{q q':List Nat}{x:V}{v:Value}(h:RV w B lab q x v)(h1:∀ b,lab b=none->af b=none)(h2:∀ b k,lab b=some k->k≠[]/\(aT k ns=false->af b=none))(hq:x.av=true\/aT q ns=false){B':Nat}:RV w B' af q' x.fm v:=by
 induction h generalizing q' with
 | int=>exact .int _ _ _
 | bool=>exact .bool _ _
 | str=>exact .str _ _
 | nil=>exact .nil _
 | aY=>exact .aY _ _ _
 | bn=>exact .bn _ _ _ _ _ (by first | assumption | omega)
 | bF=>exact .bF _ _ _ _ _ (by first | assumption | omega)
 | av q t o qn l b off cap u ho hl U h1' hcap hc hr ih=>
  refine .av _ _ _ _ _ _ _ _ u (by omega) (h1 b hl) U (by omega) hcap (fun i h j x hx=>?_) (fun i h j x hx=>?_)
  ·obtain⟨y,hy,_⟩:=oq t o l[i] j x hx
   exact hc i h j y hy
  ·obtain⟨y,hy,rfl⟩:=oq t o l[i] j x hx
   exact ih i h j y hy (.inl (fP t o l[i] ho j y hy))
 | own q t o qn l b cap cs u hl hh hs hn hm hc hr ih=>
  have gx:aT q ns=false:=by
   rcases hq with hq | hq
   ·simp[V.av]at hq;omega
   ·exact hq
  obtain⟨az,bI⟩:=h2 b q hl
  refine .av _ _ _ _ _ _ _ _ u (by omega) (bI gx) (Array.getElem?_eq_some_iff.1 hh).1 (by omega) hn (fun i h j x hx=>?_) (fun i h j x hx=>?_)
  ·obtain⟨y,hy,_⟩:=oq t o l[i] j x hx
   have:=hc i h j y hy
   rw[Nat.zero_add,cell_of_row w b _ cs _ _ hh]
   exact this
  ·obtain⟨y,hy,rfl⟩:=oq t o l[i] j x hx
   exact ih i h j y hy (.inr (by rw[sV az];exact gx))
theorem S6{x:Lf}{k:V->Option X}(h:dP σ x k=some r):∃ y,k y=some r/\∀ lab ρ a w,Rl w0 N lab ρ σ a w->∀ u,bw w w0.heap.size lab ρ x u->∃ q,(x = .own q\/y.av=true)/\RV w w0.heap.size lab q y u:=by
 cases x with
 | v y=>exact⟨y,h,fun lab ρ a w hR u hu=>⟨[],.inr hu.1,hu.2⟩⟩
 | dead=>cases h
 | own q=>
  obtain⟨y,hy,h'⟩:=l6 q k h
  refine⟨y,h',fun lab ρ a w hR u hu=>⟨q,.inl rfl,?_⟩⟩
  obtain⟨v,hv,hr⟩:=hy.ok hR.root
  have:v=u:=by
   have h2:=hu.2
   rw[hv]at h2
   injection h2
  subst this
  exact hr
structure sW (ns:List Nat) (lab af:aG):Prop where
 none:∀ b,lab b=none->af b=none
 rest:∀ b k,lab b=some k->k≠[]/\(aT k ns=false->af b=Option.none)
theorem Fs:∀ (xs:List Lf) (k:List V->Option X),jC σ ns xs k=some r->∃ vs,k vs=some r/\vs.length=xs.length/\∀ lab ρ a w af,Rl w0 N lab ρ σ a w->sW ns lab af->∀ (j:Nat) x y u,xs[j]?=some x->vs[j]?=some y->bw w w0.heap.size lab ρ x u->RV w w.heap.size af [] y u
 | [],k,h=>⟨[],h,rfl,fun _ _ _ _ _ _ _ j x y u hx=>by simp at hx⟩
 | x :: xs,k,h=>by
  unfold jC at h
  cases ho:Bt ns x with
  | false=>rw[ho]at h;cases h
  | true=>
   rw[ho,cond_true]at h
   obtain⟨y,h2,hy⟩:=S6 (w0:=w0) (N:=N) h
   obtain⟨ys,h3,hl,hr⟩:=Fs xs _ h2
   refine⟨y.fm :: ys,h3,by simp[hl],fun lab ρ a w af hR hS j x' y' u bx cA hu=>?_⟩
   cases j with
   | zero=>
    simp at bx cA
    subst bx cA
    obtain⟨q,hq,iJ⟩:=hy lab ρ a w hR u hu
    refine iJ.out hS.none hS.rest ?_
    rcases hq with rfl | hq
    ·exact .inr (by simpa [Bt]using ho)
    ·exact .inl hq
   | succ j=>exact hr lab ρ a w af hR hS j x' y' u (by simpa using bx) (by simpa using cA) hu
theorem S7{x:A}{k:Pt->Option X}(h:jZ σ ns x k=some r):∃ p,k p=some r/\∀ lab ρ a w af,Rl w0 N lab ρ σ a w->sW ns lab af->∀ u,RA w w0.heap.size lab ρ x u->PV w w.heap.size af (fun _=>[]) p u:=by
 unfold jZ at h
 split at h
 ·rename_i y
  obtain⟨vs,h2,hl,hr⟩:=Fs (w0:=w0) (N:=N) _ _ h
  refine⟨_,h2,fun lab ρ a w af hR hS u hu=>⟨#[u],rfl,by simp[hl],fun j x hx=>?_⟩⟩
  have hj:j=0:=by
   have:=(List.getElem?_eq_some_iff.1 hx).1
   simp only[hl]at this
   simpa using this
  subst hj
  exact⟨u,rfl,hr lab ρ a w af hR hS 0 y x u rfl hx hu⟩
 ·rename_i ys
  obtain⟨vs,h2,hl,hr⟩:=Fs (w0:=w0) (N:=N) _ _ h
  refine⟨_,h2,fun lab ρ a w af hR hS u hu=>?_⟩
  obtain⟨us,rfl,hs⟩:=hu
  refine⟨us,rfl,by rw[hl];exact hs.1,fun j x hx=>?_⟩
  have hj:j<ys.length:=by rw[<-hl];exact(List.getElem?_eq_some_iff.1 hx).1
  obtain⟨v,hv,bq⟩:=hs.2 j _ (List.getElem?_eq_getElem hj)
  exact⟨v,hv,hr lab ρ a w af hR hS j _ x v (List.getElem?_eq_getElem hj) hx bq⟩
 ·cases h
def rG(σ:S):Mu->Prop
 | .blk r cs vs=>σ.m r=some (.blk cs)/\kT σ.m cs=some vs/\cs.length<999
 | .sl q y=>σ.m q=some (.sl y)/\y.av=false
def yM:List Mu->List In->Prop
 | [],[]=>True
 | .blk _ _ vs :: ak,.blk xs :: ins=>(aK (vs.map (·.1)) xs/\∀ x∈xs,x.fC=true/\x.Bu=true)/\yM ak ins
 | .sl _ y :: ak,.sl y' :: ins=>(Wk y y'/\y'.Bu=true)/\yM ak ins
 | _,_=>False
def vr(w:World)(B:Nat)(lab:aG)(ρ:Nat->Loc)(ins:List In):List Ar->List Value->Prop
 | [],[]=>True
 | x :: xs,v :: vs=>RA w B lab ρ (Fg ins x) v/\vr w B lab ρ ins xs vs
 | _,_=>False
theorem vr.get{ins:List In}:∀ (xs:List Ar) (vs:List Value),vr w B lab ρ ins xs vs->vs.length=xs.length/\∀ i,RA w B lab ρ ((rE ins xs).t i) (vs.toArray.getD i undef)
 | [],[],_=>⟨rfl,fun i=>trivial⟩
 | [],_ :: _,h=>h.elim
 | _ :: _,[],h=>h.elim
 | x :: xs,v :: vs,h=>by
  obtain⟨h1,h2⟩:=vr.get xs vs h.2
  refine⟨by simp[h1],fun i=>?_⟩
  cases i with
  | zero=>exact h.1
  | succ i=>
   have:=h2 i
   simp only[rE,List.getElem?_cons_succ,Array.getD_eq_getD_getElem?,List.getElem?_toArray]at this ⊢
   exact this
theorem S8{t:TC}{g:Nat}{x:T t}(hg:Nat.beq (g % 2) 0=true):∀ y∈enc t g x,y.fC=true/\y.Bu=true:=by
 intro y hy
 refine⟨Es t g x y hy,?_⟩
 have:=om t g x y hy
 cases y with
 | sl t' o' q' l'=>
  have:o'=g:=by simpa [V.gr]using this
  subst this
  exact hg
 | _=>rfl
def S9(σ:S):PK->A->Option Mu->Prop
 | .v _ _,_,none=>True
 | .p _ _ off,x,some (.blk r cs vs)=>x = .aE r off/\rG σ (.blk r cs vs)
 | .s _ _,x,some (.sl q y)=>x = .lf (.own [q])/\rG σ (.sl q y)
 | _,_,_=>False
theorem nB{p:PK}{x:A}{z:Option Mu}(h:nA σ p x=some z):S9 σ p x z:=by
 cases p with
 | v b t=>
  have h:(some none:Option (Option Mu))=some z:=h
  injection h with h
  subst h
  trivial
 | p t g off=>
  cases x with
  | aE r j=>
   have h:(match (bif Nat.beq j off then σ.m r else none)with
    | some (.blk cs)=>(match kT σ.m cs with
     | some vs=>bif Nat.blt cs.length 999 then some (some (.blk r cs vs))else none
     | none=>none)
    | _=>none)=some z:=h
   cases hj:Nat.beq j off with
   | false=>rw[hj]at h;cases h
   | true=>
    obtain rfl:=Nat.eq_of_beq_eq_true hj
    rw[hj,cond_true]at h
    split at h
    ·rename_i cs bU
     split at h
     ·rename_i vs cN
      cases hl:Nat.blt cs.length 999 with
      | false=>rw[hl]at h;cases h
      | true=>
       rw[hl,cond_true]at h
       injection h with h
       subst h
       exact⟨rfl,bU,cN,by have:=Nat.le_of_ble_eq_true hl;omega⟩
     ·cases h
    ·cases h
  | _=>cases h
 | s t g=>
  have hx:(∃ q,x = .lf (.own [q])):=by
   unfold nA at h
   split at h
   ·rename_i e;cases e
   ·rename_i e;cases e
   ·exact⟨_,rfl⟩
   ·cases h
  obtain⟨q,rfl⟩:=hx
  have h:(match σ.m q with
   | some (.sl y)=>bif y.av then none else some (some (.sl q y))
   | _=>none)=some z:=h
  split at h
  ·rename_i y hy
   cases hf:y.av with
   | true=>rw[hf]at h;cases h
   | false=>
    rw[hf,cond_false]at h
    injection h with h
    subst h
    exact⟨rfl,hy,hf⟩
  ·cases h
theorem Bv:∀ (ps:List PK) (xs:List Operand) (ak:List Mu),eY σ ps xs=some ak->∀ mu∈ak,rG σ mu
 | [],[],ak,h=>by injection h with h;subst h;simp
 | p :: ps,x :: xs,ak,h=>by
  unfold eY at h
  split at h
  ·rename_i mu fq h1 h2
   injection h with h
   subst h
   have ih:=Bv ps xs fq h2
   have h1:=nB h1
   intro z hz
   rcases List.mem_cons.1 hz with rfl | hz
   ·cases p with
    | v=>exact h1.elim
    | p=>
     cases z with
     | blk=>exact h1.2
     | sl=>exact h1.elim
    | s=>
     cases z with
     | blk=>exact h1.elim
     | sl=>exact h1.2
   ·exact ih z hz
  ·rename_i fq h1 h2
   injection h with h
   subst h
   exact Bv ps xs fq h2
  ·cases h
 | [],_ :: _,ak,h=>by cases h
 | _ :: _,[],ak,h=>by cases h
theorem yN:∀ {ps:List PK} (i i':Nat) (x:iS ps),(hU ps i x).length=(hU ps i' x).length
 | [],_,_,_=>rfl
 | .v _ _ :: ps,i,i',x=>by simp only[hU,List.length_cons];rw[yN i i']
 | .p _ _ _ :: ps,i,i',x=>by simp only[hU,List.length_cons];rw[yN (i+1) (i'+1)]
 | .s _ _ :: ps,i,i',x=>by simp only[hU,List.length_cons];rw[yN (i+1) (i'+1)]
theorem Bw:∀ (ps:List PK) (xs:List Operand) (ak:List Mu) (k:iS ps->Option X),eY σ ps xs=some ak->dZ σ ns ps xs ak k=some r->∃ x,k x=some r/\yM ak (kR ps x)/\(hU ps 0 x).length=xs.length/\
  ∀ lab ρ a w af ρ',Rl w0 N lab ρ σ a w->sW ns lab af->∀ (ins:List In) (i:Nat),(∀ j z,(kR ps x)[j]?=some z->ins[i+j]?=some z)->(∀ j mu,ak[j]?=some mu->ρ' (nF (i+j))=ρ mu.root)->vr w w.heap.size af ρ' ins (hU ps i x) (xs.map a.eval)
 | [],[],ak,k,hm,h=>by
  injection hm with hm
  subst hm
  exact⟨(),h,trivial,rfl,fun _ _ _ _ _ _ _ _ _ _ _ _=>trivial⟩
 | .v b t :: ps,x :: xs,ak,k,hm,h=>by
  have iL:eY σ ps xs=some ak:=by
   unfold eY at hm
   split at hm
   ·rename_i mu fq h1 h2;exact(nB h1).elim
   ·rename_i fq h1 h2;rw[h2];exact hm
   ·cases hm
  unfold dZ at h
  obtain⟨p,h2,hp⟩:=S7 (w0:=w0) (N:=N) h
  cases U:p.1==b with
  | false=>rw[U]at h2;cases h2
  | true=>
   rw[U,cond_true]at h2
   have U:p.1=b:=by simpa using U
   subst U
   split at h2
   ·rename_i y hy
    obtain⟨ys,h3,h4,h5,h6⟩:=Bw ps xs ak _ iL h2
    refine⟨(y,ys),h3,h4,?_,fun lab ρ a w af ρ' hR hS ins i hi aq=>⟨?_,h6 lab ρ a w af ρ' hR hS ins i hi aq⟩⟩
    ·simp[hU,h5]
    ·have o3:=hp lab ρ a w af hR hS _ (hR.ah x)
     obtain⟨us,hu,hs,hr⟩:=o3
     have hk:=gS t 0 p.2 y hy
     have nD:∀ (j:Nat) z,(enc t 0 y)[j]?=some z->∃ v,us[j]?=some v/\z.av=true/\RV w w.heap.size af [] z v:=by
      intro j z hz
      have hj:j<p.2.length:=by rw[hk.1];exact(List.getElem?_eq_some_iff.1 hz).1
      obtain⟨v,hv,bq⟩:=hr j _ (List.getElem?_eq_getElem hj)
      exact⟨v,hv,fP t 0 y (by omega) j z hz,bq.wk (hk.2 j _ z (List.getElem?_eq_getElem hj) hz)⟩
     have hlen:us.size=(enc t 0 y).length:=hs.trans hk.1
     obtain⟨b,vs⟩:=p
     cases b with
     | true=>
      show RA _ _ _ _ (.agg ((enc t 0 y).map .v)) _
      refine⟨us,hu,by rw[List.length_map];exact hlen,fun j z hz=>?_⟩
      rw[List.getElem?_map]at hz
      cases vf:(enc t 0 y)[j]? with
      | none=>rw[vf]at hz;cases hz
      | some z'=>
       rw[vf]at hz
       injection hz with hz
       subst hz
       obtain⟨v,hv,g1,g2⟩:=nD j z' vf
       exact⟨v,hv,g1,g2⟩
     | false=>
      have hu:us = #[a.eval x]:=hu
      subst hu
      show RA _ _ _ _ (Fg ins (.pt (false,enc t 0 y))) _
      match he:enc t 0 y,nD,hlen with
      | [z],nD,_=>
       obtain⟨v,hv,g1,g2⟩:=nD 0 z rfl
       have:a.eval x=v:=by simpa using hv
       rw[this]
       exact⟨g1,g2⟩
      | [],_,_=>trivial
      | _ :: _ :: _,_,_=>trivial
   ·cases h2
 | .p t g off :: ps,x :: xs,ak,k,hm,h=>by
  unfold eY at hm
  split at hm
  ·rename_i mu fq h1 h2
   injection hm with hm
   subst hm
   have h1:=nB h1
   cases mu with
   | sl=>exact h1.elim
   | blk r cs vs=>
    have h1:ah σ x = .aE r off/\rG σ (.blk r cs vs):=h1
    unfold dZ at h
    split at h
    ·rename_i y hy
     cases hg:Nat.beq (g % 2) 0 with
     | false=>rw[hg]at hy;cases hy
     | true=>
      rw[hg,cond_true]at hy
      obtain⟨ys,h3,h4,h5,h6⟩:=Bw ps xs fq _ h2 h
      refine⟨(y,ys),h3,⟨⟨gS t g _ y hy,S8 hg⟩,h4⟩,by simp[hU,yN 1 0,h5],fun lab ρ a w af ρ' hR hS ins i hi aq=>⟨?_,?_⟩⟩
      ·have yO:=hi 0 _ rfl
       rw[Nat.add_zero]at yO
       have hx:=hR.ah x
       rw[h1.1]at hx
       obtain⟨b,o,e1,e2⟩:=hx
       show RA _ _ _ _ (match ins[i]? with | some (.blk _)=>.aE (nF i) off | some (.sl _)=>.lf (.own [nF i]) | none=>.undef) _
       rw[yO]
       have aW:=aq 0 _ rfl
       rw[Nat.add_zero]at aW
       exact⟨b,o,aW.trans e1,e2⟩
      ·refine h6 lab ρ a w af ρ' hR hS ins (i+1) (fun j z hz=>?_) (fun j mu dm=>?_)
       ·rw[show i+1+j=i+(j+1) by omega]
        exact hi (j+1) z hz
       ·rw[show i+1+j=i+(j+1) by omega]
        exact aq (j+1) mu dm
    ·cases h
  ·rename_i fq h1 h2
   exact(nB h1).elim
  ·cases hm
 | .s t g :: ps,x :: xs,ak,k,hm,h=>by
  unfold eY at hm
  split at hm
  ·rename_i mu fq h1 h2
   injection hm with hm
   subst hm
   have h1:=nB h1
   cases mu with
   | blk=>exact h1.elim
   | sl q y0=>
    have h1:ah σ x = .lf (.own [q])/\rG σ (.sl q y0):=h1
    unfold dZ at h
    split at h
    ·rename_i y hy
     cases hg:Nat.beq (g % 2) 0 with
     | false=>rw[hg]at hy;cases hy
     | true=>
      rw[hg,cond_true]at hy
      obtain⟨ys,h3,h4,h5,h6⟩:=Bw ps xs fq _ h2 h
      refine⟨(y,ys),h3,⟨⟨V.bR hy,?_⟩,h4⟩,by simp[hU,yN 1 0,h5],fun lab ρ a w af ρ' hR hS ins i hi aq=>⟨?_,?_⟩⟩
      ·show Nat.beq ((g+2) % 2) 0=true
       rw[show (g+2) % 2=g % 2 by omega]
       exact hg
      ·have yO:=hi 0 _ rfl
       rw[Nat.add_zero]at yO
       have hx:=hR.ah x
       rw[h1.1]at hx
       show RA _ _ _ _ (match ins[i]? with | some (.blk _)=>.aE (nF i) 0 | some (.sl _)=>.lf (.own [nF i]) | none=>.undef) _
       rw[yO]
       have aW:=aq 0 _ rfl
       rw[Nat.add_zero]at aW
       refine⟨hx.1,?_⟩
       have h2:=hx.2
       simp only[aP]at h2 ⊢
       rw[aW]
       exact h2
      ·refine h6 lab ρ a w af ρ' hR hS ins (i+1) (fun j z hz=>?_) (fun j mu dm=>?_)
       ·rw[show i+1+j=i+(j+1) by omega]
        exact hi (j+1) z hz
       ·rw[show i+1+j=i+(j+1) by omega]
        exact aq (j+1) mu dm
    ·cases h
  ·rename_i fq h1 h2
   exact(nB h1).elim
  ·cases hm
 | [],_ :: _,ak,k,hm,h=>by cases hm
 | _ :: _,[],ak,k,hm,h=>by cases hm
end
end Go.Proofs.YtjldnlbiefpekaaDoor
namespace Go.Proofs.YtjldnlbiefpekaaDoor
open Go.RowKit
set_option linter.unusedVariables false
def ia(c0:Nat):Nat->List (V×Option Nat)->List Nat
 | _,[]=>[]
 | n,(_,some q) :: vs=>q :: ia c0 (n+1) vs
 | n,(_,none) :: vs=>(c0+n) :: ia c0 (n+1) vs
def rH(c0:Nat):Nat->List Mu->List Nat
 | _,[]=>[]
 | pos,.blk r _ vs :: ak=>r :: (ia c0 (pos+1) vs++rH c0 (pos+1+vs.length) ak)
 | pos,.sl q _ :: ak=>q :: rH c0 (pos+1) ak
def nE:List Nat->List V->List Nat
 | n :: bM,x :: xs=>bif x.av then nE bM xs else n :: nE bM xs
 | _,_=>[]
def ic(c0:Nat):Nat->List Mu->List In->List Nat
 | pos,.blk _ _ vs :: ak,.blk xs :: outs=>nE (ia c0 (pos+1) vs) xs++ic c0 (pos+1+vs.length) ak outs
 | pos,.sl _ _ :: ak,.sl _ :: outs=>ic c0 (pos+1) ak outs
 | _,_,_=>[]
def jD(ns cn:List Nat):List Nat->List Lf->List V->List Lf
 | n :: bM,l :: ls,x :: xs=>(bif x.plain then .v x else bif x.av then l.aF ns cn else .own [n]) :: jD ns cn bM ls xs
 | _,_,_=>[]
def mo:List Nat->List V->List (Nat×au)
 | n :: bM,x :: xs=>bif x.av then mo bM xs else (n,.sl x) :: mo bM xs
 | _,_=>[]
def gj(ns cn:List Nat)(c0:Nat):Nat->List Mu->List In->List (Nat×au)
 | pos,.blk r cs vs :: ak,.blk xs :: outs=>(r,.blk (jD ns cn (ia c0 (pos+1) vs) cs xs)) :: (mo (ia c0 (pos+1) vs) xs++gj ns cn c0 (pos+1+vs.length) ak outs)
 | pos,.sl q _ :: ak,.sl y :: outs=>bif y.fC then (q,.sl y) :: gj ns cn c0 (pos+1) ak outs else gj ns cn c0 (pos+1) ak outs
 | _,_,_=>[]
def By:List Nat->Bool
 | []=>true
 | n :: l=>!aM n l&&By l
def KD:In->Bool
 | .blk xs=>xs.all fun x=>x.av || x.loc
 | .sl y=>y.loc
def dL:Option Tmp->Nat
 | some d=>1000000000100000+1000*d
 | none=>90000
def ig{X:Type}(N:Nat)(σ:S)(dst:Option Tmp)(res:dj)(k:S->Option X):Option X:=
 match dst with
 | none=>k σ
 | some d=>bif Nat.blt d N then (match res with
  | .one p=>(match lN (p.1,fG (1000000000100000+1000*d) p.2)with
   | some y=>k ((dw (1000000000100000+1000*d) σ p.2).set d y)
   | none=>none)
  | .aU ps=>k ((eN (1000000000100000+1000*d) σ ps).set d (.aU (gf (1000000000100000+1000*d) ps))))else none
def sX(N:Nat)(ak:List Mu)(outs:List In)(cn:List Nat):Bool:=
 By cn&&(ak.all fun mu=>!aM mu.root cn)&&(cn.all fun n=>Nat.blt n N || Nat.ble 60000 n)&&outs.all KD
def rI{X:Type}(N:Nat)(σ:S)(dst:Option Tmp)(ak:List Mu)(ns cn:List Nat)(res:dj)(outs:List In)(k:S->Option X):Option X:=
 bif sX N ak outs cn then ig N (σ.aF ns cn (gj ns cn (dL dst) res.len ak outs)) dst res k else none
def gF{X:Type}(N:Nat)(σ:S)(dst:Option Tmp)(c:gE)(args:List Operand)(k:S->Option X):Option X:=
 match eY σ c.ps args with
 | some ak=>bif once (fT 0 ak)&&Nat.ble ak.length 40 then
   dZ σ ((fT 0 ak).map (·.1)) c.ps args ak fun x=>(match c.F x with
    | some y=>rI N σ dst ak ((fT 0 ak).map (·.1)) (ic (dL dst) (cC c.ro y.1).len ak (dY (cF c.ps) y.2)) (cC c.ro y.1) (dY (cF c.ps) y.2) k
    | none=>none)else none
 | none=>none
section
variable {P:Program} {w w':World} {w0:Wd} {B N:Nat} {lab bE af:aG} {ρ ct ρ':Nat->Loc} {σ:S} {a:Act} {X:Type} {d:Nat} {r:X} {ns cn:List Nat} {o:Oper} {rs:List Nat} {b9:List (Nat×Nat)}
theorem KE{n:Nat}:∀ {l:List (Nat×Nat)},aM n (l.map (·.1))=false->l.lookup n=none
 | [],_=>rfl
 | p :: l,h=>by
  simp only[List.map_cons,aM,Bool.or_eq_false_iff]at h
  rw[List.lookup_cons]
  have:(n==p.1)=false:=by
   cases U:n==p.1 with
   | false=>rfl
   | true=>
    have e:n=p.1:=by simpa using U
    have h1:=h.1
    rw[<-e,Nat.beq_refl]at h1
    cases h1
  rw[this]
  exact KE h.2
theorem Ta{b:Nat}{k:List Nat}{n m:Nat}(h:lab b=some k)(hk:k.getLast?=some n)(hm:b9.lookup n=some m):cr lab b9 id b=some (k.dropLast++[m]):=by
 simp[cr,h,hk,hm]
theorem Tb(az:∀ b k,lab b=some k->k≠[]):sW (b9.map (·.1)) lab (cr lab b9 id):=by
 refine⟨fun b h=>oV h,fun b k h=>⟨az b k h,fun hl=>?_⟩⟩
 simp only[cr,h]
 cases hk:k.getLast? with
 | none=>rfl
 | some n=>
  simp only[aT,hk]at hl
  simp[KE hl]
theorem Ft{m:Nat->Option au}:∀ (cs:List Lf) (vs:List (V×Option Nat)),kT m cs=some vs->vs.length=cs.length/\∀ (j:Nat) l,cs[j]?=some l->∃ v,vs[j]?=some v/\ny m l=some v
 | [],vs,h=>by injection h with h;subst h;exact⟨rfl,fun j l hl=>by simp at hl⟩
 | c :: cs,vs,h=>by
  unfold kT at h
  split at h
  ·rename_i v sE h1 h2
   injection h with h
   subst h
   obtain⟨k1,k2⟩:=Ft cs sE h2
   refine⟨by simp[k1],fun j l hl=>?_⟩
   cases j with
   | zero=>simp at hl;subst hl;exact⟨v,rfl,h1⟩
   | succ j=>exact k2 j l (by simpa using hl)
  ·cases h
theorem Tc{l:Lf}{v:V}{qo:Option Nat}(h:ny σ.m l=some (v,qo))(hR:Rl w0 N lab ρ σ a w)(hS:sW ns lab af){u:Value}(hu:bw w w0.heap.size lab ρ l u):
  (qo=none/\∀ B' q',RV w B' af q' v u)\/(∃ q,qo=some q/\v.av=false/\RV w w0.heap.size lab [q] v u):=by
 unfold ny at h
 split at h
 ·simp only[Option.some.injEq,Prod.mk.injEq]at h
  obtain⟨rfl,rfl⟩:=h
  exact .inl ⟨rfl,fun B' q'=>hu.2.out hS.none hS.rest (.inl hu.1)⟩
 ·rename_i q
  split at h
  ·rename_i y hy
   have bB:=hR.root q _ hy
   generalize hx:au.sl y=x at bB
   cases bB with
   | blk=>cases hx
   | mp=>cases hx
   | gh=>cases hx
   | sl v' y' aq hr=>
    injection hx with hx
    subst hx
    have q9:v'=u:=by
     have h2:=hu.2
     simp only[aP,aq]at h2
     injection h2
    subst q9
    cases hf:y.av with
    | true=>
     rw[hf,cond_true]at h
     simp only[Option.some.injEq,Prod.mk.injEq]at h
     obtain⟨rfl,rfl⟩:=h
     exact .inl ⟨rfl,fun B' q'=>hr.out hS.none hS.rest (.inl hf)⟩
    | false=>
     rw[hf,cond_false]at h
     simp only[Option.some.injEq,Prod.mk.injEq]at h
     obtain⟨rfl,rfl⟩:=h
     exact .inr ⟨q,rfl,hf,hr⟩
  ·cases h
 ·cases h
theorem KF{i:Nat}{v:V}{q:Nat}:∀ (vs:List (V×Option Nat)) (j0 j:Nat),vs[j]?=some (v,some q)->(q,60000+1000*i+(j0+j))∈vp i j0 vs
 | [],j0,j,h=>by simp at h
 | (v',qo) :: vs,j0,j,h=>by
  cases j with
  | zero=>
   simp at h
   obtain⟨rfl,rfl⟩:=h
   exact .head _
  | succ j=>
   have:=KF (i:=i) vs (j0+1) j (by simpa using h)
   rw[show j0+1+j=j0+(j+1) by omega]at this
   cases qo with
   | none=>exact this
   | some q'=>exact .tail _ this
theorem Fu{i:Nat}:∀ (cs:List V) (j0:Nat),(rD i j0 cs).length=cs.length
 | [],_=>rfl
 | c :: cs,j0=>by simp[rD,Fu cs]
theorem RV.gT{q:List Nat}{x:V}{u:Value}(h:RV w B lab q x u)(hp:x.plain=false)(hn:x.fC=true):gT u=true:=by
 cases h <;>first | rfl | cases hp | cases hn
theorem Wk.Fv{x y:V}(h:Wk x y)(hx:x.av=false):y.av=false:=by
 cases h with
 | same=>exact hx
 | nil=>cases hx
 | q=>exact hx
 | gr t o o' qn l h1 h2=>simp[V.av];omega
theorem Fw(hR:Rl w0 N lab ρ σ a w)(hS:sW ns lab (cr lab b9 id)):∀ (ak:List Mu) (ins:List In) (i:Nat),(∀ p∈fT i ak,b9.lookup p.1=some p.2)->(∀ j mu,ak[j]?=some mu->rs[i+j]?=some mu.root)->(∀ mu∈ak,rG σ mu)->yM ak ins->i+ak.length<=40->
  jB w w.heap.size (cr lab b9 id) (oZ w ρ rs) i ins
 | [],[],_,_,_,_,_,_=>trivial
 | [],_ :: _,_,_,_,_,h,_=>h.elim
 | .blk _ _ _ :: _,[],_,_,_,_,h,_=>h.elim
 | .sl _ _ :: _,[],_,_,_,_,h,_=>h.elim
 | .blk _ _ _ :: _,.sl _ :: _,_,_,_,_,h,_=>h.elim
 | .sl _ _ :: _,.blk _ :: _,_,_,_,_,h,_=>h.elim
 | .blk r cs vs :: ak,.blk xs :: ins,i,o4,cG,dm,gl,hi=>by
  obtain⟨hm,hg,hlen⟩:=dm _ (.head _)
  obtain⟨⟨hw,hx⟩,sY⟩:=gl
  obtain⟨g1,g2⟩:=Ft cs vs hg
  have eU:=cG 0 _ rfl
  rw[Nat.add_zero]at eU
  simp only[List.length_cons]at hi
  have dB:xs.length=cs.length:=by rw[<-hw.1,List.length_map,g1]
  have bB:=hR.root r _ hm
  generalize hz:au.blk cs=z at bB
  cases bB with
  | sl=>cases hz
  | mp=>cases hz
  | gh=>cases hz
  | blk b off cells e cS us aq hl hh hs hc=>
   injection hz with hz
   subst hz
   have nD:∀ (j:Nat) x,xs[j]?=some x->cells[off+j]?=some (us j)/\RV w w.heap.size (cr lab b9 id) [nC i j x] x (us j)/\(x.plain=false->oZ w ρ rs (nC i j x) = .bS (us j)):=by
    intro j x hj
    have ou:j<cs.length:=by rw[<-dB];exact(List.getElem?_eq_some_iff.1 hj).1
    obtain⟨v,hv,yP⟩:=g2 j _ (List.getElem?_eq_getElem ou)
    obtain⟨c1,c2⟩:=hc j _ (List.getElem?_eq_getElem ou)
    obtain⟨v,qo⟩:=v
    have Fx:Wk v x:=hw.2 j v x (by rw[List.getElem?_map,hv];rfl) hj
    obtain⟨sC,EI⟩:=hx x (List.mem_of_getElem? hj)
    refine⟨c1,?_,fun hp=>?_⟩
    ·rcases Tc yP hR hS c2 with ⟨rfl,h1⟩ | ⟨q,rfl,hf,h1⟩
     ·exact(h1 _ _).wk Fx
     ·have Fk:=Fx.Fv hf
      have hq:=o4 (q,60000+1000*i+(0+j)) (.tail _ (List.mem_append_left _ (KF vs 0 j hv)))
      rw[Nat.zero_add]at hq
      have h2:=(RV.cr (nm:=id) (p:=[]) h1 hq).wk Fx
      have e1:nC i j x=60000+1000*i+j:=by simp[nC,Fk]
      rw[e1]
      exact h2.KC EI
    ·exact S4 eU (by omega) (by omega) aq (by rw[cell_of_row w b _ cells _ _ hh];exact c1)
   refine⟨.blk b off cells e _ us ((yL eU (by omega)).trans aq) ?_ hh (by rw[Fu,dB];exact hs) (fun j z hz=>?_),fun j x hj hp=>?_,Fw hR hS ak ins (i+1) (fun p hp=>o4 p (.tail _ (List.mem_append_right _ hp))) (fun j mu sZ=>?_) (fun mu h=>dm mu (.tail _ h)) sY (by omega)⟩
   ·exact Ta hl rfl (o4 _ (.head _))
   ·have hj:j<xs.length:=by rw[<-Fu (i:=i) xs 0];exact(List.getElem?_eq_some_iff.1 hz).1
    have Bz:=Fo (i:=i) xs 0 j _ (List.getElem?_eq_getElem hj)
    rw[hz]at Bz
    injection Bz with Bz
    subst Bz
    rw[Nat.zero_add]
    obtain⟨c1,c2,c3⟩:=nD j _ (List.getElem?_eq_getElem hj)
    refine⟨c1,?_⟩
    cases hp:(xs[j]).plain with
    | true=>
     have e1:rC i j xs[j] = .v xs[j]:=by simp[rC,hp]
     rw[e1]
     exact⟨V.yc hp,c2.qQ hp⟩
    | false=>
     have e1:rC i j xs[j] = .own [nC i j xs[j]]:=by simp[rC,hp]
     rw[e1]
     exact⟨c2.gT hp (hx _ (List.getElem_mem _)).1,by simp only[aP,c3 hp]⟩
   ·obtain⟨c1,c2,c3⟩:=nD j x hj
    exact .sl _ x (c3 hp) c2
   ·have:=cG (j+1) mu (by simpa using sZ)
    rw[show i+(j+1)=i+1+j by omega]at this
    exact this
 | .sl q y :: ak,.sl y' :: ins,i,o4,cG,dm,gl,hi=>by
  obtain⟨hm,hf⟩:=dm _ (.head _)
  obtain⟨⟨hw,hx⟩,sY⟩:=gl
  have eU:=cG 0 _ rfl
  rw[Nat.add_zero]at eU
  simp only[List.length_cons]at hi
  have bB:=hR.root q _ hm
  generalize hz:au.sl y=z at bB
  cases bB with
  | blk=>cases hz
  | mp=>cases hz
  | gh=>cases hz
  | sl v y0 aq hr=>
   injection hz with hz
   subst hz
   refine⟨.sl v y' ((yL eU (by omega)).trans aq) ?_,Fw hR hS ak ins (i+1) (fun p hp=>o4 p (.tail _ hp)) (fun j mu sZ=>?_) (fun mu h=>dm mu (.tail _ h)) sY (by omega)⟩
   ·exact((RV.cr (nm:=id) (p:=[]) hr (o4 _ (.head _))).wk hw).KC hx
   ·have:=cG (j+1) mu (by simpa using sZ)
    rw[show i+(j+1)=i+1+j by omega]at this
    exact this
end
end Go.Proofs.YtjldnlbiefpekaaDoor
namespace Go.Proofs.YtjldnlbiefpekaaDoor
open Go.RowKit
set_option linter.unusedVariables false
def Fy:Loc->Nat×Nat
 | .blk b off=>(b,off)
 | .bS _=>(0,0)
 | .aN _=>(0,0)
def rJ(w:World)(b off:Nat):Nat->List Nat->List V->List (Nat×Value)
 | j,n :: bM,x :: xs=>bif x.av then rJ w b off (j+1) bM xs else (n,(w.cell? ⟨b,off+j,none⟩).getD undef) :: rJ w b off (j+1) bM xs
 | _,_,_=>[]
def lQ(w:World)(ρ:Nat->Loc)(c0:Nat):Nat->List Mu->List In->List (Nat×Value)
 | pos,.blk r _ vs :: ak,.blk xs :: outs=>rJ w (Fy (ρ r)).1 (Fy (ρ r)).2 0 (ia c0 (pos+1) vs) xs++lQ w ρ c0 (pos+1+vs.length) ak outs
 | pos,.sl _ _ :: ak,.sl _ :: outs=>lQ w ρ c0 (pos+1) ak outs
 | _,_,_=>[]
def KG(l:List (Nat×Value))(ρ:Nat->Loc):Nat->Loc:=fun n=>match l.lookup n with
 | some v=>.bS v
 | none=>ρ n
theorem Fz{w:World}{b off:Nat}:∀ (bM:List Nat) (xs:List V) (j:Nat),(rJ w b off j bM xs).map (·.1)=nE bM xs
 | [],[],_=>rfl
 | [],_ :: _,_=>rfl
 | _ :: _,[],_=>rfl
 | n :: bM,x :: xs,j=>by
  simp only[rJ,nE]
  cases x.av with
  | true=>exact Fz bM xs (j+1)
  | false=>simp only[cond_false,List.map_cons];rw[Fz bM xs (j+1)]
theorem BA{w:World}{ρ:Nat->Loc}{c0:Nat}:∀ (ak:List Mu) (outs:List In) (pos:Nat),(lQ w ρ c0 pos ak outs).map (·.1)=ic c0 pos ak outs
 | .blk r _ vs :: ak,.blk xs :: outs,pos=>by
  simp only[lQ,ic,List.map_append]
  rw[Fz,BA ak outs]
 | .sl _ _ :: ak,.sl _ :: outs,pos=>by
  simp only[lQ,ic]
  exact BA ak outs _
 | [],_,_=>by simp[lQ,ic]
 | .blk _ _ _ :: _,[],_=>rfl
 | .sl _ _ :: _,[],_=>rfl
 | .blk _ _ _ :: _,.sl _ :: _,_=>rfl
 | .sl _ _ :: _,.blk _ :: _,_=>rfl
theorem KH{n:Nat}:∀ {l:List (Nat×Value)},aM n (l.map (·.1))=false->l.lookup n=none
 | [],_=>rfl
 | p :: l,h=>by
  simp only[List.map_cons,aM,Bool.or_eq_false_iff]at h
  rw[List.lookup_cons]
  cases U:n==p.1 with
  | false=>exact KH h.2
  | true=>
   have e:n=p.1:=by simpa using U
   have h1:=h.1
   rw[<-e,Nat.beq_refl]at h1
   cases h1
theorem KI:∀ {l:List (Nat×Value)},By (l.map (·.1))=true->∀ p∈l,l.lookup p.1=some p.2
 | [],_,p,hp=>by cases hp
 | q :: l,h,p,hp=>by
  simp only[List.map_cons,By,Bool.and_eq_true,Bool.not_eq_true']at h
  rw[List.lookup_cons]
  rcases List.mem_cons.1 hp with rfl | hp
  ·simp
  ·cases U:p.1==q.1 with
   | false=>exact KI h.2 p hp
   | true=>
    have e:p.1=q.1:=by simpa using U
    exact absurd (List.mem_map_of_mem (f:=(·.1)) hp) (by rw[e];exact Kz h.1)
theorem yQ{c0:Nat}:∀ (vs:List (V×Option Nat)) (n:Nat),(ia c0 n vs).length=vs.length
 | [],_=>rfl
 | (_,some _) :: vs,n=>by simp[ia,yQ vs]
 | (_,none) :: vs,n=>by simp[ia,yQ vs]
theorem KJ{ns cn:List Nat}:∀ (bM:List Nat) (ls:List Lf) (xs:List V),bM.length=ls.length->xs.length=ls.length->(jD ns cn bM ls xs).length=ls.length/\
  ∀ (j:Nat) z,(jD ns cn bM ls xs)[j]?=some z->∃ n l x,bM[j]?=some n/\ls[j]?=some l/\xs[j]?=some x/\z=(bif x.plain then .v x else bif x.av then l.aF ns cn else .own [n])
 | [],[],[],_,_=>⟨rfl,fun j z hz=>by simp[jD]at hz⟩
 | n :: bM,l :: ls,x :: xs,h1,h2=>by
  obtain⟨k1,k2⟩:=KJ (ns:=ns) (cn:=cn) bM ls xs (by simpa using h1) (by simpa using h2)
  refine⟨by simp[jD,k1],fun j z hz=>?_⟩
  cases j with
  | zero=>simp only[jD,List.getElem?_cons_zero,Option.some.injEq]at hz;exact⟨n,l,x,rfl,rfl,rfl,hz.symm⟩
  | succ j=>exact k2 j z (by simpa [jD]using hz)
 | [],_ :: _,_,h1,_=>by simp at h1
 | _ :: _,[],_,h1,_=>by simp at h1
 | _ :: _,_ :: _,[],_,h2=>by simp at h2
 | [],[],_ :: _,_,h2=>by simp at h2
theorem KL:∀ (bM:List Nat) (xs:List V),∀ p∈mo bM xs,∃ (j:Nat) (x:V),bM[j]?=some p.1/\xs[j]?=some x/\x.av=false/\p.2 = .sl x
 | [],[],p,hp=>by cases hp
 | [],_ :: _,p,hp=>by cases hp
 | _ :: _,[],p,hp=>by cases hp
 | n :: bM,x :: xs,p,hp=>by
  simp only[mo]at hp
  have rest:p∈mo bM xs->∃ (j:Nat) (y:V),(n :: bM)[j]?=some p.1/\(x :: xs)[j]?=some y/\y.av=false/\p.2 = .sl y:=fun hp=>by
   obtain⟨j,y,h1,h2,h3,h4⟩:=KL bM xs p hp
   exact⟨j+1,y,by simpa using h1,by simpa using h2,h3,h4⟩
  cases hf:x.av with
  | true=>rw[hf]at hp;exact rest hp
  | false=>
   rw[hf,cond_false]at hp
   rcases List.mem_cons.1 hp with rfl | hp
   ·exact⟨0,x,rfl,rfl,hf,rfl⟩
   ·exact rest hp
theorem KM{w:World}{b off n:Nat}{x:V}:∀ (bM:List Nat) (xs:List V) (j0 j:Nat),bM[j]?=some n->xs[j]?=some x->x.av=false->(n,(w.cell? ⟨b,off+(j0+j),none⟩).getD undef)∈rJ w b off j0 bM xs
 | [],_,_,j,h,_,_=>by simp at h
 | _ :: _,[],_,j,_,h,_=>by simp at h
 | m :: bM,y :: xs,j0,j,h1,h2,hf=>by
  cases j with
  | zero=>
   simp at h1 h2
   subst h1 h2
   simp only[rJ,hf,cond_false]
   exact .head _
  | succ j=>
   have:=KM (w:=w) (b:=b) (off:=off) bM xs (j0+1) j (by simpa using h1) (by simpa using h2) hf
   rw[show j0+1+j=j0+(j+1) by omega]at this
   simp only[rJ]
   cases y.av with
   | true=>exact this
   | false=>exact .tail _ this
section
variable {P:Program} {w w':World} {w0:Wd} {B N:Nat} {lab bE af:aG} {ρ ct ρ':Nat->Loc} {σ:S} {a:Act} {X:Type} {d:Nat} {r:X} {ns cn:List Nat} {o:Oper} {rs:List Nat} {b9:List (Nat×Nat)} {nm BB:Nat->Nat} {c0:Nat}
theorem RV.s0{q:List Nat}{x:V}{v:Value}(h:RV w B lab q x v){B':Nat}(hB:B'<=B)(hl:∀ b,B<=b->af b=lab b)(hg:∀ b k,lab b=some k->af b=some k)(hx:x.loc=true):RV w B' af q x v:=by
 induction h with
 | int=>exact .int _ _ _
 | bool=>exact .bool _ _
 | str=>exact .str _ _
 | nil=>exact .nil _
 | aY=>exact .aY _ _ _
 | bn=>exact .bn _ _ _ _ _ (by first | assumption | omega)
 | bF=>exact .bF _ _ _ _ _ (by first | assumption | omega)
 | av q t o qn l b off cap u ho bI U h1 hcap hc hr ih=>
  have oS:o=1:=by
   match o,ho,hx with
   | 0,_,hx=>cases hx
   | 1,_,_=>rfl
   | n+2,ho,_=>omega
  subst oS
  have yz:=h1 rfl
  refine .av _ _ _ _ _ _ _ _ u ho ((hl b yz).trans bI) U (fun _=>Nat.le_trans hB yz) hcap hc (fun i h j x bx=>ih i h j x bx ?_)
  have:=om t 1 l[i] x (List.mem_of_getElem? bx)
  cases x with
  | sl t' o' q' l'=>
   have:o'=1:=by simpa [V.gr]using this
   subst this
   rfl
  | _=>rfl
 | own q t o qn l b cap cs u bI hh hs hn hm hc hr ih=>
  exact .own _ _ _ _ _ _ _ cs u (hg b q bI) hh hs hn hm hc (fun i h j x bx=>ih i h j x bx (Ks hx l[i] x (List.mem_of_getElem? bx)))
theorem eX.s0{nm:Nat->Nat}:∀ (ps:List Pt) (off:Nat) (vs:List Value) {B':Nat},eX w B lab nm off ps vs->B'<=B->(∀ b,B<=b->af b=lab b)->(∀ b k,lab b=some k->af b=some k)->(∀ n,off<=n->n<off+(ps.map fun p=>p.2.length).sum->nm n=BB n)->eX w B' af BB off ps vs
 | [],_,[],_,h,_,_,_,_=>h
 | [],_,_ :: _,_,h,_,_,_,_=>h
 | _ :: _,_,[],_,h,_,_,_,_=>h
 | p :: ps,off,v :: vs,B',h,hB,hl,hg,hn=>by
  obtain⟨⟨iQ,us,hu,hs,hr⟩,eW⟩:=h
  simp only[List.map_cons,List.sum_cons]at hn
  refine⟨⟨iQ,us,hu,hs,fun j x hx=>?_⟩,eX.s0 ps _ vs eW hB hl hg (fun n h1 h2=>hn n (by omega) (by omega))⟩
  obtain⟨v',bT,bq⟩:=hr j x hx
  have hj:j<p.2.length:=(List.getElem?_eq_some_iff.1 hx).1
  refine⟨v',bT,?_⟩
  show RV w B' af [BB (off+j)] x v'
  rw[<-hn (off+j) (by omega) (by omega)]
  exact bq.s0 hB hl hg (List.all_eq_true.1 iQ x (List.mem_of_getElem? hx))
theorem FA(hR:Rl w0 N lab ρ σ a w)(hv:kS w w' lab bE ρ ct ns cn)(fH:∀ b k,af b=some k->bE b=some k)(jt:∀ b,w.heap.size<=b->bE b=af b)(hB:w0.heap.size<=w.heap.size):
  ∀ (ak:List Mu) (ins outs:List In) (i pos:Nat),(∀ j mu,ak[j]?=some mu->rs[i+j]?=some mu.root)->(∀ mu∈ak,rG σ mu)->yM ak ins->i+ak.length<=40->yI w w' af (oZ w ρ rs) nm i pos ins outs->
  (∀ k n,(rH c0 pos ak)[k]?=some n->nm (pos+k)=n)->(∀ p∈lQ w' ρ c0 pos ak outs,ct p.1 = .bS p.2)->(∀ mu∈ak,aM mu.root cn=false)->outs.all KD=true->∀ p∈gj ns cn c0 pos ak outs,bP w' w0.heap.size bE ct p.1 p.2
 | [],[],[],_,_,_,_,_,_,_,_,_,_,_,p,hp=>by simp[gj]at hp
 | [],[],_ :: _,_,_,_,_,_,_,h,_,_,_,_,_,_=>h.elim
 | [],_ :: _,_,_,_,_,_,h,_,_,_,_,_,_,_,_=>h.elim
 | .blk _ _ _ :: _,[],_,_,_,_,_,h,_,_,_,_,_,_,_,_=>h.elim
 | .sl _ _ :: _,[],_,_,_,_,_,h,_,_,_,_,_,_,_,_=>h.elim
 | .blk _ _ _ :: _,.sl _ :: _,_,_,_,_,_,h,_,_,_,_,_,_,_,_=>h.elim
 | .sl _ _ :: _,.blk _ :: _,_,_,_,_,_,h,_,_,_,_,_,_,_,_=>h.elim
 | .blk _ _ _ :: _,.blk _ :: _,[],_,_,_,_,_,_,h,_,_,_,_,_,_=>h.elim
 | .sl _ _ :: _,.sl _ :: _,[],_,_,_,_,_,_,h,_,_,_,_,_,_=>h.elim
 | .blk _ _ _ :: _,.blk _ :: _,.sl _ :: _,_,_,_,_,_,_,h,_,_,_,_,_,_=>h.elim
 | .sl _ _ :: _,.sl _ :: _,.blk _ :: _,_,_,_,_,_,_,h,_,_,_,_,_,_=>h.elim
 | .blk r cs vs :: ak,.blk Td :: ins,.blk xs :: outs,i,pos,cG,dm,gl,hi,hO,bW,s3,lR,iQ,p,hp=>by
  obtain⟨hm,hg,hlen⟩:=dm _ (.head _)
  obtain⟨⟨hw,hx⟩,sY⟩:=gl
  obtain⟨g1,g2⟩:=Ft cs vs hg
  have eU:=cG 0 _ rfl
  rw[Nat.add_zero]at eU
  simp only[List.length_cons]at hi
  have FB:Td.length=cs.length:=by rw[<-hw.1,List.length_map,g1]
  obtain⟨⟨b,off,cells,iR,e,e',h1,h2,h3,h4,h5,h6,h7⟩,FC⟩:=hO
  have bB:=hR.root r _ hm
  generalize hz:au.blk cs=z at bB
  cases bB with
  | sl=>cases hz
  | mp=>cases hz
  | gh=>cases hz
  | blk b0 nG KN e0 cS us aq hl hh hs hc=>
   injection hz with hz
   subst hz
   rw[yL eU (by omega)]at h1
   have h1:ρ r = .blk b off:=h1
   rw[aq]at h1
   injection h1 with e1 e2
   subst e1 e2
   have Te:KN=cells:=by
    rw[hh]at h2
    injection h2 with h2
    injection h2
   subst Te
   have aW:=lR _ (.head _)
   have nv:ct r = .blk b0 nG:=(hv.bY r aW).trans aq
   have yR:nm pos=r:=by have:=bW 0 r rfl;rwa [Nat.add_zero]at this
   have Tf:∀ (j:Nat) n,(ia c0 (pos+1) vs)[j]?=some n->nm (pos+1+j)=n:=by
    intro j n hn
    have hj:j<(ia c0 (pos+1) vs).length:=(List.getElem?_eq_some_iff.1 hn).1
    have:=bW (j+1) n (by simp only[rH,List.getElem?_cons_succ];rw[List.getElem?_append_left hj];exact hn)
    rw[show pos+1+j=pos+(j+1) by omega]
    exact this
   have nD:∀ (j:Nat) x,xs[j]?=some x->∃ u,iR[nG+j]?=some u/\w'.cell? ⟨b0,nG+j,none⟩=some u/\((x.plain=true/\∀ (w:World) (B:Nat) (lab:aG) (q:List Nat),RV w B lab q x u)\/(x.plain=false/\x.av=true/\KN[nG+j]?=some u)\/(x.av=false/\RV w' w.heap.size af [nm (pos+1+j)] x u)):=by
    intro j x hj
    obtain⟨u,hu,hd⟩:=h7 j x hj
    exact⟨u,hu,by rw[cell_of_row w' b0 _ iR _ _ h3];exact hu,hd⟩
   have er:∀ (j:Nat) n x u,(ia c0 (pos+1) vs)[j]?=some n->xs[j]?=some x->x.av=false->w'.cell? ⟨b0,nG+j,none⟩=some u->ct n = .bS u:=by
    intro j n x u hn Tg hf hu
    have rB:=KM (w:=w') (b:=b0) (off:=nG) _ xs 0 j hn Tg hf
    rw[Nat.zero_add,hu]at rB
    exact s3 (n,u) (by simp only[lQ,aq,Fy];exact List.mem_append_left _ rB)
   simp only[gj]at hp
   rcases List.mem_cons.1 hp with rfl | hp
   ·obtain⟨k1,k2⟩:=KJ (ns:=ns) (cn:=cn) (ia c0 (pos+1) vs) cs xs (by rw[yQ,g1]) (by rw[h6,FB])
    refine .blk b0 nG iR e' _ (fun j=>iR.getD (nG+j) undef) nv (fH _ _ (by rw[h4,yR])) h3 (by show nG+(jD _ _ _ _ _).length<=_;rw[k1,<-FB,<-h6];exact h5) (fun j z hz=>?_)
    obtain⟨n,l,x,n1,n2,n3,rfl⟩:=k2 j z hz
    obtain⟨u,hu,FD,hd⟩:=nD j x n3
    have eu:iR.getD (nG+j) undef=u:=by rw[Array.getD_eq_getD_getElem?,hu];rfl
    rw[eu]
    refine⟨hu,?_⟩
    rcases hd with ⟨d1,d2⟩ | ⟨d1,d2,d3⟩ | ⟨d1,d2⟩
    ·rw[d1,cond_true]
     exact⟨V.yc d1,d2 _ _ _ _⟩
    ·rw[d1,d2,cond_false,cond_true]
     obtain⟨c1,c2⟩:=hc j l n2
     rw[c1]at d3
     injection d3 with d3
     rw[<-d3]
     exact c2.eO hv
    ·have lP:x.plain=false:=by
      cases lP:x.plain with
      | false=>rfl
      | true=>rw[V.yc lP]at d1;cases d1
     rw[lP,d1,cond_false,cond_false]
     exact⟨d2.AZ d1,by simp only[aP,er j n x u n1 n3 d1 FD]⟩
   ·rcases List.mem_append.1 hp with hp | hp
    ·obtain⟨j,x,n1,n2,n3,n4⟩:=KL _ _ p hp
     obtain⟨u,hu,FD,hd⟩:=nD j x n2
     rw[n4]
     refine .sl u x (er j p.1 x u n1 n2 n3 FD) ?_
     rcases hd with ⟨d1,d2⟩ | ⟨d1,d2,d3⟩ | ⟨d1,d2⟩
     ·exact d2 _ _ _ _
     ·rw[n3]at d2;cases d2
     ·rw[Tf j _ n1]at d2
      refine d2.s0 hB jt fH ?_
      rw[List.all_cons,Bool.and_eq_true]at iQ
      have:=List.all_eq_true.1 iQ.1 x (List.mem_of_getElem? n2)
      rwa [n3,Bool.false_or]at this
    ·rw[List.all_cons,Bool.and_eq_true]at iQ
     refine FA hR hv fH jt hB ak ins outs (i+1) (pos+1+vs.length) (fun j mu sZ=>?_) (fun mu h=>dm mu (.tail _ h)) sY (by omega) ?_ (fun k n hn=>?_) (fun p hp=>s3 p ?_) (fun mu h=>lR mu (.tail _ h)) iQ.2 p hp
     ·have:=cG (j+1) mu (by simpa using sZ)
      rw[show i+(j+1)=i+1+j by omega]at this
      exact this
     ·rw[g1,<-FB]
      exact FC
     ·have:=bW (1+vs.length+k) n (by
       rw[show 1+vs.length+k=(vs.length+k)+1 by omega]
       simp only[rH,List.getElem?_cons_succ]
       rw[List.getElem?_append_right (by rw[yQ];omega),yQ]
       rw[show vs.length+k-vs.length=k by omega]
       exact hn)
      rw[show pos+1+vs.length+k=pos+(1+vs.length+k) by omega]
      exact this
     ·simp only[lQ]
      exact List.mem_append_right _ hp
 | .sl q y0 :: ak,.sl y1 :: ins,.sl y :: outs,i,pos,cG,dm,gl,hi,hO,bW,s3,lR,iQ,p,hp=>by
  obtain⟨hm,hf⟩:=dm _ (.head _)
  obtain⟨_,sY⟩:=gl
  have eU:=cG 0 _ rfl
  rw[Nat.add_zero]at eU
  simp only[List.length_cons]at hi
  obtain⟨Th,FC⟩:=hO
  rw[List.all_cons,Bool.and_eq_true]at iQ
  have yR:nm pos=q:=by have:=bW 0 q rfl;rwa [Nat.add_zero]at this
  have hp:(p=(q,.sl y)/\y.fC=true)\/p∈gj ns cn c0 (pos+1) ak outs:=by
   simp only[gj]at hp
   cases hy:y.fC with
   | false=>rw[hy]at hp;exact .inr hp
   | true=>
    rw[hy]at hp
    rcases List.mem_cons.1 hp with h | h
    ·exact .inl ⟨h,rfl⟩
    ·exact .inr h
  rcases hp with ⟨rfl,hy⟩ | hp
  ·obtain⟨v,h1,h2⟩:=Th.resolve_left (by rintro rfl;cases hy)
   rw[yL eU (by omega)]at h1
   rw[yR]at h2
   exact .sl v y ((hv.bY q (lR _ (.head _))).trans h1) (h2.s0 hB jt fH iQ.1)
  ·refine FA hR hv fH jt hB ak ins outs (i+1) (pos+1) (fun j mu sZ=>?_) (fun mu h=>dm mu (.tail _ h)) sY (by omega) FC (fun k n hn=>?_) (fun p hp=>s3 p hp) (fun mu h=>lR mu (.tail _ h)) iQ.2 p hp
   ·have:=cG (j+1) mu (by simpa using sZ)
    rw[show i+(j+1)=i+1+j by omega]at this
    exact this
   ·have:=bW (k+1) n (by simpa [rH]using hn)
    rw[show pos+1+k=pos+(k+1) by omega]
    exact this
end
end Go.Proofs.YtjldnlbiefpekaaDoor
namespace Go.Proofs.YtjldnlbiefpekaaDoor
open Go.RowKit
set_option linter.unusedVariables false
section
variable {P:Program} {w w':World} {w0:Wd} {B N:Nat} {lab bE af:aG} {ρ ct ρ':Nat->Loc} {σ:S} {a:Act} {X:Type} {d:Nat} {r:X} {ns cn:List Nat} {o:Oper} {rs:List Nat} {b9:List (Nat×Nat)} {nm BB:Nat->Nat} {c0:Nat}
theorem Ti{dst:Option Tmp}{res:dj}{k:S->Option X}(h:ig N σ dst res k=some r):∃ aa,k aa=some r/\∀ lab ρ a w v,Rl w0 N lab ρ σ a w->jy w w0.heap.size lab (fun n=>dL dst+n) res v->∃ ρ',Rl w0 N lab ρ' aa (a.put dst v) w/\∀ r,r<dL dst->ρ' r=ρ r:=by
 unfold ig at h
 cases dst with
 | none=>exact⟨σ,h,fun lab ρ a w v hR _=>⟨ρ,hR,fun _ _=>rfl⟩⟩
 | some d=>
  have h:(bif Nat.blt d N then (match res with
   | .one p=>(match lN (p.1,fG (1000000000100000+1000*d) p.2)with
    | some y=>k ((dw (1000000000100000+1000*d) σ p.2).set d y)
    | none=>none)
   | .aU ps=>k ((eN (1000000000100000+1000*d) σ ps).set d (.aU (gf (1000000000100000+1000*d) ps))))else none)=some r:=h
  cases hN:Nat.blt d N with
  | false=>rw[hN]at h;cases h
  | true=>
   rw[hN,cond_true]at h
   have oU:d<N:=Nat.le_of_ble_eq_true hN
   cases res with
   | one p=>
    simp only at h
    split at h
    ·rename_i y hy
     refine⟨_,h,fun lab ρ a w v hR dU=>?_⟩
     obtain⟨ρ',fS,dK,_,dD⟩:=yD [p] (1000000000100000+1000*d) 0 σ ρ [v] (by omega) hR dU
     have Fb:=dD 0 _ v rfl rfl
     exact⟨ρ',fS.set (EN hy Fb) oU,dK⟩
    ·cases h
   | aU jA=>
    refine⟨_,h,fun lab ρ a w v hR dU=>?_⟩
    obtain⟨vs,rfl,hv⟩:=dU
    obtain⟨ρ',fS,dK,hlen,dD⟩:=yD jA (1000000000100000+1000*d) 0 σ ρ vs.toList (by omega) hR hv
    refine⟨ρ',fS.set ⟨vs,rfl,by simpa using hlen,fun j p hp=>?_⟩ oU,dK⟩
    have hj:j<vs.size:=by
     have:=(List.getElem?_eq_some_iff.1 hp).1
     rw[Nat.add_zero]at hlen
     rw[<-hlen]at this
     simpa using this
    exact⟨vs[j],Array.getElem?_eq_getElem hj,dD j p _ hp (by rw[Array.getElem?_toList,Array.getElem?_eq_getElem hj])⟩
theorem FE{f:Nat}{args:Array Operand}{bD:Array TypeId}{c:gE}{k:S->Option X}(ho:o.op = .call { callee:=.value (.func f),args,argTypes:=bD })(he:enters P f)(hc:nw P f c)(h:gF N σ o.dst c args.toList k=some r):∃ aa ak cn,k aa=some r/\eY σ c.ps args.toList=some ak/\(∀ n,aM n cn=true->n<N\/60000<=n)/\(∀ mu∈ak,aM mu.root cn=false)/\
  ∀ a w K Q lab ρ,Rl w0 N lab ρ σ a w->(∀ v w' bE ct lS,Rl w0 N bE lS aa (a.put o.dst v) w'->kS w w' lab bE ρ ct ((fT 0 ak).map (·.1)) cn->eD w0 w w'->(∀ r,r<dL o.dst->lS r=ct r)->K (a.put o.dst v) w')->o.wp P a w K Q:=by
 unfold gF at h
 split at h
 ·rename_i ak ij
  generalize o4:fT 0 ak=b9 at h
  cases eG:(once b9&&Nat.ble ak.length 40)with
  | false=>rw[eG]at h;cases h
  | true=>
   rw[eG,cond_true]at h
   rw[Bool.and_eq_true]at eG
   have aa8:=Nat.le_of_ble_eq_true eG.2
   have mh:∀ p∈fT 0 ak,b9.lookup p.1=some p.2:=by
    intro p hp
    rw[o4]at hp
    have:=List.all_eq_true.1 eG.1 p hp
    obtain⟨n,hn,he⟩:=(Option.any_eq_true _ _).1 this
    rw[hn,Nat.eq_of_beq_eq_true he]
   obtain⟨x,h2,gl,aa9,cX⟩:=Bw (w0:=w0) (N:=N) _ _ ak _ ij h
   clear h
   split at h2
   ·rename_i y hy
    unfold rI at h2
    generalize lR:ic (dL o.dst) (cC c.ro y.1).len ak (dY (cF c.ps) y.2)=cn at h2
    generalize l5:b9.map (·.1)=ns at h2 cX
    cases bJ:sX N ak (dY (cF c.ps) y.2) cn with
    | false=>rw[bJ]at h2;cases h2
    | true=>
     rw[bJ,cond_true]at h2
     simp only[sX,Bool.and_eq_true]at bJ
     obtain⟨⟨⟨Tj,KO⟩,KP⟩,Tk⟩:=bJ
     obtain⟨aa,h3,BC⟩:=Ti (w0:=w0) h2
     refine⟨aa,ak,cn,h3,ij,fun n hn=>?_,fun mu dm=>by simpa using List.all_eq_true.1 KO mu dm,fun a w K Q lab ρ hR hK=>?_⟩
     ·have:=List.all_eq_true.1 KP n (mm.1 hn)
      rw[Bool.or_eq_true]at this
      rcases this with h | h
      ·exact .inl (by have:=Nat.le_of_ble_eq_true h;omega)
      ·exact .inr (Nat.le_of_ble_eq_true h)
     have hS:sW ns lab (cr lab b9 id):=by rw[<-l5];exact Tb (fun b k U=>(hR.bf b k U).2.2)
     have KQ:=Bv _ _ _ ij
     let rs:=ak.map Mu.root
     have cG:∀ j mu,ak[j]?=some mu->rs[0+j]?=some mu.root:=by
      intro j mu hj
      rw[Nat.zero_add,List.getElem?_map,hj]
      rfl
     have hE:=Fw (rs:=rs) hR hS ak (kR c.ps x) 0 mh cG KQ gl (by omega)
     have hA:=cX lab ρ a w (cr lab b9 id) (oZ w ρ rs) hR hS (kR c.ps x) 0 (fun j z hz=>by rw[Nat.zero_add];exact hz) (fun j mu hj=>by
      have h1:=cG j mu hj
      rw[Nat.zero_add]at h1 ⊢
      exact yL h1 (by have:=(List.getElem?_eq_some_iff.1 hj).1;omega))
     obtain⟨Tl,Tn⟩:=vr.get _ _ hA
     let nm:Nat->Nat:=fun n=>if n<(cC c.ro y.1).len then dL o.dst+n else (rH (dL o.dst) (cC c.ro y.1).len ak).getD (n-(cC c.ro y.1).len) 0
     have dD:∀ (ps:List PK) (i:Nat) (x:iS ps),(hU ps i x).length=ps.length:=by
      intro ps
      induction ps with
      | nil=>intro i x;rfl
      | cons p ps ih=>
       intro i x
       cases p with
       | v=>exact congrArg (· + 1) (ih _ _)
       | p=>exact congrArg (· + 1) (ih _ _)
       | s=>exact congrArg (· + 1) (ih _ _)
     unfold Oper.wp
     rw[Bp w o a f args bD ho he,Oper.upon_enter]
     have kO:(args.map a.eval)=(args.toList.map a.eval).toArray:=by apply Array.ext';rw[Array.toList_map]
     rw[kO]
     have BD:∀ b k,cr lab b9 id b=some k->(∃ k',lab b=some k'/\aT k' ns=true)/\k≠[]:=by
      intro b k U
      cases hl:lab b with
      | none=>rw[hS.none b hl]at U;cases U
      | some k'=>
       refine⟨⟨k',rfl,?_⟩,?_⟩
       ·cases hq:aT k' ns with
        | true=>rfl
        | false=>rw[(hS.rest b k' hl).2 hq]at U;cases U
       ·simp only[cr,hl]at U
        split at U
        ·cases U
        ·cases KR:b9.lookup _ with
         | none=>rw[KR]at U;cases U
         | some n=>rw[KR]at U;injection U with U;subst U;simp
     have hQ:Hd w (cr lab b9 id):=w0.on hR.below (fun b k U=>by obtain⟨⟨k',hl,_⟩,_⟩:=BD b k U;exact(hR.bf b k' hl).1)
     refine(hc x y hy nm w (cr lab b9 id) (oZ w ρ rs) _ hE (fun b k U=>⟨?_,(BD b k U).2⟩) ?_ Tn hQ).mono fun e w' fR=>?_
     ·obtain⟨⟨k',hl,_⟩,_⟩:=BD b k U
      exact(hR.bf b k' hl).2.1
     ·rw[List.size_toArray,Tl,dD]
     ·obtain⟨v,gi,rfl,c8,vt,dU,FF⟩:=fR
      have hB:=hR.below.size
      let bE:aG:=fun b=>match cr lab b9 id b with
       | none=>if b<w.heap.size then lab b else gi b
       | some _=>gi b
      have e1:∀ b k,gi b=some k->bE b=some k:=by
       intro b k U
       show (match cr lab b9 id b with | none=>if b<w.heap.size then lab b else gi b | some _=>gi b)=some k
       split
       ·rename_i aW
        have:=(vt b k U).1
        have jt:w.heap.size<=b:=this.resolve_right (fun h=>h aW)
        rw[if_neg (by omega)]
        exact U
       ·exact U
      have e2:∀ b,w.heap.size<=b->bE b=gi b:=by
       intro b U
       show (match cr lab b9 id b with | none=>if b<w.heap.size then lab b else gi b | some _=>gi b)=gi b
       split
       ·rw[if_neg (by omega)]
       ·rfl
      have KS:∀ p∈lQ w' ρ (dL o.dst) (cC c.ro y.1).len ak (dY (cF c.ps) y.2),(lQ w' ρ (dL o.dst) (cC c.ro y.1).len ak (dY (cF c.ps) y.2)).lookup p.1=some p.2:=
       KI (by rw[BA,lR];exact Tj)
      generalize s3:lQ w' ρ (dL o.dst) (cC c.ro y.1).len ak (dY (cF c.ps) y.2)=hd at KS
      have To:hd.map (·.1)=cn:=by rw[<-s3,BA,lR]
      have hv:kS w w' lab bE ρ (KG hd ρ) ns cn:=by
       refine⟨c8.size,fun b U hk=>?_,fun n hn=>?_,fun b k U=>(hR.bf b k U).2⟩
       ·have aW:cr lab b9 id b=none:=by
         cases hl:lab b with
         | none=>exact hS.none b hl
         | some k=>exact(hS.rest b k hl).2 (hk k hl)
        refine⟨c8.block b U aW,?_⟩
        show (match cr lab b9 id b with | none=>if b<w.heap.size then lab b else gi b | some _=>gi b)=lab b
        rw[aW]
        exact if_pos U
       ·show (match hd.lookup n with | some v=>Loc.bS v | none=>ρ n)=ρ n
        rw[KH (by rw[To];exact hn)]
      have rK:∀ mu∈ak,aM mu.root cn=false:=fun mu dm=>by simpa using List.all_eq_true.1 KO mu dm
      have yS:=FA (c0:=dL o.dst) (nm:=nm) hR hv e1 e2 hB ak (kR c.ps x) (dY (cF c.ps) y.2) 0 (cC c.ro y.1).len cG KQ gl (by omega) FF (fun k n hn=>?_) (fun p hp=>?_) rK Tk
      ·have KT:eD w0 w w':=by
        refine⟨c8.os,c8.tape,c8.output,c8.size,fun k hk hL=>c8.block k (Nat.lt_of_lt_of_le hk hB) ?_⟩
        cases hl:lab k with
        | none=>exact hS.none k hl
        | some k'=>exact absurd hL ((hR.bf k k' hl).1.resolve_left (by omega))
       have fS:Rl w0 N bE (KG hd ρ) (σ.aF ns cn (gj ns cn (dL o.dst) (cC c.ro y.1).len ak (dY (cF c.ps) y.2))) a w':=by
        refine hR.eO hv KT (fun b k U=>?_) (fun n hn=>?_) (fun n z hz=>?_)
        ·have U:(match cr lab b9 id b with | none=>if b<w.heap.size then lab b else gi b | some _=>gi b)=some k:=U
         have KU:gi b=some k->(w0.heap.size<=b\/w0.L b≠none)/\b<w'.heap.size/\k≠[]:=by
          intro h1
          obtain⟨g1,g2,g3⟩:=vt b k h1
          refine⟨?_,g2,g3⟩
          rcases g1 with g1 | g1
          ·exact .inl (Nat.le_trans hB g1)
          ·cases aW:cr lab b9 id b with
           | none=>exact absurd aW g1
           | some k2=>
            obtain⟨⟨k',hl,_⟩,_⟩:=BD b k2 aW
            exact(hR.bf b k' hl).1
         split at U
         ·split at U
          ·have:=hR.bf b k U
           exact⟨this.1,Nat.lt_of_lt_of_le this.2.1 c8.size,this.2.2⟩
          ·exact KU U
         ·exact KU U
        ·have:=List.all_eq_true.1 KP n (mm.1 hn)
         rw[Bool.or_eq_true]at this
         refine hR.cB n ?_
         rcases this with h | h
         ·exact .inl (by have:=Nat.le_of_ble_eq_true h;omega)
         ·exact .inr (Nat.le_of_ble_eq_true h)
        ·have rB:(n,z)∈gj ns cn (dL o.dst) (cC c.ro y.1).len ak (dY (cF c.ps) y.2):=by
          clear yS
          generalize gj ns cn (dL o.dst) (cC c.ro y.1).len ak (dY (cF c.ps) y.2)=l at hz
          induction l with
          | nil=>cases hz
          | cons p l ih=>
           rw[List.lookup_cons]at hz
           cases U:n==p.1 with
           | true=>
            rw[U]at hz
            have e:n=p.1:=by simpa using U
            injection hz with hz
            rw[e,<-hz]
            exact .head _
           | false=>
            rw[U]at hz
            exact .tail _ (ih hz)
         exact yS (n,z) rB
       have Tp:jy w' w0.heap.size bE (fun n=>dL o.dst+n) (cC c.ro y.1) v:=?_
       ·obtain⟨lS,yT,o5⟩:=BC bE _ a w' v fS Tp
        exact hK v w' bE _ lS yT (by rw[o4,l5];exact hv) KT o5
       have FG:∀ (L:Nat),L=(cC c.ro y.1).len->∀ n,n<L->nm n=dL o.dst+n:=fun L hL n hn=>if_pos (by omega)
       generalize aba:cC c.ro y.1=res at dU FG
       cases res with
       | one p=>
        have dU:eX w' w.heap.size gi nm 0 [p] [v]:=dU
        exact eX.s0 [p] 0 [v] dU hB e2 e1 (fun n _ hn=>FG _ rfl n (by simpa [dj.len]using hn))
       | aU jA=>
        obtain⟨vs,e,cN⟩:=dU
        exact⟨vs,e,eX.s0 jA 0 vs.toList cN hB e2 e1 (fun n _ hn=>FG _ rfl n (by simpa [dj.len]using hn))⟩
      ·show (if (cC c.ro y.1).len+k<(cC c.ro y.1).len then dL o.dst+((cC c.ro y.1).len+k)else (rH (dL o.dst) (cC c.ro y.1).len ak).getD ((cC c.ro y.1).len+k-(cC c.ro y.1).len) 0)=n
       rw[if_neg (by omega),show (cC c.ro y.1).len+k-(cC c.ro y.1).len=k by omega,List.getD_eq_getElem?_getD,hn]
       rfl
      ·rw[s3]at hp
       show (match hd.lookup p.1 with | some v=>Loc.bS v | none=>ρ p.1) = .bS p.2
       rw[KS p hp]
   ·cases h2
 ·cases h
theorem Tq{f:Nat}{args:Array Operand}{bD:Array TypeId}{c:gE}{k:S->Option X}(ho:o.op = .call { callee:=.value (.func f),args,argTypes:=bD })(he:enters P f)(hc:nw P f c)(h:gF N σ o.dst c args.toList k=some r):∃ aa,k aa=some r/\gz P w0 N o σ aa:=by
 obtain⟨aa,ak,cn,h1,_,_,_,h2⟩:=FE (w0:=w0) ho he hc h
 refine⟨aa,h1,fun a w K Q hR hK=>?_⟩
 obtain⟨lab,ρ,hR⟩:=hR
 exact h2 a w K Q lab ρ hR fun v w' bE ct lS aA _ _ _=>hK _ _ ⟨bE,lS,aA⟩
end
end Go.Proofs.YtjldnlbiefpekaaDoor
