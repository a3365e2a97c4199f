/-
  Running the program over pure contents, and that it follows (part 2). Nothing here is a claim.
-/
import Derived.Laws.StructEq
import Derived.Test.YtinbifpbkcbnkaaGreatV1
set_option linter.unusedSimpArgs false
namespace Go.Proofs.YtinbifpbkcbnkaaGreat
open Go.RowKit
set_option linter.unusedVariables false
def azz{X:Type}(N:Nat)(σ:S)(dst:Option Tmp)(c x y:A)(k:S->Option X):Option X:=
 match c with
 | .lf (.v (.bool b))=>bif b then ig N σ dst x k else ig N σ dst y k
 | _=>none
def tE{X:Type}(P:Program)(s:TypeId)(x:A)(f:Nat)(k:A->Option X):Option X:=
 match C8 P s f,x with
 | some fd,.agg cs=>(match jn P fd.type,AH P fd.type with
  | some n,some true=>if fd.offset+n<=cs.length then k (.agg ((cs.drop fd.offset).take n))else none
  | some _,some false=>(match cs[fd.offset]? with
   | some y=>k (.lf y)
   | none=>none)
  | _,_=>none)
 | _,_=>none
def xO{X:Type}(mx:Bool)(x y:A)(k:A->Option X):Option X:=
 match x,y with
 | .lf (.v (.int kx a)),.lf (.v (.int _ b))=>k (.lf (.v (.int kx (bif mx then (if b > a then b else a)else (if b<a then b else a)))))
 | _,_=>none
def vH{X:Type}(P:Program)(t:TypeId)(x i:A)(k:A->Option X):Option X:=
 match x,i with
 | .lf (.v (.str s)),.lf (.v (.int _ iv))=>(match P.underlying t with
  | some .string=>if h:0<=iv/\iv.toNat<s.size then k (.lf (.v (.int .u8 ((s[iv.toNat]'h.2).toNat:Int))))else none
  | _=>none)
 | _,_=>none
def tF{X:Type}(x:Option A)(d:Int)(k:Int->Option X):Option X:=
 match x with
 | none=>k d
 | some (.lf (.v (.int _ n)))=>k n
 | _=>none
def vI{X:Type}(P:Program)(t:TypeId)(x:A)(lo hi:Option A)(k:A->Option X):Option X:=
 match x with
 | .lf (.v (.str s))=>(match P.underlying t with
  | some .string=>tF lo 0 fun l=>tF hi (s.size:Int) fun h=>if 0<=l/\l<=h/\h<=(s.size:Int)then k (.lf (.v (.str (s.extract l.toNat h.toNat))))else none
  | _=>none)
 | .lf (.v (.sl t' g qn l))=>(match pR P t with
  | some e=>(match jn P e with
   | some n=>if n=aB t' then (bif Nat.blt g 2 then tF lo 0 fun a=>tF hi (l.length:Int) fun b=>if 0<=a/\a<=b/\b<=(l.length:Int)then k (.lf (.v (.sl t' g false ((l.take b.toNat).drop a.toNat))))else none else none)else none
   | none=>none)
  | none=>none)
 | _=>none
def vJ(P:Program)(src dst:TypeId):Bool:=
 match P.underlying src,P.underlying dst with
 | some (.slice e),some .string=>(match P.underlying e with
  | some (.int .u8)=>true
  | _=>false)
 | _,_=>false
def tG{X:Type}(P:Program)(src dst:TypeId)(z:V)(k:A->Option X):Option X:=
 match z with
 | .sl .u8 _ _ l=>bif vJ P src dst then k (.lf (.v (.str (strOfNums l))))else none
 | .nil=>bif vJ P src dst then k (.lf (.v (.str (strOfNums []))))else none
 | _=>none
def l9{X:Type}(P:Program)(σ:S)(src dst:TypeId)(x:A)(k:A->Option X):Option X:=
 match x with
 | .lf (.v (.int _ n))=>(match P.underlying src,P.underlying dst with
  | some _,some (.int kd)=>k (.lf (.v (.int kd (kd.wrap n))))
  | _,_=>none)
 | .lf y=>gB σ y fun z=>tG P src dst z k
 | _=>none
section
variable {P:Program} {w w':World} {w0:Wd} {B N:Nat} {af ax:bq} {ρ ρ':Nat->Loc} {σ:S} {a:Act} {X:Type} {d:Nat} {r:X} {o:Oper}
theorem ah5{α:Type}(f:α->List Value)(s:Nat)(hf:∀ x,(f x).length=s)(l:List α):(l.flatMap f).length=l.length*s:=by
 induction l with
 | nil=>simp
 | cons a l ih=>rw[List.flatMap_cons,List.length_append,hf,ih,List.length_cons,Nat.succ_mul];omega
theorem ah6{α:Type}(f:α->List Value)(s:Nat)(hf:∀ x,(f x).length=s):∀ (l:List α) (k:Nat) (hk:k<l.length) (j:Nat),j<s->(l.flatMap f)[k*s+j]?=(f l[k])[j]?:=by
 intro l
 induction l with
 | nil=>intro k hk;simp at hk
 | cons a l ih=>
  intro k hk j hj
  rw[List.flatMap_cons]
  cases k with
  | zero=>rw[Nat.zero_mul,Nat.zero_add,List.getElem?_append_left (by rw[hf];exact hj)];rfl
  | succ k=>
   have e:(k+1)*s+j=s+(k*s+j):=by rw[Nat.succ_mul];omega
   rw[e,List.getElem?_append_right (by rw[hf];omega),hf,Nat.add_sub_cancel_left]
   exact ih k (by simpa using hk) j hj
theorem U2(z:Array Value)(s n:Nat)(hs:z.size=s)(h0:0<s):(madeCells z (n*s)).toList=(List.replicate n z.toList).flatten:=by
 have e:(List.replicate n z.toList).flatten=(List.replicate n ()).flatMap (fun _=>z.toList):=by
  rw[List.flatMap_def,List.map_replicate]
 rw[e]
 have hl:((List.replicate n ()).flatMap (fun _=>z.toList)).length=n*s:=by
  rw[ah5 (fun _=>z.toList) s (fun _=>by simpa using hs)]
  simp
 apply List.ext_getElem?
 intro i
 rcases Nat.lt_or_ge i (n*s)with hi | hi
 ·have hk:i / s<n:=Nat.div_lt_of_lt_mul (by rw[Nat.mul_comm];exact hi)
  have hj:i % s<s:=Nat.mod_lt _ h0
  have ei:i=i / s*s+i % s:=by rw[Nat.mul_comm];exact(Nat.div_add_mod i s).symm
  have h2:=ah6 (fun _=>z.toList) s (fun _=>by simpa using hs) (List.replicate n ()) (i / s) (by simpa using hk) (i % s) hj
  rw[<-ei]at h2
  rw[h2]
  have hz:i % s<z.size:=by omega
  simp only[madeCells,Array.toList_map,Array.toList_range,List.getElem?_map,List.getElem?_range hi,Option.map_some,hs]
  simp[hz]
 ·rw[List.getElem?_eq_none (by rw[Array.length_toList,size_madeCells];exact hi),List.getElem?_eq_none (by rw[hl];exact hi)]
theorem ah7{t:TypeId}{len:Nat}{parts:Array (Nat×Operand)}{k:S->Option X}(h:xN P N σ d t len parts.toList k=some r):∃ aj,k aj=some r/\∀ af ρ a w,Rl w0 N af ρ σ a w->
  ∃ w' ax ρ' v,(Instr.buildSlice t len (parts.map fun(i,x)=>(i,a.eval x))).run P w = .ok v w'/\Rl w0 N ax ρ' aj (a.put (some d) v) w':=by
 unfold xN at h
 split at h
 ·rename_i e tc gE
  obtain⟨eE,ht,i,hi,cT,gi⟩:=xL gE
  split at h
  ·rename_i z hz
   cases hc:(Nat.beq (full tc) 0&&Nat.beq z.cells.size (aB tc)&&Nat.blt (len*aB tc) 16777217)with
   | false=>rw[hc]at h;cases h
   | true=>
    rw[hc,cond_true]at h
    simp only[Bool.and_eq_true]at hc
    have hf:=Nat.eq_of_beq_eq_true hc.1.1
    have fR:=Nat.eq_of_beq_eq_true hc.1.2
    have hsm:len*aB tc<16777217:=by have:=Nat.le_of_ble_eq_true hc.2;omega
    have oM:i.zero=some z:=by unfold zeroOf at hz;simpa [hi]using hz
    split at h
    ·rename_i cs dn
     split at h
     ·rename_i vs fK
      split at h
      ·rename_i l hl
       obtain⟨hd,h⟩:=l8 h
       refine⟨_,h,fun af ρ a w hR=>?_⟩
       obtain⟨vL,pS,lJ⟩:=N5 tc 0 len vs l hl
       have N6:cX w w0.heap.size af ρ (List.replicate len (z.cells.toList.map gV)).flatten (madeCells z.cells (len*aB tc)):=by
        have e1:(List.replicate len (z.cells.toList.map gV)).flatten=((List.replicate len z.cells.toList).flatten).map gV:=by
         rw[List.map_flatten,List.map_replicate]
        rw[e1,<-U2 z.cells (aB tc) len fR (oF tc)]
        refine⟨by simp,fun j x hx=>?_⟩
        rw[List.getElem?_map]at hx
        cases hv:(madeCells z.cells (len*aB tc)).toList[j]? with
        | none=>rw[hv]at hx;cases hx
        | some v=>
         rw[hv]at hx
         injection hx with hx
         subst hx
         exact⟨v,by simpa using hv,HB v⟩
       obtain⟨ff,tH,aT⟩:=HF (w:=w) (B:=w0.heap.size) (af:=af) (ρ:=ρ) _ _ _ (parts.toList.map fun p=>(p.1,a.eval p.2)) cs dn N6 (by simp) (fun j p q hp hq=>by
        rw[List.getElem?_map]at hp hq
        cases hx:parts.toList[j]? with
        | none=>rw[hx]at hp;cases hp
        | some x=>
         rw[hx]at hp hq
         injection hp with hp
         injection hq with hq
         subst hp hq
         exact⟨rfl,hR.aA x.2⟩)
       have U3:=HH cs vs fK
       have ah8:ff.size=len*aB tc:=by rw[aT.1,U3,List.length_map,pS]
       have aW:(Instr.buildSlice t len (parts.map fun(i,x)=>(i,a.eval x))).run P w = .ok (.slice (some ⟨w.heap.size,0,none⟩) len len) (w.alloc (.cells ff e)):=by
        have Dh:(parts.map fun(i,x)=>(i,a.eval x)).toList=parts.toList.map fun p=>(p.1,a.eval p.2):=by simp
        by_cases h0:len*aB tc=0
        ·have hm:madeCells z.cells (len*aB tc) = #[]:=by rw[h0];simp[madeCells]
         rw[hm]at tH
         have N7:len*i.size=0:=by rw[cT];exact h0
         rw[<-cT]at tH
         have e0:∀ f:Nat->Value,Array.map f (Array.range 0) = #[]:=fun f=>by simp
         simp only[Instr.buildSlice,Sem.run_bind,run_underlying eE,Result.andThen_ok,sizeOf,typeInfo]
         simp[hi,N7]
         rw[e0,tH]
         simp[newRow]
        ·exact run_buildSlice (P:=P) w t e len _ ff i z eE hi oM (by rw[cT];omega) (by rw[cT];exact h0) (by rw[cT,Dh];exact tH)
       refine⟨_,bG af w.heap.size (some [d]),bG ρ d (.dJ (.slice (some ⟨w.heap.size,0,none⟩) len len)),_,aW,(hR.AK (hR.eg d (.inl hd)) (fun r hr=>cm _ _ _ hr) (.sl _ _ (bK _ _ _) ?_)).set ⟨rfl,by simp[cc,bK]⟩ hd⟩
       have iG:∀ i' (h':i'<l.length) j x,(enc tc 0 l[i'])[j]?=some x->∃ v,ff[i'*aB tc+j]?=some v/\∀ (w':World) (B':Nat) (ax:bq) (q':List Nat),RV w' B' ax q' x v:=by
        intro i' h' j x hx
        obtain⟨y,hy,hw⟩:=lJ i' h' j x hx
        obtain⟨v,hv,hr⟩:=aT.2 (i'*aB tc+j) (.v y) (by rw[U3,List.getElem?_map,hy];rfl)
        exact⟨v,hv,fun w' B' ax q'=>(hr.2.wk hw).xG (C0 tc 0 l[i'] hf x (List.mem_of_getElem? hx))⟩
       have:=RV.own (w:=w.alloc (.cells ff e)) (B:=w0.heap.size) (af:=bG af w.heap.size (some [d])) [d] tc 0 true l w.heap.size len ff (fun i j=>(ff[i*aB tc+j]?).getD undef)
        (bK _ _ _) (by rw[ht];exact heap_alloc_new w _) ah8 (by omega) ⟨by have:=Nat.le_mul_of_pos_right len (oF tc);unfold maxLen;omega,fun _=>vL.symm⟩ (fun i' h' j x hx=>?_) (fun i' h' j x hx=>?_)
       ·rw[vL]at this
        exact this
       ·obtain⟨v,hv,_⟩:=iG i' h' j x hx
        rw[hv];rfl
       ·obtain⟨v,hv,hr⟩:=iG i' h' j x hx
        rw[hv];exact hr _ _ _ _
      ·cases h
     ·cases h
    ·cases h
  ·cases h
 ·cases h
theorem U4{mx:Bool}{x y:A}{k:A->Option X}(h:xO mx x y k=some r):∃ z,k z=some r/\∀ (w:World) (B:Nat) (af:bq) (ρ:Nat->Loc) (t ty:TypeId) (u v:Value),RA w B af ρ x u->RA w B af ρ y v->
  ∃ t',((bif mx then Builtin.max_ #[t,t] ty #[u,v]else Builtin.min_ #[t,t] ty #[u,v]):Sem Value).run P w = .ok t' w/\RA w B af ρ z t':=by
 unfold xO at h
 split at h
 ·refine⟨_,h,fun w B af ρ t ty u v hu hv=>?_⟩
  obtain rfl:=hu.2.iH
  obtain rfl:=hv.2.iH
  cases mx with
  | true=>exact⟨_,by simp[Builtin.max_,Builtin.max2],rfl,.int _ _ _⟩
  | false=>exact⟨_,by simp[Builtin.min_,Builtin.min2],rfl,.int _ _ _⟩
 ·cases h
theorem ah9{t:TypeId}{x i:A}{k:A->Option X}(h:vH P t x i k=some r):∃ z,k z=some r/\∀ (w:World) (B:Nat) (af:bq) (ρ:Nat->Loc) (u v:Value),RA w B af ρ x u->RA w B af ρ i v->
  ∃ t',(Instr.index t u v).run P w = .ok t' w/\RA w B af ρ z t':=by
 unfold vH at h
 split at h
 ·rename_i s kk iv
  split at h
  ·rename_i hu
   split at h
   ·rename_i hb
    refine⟨_,h,fun w B af ρ u v jI hv=>?_⟩
    obtain rfl:=jI.2.qy
    obtain rfl:=hv.2.iH
    exact⟨_,by simp[Instr.index,asIntOf,run_underlying hu,hb.1,hb.2],rfl,.int _ _ _⟩
   ·cases h
  ·cases h
 ·cases h
theorem U5{src dst:TypeId}(h:vJ P src dst=true):∃ e,P.underlying src=some (.slice e)/\P.underlying dst=some .string/\P.underlying e=some (.int .u8):=by
 unfold vJ at h
 split at h
 ·rename_i e h1 h2
  split at h
  ·rename_i h3
   exact⟨e,h1,h2,h3⟩
  ·cases h
 ·cases h
theorem U6(l:List Int)(i:Nat)(hi:i<l.length):l.getD i 0=l[i]:=by rw[List.getD_eq_getElem?_getD,List.getElem?_eq_getElem hi];rfl
theorem RV.toStr{src dst e:TypeId}(hs:P.underlying src=some (.slice e))(hd:P.underlying dst=some .string)(he:P.underlying e=some (.int .u8)){o:Nat}{qn:Bool}{l:List (T .u8)}{q:List Nat}{B:Nat}{u:Value}(h:RV w B af q (.sl .u8 o qn l) u):
  (convert src dst u).run P w = .ok (.string (strOfNums l)) w:=by
 generalize hy:V.sl .u8 o qn l=y at h
 cases h with
 | int=>cases hy
 | bool=>cases hy
 | str=>cases hy
 | nil=>cases hy
 | cD q t o'=>
  injection hy with e1 e2 e3 e4
  subst e1
  obtain rfl:=eq_of_heq e4
  rw[run_convert_bytes_nil w src e hs he 0 0 dst hd];rfl
 | cK q t o' A c ho=>
  injection hy with e1 e2 e3 e4
  subst e1
  obtain rfl:=eq_of_heq e4
  have hl:(loadCells A 0).run P w = .ok (([]:List Int).map (Value.int .u8)).toArray w:=run_loadCells_list (P:=P) w A [] (fun j v hj=>by simp at hj)
  rw[run_convert_bytes_string w src dst e _ 0 c hs he hd,run_bytesToString w A 0 c [] hl]
  rfl
 | cW q t o' A c ho=>
  injection hy with e1 e2 e3 e4
  subst e1
  obtain rfl:=eq_of_heq e4
  have hl:(loadCells A 0).run P w = .ok (([]:List Int).map (Value.int .u8)).toArray w:=run_loadCells_list (P:=P) w A [] (fun j v hj=>by simp at hj)
  rw[run_convert_bytes_string w src dst e _ 0 c hs he hd,run_bytesToString w A 0 c [] hl]
  rfl
 | ah q t o' qn' l' b off cap uu ho hl hb h1 dP hc hr=>
  injection hy with e1 e2 e3 e4
  subst e1
  obtain rfl:=eq_of_heq e4
  refine run_convert_bytes_arg w src e hs he b off _ cap l rfl (fun i hi=>?_) dst hd
  have h2:=hc i hi 0 (.int .u8 l[i]) rfl
  have h3:=(hr i hi 0 (.int .u8 l[i]) rfl).iH
  simp only[aB,Nat.mul_one,Nat.add_zero]at h2
  have hg:=U6 (show List Int from l) i hi
  rw[h2,h3]
  exact congrArg (fun z=>some (Value.int .u8 z)) hg.symm
 | own q t o' qn' l' b cap cs uu hl hh l6 hn hm hc hr=>
  injection hy with e1 e2 e3 e4
  subst e1
  obtain rfl:=eq_of_heq e4
  refine run_convert_bytes_arg w src e hs he b 0 _ cap l rfl (fun i hi=>?_) dst hd
  have h2:=hc i hi 0 (.int .u8 l[i]) rfl
  have h3:=(hr i hi 0 (.int .u8 l[i]) rfl).iH
  simp only[aB,Nat.mul_one,Nat.add_zero]at h2
  have hg:=U6 (show List Int from l) i hi
  rw[h3]at h2
  have h4:w.cell? ⟨b,0+i,none⟩=some (.int .u8 l[i]):=by simp[World.cell?,hh,h2]
  rw[h4]
  exact congrArg (fun z=>some (Value.int .u8 z)) hg.symm
theorem aia{src dst:TypeId}{x:A}{k:A->Option X}(h:l9 P σ src dst x k=some r):∃ z,k z=some r/\∀ af ρ a w,Rl w0 N af ρ σ a w->∀ u,RA w w0.heap.size af ρ x u->
  ∃ t',(convert src dst u).run P w = .ok t' w/\RA w w0.heap.size af ρ z t':=by
 unfold l9 at h
 split at h
 ·rename_i kk n
  split at h
  ·rename_i d1 kd hs hd
   refine⟨_,h,fun af ρ a w _ u hu=>?_⟩
   obtain rfl:=hu.2.iH
   exact⟨_,by simp[convert,run_underlying hs,run_underlying hd,Conv.intToInt],rfl,.int _ _ _⟩
  ·cases h
 ·rename_i y _
  have key:∃ z,(∀ af ρ a w,Rl w0 N af ρ σ a w->∀ u,cL w w0.heap.size af ρ y u->∃ q,RV w w0.heap.size af q z u)/\tG P src dst z k=some r:=by
   cases y with
   | v z=>exact⟨z,fun af ρ a w _ u hu=>⟨[],hu.2⟩,h⟩
   | dead=>cases h
   | own q=>
    obtain⟨z,hz,h⟩:=qx q _ h
    refine⟨z,fun af ρ a w hR u hu=>?_,h⟩
    obtain⟨v,hv,hr⟩:=hz.ok hR.root
    have h3:=hu.2
    rw[hv]at h3
    injection h3 with h3
    subst h3
    exact⟨q,hr⟩
  obtain⟨z,hz,h2⟩:=key
  clear h
  unfold tG at h2
  split at h2
  ·rename_i o qn l
   cases ht:vJ P src dst with
   | false=>rw[ht]at h2;cases h2
   | true=>
    rw[ht,cond_true]at h2
    obtain⟨e,e1,e2,e3⟩:=U5 ht
    refine⟨_,h2,fun af ρ a w hR u hu=>?_⟩
    obtain⟨q,hr⟩:=hz af ρ a w hR u hu
    exact⟨_,hr.toStr e1 e2 e3,rfl,.str _ _⟩
  ·cases ht:vJ P src dst with
   | false=>rw[ht]at h2;cases h2
   | true=>
    rw[ht,cond_true]at h2
    obtain⟨e,e1,e2,e3⟩:=U5 ht
    refine⟨_,h2,fun af ρ a w hR u hu=>?_⟩
    obtain⟨q,hr⟩:=hz af ρ a w hR u hu
    cases hr
    exact⟨_,by rw[run_convert_bytes_nil w src e e1 e3 0 0 dst e2];rfl,rfl,.str _ _⟩
  ·cases h2
 ·cases h
theorem aib{s:TypeId}{x:A}{f:Nat}{k:A->Option X}(h:tE P s x f k=some r):∃ z,k z=some r/\∀ (w:World) (B:Nat) (af:bq) (ρ:Nat->Loc) (u:Value),RA w B af ρ x u->
  ∃ t',(Instr.field s u f).run P w = .ok t' w/\RA w B af ρ z t':=by
 unfold tE at h
 split at h
 ·rename_i fd cs mP
  have iq:∃ fs,P.underlying s=some (.struct fs)/\fs[f]?=some fd:=by
   unfold C8 at mP
   split at mP
   ·rename_i fs hu;exact⟨fs,hu,mP⟩
   ·cases mP
  obtain⟨fs,eo,oN⟩:=iq
  split at h
  ·rename_i n hn jz
   split at h
   ·rename_i hle
    refine⟨_,h,fun w B af ρ u hu=>?_⟩
    obtain⟨us,rfl,hR⟩:=hu
    have tf:(isAgg fd.type).run P w = .ok true w:=by
     unfold AH at jz
     split at jz
     ·rename_i fs' hu;unfold isAgg;rw[Sem.run_bind,run_underlying hu w];rfl
     ·rename_i c e hu;unfold isAgg;rw[Sem.run_bind,run_underlying hu w];rfl
     ·cases jz
     ·cases jz
    unfold jn at hn
    cases hi:P.info? fd.type with
    | none=>simp[hi]at hn
    | some i=>
     have rN:i.size=n:=by simpa [hi]using hn
     refine⟨.agg (us.extract fd.offset (fd.offset+n)),by simp[Instr.field,run_underlying eo,oN,asAgg,part,Sem.run_bind,tf,sizeOf,typeInfo,hi,rN],_,rfl,?_,fun j y hy=>?_⟩
     ·have:=hR.1
      simp
      omega
     ·obtain⟨hj,fm⟩:=Hx _ _ _ _ _ hy
      obtain⟨v,hv,hr⟩:=hR.2 _ y fm
      refine⟨v,?_,hr⟩
      rw[Array.getElem?_extract]
      have:=hR.1
      rw[if_pos (by omega)]
      exact hv
   ·cases h
  ·rename_i n hn jz
   split at h
   ·rename_i y hy
    refine⟨_,h,fun w B af ρ u hu=>?_⟩
    obtain⟨us,rfl,hR⟩:=hu
    obtain⟨v,hv,hr⟩:=hR.2 _ y hy
    have tf:(isAgg fd.type).run P w = .ok false w:=by
     unfold AH at jz
     split at jz
     ·cases jz
     ·cases jz
     ·rename_i d hs ha hu
      unfold isAgg
      rw[Sem.run_bind,run_underlying hu w]
      cases d <;>first | rfl | (rename_i x;exact absurd rfl (hs x)) | (rename_i x y;exact absurd rfl (ha x y)) | simp_all
     ·cases jz
    exact⟨v,by simp[Instr.field,run_underlying eo,oN,asAgg,part,Sem.run_bind,tf,hv],hr⟩
   ·cases h
  ·cases h
 ·cases h
end
end Go.Proofs.YtinbifpbkcbnkaaGreat
namespace Go.Proofs.YtinbifpbkcbnkaaGreat
open Go.RowKit
set_option linter.unusedVariables false
def V.val:V->Value
 | .int k n=>.int k n
 | .bool b=>.bool b
 | .str s=>.string s
 | _=>undef
def HI:TypeDesc->V->V->Option Bool
 | .int _,.int k a,.int k' b=>if k=k' then some (a==b)else none
 | .bool,.bool a,.bool b=>some (a==b)
 | .string,.str a,.str b=>some (a.toList==b.toList)
 | _,_,_=>none
def Di(P:Program)(g:TypeId->List V->List V->Option Bool)(xs ys:List V):List Field->Option Bool
 | []=>some true
 | f :: fs=>bif f.name == "_" then Di P g xs ys fs else (match jn P f.type with
  | some n=>bif Nat.ble (f.offset+n) xs.length then (match g f.type ((xs.drop f.offset).take n) ((ys.drop f.offset).take n),Di P g xs ys fs with
   | some a,some b=>some (a&&b)
   | _,_=>none)else none
  | none=>none)
def vM(P:Program):Nat->TypeId->List V->List V->Option Bool
 | 0,_,_,_=>none
 | n+1,t,xs,ys=>match P.underlying t with
  | some (.struct fs)=>bif P.stoodInHeld t || !Nat.beq xs.length ys.length then none else Di P (vM P n) xs ys fs.toList
  | some d=>(match xs,ys with
   | [x],[y]=>HI d x y
   | _,_=>none)
  | none=>none
def HJ:BinOp->Option Bool
 | .eql=>some false
 | .neq=>some true
 | _=>none
def xP{α:Type}:List α->Bool
 | []=>true
 | _=>false
def isStr(P:Program)(t:TypeId):Bool:=match P.underlying t with
 | some (.struct _)=>true
 | _=>false
def jK{X:Type}(P:Program)(σ:S)(op:BinOp)(t:TypeId)(x y:A)(k:A->Option X):Option X:=
 match HJ op,x,y with
 | some ng,.agg cs,.agg ds=>(match th cs,th ds with
  | some xs,some ys=>bif P.eqGuardType P.depth t || !isStr P t then none else (match vM P 20 t xs ys with
   | some b=>k (.lf (.v (.bool (bif ng then !b else b))))
   | none=>none)
  | _,_=>none)
 | some ng,.lf l,.lf (.v .nil)=>(match pR P t with
  | some _=>gB σ l fun z=>(match z with
   | .nil=>k (.lf (.v (.bool (bif ng then false else true))))
   | .sl _ _ true _=>k (.lf (.v (.bool (bif ng then true else false))))
   | .sl _ _ false l=>bif xP l then none else k (.lf (.v (.bool (bif ng then true else false))))
   | _=>none)
  | none=>none)
 | _,_,_=>vK x fun a=>vK y fun b=>kO P t op a b fun z=>k (.lf (.v z))
section
variable {P:Program} {w w':World} {w0:Wd} {B N:Nat} {af ax:bq} {ρ ρ':Nat->Loc} {σ:S} {a:Act} {X:Type} {d:Nat} {r:X} {o:Oper}
theorem aic{ds:TypeDesc}{x y:V}{b:Bool}{t:TypeId}{n:Nat}(ht:P.underlying t=some ds)(h:HI ds x y=some b):(Op.equalIn (n+1) t x.val y.val).run P w = .ok b w:=by
 unfold HI at h
 split at h
 ·split at h
  ·rename_i k' _ a k b' hk
   subst hk
   injection h with h
   subst h
   exact run_equalIn_int w n t _ _ _ _ ht
  ·cases h
 ·injection h with h
  subst h
  exact run_equalIn_bool' w n t _ _ ht
 ·injection h with h
  subst h
  exact run_equalIn_string w n t _ _ ht
 ·cases h
def qC(P:Program)(t:TypeId)(xs:List V)(u:Value):Prop:=
 match P.underlying t with
 | some (.struct _)=>u = .agg (xs.map V.val).toArray
 | _=>∃ x,xs=[x]/\u=x.val
theorem U7{t:TypeId}{n off:Nat}{xs:List V}(hn:jn P t=some n)(hle:off+n<=xs.length)(hu:∃ d,P.underlying t=some d/\(∀ c e,d ≠ .array c e)/\((∀ fs,d ≠ .struct fs)->n=1)):
  ∃ u,(part t (xs.map V.val).toArray off).run P w = .ok u w/\qC P t ((xs.drop off).take n) u:=by
 obtain⟨d,hd,ha,h1⟩:=hu
 unfold jn at hn
 cases hi:P.info? t with
 | none=>simp[hi]at hn
 | some i=>
  have rN:i.size=n:=by simpa [hi]using hn
  by_cases hs:∃ fs,d = .struct fs
  ·obtain⟨fs,rfl⟩:=hs
   have tf:(isAgg t).run P w = .ok true w:=by
    unfold isAgg;rw[Sem.run_bind,run_underlying hd w];rfl
   refine⟨.agg ((xs.map V.val).toArray.extract off (off+n)),by simp[part,Sem.run_bind,tf,sizeOf,typeInfo,hi,rN],?_⟩
   unfold qC
   rw[hd]
   simp only
   congr 1
   apply Array.ext'
   simp[List.map_drop,List.map_take]
  ·have tf:(isAgg t).run P w = .ok false w:=by
    unfold isAgg
    rw[Sem.run_bind,run_underlying hd w]
    cases d <;>first | rfl | (exfalso;exact hs ⟨_,rfl⟩) | (exfalso;exact ha _ _ rfl)
   have vN:n=1:=h1 fun fs e=>hs ⟨fs,e⟩
   subst vN
   have bw:off<xs.length:=by omega
   have iG:(xs.map V.val).toArray[off]?=some (xs[off]).val:=by simp[bw]
   refine⟨(xs[off]).val,by simp[part,Sem.run_bind,tf,iG],?_⟩
   have e1:(xs.drop off).take 1=[xs[off]]:=by
    rw[List.drop_eq_getElem_cons bw];rfl
   unfold qC
   rw[hd]
   split
   ·rename_i fs e;injection e with e;exact absurd ⟨fs,e⟩ hs
   ·exact⟨_,e1,rfl⟩
theorem aid{n:Nat}{t:TypeId}{xs ys:List V}{b:Bool}(h:vM P n t xs ys=some b):∃ d,P.underlying t=some d/\(∀ c e,d ≠ .array c e)/\((∀ fs,d ≠ .struct fs)->xs.length=1):=by
 cases n with
 | zero=>cases h
 | succ n=>
  unfold vM at h
  split at h
  ·rename_i fs oN
   exact⟨_,oN,(fun c e h=>by cases h),fun h=>absurd rfl (h fs)⟩
  ·rename_i d qv hd
   split at h
   ·rename_i x y
    exact⟨d,hd,(fun c e he=>by subst he;simp[HI]at h),fun _=>rfl⟩
   ·cases h
  ·cases h
theorem N8{n:Nat}{xs ys:List V}(hlen:xs.length=ys.length)(IH:∀ t xs ys b,vM P n t xs ys=some b->∀ u v,qC P t xs u->qC P t ys v->∀ k,(Op.equalIn (k+n) t u v).run P w = .ok b w)(k:Nat):∀ (fs:List Field) (b:Bool),Di P (vM P n) xs ys fs=some b->
  (Op.eqFields (k+n) (xs.map V.val).toArray (ys.map V.val).toArray fs).run P w = .ok b w
 | [],b,h=>by
  injection h with h
  subst h
  simp[Op.eqFields]
 | f :: fs,b,h=>by
  unfold Di at h
  cases dw:f.name == "_" with
  | true=>
   rw[dw,cond_true]at h
   have:f.name = "_":=by simpa using dw
   simp only[Op.eqFields,this,ne_eq,not_true,if_false]
   exact N8 hlen IH k fs b h
  | false=>
   rw[dw,cond_false]at h
   have aV:f.name ≠ "_":=by simpa using dw
   split at h
   ·rename_i s hs
    cases hle:Nat.ble (f.offset+s) xs.length with
    | false=>rw[hle]at h;cases h
    | true=>
     rw[hle,cond_true]at h
     have hle:=Nat.le_of_ble_eq_true hle
     split at h
     ·rename_i c e h1 h2
      injection h with h
      subst h
      obtain⟨d1,xQ,U8,N9⟩:=aid h1
      have tv:((xs.drop f.offset).take s).length=s:=by simp;omega
      obtain⟨u,hu1,oO⟩:=U7 (w:=w) hs hle ⟨d1,xQ,U8,fun h=>tv.symm.trans (N9 h)⟩
      obtain⟨v,rV,tI⟩:=U7 (w:=w) (xs:=ys) (off:=f.offset) hs (by omega) ⟨d1,xQ,U8,fun h=>tv.symm.trans (N9 h)⟩
      have hr:=IH _ _ _ c h1 u v oO tI k
      have iK:=N8 hlen IH k fs e h2
      simp only[Op.eqFields,aV,ne_eq,not_false_eq_true,if_true,Sem.run_bind,hu1,rV,hr,Result.andThen_ok]
      cases c
      ·simp
      ·simpa using iK
     ·cases h
   ·cases h
theorem U9:∀ (n:Nat) (t:TypeId) (xs ys:List V) (b:Bool),vM P n t xs ys=some b->∀ u v,qC P t xs u->qC P t ys v->∀ k,(Op.equalIn (k+n) t u v).run P w = .ok b w
 | 0,t,xs,ys,b,h=>by cases h
 | n+1,t,xs,ys,b,h=>by
  intro u v hu hv k
  unfold vM at h
  split at h
  ·rename_i fs oN
   cases hc:(P.stoodInHeld t || !Nat.beq xs.length ys.length)with
   | true=>rw[hc]at h;cases h
   | false=>
    rw[hc,cond_false]at h
    rw[Bool.or_eq_false_iff,Bool.not_eq_false']at hc
    have hlen:=Nat.eq_of_beq_eq_true hc.2
    unfold qC at hu hv
    rw[oN]at hu hv
    simp only at hu hv
    subst hu hv
    have hf:P.fieldsOf t=fs:=by simp[Program.fieldsOf,oN]
    rw[<-Nat.add_assoc,run_equalIn_struct w (k+n) t _ _ (by rw[hf];exact oN) hc.1,hf]
    exact N8 hlen (U9 n) k fs.toList b h
  ·rename_i d qv hd
   split at h
   ·rename_i x y
    unfold qC at hu hv
    rw[hd]at hu hv
    split at hu
    ·rename_i fs e;injection e with e;exact absurd e (qv fs)
    ·split at hv
     ·rename_i fs e;injection e with e;exact absurd e (qv fs)
     ·obtain⟨x',e1,rfl⟩:=hu
      obtain⟨y',e2,rfl⟩:=hv
      injection e1 with e1
      injection e2 with e2
      subst e1 e2
      exact aic hd h
   ·cases h
  ·cases h
theorem Va{cs:List Lf}{xs:List V}(h:th cs=some xs){u:Value}(hu:RA w B af ρ (.agg cs) u):u = .agg (xs.map V.val).toArray:=by
 obtain⟨e,hp⟩:=NL _ _ h
 obtain⟨us,rfl,hs,hr⟩:=hu
 congr 1
 apply Array.ext'
 apply List.ext_getElem?
 intro j
 rw[List.toList_toArray,List.getElem?_map,Array.getElem?_toList]
 cases hx:xs[j]? with
 | none=>
  rw[Option.map_none]
  refine Array.getElem?_eq_none ?_
  rw[hs,e,List.length_map]
  exact List.getElem?_eq_none_iff.1 hx
 | some x=>
  obtain⟨v,hv,AM⟩:=hr j (.v x) (by rw[e,List.getElem?_map,hx];rfl)
  rw[hv,Option.map_some]
  congr 1
  have:=hp x (List.mem_of_getElem? hx)
  have h2:=AM.2
  cases h2 <;>first | rfl | cases this
theorem AN{op:BinOp}{ng:Bool}(eN:HJ op=some ng){t e:TypeId}(ht:P.underlying t=some (.slice e))(xo yo:Operand)(A:Option Addr)(n c:Nat):
  (do eqGuard op t xo yo (.slice A n c) (.slice none 0 0);binOp op t (.slice A n c) (.slice none 0 0):Sem Value).run P w = .ok (.bool (bif ng then !A.isNone else A.isNone)) w:=by
 have he:(Op.equal t (.slice A n c) (.slice none 0 0)).run P w = .ok A.isNone w:=by
  have h:∀ d,(Op.equalIn (d+1) t (.slice A n c) (.slice none 0 0)).run P w = .ok A.isNone w:=by
   intro d
   cases A <;>simp[Op.equalIn,run_underlying ht]
  exact h 9999
 cases op <;>simp[HJ]at eN <;>subst eN <;>simp[eqGuard,binOp,he]
theorem aie{op:BinOp}{t:TypeId}{x y:A}{k:A->Option X}(h:jK P σ op t x y k=some r):∃ z,k z=some r/\∀ af ρ a w,Rl w0 N af ρ σ a w->∀ xo yo u v,RA w w0.heap.size af ρ x u->RA w w0.heap.size af ρ y v->
  ∃ t',(do eqGuard op t xo yo u v;binOp op t u v:Sem Value).run P w = .ok t' w/\RA w w0.heap.size af ρ z t':=by
 unfold jK at h
 split at h
 ·rename_i ng cs ds eN
  split at h
  ·rename_i xs ys fJ oJ
   cases hg:(P.eqGuardType P.depth t || !isStr P t)with
   | true=>rw[hg]at h;cases h
   | false=>
    rw[hg,cond_false]at h
    rw[Bool.or_eq_false_iff,Bool.not_eq_false']at hg
    obtain⟨hg,iq⟩:=hg
    split at h
    ·rename_i b hb
     refine⟨_,h,fun af ρ a w hR xo yo u v hu hv=>?_⟩
     have hu:=Va fJ hu
     have hv:=Va oJ hv
     subst hu hv
     have hs:∃ fs,P.underlying t=some (.struct fs):=by
      unfold isStr at iq
      split at iq
      ·rename_i fs oN;exact⟨fs,oN⟩
      ·cases iq
     obtain⟨fs,oN⟩:=hs
     have hr:=U9 (w:=w) 20 t xs ys b hb (.agg (xs.map V.val).toArray) (.agg (ys.map V.val).toArray) (by unfold qC;rw[oN]) (by unfold qC;rw[oN]) 9980
     refine⟨.bool (bif ng then !b else b),?_,rfl,.bool _ _⟩
     rw[Sem.run_bind,run_eqGuard_agg w op t xo yo _ _ hg,Result.andThen_ok]
     cases op <;>simp[HJ]at eN <;>subst eN
     ·rw[run_eql_struct,hr];rfl
     ·rw[run_neq_struct,hr];rfl
    ·cases h
  ·cases h
 ·rename_i ng l eN
  split at h
  ·rename_i e he
   have ht:P.underlying t=some (.slice e):=by
    unfold pR at he
    split at he
    ·rename_i e' hu;injection he with he;rw[<-he];exact hu
    ·cases he
   obtain⟨z,hz,h2⟩:=N3 (w0:=w0) (N:=N) h
   clear h
   split at h2
   ·refine⟨_,h2,fun af ρ a w hR xo yo u v hu hv=>?_⟩
    obtain⟨q,hq⟩:=hz af ρ a w hR u hu
    cases hq
    cases hv.2
    exact⟨_,AN eN ht xo yo none 0 0,rfl,by cases ng <;>exact .bool _ _⟩
   ·refine⟨_,h2,fun af ρ a w hR xo yo u v hu hv=>?_⟩
    obtain⟨q,hq⟩:=hz af ρ a w hR u hu
    cases hv.2
    cases hq with
    | ah _ _ _ _ _ b off cap us ho hl hb h1 dP hc hr=>exact⟨_,AN eN ht xo yo _ _ _,rfl,by cases ng <;>exact .bool _ _⟩
    | own=>exact⟨_,AN eN ht xo yo _ _ _,rfl,by cases ng <;>exact .bool _ _⟩
    | cW=>exact⟨_,AN eN ht xo yo _ _ _,rfl,by cases ng <;>exact .bool _ _⟩
   ·rename_i t' o' l'
    cases hl:xP l' with
    | true=>rw[hl]at h2;cases h2
    | false=>
     rw[hl,cond_false]at h2
     refine⟨_,h2,fun af ρ a w hR xo yo u v hu hv=>?_⟩
     obtain⟨q,hq⟩:=hz af ρ a w hR u hu
     cases hv.2
     cases hq with
     | cD=>cases hl
     | cK=>cases hl
     | ah _ _ _ _ _ b off cap us ho fe hb h1 dP hc hr=>exact⟨_,AN eN ht xo yo _ _ _,rfl,by cases ng <;>exact .bool _ _⟩
     | own=>exact⟨_,AN eN ht xo yo _ _ _,rfl,by cases ng <;>exact .bool _ _⟩
   ·cases h2
  ·cases h
 ·obtain⟨u0,hx,h1⟩:=Hw h
  obtain⟨v0,hy,h2⟩:=Hw h1
  obtain⟨z,h3,hp,hs⟩:=ahG h2
  subst hx hy
  refine⟨_,h3,fun af ρ a w hR xo yo u v hu hv=>?_⟩
  obtain⟨t',aW,hr⟩:=hs w _ af xo yo [] [] _ _ hu.2 hv.2
  exact⟨t',aW,V.C7 hp,hr⟩
/-! Parts of slices that nobody writes. -/
theorem AO{x:Option A}{qD:Int}{k:Int->Option X}(h:tF x qD k=some r):∃ n,k n=some r/\(∀ (X':Type) (k':Int->Option X'),tF x qD k'=k' n)/\((x=none/\n=qD)\/∃ kd,x=some (.lf (.v (.int kd n)))):=by
 unfold tF at h
 split at h
 ·exact⟨_,h,fun _ _=>rfl,.inl ⟨rfl,rfl⟩⟩
 ·exact⟨_,h,fun _ _=>rfl,.inr ⟨_,rfl⟩⟩
 ·cases h
theorem aif{t:TypeId}{x:A}{lo hi:Option A}{k:A->Option X}(h:vI P t x lo hi k=some r):∃ y,k y=some r/\(∀ (X':Type) (k':A->Option X'),vI P t x lo hi k'=k' y)/\
  ((∃ (s:ByteArray) (l h:Int),x = .lf (.v (.str s))/\P.underlying t=some .string/\((lo=none/\l=0)\/∃ kd,lo=some (.lf (.v (.int kd l))))/\((hi=none/\h=s.size)\/∃ kd,hi=some (.lf (.v (.int kd h))))/\0<=l/\l<=h/\h<=(s.size:Int)/\y = .lf (.v (.str (s.extract l.toNat h.toNat))))\/
   ∃ (tc:TC) (g:Nat) (qn:Bool) (xs:List (T tc)) (e:TypeId) (l h:Int),x = .lf (.v (.sl tc g qn xs))/\pR P t=some e/\jn P e=some (aB tc)/\g<2/\((lo=none/\l=0)\/∃ kd,lo=some (.lf (.v (.int kd l))))/\((hi=none/\h=xs.length)\/∃ kd,hi=some (.lf (.v (.int kd h))))/\0<=l/\l<=h/\h<=(xs.length:Int)/\y = .lf (.v (.sl tc g false ((xs.take h.toNat).drop l.toNat)))):=by
 unfold vI at h
 split at h
 ·rename_i s
  split at h
  ·rename_i hu
   obtain⟨l,h1,d1,e1⟩:=AO h
   obtain⟨m,h2,d2,e2⟩:=AO h1
   split at h2
   ·rename_i hb
    refine⟨_,h2,fun X' k'=>?_,.inl ⟨s,l,m,rfl,hu,e1,e2,hb.1,hb.2.1,hb.2.2,rfl⟩⟩
    simp only[vI,hu]
    rw[d1,d2,if_pos hb]
   ·cases h2
  ·cases h
 ·rename_i tc g qn xs
  split at h
  ·rename_i e he
   split at h
   ·rename_i n hn
    split at h
    ·rename_i kF
     subst kF
     cases hg:Nat.blt g 2 with
     | false=>rw[hg]at h;cases h
     | true=>
      rw[hg,cond_true]at h
      obtain⟨l,h1,d1,e1⟩:=AO h
      obtain⟨m,h2,d2,e2⟩:=AO h1
      split at h2
      ·rename_i hb
       refine⟨_,h2,fun X' k'=>?_,.inr ⟨tc,g,qn,xs,e,l,m,rfl,he,hn,Nat.le_of_ble_eq_true hg,e1,e2,hb.1,hb.2.1,hb.2.2,rfl⟩⟩
       simp only[vI,he,hn,if_true,hg,cond_true]
       rw[d1,d2,if_pos hb]
      ·cases h2
    ·cases h
   ·cases h
  ·cases h
 ·cases h
theorem Vb{t:TypeId}{x:A}{lo hi:Option A}{k:A->Option X}(h:vI P t x lo hi k=some r):∃ y,k y=some r/\(∀ (X':Type) (k':A->Option X'),vI P t x lo hi k'=k' y)/\
  ∀ (w:World) (B:Nat) (af:bq) (ρ:Nat->Loc) (u:Value) (lv hv:Option Value),RA w B af ρ x u->(∀ a,lo=some a->∃ v,lv=some v/\RA w B af ρ a v)->(lo=none->lv=none)->(∀ a,hi=some a->∃ v,hv=some v/\RA w B af ρ a v)->(hi=none->hv=none)->
   ∃ t',(Instr.sliceAt t u lv hv none).run P w = .ok t' w/\RA w B af ρ y t':=by
 obtain⟨y,h1,hd,hc⟩:=aif h
 refine⟨y,h1,hd,fun w B af ρ u lv hv hu tv fD HK HL=>?_⟩
 have bl:∀ {o:Option A} {ov:Option Value} {n qD:Int},(∀ a,o=some a->∃ v,ov=some v/\RA w B af ρ a v)->(o=none->ov=none)->((o=none/\n=qD)\/∃ kd,o=some (.lf (.v (.int kd n))))->(ov=none/\n=qD)\/∃ kd,ov=some (.int kd n):=by
  intro o ov n qD g1 g2 g3
  rcases g3 with ⟨e,e'⟩ | ⟨kd,e⟩
  ·exact .inl ⟨g2 e,e'⟩
  ·obtain⟨v,hv,hr⟩:=g1 _ e
   exact .inr ⟨kd,by rw[hv,hr.2.iH]⟩
 rcases hc with ⟨s,l,m,rfl,eE,e1,e2,b1,b2,b3,rfl⟩ | ⟨tc,g,qn,xs,e,l,m,rfl,he,hn,hg,e1,e2,b1,b2,b3,rfl⟩
 ·have h5:=bl tv fD e1
  have h6:=bl HK HL e2
  obtain rfl:=hu.2.qy
  have em:(m.toNat:Int)=m:=Int.toNat_of_nonneg (by omega)
  refine⟨.string (s.extract l.toNat m.toNat),?_,rfl,.str _ _⟩
  rw[run_sliceAt_string w t _ _ _ _ eE]
  have hb0:0<=m:=by omega
  rcases h5 with ⟨rfl,h7⟩ | ⟨kl,rfl⟩ <;>rcases h6 with ⟨rfl,h8⟩ | ⟨kh,rfl⟩
  all_goals simp_all [Instr.slice,run_underlying eE,Instr.sliceBounds,run_sliceBound]
 ·have h5:=bl tv fD e1
  have h6:=bl HK HL e2
  have eE:P.underlying t=some (.slice e):=by
   unfold pR at he
   split at he
   ·rename_i e' jI;injection he with he;rw[<-he];exact jI
   ·cases he
  have lJ:P.elem t=e:=by simp[Program.elem,eE]
  have qE:P.underlying t=some (.slice (P.elem t)):=by rw[lJ];exact eE
  have tJ:(sizeOf (P.elem t)).run P w = .ok (aB tc) w:=by
   unfold jn at hn
   cases hi:P.info? e with
   | none=>simp[hi]at hn
   | some i=>
    have:i.size=aB tc:=by simpa [hi]using hn
    simp[sizeOf,typeInfo,lJ,hi,this]
  have eo:∃ A n c,u = .slice A n c:=by
   cases hu.2 with
   | cD=>exact⟨_,_,_,rfl⟩
   | cK=>exact⟨_,_,_,rfl⟩
   | cW=>exact⟨_,_,_,rfl⟩
   | ah=>exact⟨_,_,_,rfl⟩
   | own=>exact⟨_,_,_,rfl⟩
  obtain⟨A,n,c,rfl⟩:=eo
  obtain⟨hp,vN,Oa⟩:=hu.2.part (a:=l.toNat) (h:=m.toNat) hg (by omega) (by omega)
  refine⟨_,?_,by simp[V.ah,hg],hp⟩
  rw[run_sliceAt_slice w t _ _ _ _ qE]
  rcases h5 with ⟨rfl,rfl⟩ | ⟨kl,rfl⟩ <;>rcases h6 with ⟨rfl,rfl⟩ | ⟨kh,rfl⟩
  ·rw[run_slice_all w t A n c qE,tJ,vN]
   simp
  ·rw[run_slice_h w t A n c qE kh m (by omega) (by omega),tJ]
   simp
  ·rw[run_slice_l w t A n c qE kl l (by omega) (by omega),tJ,vN]
   simp
  ·rw[run_slice_lh w t A n c qE kl kh l m (by omega) (by omega) (by omega),tJ]
   simp
/-! Parts of slices that are owned. -/
def Dj{X:Type}(n:Nat)(q:List Nat)(lo hi:Option A)(y:V)(k:A->Option X):Option X:=
 match y with
 | .sl t' _ _ l=>if n=aB t' then tF lo 0 fun a=>tF hi (l.length:Int) fun b=>if 0<=a/\a<=b/\b<=(l.length:Int)then k (.view q n a.toNat b.toNat)else none else none
 | _=>none
def vO{X:Type}(P:Program)(σ:S)(t:TypeId)(q:List Nat)(lo hi:Option A)(k:A->Option X):Option X:=
 match pR P t with
 | some e=>(match jn P e with
  | some n=>fl σ.m q fun y=>Dj n q lo hi y k
  | none=>none)
 | none=>none
def nQ{X:Type}(P:Program)(σ:S)(t:TypeId)(x:A)(lo hi:Option A)(k:A->Option X):Option X:=
 match x with
 | .lf (.own q)=>vO P σ t q lo hi k
 | x=>vI P t x lo hi k
theorem Vc{n:Nat}{q:List Nat}{lo hi:Option A}{y:V}{k:A->Option X}(h:Dj n q lo hi y k=some r):∃ (tc:TC) (g:Nat) (qn:Bool) (xs:List (T tc)) (l h:Int),y = .sl tc g qn xs/\n=aB tc/\
  ((lo=none/\l=0)\/∃ kd,lo=some (.lf (.v (.int kd l))))/\((hi=none/\h=xs.length)\/∃ kd,hi=some (.lf (.v (.int kd h))))/\0<=l/\l<=h/\h<=(xs.length:Int)/\k (.view q n l.toNat h.toNat)=some r/\
  ∀ (X':Type) (k':A->Option X'),Dj n q lo hi y k'=k' (.view q n l.toNat h.toNat):=by
 unfold Dj at h
 split at h
 ·rename_i tc g qn xs
  split at h
  ·rename_i kF
   obtain⟨l,h1,d1,e1⟩:=AO h
   obtain⟨m,h2,d2,e2⟩:=AO h1
   split at h2
   ·rename_i hb
    refine⟨tc,g,qn,xs,l,m,rfl,kF,e1,e2,hb.1,hb.2.1,hb.2.2,h2,fun X' k'=>?_⟩
    simp only[Dj,if_pos kF]
    rw[d1,d2,if_pos hb]
   ·cases h2
  ·cases h
 ·cases h
theorem aih{t:TypeId}{x:A}{lo hi:Option A}{k:A->Option X}(h:nQ P σ t x lo hi k=some r):∃ y,k y=some r/\
  ∀ af ρ a w,Rl w0 N af ρ σ a w->∀ (u:Value) (lv hv:Option Value),RA w w0.heap.size af ρ x u->(∀ a,lo=some a->∃ v,lv=some v/\RA w w0.heap.size af ρ a v)->(lo=none->lv=none)->(∀ a,hi=some a->∃ v,hv=some v/\RA w w0.heap.size af ρ a v)->(hi=none->hv=none)->
   ∃ t',(Instr.sliceAt t u lv hv none).run P w = .ok t' w/\RA w w0.heap.size af ρ y t':=by
 unfold nQ at h
 split at h
 ·rename_i q
  unfold vO at h
  split at h
  ·rename_i e he
   split at h
   ·rename_i n hn
    obtain⟨y0,hy0,h2⟩:=qx q _ h
    obtain⟨tc,g,qn,xs,l,m,rfl,kF,e1,e2,b1,b2,b3,h3,_⟩:=Vc h2
    refine⟨_,h3,fun af ρ a w hR u lv hv hu tv fD HK HL=>?_⟩
    have bl:∀ {o:Option A} {ov:Option Value} {n qD:Int},(∀ a,o=some a->∃ v,ov=some v/\RA w w0.heap.size af ρ a v)->(o=none->ov=none)->((o=none/\n=qD)\/∃ kd,o=some (.lf (.v (.int kd n))))->(ov=none/\n=qD)\/∃ kd,ov=some (.int kd n):=by
     intro o ov n qD g1 g2 g3
     rcases g3 with ⟨e,e'⟩ | ⟨kd,e⟩
     ·exact .inl ⟨g2 e,e'⟩
     ·obtain⟨v,hv,hr⟩:=g1 _ e
      exact .inr ⟨kd,by rw[hv,hr.2.iH]⟩
    have h5:=bl tv fD e1
    have h6:=bl HK HL e2
    have eE:P.underlying t=some (.slice e):=by
     unfold pR at he
     split at he
     ·rename_i e' jI;injection he with he;rw[<-he];exact jI
     ·cases he
    have lJ:P.elem t=e:=by simp[Program.elem,eE]
    have qE:P.underlying t=some (.slice (P.elem t)):=by rw[lJ];exact eE
    have tJ:(sizeOf (P.elem t)).run P w = .ok n w:=by
     unfold jn at hn
     cases hi:P.info? e with
     | none=>simp[hi]at hn
     | some i=>
      have:i.size=n:=by simpa [hi]using hn
      simp[sizeOf,typeInfo,lJ,hi,this]
    obtain⟨v0,AP,cr⟩:=hy0.ok hR.root
    have rW:=hu.2
    rw[AP]at rW
    injection rW with rW
    subst rW
    have hf:RV w 0 (fun _=>none) [] (.sl tc 0 qn xs) v0:=cr.iZ
    have eo:∃ A n c,v0 = .slice A n c:=by
     cases hf with
     | cD=>exact⟨_,_,_,rfl⟩
     | cK=>exact⟨_,_,_,rfl⟩
     | cW=>exact⟨_,_,_,rfl⟩
     | ah=>exact⟨_,_,_,rfl⟩
    obtain⟨A,n',c,rfl⟩:=eo
    obtain⟨hp,vN,Oa⟩:=hf.part (a:=l.toNat) (h:=m.toNat) (by omega) (by omega) (by omega)
    refine⟨sliced A l.toNat m.toNat c n,?_,A,n',c,AP,by omega,by omega,rfl⟩
    rw[run_sliceAt_slice w t _ _ _ _ qE]
    rcases h5 with ⟨rfl,rfl⟩ | ⟨kl,rfl⟩ <;>rcases h6 with ⟨rfl,rfl⟩ | ⟨kh,rfl⟩
    ·rw[run_slice_all w t A n' c qE,tJ,vN]
     simp
    ·rw[run_slice_h w t A n' c qE kh m (by omega) (by omega),tJ]
     simp
    ·rw[run_slice_l w t A n' c qE kl l (by omega) (by omega),tJ,vN]
     simp
    ·rw[run_slice_lh w t A n' c qE kl kh l m (by omega) (by omega) (by omega),tJ]
     simp
   ·cases h
  ·cases h
 ·obtain⟨y,h1,_,hs⟩:=Vb h
  exact⟨y,h1,fun af ρ a w _ u lv hv=>hs w _ af ρ u lv hv⟩
end
end Go.Proofs.YtinbifpbkcbnkaaGreat
namespace Go.Proofs.YtinbifpbkcbnkaaGreat
open Go.RowKit
set_option linter.unusedVariables false
abbrev Pt:=Bool×List V
def PV(w:World)(B:Nat)(af:bq)(key:Nat->List Nat)(p:Pt)(u:Value):Prop:=
 ∃ us:Array Value,(match p.1 with | true=>u = .agg us | false=>us = #[u])/\us.size=p.2.length/\∀ (j:Nat) x,p.2[j]?=some x->∃ v,us[j]?=some v/\RV w B af (key j) x v
def vP(w:World)(cs:List V)(u:Value):Prop:=
 ∃ b off,u = .pointer (some ⟨b,off,none⟩)/\b<w.heap.size/\∀ (j:Nat) x,cs[j]?=some x->∃ v,w.cell? ⟨b,off+j,none⟩=some v/\RV w w.heap.size (fun _=>none) [] x v
inductive PA (w:World):Pt->Value->Prop
 | v (p:Pt) (u:Value) (h:PV w w.heap.size (fun _=>none) (fun _=>[]) p u):PA w p u
 | p (c:V) (cs:List V) (u:Value) (h:vP w (c :: cs) u):PA w (false,.bool true :: c :: cs) u
 | f (g:Nat) (c:V) (cs:List V) (u:Value) (h:vP w (c :: cs) u):PA w (false,.bool false :: .int .i64 (g:Int) :: c :: cs) (.func (.func g) #[] #[u])
def vQ(w:World)(args:List Pt)(bZ:Array Value):Prop:=
 bZ.size=args.length/\∀ (i:Nat) p,args[i]?=some p->∃ u,bZ[i]?=some u/\PA w p u
theorem PA.pv{w:World}{x:V}{u:Value}(h:PA w (false,[x]) u):PV w w.heap.size (fun _=>none) (fun _=>[]) (false,[x]) u:=by
 cases h with
 | v _ _ h=>exact h
theorem PA.Vd{w:World}{xs:List V}{u:Value}(h:PA w (true,xs) u):PV w w.heap.size (fun _=>none) (fun _=>[]) (true,xs) u:=by
 cases h with
 | v _ _ h=>exact h
inductive iL where
 | one (p:Pt)
 | cq (ps:List Pt)
def vR(t:TC):Nat->Bool
 | 0=>false
 | 1=>true
 | o+2=>Nat.ble (full t) o || Nat.beq (o % 2) 1
def V.loc:V->Bool
 | .sl t o _ _=>vR t o
 | _=>true
def ja(w:World)(B:Nat)(af:bq)(nm:Nat->Nat):Nat->List Pt->List Value->Prop
 | _,[],[]=>True
 | off,p :: ps,v :: vs=>(p.2.all V.loc=true/\PV w B af (fun j=>[nm (off+j)]) p v)/\ja w B af nm (off+p.2.length) ps vs
 | _,_,_=>False
def rX(w:World)(B:Nat)(af:bq)(nm:Nat->Nat):iL->Value->Prop
 | .one p,v=>ja w B af nm 0 [p] [v]
 | .cq ps,v=>∃ vs:Array Value,v = .tuple vs/\ja w B af nm 0 ps vs.toList
structure aE where
 run:(X:Type)->List Pt->(iL->Option X)->Option X
def aF(P:Program)(f:Nat)(c:aE):Prop:=
 ∀ (X:Type) (args:List Pt) (k:iL->Option X) (r:X),c.run X args k=some r->∃ res,k res=some r/\(∀ (X':Type) (k':iL->Option X'),c.run X' args k'=k' res)/\∀ (nm:Nat->Nat) (w:World) (bZ:Array Value),vQ w args bZ->Hd w (fun _=>none)->
  Calls P f bZ w fun e w'=>∃ v ax,e = .returned v/\Below w.heap.size w w'/\(∀ b k,ax b=some k->w.heap.size<=b/\b<w'.heap.size/\k≠[])/\rX w' w.heap.size ax nm res v
def lK{X:Type}(σ:S):List Lf->(List V->Option X)->Option X
 | [],k=>k []
 | x :: xs,k=>gB σ x fun y=>lK σ xs fun ys=>k (y.iZ :: ys)
def kR{X:Type}(σ:S)(x:A)(k:Pt->Option X):Option X:=
 match x with
 | .lf y=>lK σ [y] fun vs=>k (false,vs)
 | .agg ys=>lK σ ys fun vs=>k (true,vs)
 | .view q s i j=>pQ σ q s i j fun y=>k (false,[y])
 | .gz (c :: cs)=>k (false,.bool true :: c.iZ :: cs.map V.iZ)
 | _=>none
def tK{X:Type}(σ:S)(x:A)(k:Pt->Option X):Option X:=
 match x with
 | .gz (c :: cs)=>k (false,.bool true :: c.iZ :: cs.map V.iZ)
 | .kN f (c :: cs)=>k (false,.bool false :: .int .i64 (f:Int) :: c.iZ :: cs.map V.iZ)
 | .aC r j=>(match σ.m r with
  | some (.ak cs)=>lK σ (cs.drop j) fun vs=>(match vs with
   | c :: cs=>k (false,.bool true :: c :: cs)
   | []=>none)
  | _=>none)
 | .fn f [(r,j)]=>(match σ.m r with
  | some (.ak cs)=>lK σ (cs.drop j) fun vs=>(match vs with
   | c :: cs=>k (false,.bool false :: .int .i64 (f:Int) :: c :: cs)
   | []=>none)
  | _=>none)
 | x=>kR σ x k
def vS{X:Type}(σ:S):List Operand->(List Pt->Option X)->Option X
 | [],k=>k []
 | x :: xs,k=>tK σ (aA σ x) fun p=>vS σ xs fun ps=>k (p :: ps)
def jb{X:Type}(σ:S):List Operand->(List Pt->Option X)->Option X
 | [],k=>k []
 | x :: xs,k=>kR σ (aA σ x) fun p=>jb σ xs fun ps=>k (p :: ps)
def jq(c:Nat):List V->List Lf
 | []=>[]
 | x :: xs=>(bif x.ah then .v x else .own [c]) :: jq (c+1) xs
def fN(c:Nat)(σ:S):List V->S
 | []=>σ
 | x :: xs=>fN (c+1) (bif x.ah then σ else (σ.drop c).root c (.sl x)) xs
def jL(c:Nat):List Pt->List (Bool×List Lf)
 | []=>[]
 | p :: ps=>(p.1,jq c p.2) :: jL (c+p.2.length) ps
def ir(c:Nat)(σ:S):List Pt->S
 | []=>σ
 | p :: ps=>ir (c+p.2.length) (fN c σ p.2) ps
def vT{X:Type}(N:Nat)(σ:S)(d:Nat)(c:aE)(args:List Operand)(k:S->Option X):Option X:=
 bif Nat.blt d N then vS σ args fun ps=>c.run X ps fun res=>(match res with
  | .one p=>(match pT (p.1,jq (1000000000100000+1000*d) p.2)with
   | some y=>k ((fN (1000000000100000+1000*d) σ p.2).set d y)
   | none=>none)
  | .cq ps=>k ((ir (1000000000100000+1000*d) σ ps).set d (.cq (jL (1000000000100000+1000*d) ps))))else none
def tL{X:Type}(N:Nat)(σ:S)(d:Nat)(c:aE)(args:List Operand)(k:S->Option X):Option X:=
 bif Nat.blt d N then jb σ args fun ps=>c.run X ps fun res=>(match res with
  | .one p=>(match pT (p.1,jq (1000000000100000+1000*d) p.2)with
   | some y=>k ((fN (1000000000100000+1000*d) σ p.2).set d y)
   | none=>none)
  | .cq ps=>k ((ir (1000000000100000+1000*d) σ ps).set d (.cq (jL (1000000000100000+1000*d) ps))))else none
section
variable {P:Program} {w w':World} {w0:Wd} {B N:Nat} {af ax:bq} {ρ ρ':Nat->Loc} {σ:S} {a:Act} {X:Type} {d:Nat} {r:X} {o:Oper}
theorem Dk:∀ (xs:List Lf) (k:List V->Option X),lK σ xs k=some r->∃ vs,k vs=some r/\vs.length=xs.length/\∀ af ρ a w,Rl w0 N af ρ σ a w->∀ (j:Nat) x y u,xs[j]?=some x->vs[j]?=some y->cL w w0.heap.size af ρ x u->RV w w.heap.size (fun _=>none) [] y u
 | [],k,h=>⟨[],h,rfl,fun _ _ _ _ _ j x y u hx=>by simp at hx⟩
 | x :: xs,k,h=>by
  unfold lK at h
  obtain⟨y,hy,h2⟩:=N3 (w0:=w0) (N:=N) h
  obtain⟨ys,h3,hl,hr⟩:=Dk xs _ h2
  refine⟨y.iZ :: ys,h3,by simp[hl],fun af ρ a w hR j x' y' u cz fm hu=>?_⟩
  cases j with
  | zero=>
   simp at cz fm
   subst cz fm
   obtain⟨q,hq⟩:=hy af ρ a w hR u hu
   exact hq.iZ
  | succ j=>exact hr af ρ a w hR j x' y' u (by simpa using cz) (by simpa using fm) hu
theorem Ve{r' j':Nat}{cs:List Lf}{vs:List V}(hm:σ.m r'=some (.ak cs))(hl:vs.length=(cs.drop j').length)
  (hr:∀ af ρ a w,Rl w0 N af ρ σ a w->∀ (j:Nat) x y u,(cs.drop j')[j]?=some x->vs[j]?=some y->cL w w0.heap.size af ρ x u->RV w w.heap.size (fun _=>none) [] y u)
  {af:bq} {ρ:Nat->Loc} {a:Act} {w:World} {u:Value} (hR:Rl w0 N af ρ σ a w) (hu:RA w w0.heap.size af ρ (.aC r' j') u):vP w vs u:=by
 obtain⟨b,off,e1,rfl⟩:=hu
 cases hR.root r' _ hm with
 | ak b' qq cells e _ us aK nR hh hs hc=>
  rw[e1]at aK
  injection aK with q1 q2
  subst q1 q2
  refine⟨b,off+j',rfl,(Array.getElem?_eq_some_iff.1 hh).1,fun j x hx=>?_⟩
  have hj:j<(cs.drop j').length:=by rw[<-hl];exact(List.getElem?_eq_some_iff.1 hx).1
  have Vf:=List.getElem?_eq_getElem hj
  have aii:cs[j'+j]?=some (cs.drop j')[j]:=by rw[<-List.getElem?_drop];exact Vf
  obtain⟨k1,k2⟩:=hc _ _ aii
  refine⟨us (j'+j),?_,hr af ρ a w hR j _ x _ Vf hx k2⟩
  rw[Nat.add_assoc,cell_of_row w b _ cells _ _ hh]
  exact k1
theorem Ob{cs:List V}{u:Value}(hu:RF w B af cs u):vP w (cs.map V.iZ) u:=by
 obtain⟨b,off,rfl,h1,h2,h3⟩:=hu
 refine⟨b,off,rfl,h1,fun j x hx=>?_⟩
 rw[List.getElem?_map]at hx
 cases hy:cs[j]? with
 | none=>rw[hy]at hx;cases hx
 | some y=>
  rw[hy]at hx
  injection hx with hx
  subst hx
  obtain⟨_,v,h4,h5⟩:=h3 j y hy
  exact⟨v,h4,h5.iZ⟩
theorem Vg{x:A}{k:Pt->Option X}(h:kR σ x k=some r):∃ p,k p=some r/\∀ af ρ a w,Rl w0 N af ρ σ a w->∀ u,RA w w0.heap.size af ρ x u->PA w p u:=by
 unfold kR at h
 split at h
 ·rename_i y
  obtain⟨vs,h2,hl,hr⟩:=Dk (w0:=w0) (N:=N) _ _ h
  refine⟨_,h2,fun af ρ a w hR u hu=>.v _ _ ⟨#[u],rfl,by simp[hl],fun j x hx=>?_⟩⟩
  have hj:j=0:=by
   have:=(List.getElem?_eq_some_iff.1 hx).1
   simp only[hl]at this
   simpa using this
  subst hj
  exact⟨u,rfl,hr af ρ a w hR 0 y x u rfl hx hu⟩
 ·rename_i ys
  obtain⟨vs,h2,hl,hr⟩:=Dk (w0:=w0) (N:=N) _ _ h
  refine⟨_,h2,fun af ρ a w hR u hu=>?_⟩
  obtain⟨us,rfl,hs⟩:=hu
  refine .v _ _ ⟨us,rfl,by rw[hl];exact hs.1,fun j x hx=>?_⟩
  have hj:j<ys.length:=by rw[<-hl];exact(List.getElem?_eq_some_iff.1 hx).1
  obtain⟨v,hv,cN⟩:=hs.2 j _ (List.getElem?_eq_getElem hj)
  exact⟨v,hv,hr af ρ a w hR j _ x v (List.getElem?_eq_getElem hj) hx cN⟩
 ·obtain⟨z,h2,_,hz⟩:=UH h
  refine⟨_,h2,fun af ρ a w hR u hu=>.v _ _ ⟨#[u],rfl,rfl,fun j x hx=>?_⟩⟩
  cases j with
  | zero=>
   simp at hx
   subst hx
   exact⟨u,rfl,hz _ _ _ _ _ _ hR u hu _⟩
  | succ j=>simp at hx
 ·rename_i c cs
  exact⟨_,h,fun af ρ a w hR u hu=>.p _ _ _ (Ob hu)⟩
 ·cases h
theorem aij{x:A}{k:Pt->Option X}(h:tK σ x k=some r):∃ p,k p=some r/\∀ af ρ a w,Rl w0 N af ρ σ a w->∀ u,RA w w0.heap.size af ρ x u->PA w p u:=by
 unfold tK at h
 split at h
 ·rename_i c cs
  refine⟨_,h,fun af ρ a w hR u hu=>?_⟩
  exact .p _ _ _ (Ob hu)
 ·rename_i f c cs
  refine⟨_,h,fun af ρ a w hR u hu=>?_⟩
  obtain⟨pv,rfl,hp⟩:=hu
  exact .f _ _ _ _ (Ob hp)
 ·rename_i r' j'
  split at h
  ·rename_i cs hm
   obtain⟨vs,h2,hl,hr⟩:=Dk (w0:=w0) (N:=N) _ _ h
   split at h2
   ·rename_i c fz
    refine⟨_,h2,fun af ρ a w hR u hu=>?_⟩
    exact .p _ _ _ (Ve hm hl hr hR hu)
   ·cases h2
  ·cases h
 ·rename_i f r' j'
  split at h
  ·rename_i cs hm
   obtain⟨vs,h2,hl,hr⟩:=Dk (w0:=w0) (N:=N) _ _ h
   split at h2
   ·rename_i c fz
    refine⟨_,h2,fun af ρ a w hR u hu=>?_⟩
    obtain⟨ps,rfl,hs,hp⟩:=hu
    obtain⟨b,off,e1,e2⟩:=hp 0 _ rfl
    have e:ps = #[.pointer (some ⟨b,off+j',none⟩)]:=by
     apply Array.ext (by simpa using hs)
     intro i h1 h2
     have:i=0:=by simp at h2;omega
     subst this
     rw[Array.getElem?_eq_getElem h1]at e2
     injection e2
    subst e
    exact .f _ _ _ _ (Ve hm hl hr hR ⟨b,off,e1,rfl⟩)
   ·cases h2
  ·cases h
 ·exact Vg h
theorem Vh:∀ (xs:List Operand) (k:List Pt->Option X),vS σ xs k=some r->∃ ps,k ps=some r/\∀ af ρ a w,Rl w0 N af ρ σ a w->vQ w ps (xs.map a.eval).toArray
 | [],k,h=>⟨[],h,fun _ _ _ _ _=>⟨rfl,fun i p hp=>by simp at hp⟩⟩
 | x :: xs,k,h=>by
  unfold vS at h
  obtain⟨p,h2,hp⟩:=aij (w0:=w0) (N:=N) h
  obtain⟨ps,h3,gF⟩:=Vh xs _ h2
  refine⟨p :: ps,h3,fun af ρ a w hR=>⟨?_,fun i q hq=>?_⟩⟩
  ·have:=(gF af ρ a w hR).1
   simp at this
   simp[this]
  ·cases i with
   | zero=>
    simp at hq
    subst hq
    exact⟨_,rfl,hp af ρ a w hR _ (hR.aA x)⟩
   | succ i=>
    obtain⟨u,hu,hr⟩:=(gF af ρ a w hR).2 i q (by simpa using hq)
    exact⟨u,by simpa using hu,hr⟩
theorem Oc:∀ (xs:List Operand) (k:List Pt->Option X),jb σ xs k=some r->∃ ps,k ps=some r/\∀ af ρ a w,Rl w0 N af ρ σ a w->vQ w ps (xs.map a.eval).toArray
 | [],k,h=>⟨[],h,fun _ _ _ _ _=>⟨rfl,fun i p hp=>by simp at hp⟩⟩
 | x :: xs,k,h=>by
  unfold jb at h
  obtain⟨p,h2,hp⟩:=Vg (w0:=w0) (N:=N) h
  obtain⟨ps,h3,gF⟩:=Oc xs _ h2
  refine⟨p :: ps,h3,fun af ρ a w hR=>⟨?_,fun i q hq=>?_⟩⟩
  ·have:=(gF af ρ a w hR).1
   simp at this
   simp[this]
  ·cases i with
   | zero=>
    simp at hq
    subst hq
    exact⟨_,rfl,hp af ρ a w hR _ (hR.aA x)⟩
   | succ i=>
    obtain⟨u,hu,hr⟩:=(gF af ρ a w hR).2 i q (by simpa using hq)
    exact⟨u,by simpa using hu,hr⟩
theorem Vi{t:TC}{o:Nat}(h:vR t (o+2)=true)(x:T t):∀ y∈enc t o x,y.loc=true:=by
 intro y hy
 have hg:=s8 t o x y hy
 cases y with
 | sl t' o' q l=>
  have ho:o'=o:=by simpa [V.gr]using hg
  subst ho
  have hf:full t'+2<=full t:=Nat.le_of_ble_eq_true (Hr t o' x _ hy)
  show vR t' o'=true
  simp only[vR,Bool.or_eq_true]at h
  rcases h with h | h
  ·have h:=Nat.le_of_ble_eq_true h
   match o',h with
   | 0,h=>omega
   | 1,h=>rfl
   | n+2,h=>
    simp only[vR,Bool.or_eq_true]
    left
    exact Nat.ble_eq_true_of_le (by omega)
  ·have h:=Nat.eq_of_beq_eq_true h
   match o',h with
   | 0,h=>omega
   | 1,h=>rfl
   | n+2,h=>
    simp only[vR,Bool.or_eq_true]
    right
    have:n % 2=1:=by omega
    rw[this]
    rfl
 | _=>rfl
theorem RV.home{q:List Nat}{x:V}{v:Value}(h:RV w B af q x v){B':Nat}(hB:B'<=B)(hl:∀ b,B<=b->ax b=af b)(hg:∀ b k,af b=some k->B<=b)(hx:x.loc=true):RV w B' ax q x v:=by
 induction h with
 | int=>exact .int _ _ _
 | bool=>exact .bool _ _
 | str=>exact .str _ _
 | nil=>exact .nil _
 | cD=>exact .cD _ _ _
 | cK=>exact .cK _ _ _ _ _ (by first | assumption | omega)
 | cW=>exact .cW _ _ _ _ _ (by first | assumption | omega)
 | ah q t o qn l b off cap u ho c9 hb h1 dP hc hr ih=>
  have tM:o=1:=by
   match o,ho,hx with
   | 0,_,hx=>cases hx
   | 1,_,_=>rfl
   | n+2,ho,_=>omega
  subst tM
  have Dl:=h1 rfl
  refine .ah _ _ _ _ _ _ _ _ u ho ((hl b Dl).trans c9) hb (fun _=>Nat.le_trans hB Dl) dP hc (fun i h j x cz=>ih i h j x cz ?_)
  have:=s8 t 1 l[i] x (List.mem_of_getElem? cz)
  cases x with
  | sl t' o' q' l'=>
   have:o'=1:=by simpa [V.gr]using this
   subst this
   rfl
  | _=>rfl
 | own q t o qn l b cap cs u c9 hh hs hn hm hc hr ih=>
  exact .own _ _ _ _ _ _ _ cs u ((hl b (hg b q c9)).trans c9) hh hs hn hm hc (fun i h j x cz=>ih i h j x cz (Vi hx l[i] x (List.mem_of_getElem? cz)))
theorem Od:∀ (xs:List V) (c:Nat) (σ:S) (ρ:Nat->Loc) (us:List Value),60000<=c->Rl w0 N af ρ σ a w->us.length=xs.length->(∀ (j:Nat) x u,xs[j]?=some x->us[j]?=some u->RV w w0.heap.size af [c+j] x u)->
  ∃ ρ',Rl w0 N af ρ' (fN c σ xs) a w/\(∀ r,r<c->ρ' r=ρ r)/\∀ (j:Nat) x u,(jq c xs)[j]?=some x->us[j]?=some u->cL w w0.heap.size af ρ' x u
 | [],c,σ,ρ,us,_,h,hl,hr=>⟨ρ,h,fun _ _=>rfl,fun j x u hx=>by simp[jq]at hx⟩
 | x :: xs,c,σ,ρ,us,hc,h,hl,hr=>by
  cases us with
  | nil=>simp at hl
  | cons u us=>
   have cr:=hr 0 x u rfl rfl
   rw[Nat.add_zero]at cr
   have iK:∀ (j:Nat) x' u',xs[j]?=some x'->us[j]?=some u'->RV w w0.heap.size af [c+1+j] x' u':=fun j x' u' hx hu=>by
    have:=hr (j+1) x' u' (by simpa using hx) (by simpa using hu)
    rw[show c+1+j=c+(j+1) by omega]
    exact this
   cases hf:x.ah with
   | true=>
    obtain⟨ρ',aT,aK,qF⟩:=Od xs (c+1) σ ρ us (by omega) h (by simpa using hl) iK
    refine⟨ρ',?_,fun r hr=>aK r (by omega),fun j y v hy hv=>?_⟩
    ·simp only[fN,hf,cond_true]
     exact aT
    ·simp only[jq,hf,cond_true]at hy
     cases j with
     | zero=>
      simp at hy hv
      subst hy hv
      exact⟨hf,cr.key hf⟩
     | succ j=>exact qF j y v (by simpa using hy) (by simpa using hv)
   | false=>
    have gk:=cr.Hs hf
    obtain⟨ρ',aT,aK,qF⟩:=Od xs (c+1) _ _ us (by omega) (h.new (d:=c) (x:=.sl x) (.dJ u) (.sl u x (bK _ _ _) cr) (h.eg c (.inr hc))) (by simpa using hl) iK
    refine⟨ρ',?_,fun r hr=>?_,fun j y v hy hv=>?_⟩
    ·simp only[fN,hf,cond_false]
     exact aT
    ·rw[aK r (by omega)]
     exact cm _ _ _ (by omega)
    ·simp only[jq,hf,cond_false]at hy
     cases j with
     | zero=>
      simp at hy hv
      subst hy hv
      refine⟨gk,?_⟩
      have:ρ' c = .dJ u:=by rw[aK c (by omega)];exact bK _ _ _
      simp[cc,this]
     | succ j=>exact qF j y v (by simpa using hy) (by simpa using hv)
theorem aik(xs:List V):∀ c,(jq c xs).length=xs.length:=by
 induction xs with
 | nil=>intro c;rfl
 | cons x xs ih=>intro c;simp[jq,ih]
end
end Go.Proofs.YtinbifpbkcbnkaaGreat
namespace Go.Proofs.YtinbifpbkcbnkaaGreat
open Go.RowKit
set_option linter.unusedVariables false
def enters(P:Program)(f:Nat):Prop:=∃ fn,P.funcs[f]?=some fn/\(fn.name == "runtime.NumGoroutine")=false/\fn.body.isNone=false
/-! What a function gives back. -/
def HM:A->Option (Bool×List Lf)
 | .lf x=>some (false,[x])
 | .agg xs=>some (true,xs)
 | _=>none
def nS{X:Type}(P:Program)(σ:S):List ResultVar->(List (Bool×List Lf)->Option X)->Option X
 | [],k=>k []
 | .tmp t :: rest,k=>(match HM (σ.t t)with
  | some p=>nS P σ rest fun ps=>k (p :: ps)
  | none=>none)
 | .cell p ty :: rest,k=>g7 P σ ty (σ.t p) fun x=>(match HM x with
  | some p=>nS P σ rest fun ps=>k (p :: ps)
  | none=>none)
def Oe(m:Nat->Option aP):Lf->Option (V×Option Nat)
 | .v x=>bif x.loc&&x.ah then some (x,none)else none
 | .own [r]=>match m r with
  | some (.sl y)=>bif y.loc then some (y,some r)else none
  | _=>none
 | _=>none
def Dm(m:Nat->Option aP)(off:Nat):List Lf->Option (List V×List (Nat×Nat))
 | []=>some ([],[])
 | x :: xs=>match Oe m x,Dm m (off+1) xs with
  | some (y,none),some (ys,rs)=>some (y :: ys,rs)
  | some (y,some r),some (ys,rs)=>some (y :: ys,(r,off) :: rs)
  | _,_=>none
def Dn(m:Nat->Option aP)(off:Nat):List (Bool×List Lf)->Option (List Pt×List (Nat×Nat))
 | []=>some ([],[])
 | p :: ps=>match Dm m off p.2,Dn m (off+p.2.length) ps with
  | some (vs,rs),some (qs,Dp)=>some ((p.1,vs) :: qs,rs++Dp)
  | _,_=>none
def once(rs:List (Nat×Nat)):Bool:=rs.all fun p=>(rs.lookup p.1).any fun n=>Nat.beq n p.2
def Dq{X:Type}(P:Program)(σ:S)(fn:Array ResultVar)(k:iL->Option X):Option X:=
 nS P σ fn.toList fun ps=>match Dn σ.m 0 ps with
  | some (qs,rs)=>bif once rs then (match qs with
   | [p]=>k (.one p)
   | qs=>k (.cq qs))else none
  | none=>none
section
variable {P:Program} {w w':World} {w0:Wd} {B N:Nat} {af ax:bq} {ρ ρ':Nat->Loc} {σ:S} {a:Act} {X:Type} {d:Nat} {r:X} {o:Oper}
theorem Vj:∀ (xs:List V) (c:Nat) (j:Nat) x u,(jq c xs)[j]?=some x->cL w B af ρ x u->(∀ r,r<c+xs.length->ρ' r=ρ r)->cL w B af ρ' x u
 | [],c,j,x,u,hx,_,_=>by simp[jq]at hx
 | y :: ys,c,j,x,u,hx,hr,aK=>by
  cases j with
  | zero=>
   simp only[jq,List.getElem?_cons_zero,Option.some.injEq]at hx
   subst hx
   cases hf:y.ah with
   | true=>rw[hf,cond_true]at hr;simp only[cond_true];exact hr
   | false=>
    rw[hf,cond_false]at hr
    simp only[cond_false]
    refine⟨hr.1,?_⟩
    have:=hr.2
    simp only[cc,aK c (by simp)]at this ⊢
    exact this
  | succ j=>
   simp only[jq,List.getElem?_cons_succ]at hx
   exact Vj ys (c+1) j x u hx hr (fun r h=>aK r (by simp;omega))
theorem PV.cells{key:Nat->List Nat}{p:Pt}{u:Value}(h:PV w B af key p u):∃ us:List Value,us.length=p.2.length/\(∀ (j:Nat) x v,p.2[j]?=some x->us[j]?=some v->RV w B af (key j) x v)/\
  ∀ (ρ:Nat->Loc) (ls:List Lf),ls.length=p.2.length->(∀ (j:Nat) x v,ls[j]?=some x->us[j]?=some v->cL w B af ρ x v)->RP w B af ρ (p.1,ls) u:=by
 obtain⟨us,hu,hs,hr⟩:=h
 obtain⟨b,xs⟩:=p
 refine⟨us.toList,by simpa using hs,fun j x v hx hv=>?_,fun ρ ls hl Of=>?_⟩
 ·obtain⟨v',dR,cN⟩:=hr j x hx
  have:v'=v:=by
   rw[Array.getElem?_toList]at hv
   rw[dR]at hv
   injection hv
  subst this
  exact cN
 ·have AM:cX w B af ρ ls us:=⟨by rw[hs,hl],fun j x hx=>by
   have hj:j<us.size:=by rw[hs,<-hl];exact(List.getElem?_eq_some_iff.1 hx).1
   exact⟨us[j],Array.getElem?_eq_getElem hj,Of j x _ hx (by rw[Array.getElem?_toList,Array.getElem?_eq_getElem hj])⟩⟩
  cases b with
  | true=>exact⟨us,hu,AM⟩
  | false=>have hu:us = #[u]:=hu;subst hu;exact AM
theorem Dr:∀ (ps:List Pt) (c0 off:Nat) (σ:S) (ρ:Nat->Loc) (vs:List Value),60000<=c0->Rl w0 N af ρ σ a w->ja w w0.heap.size af (fun n=>c0+n) off ps vs->
  ∃ ρ',Rl w0 N af ρ' (ir (c0+off) σ ps) a w/\(∀ r,r<c0+off->ρ' r=ρ r)/\vs.length=(jL (c0+off) ps).length/\∀ (i:Nat) p v,(jL (c0+off) ps)[i]?=some p->vs[i]?=some v->RP w w0.heap.size af ρ' p v
 | [],c0,off,σ,ρ,vs,_,h,hr=>by
  cases vs with
  | nil=>exact⟨ρ,h,fun _ _=>rfl,rfl,fun i p v hp=>by simp[jL]at hp⟩
  | cons v vs=>exact hr.elim
 | p :: ps,c0,off,σ,ρ,vs,hc,h,hr=>by
  cases vs with
  | nil=>exact hr.elim
  | cons v vs=>
   obtain⟨⟨_,hp⟩,hr⟩:=hr
   obtain⟨us,hl,lG,oP⟩:=hp.cells
   obtain⟨tN,h1,fY,qF⟩:=Od p.2 (c0+off) σ ρ us (by omega) h hl (fun j x u hx hu=>by
    have:RV w w0.heap.size af [c0+(off+j)] x u:=lG j x u hx hu
    rw[<-Nat.add_assoc]at this
    exact this)
   obtain⟨dW,h2,rY,hlen,gF⟩:=Dr ps c0 (off+p.2.length) (fN (c0+off) σ p.2) tN vs hc h1 hr
   rw[<-Nat.add_assoc]at h2 rY hlen gF
   refine⟨dW,h2,fun r hr=>(rY r (by omega)).trans (fY r hr),by simp[jL,hlen],fun i q u hq hu=>?_⟩
   cases i with
   | zero=>
    simp only[jL,List.getElem?_cons_zero,Option.some.injEq]at hq hu
    subst hq hu
    refine oP dW _ (aik _ _) (fun j x u hx hu=>Vj p.2 (c0+off) j x u hx (qF j x u hx hu) rY)
   | succ i=>
    simp only[jL,List.getElem?_cons_succ]at hq hu
    exact gF i q u hq hu
theorem ja.home{nm:Nat->Nat}:∀ (ps:List Pt) (off:Nat) (vs:List Value) {B':Nat},ja w B af nm off ps vs->B'<=B->(∀ b,B<=b->ax b=af b)->(∀ b k,af b=some k->B<=b)->ja w B' ax nm off ps vs
 | [],_,[],_,h,_,_,_=>h
 | [],_,_ :: _,_,h,_,_,_=>h
 | _ :: _,_,[],_,h,_,_,_=>h
 | p :: ps,off,v :: vs,B',h,hB,hl,hg=>by
  obtain⟨⟨lM,us,hu,hs,hr⟩,iK⟩:=h
  refine⟨⟨lM,us,hu,hs,fun j x hx=>?_⟩,ja.home ps _ vs iK hB hl hg⟩
  obtain⟨v',dR,cN⟩:=hr j x hx
  exact⟨v',dR,cN.home hB hl hg (List.all_eq_true.1 lM x (List.mem_of_getElem? hx))⟩
theorem HN(w:World)(o:Oper)(a:Act)(f:Nat)(args:Array Operand)(cO:Array TypeId)(ho:o.op = .call { callee:=.value (.func f),args,argTypes:=cO })(he:enters P f):(execOp a.eval o).run P w = .ok (.enter f (args.map a.eval)) w:=by
 obtain⟨fn,h1,h2,h3⟩:=he
 have Ds:¬ fn.name = "runtime.NumGoroutine":=by simpa using h2
 have xR:¬ fn.body=none:=by intro e;rw[e]at h3;cases h3
 simp[execOp,ho,resolve,Act.eval,Deferred.ofValue,invoke,callFunc,Sem.run_bind,Sem.run,program,h1,Ds,xR]
theorem Vk{f:Nat}{args:Array Operand}{cO:Array TypeId}{c:aE}{k:S->Option X}(ho:o.op = .call { callee:=.value (.func f),args,argTypes:=cO })(hd:o.dst=some d)(he:enters P f)(hc:aF P f c)(tO:d<N){ps:List Pt}(gW:∀ af ρ a w,Rl w0 N af ρ σ a w->vQ w ps (args.toList.map a.eval).toArray)
  (h2:(c.run X ps fun res=>(match res with
  | .one p=>(match pT (p.1,jq (1000000000100000+1000*d) p.2)with
   | some y=>k ((fN (1000000000100000+1000*d) σ p.2).set d y)
   | none=>none)
  | .cq ps=>k ((ir (1000000000100000+1000*d) σ ps).set d (.cq (jL (1000000000100000+1000*d) ps)))))=some r):∃ aj,k aj=some r/\jZ P w0 N o σ aj:=by
 obtain⟨res,h3,_,Dt⟩:=hc X ps _ r h2
 have step:∀ a w K Q af ρ,Rl w0 N af ρ σ a w->(∀ v w' ax,Below w.heap.size w w'->Rl w0 N ax ρ σ a w'->rX w' w0.heap.size ax (fun n=>1000000000100000+1000*d+n) res v->K (a.put o.dst v) w')->o.wp P a w K Q:=by
  intro a w K Q af ρ hR hK
  unfold Oper.wp
  rw[HN w o a f args cO ho he,Oper.upon_enter]
  have xS:(args.map a.eval)=(args.toList.map a.eval).toArray:=by apply Array.ext';rw[Array.toList_map]
  rw[xS]
  refine(Dt (fun n=>1000000000100000+1000*d+n) w _ (gW af ρ a w hR) (w0.on hR.below (fun _ _ h=>by cases h))).mono fun e w' tP=>?_
  obtain⟨v,ki,rfl,fM,nR,g8⟩:=tP
  have hB:=hR.below.size
  let cR:bq:=fun b=>if b<w.heap.size then af b else ki b
  have e1:∀ b,b<w.heap.size->cR b=af b:=fun b hb=>if_pos hb
  have e2:∀ b,w.heap.size<=b->cR b=ki b:=fun b hb=>if_neg (by omega)
  refine hK v w' cR fM (hR.grow fM e1 (fun b k hb hk=>?_)) ?_
  ·rw[e2 b hb]at hk
   exact(nR b k hk).2
  ·cases res with
   | one p=>exact ja.home [p] 0 [v] g8 hB e2 (fun b k hk=>(nR b k hk).1)
   | cq mQ=>
    obtain⟨vs,e,hv⟩:=g8
    exact⟨vs,e,ja.home mQ 0 vs.toList hv hB e2 (fun b k hk=>(nR b k hk).1)⟩
 cases res with
 | one p=>
  simp only at h3
  split at h3
  ·rename_i y hy
   refine⟨_,h3,fun a w K Q hR hK=>?_⟩
   obtain⟨af,ρ,hR⟩:=hR
   refine step a w K Q af ρ hR fun v w' ax fM aT g8=>?_
   obtain⟨ρ',jA,_,_,gF⟩:=Dr [p] (1000000000100000+1000*d) 0 σ ρ [v] (by omega) aT g8
   rw[hd]
   have Og:=gF 0 _ v rfl rfl
   exact hK _ _ ⟨ax,ρ',jA.set (NR hy Og) tO⟩
  ·cases h3
 | cq mQ=>
  refine⟨_,h3,fun a w K Q hR hK=>?_⟩
  obtain⟨af,ρ,hR⟩:=hR
  refine step a w K Q af ρ hR fun v w' ax fM aT g8=>?_
  obtain⟨vs,rfl,hv⟩:=g8
  obtain⟨ρ',jA,_,hlen,gF⟩:=Dr mQ (1000000000100000+1000*d) 0 σ ρ vs.toList (by omega) aT hv
  rw[hd]
  refine hK _ _ ⟨ax,ρ',jA.set ⟨vs,rfl,by simpa using hlen,fun j p hp=>?_⟩ tO⟩
  have hj:j<vs.size:=by
   have:=(List.getElem?_eq_some_iff.1 hp).1
   rw[Nat.add_zero]at hlen
   rw[<-hlen]at this
   simpa using this
  exact⟨vs[j],Array.getElem?_eq_getElem hj,gF j p _ hp (by rw[Array.getElem?_toList,Array.getElem?_eq_getElem hj])⟩
theorem ail{f:Nat}{args:Array Operand}{cO:Array TypeId}{c:aE}{k:S->Option X}(ho:o.op = .call { callee:=.value (.func f),args,argTypes:=cO })(hd:o.dst=some d)(he:enters P f)(hc:aF P f c)(h:tL N σ d c args.toList k=some r):∃ aj,k aj=some r/\jZ P w0 N o σ aj:=by
 unfold tL at h
 cases hN:Nat.blt d N with
 | false=>rw[hN]at h;cases h
 | true=>
  rw[hN,cond_true]at h
  obtain⟨ps,h2,gW⟩:=Oc (w0:=w0) (N:=N) _ _ h
  exact Vk ho hd he hc (Nat.le_of_ble_eq_true hN) gW h2
theorem aim{f:Nat}{args:Array Operand}{cO:Array TypeId}{c:aE}{k:S->Option X}(ho:o.op = .call { callee:=.value (.func f),args,argTypes:=cO })(hd:o.dst=some d)(he:enters P f)(hc:aF P f c)(h:vT N σ d c args.toList k=some r):∃ aj,k aj=some r/\jZ P w0 N o σ aj:=by
 unfold vT at h
 cases hN:Nat.blt d N with
 | false=>rw[hN]at h;cases h
 | true=>
  rw[hN,cond_true]at h
  obtain⟨ps,h2,gW⟩:=Vh (w0:=w0) (N:=N) _ _ h
  exact Vk ho hd he hc (Nat.le_of_ble_eq_true hN) gW h2
end
end Go.Proofs.YtinbifpbkcbnkaaGreat
namespace Go.Proofs.YtinbifpbkcbnkaaGreat
open Go.RowKit
set_option linter.unusedVariables false
def eI(af:bq)(rs:List (Nat×Nat))(nm:Nat->Nat):bq:=fun b=>
 match af b with
 | none=>none
 | some k=>match k.getLast? with
  | none=>none
  | some r=>(rs.lookup r).map fun n=>k.dropLast++[nm n]
section
variable {P:Program} {w w':World} {w0:Wd} {B N:Nat} {af ax:bq} {ρ ρ':Nat->Loc} {σ:S} {a:Act} {X:Type} {d:Nat} {r:X} {rs:List (Nat×Nat)} {nm:Nat->Nat}
theorem RV.Du{q:List Nat}{x:V}{v:Value}(h:RV w B af q x v)(hf:x.ah=true)(hl:∀ b,af b=none->ax b=none):RV w B ax q x v:=by
 induction h with
 | int=>exact .int _ _ _
 | bool=>exact .bool _ _
 | str=>exact .str _ _
 | nil=>exact .nil _
 | cD=>exact .cD _ _ _
 | cK=>exact .cK _ _ _ _ _ (by first | assumption | omega)
 | cW=>exact .cW _ _ _ _ _ (by first | assumption | omega)
 | ah q t o qn l b off cap u ho c9 hb h1 dP hc hr ih=>
  exact .ah _ _ _ _ _ _ _ _ u ho (hl b c9) hb h1 dP hc (fun i h j x hx=>ih i h j x hx (jl t o l[i] ho j x hx))
 | own q t o qn l b cap cs u c9 hh hs hn hm hc hr ih=>simp[V.ah]at hf;omega
theorem tQ{b:Nat}(h:af b=none):eI af rs nm b=none:=by simp[eI,h]
theorem RV.eI{p:List Nat}{r n:Nat}{x:V}{v:Value}(h:RV w B af (p++[r]) x v)(hr:rs.lookup r=some n):RV w B (eI af rs nm) (p++[nm n]) x v:=by
 generalize hq:p++[r]=q at h
 induction h generalizing p with
 | int=>exact .int _ _ _
 | bool=>exact .bool _ _
 | str=>exact .str _ _
 | nil=>exact .nil _
 | cD=>exact .cD _ _ _
 | cK=>exact .cK _ _ _ _ _ (by first | assumption | omega)
 | cW=>exact .cW _ _ _ _ _ (by first | assumption | omega)
 | ah q t o qn l b off cap u ho c9 hb h1 dP hc cN ih=>
  exact .ah _ _ _ _ _ _ _ _ u ho (tQ c9) hb h1 dP hc (fun i h j x hx=>(cN i h j x hx).Du (jl t o l[i] ho j x hx) (fun b=>tQ))
 | own q t o qn l b cap cs u c9 hh hs hn hm hc cN ih=>
  subst hq
  refine .own _ _ _ _ _ _ _ cs u ?_ hh hs hn hm hc (fun i h j x hx=>ih i h j x hx (p:=j :: i :: aB t :: p) rfl)
  simp[Proofs.YtinbifpbkcbnkaaGreat.eI,c9,hr]
theorem Oh{m:Nat->Option aP}:∀ (xs:List Lf) (off:Nat) (ys:List V) (tR:List (Nat×Nat)),Dm m off xs=some (ys,tR)->ys.length=xs.length/\∀ (j:Nat) x,xs[j]?=some x->∃ y,ys[j]?=some y/\y.loc=true/\((x = .v y/\y.ah=true)\/∃ r,x = .own [r]/\m r=some (.sl y)/\(r,off+j)∈tR)
 | [],off,ys,tR,h=>by
  simp only[Dm,Option.some.injEq,Prod.mk.injEq]at h
  obtain⟨rfl,rfl⟩:=h
  exact⟨rfl,fun j x hx=>by simp at hx⟩
 | x :: xs,off,ys,tR,h=>by
  have hc:∀ y z,Oe m x=some (y,z)->y.loc=true/\((z=none/\x = .v y/\y.ah=true)\/∃ r,z=some r/\x = .own [r]/\m r=some (.sl y)):=by
   intro y z hz
   unfold Oe at hz
   split at hz
   ·rename_i x'
    cases hl:(x'.loc&&x'.ah)with
    | false=>rw[hl]at hz;cases hz
    | true=>
     rw[hl,cond_true]at hz
     simp only[Option.some.injEq,Prod.mk.injEq]at hz
     obtain⟨rfl,rfl⟩:=hz
     rw[Bool.and_eq_true]at hl
     exact⟨hl.1,.inl ⟨rfl,rfl,hl.2⟩⟩
   ·rename_i r
    split at hz
    ·rename_i y' fm
     cases hl:y'.loc with
     | false=>rw[hl]at hz;cases hz
     | true=>
      rw[hl,cond_true]at hz
      simp only[Option.some.injEq,Prod.mk.injEq]at hz
      obtain⟨rfl,rfl⟩:=hz
      exact⟨hl,.inr ⟨r,rfl,rfl,fm⟩⟩
    ·cases hz
   ·cases hz
  unfold Dm at h
  split at h
  ·rename_i y Oi Dp hy oJ
   simp only[Option.some.injEq,Prod.mk.injEq]at h
   obtain⟨rfl,rfl⟩:=h
   obtain⟨h1,h2⟩:=Oh xs (off+1) Oi Dp oJ
   refine⟨by simp[h1],fun j x' hx=>?_⟩
   cases j with
   | zero=>
    simp at hx
    subst hx
    obtain⟨hl,hz | ⟨r,hz,_⟩⟩:=hc y none hy
    ·exact⟨y,rfl,hl,.inl hz.2⟩
    ·cases hz
   | succ j=>
    obtain⟨y',fm,hl,hz⟩:=h2 j x' (by simpa using hx)
    refine⟨y',by simpa using fm,hl,hz.imp id fun⟨r,e1,e2,e3⟩=>⟨r,e1,e2,by rw[show off+(j+1)=off+1+j by omega];exact e3⟩⟩
  ·rename_i y r Oi Dp hy oJ
   simp only[Option.some.injEq,Prod.mk.injEq]at h
   obtain⟨rfl,rfl⟩:=h
   obtain⟨h1,h2⟩:=Oh xs (off+1) Oi Dp oJ
   refine⟨by simp[h1],fun j x' hx=>?_⟩
   cases j with
   | zero=>
    simp at hx
    subst hx
    obtain⟨hl,hz | ⟨r',hz,e1,e2⟩⟩:=hc y (some r) hy
    ·cases hz.1
    ·injection hz with hz
     subst hz
     exact⟨y,rfl,hl,.inr ⟨r,e1,e2,.head _⟩⟩
   | succ j=>
    obtain⟨y',fm,hl,hz⟩:=h2 j x' (by simpa using hx)
    refine⟨y',by simpa using fm,hl,hz.imp id fun⟨r,e1,e2,e3⟩=>⟨r,e1,e2,by rw[show off+(j+1)=off+1+j by omega];exact .tail _ e3⟩⟩
  ·cases h
theorem Vl{m:Nat->Option aP}(hm:∀ r x,m r=some x->dK w B af ρ r x):∀ (ps:List (Bool×List Lf)) (off:Nat) (qs:List Pt) (tR:List (Nat×Nat)) (vs:List Value),Dn m off ps=some (qs,tR)->(∀ p∈tR,rs.lookup p.1=some p.2)->vs.length=ps.length->
  (∀ (i:Nat) p v,ps[i]?=some p->vs[i]?=some v->RP w B af ρ p v)->ja w B (eI af rs nm) nm off qs vs
 | [],off,qs,tR,vs,h,_,hl,_=>by
  have:vs=[]:=List.eq_nil_of_length_eq_zero hl
  subst this
  simp only[Dn,Option.some.injEq,Prod.mk.injEq]at h
  obtain⟨rfl,rfl⟩:=h
  trivial
 | p :: ps,off,qs,tR,vs,h,gG,hl,hp=>by
  cases vs with
  | nil=>simp at hl
  | cons v vs=>
   unfold Dn at h
   split at h
   ·rename_i ys rs1 qs' rs2 h1 h2
    simp only[Option.some.injEq,Prod.mk.injEq]at h
    obtain⟨rfl,rfl⟩:=h
    obtain⟨hlen,GZ⟩:=Oh _ _ _ _ h1
    have iK:=Vl hm ps _ qs' rs2 vs h2 (fun q hq=>gG q (List.mem_append_right _ hq)) (by simpa using hl) (fun i q u hq hu=>hp (i+1) q u (by simpa using hq) (by simpa using hu))
    have AQ:=hp 0 p v rfl rfl
    have key:∀ us:Array Value,cX w B af ρ p.2 us->(us.size=ys.length/\∀ (j:Nat) x,ys[j]?=some x->∃ u,us[j]?=some u/\RV w B (eI af rs nm) [nm (off+j)] x u):=by
     intro us eo
     refine⟨by rw[hlen];exact eo.1,fun j y hy=>?_⟩
     have hj:j<p.2.length:=by rw[<-hlen];exact(List.getElem?_eq_some_iff.1 hy).1
     obtain⟨y',fm,lM,hz⟩:=GZ j _ (List.getElem?_eq_getElem hj)
     rw[hy]at fm
     injection fm with fm
     subst fm
     obtain⟨u,hu,hr⟩:=eo.2 j _ (List.getElem?_eq_getElem hj)
     refine⟨u,hu,?_⟩
     rcases hz with ⟨e,hf⟩ | ⟨r,e,hmr,AR⟩
     ·rw[e]at hr
      exact(hr.2.Du hf (fun b=>tQ)).key hf
     ·rw[e]at hr
      have dm:=hm r _ hmr
      generalize he:aP.sl y=z at dm
      cases dm with
      | ak=>cases he
      | mp=>cases he
      | gh=>cases he
      | sl v' y' aK lG=>
       injection he with he
       subst he
       have rW:v'=u:=by
        have h4:=hr.2
        simp only[cc,aK]at h4
        injection h4
       subst rW
       exact RV.eI (p:=[]) lG (gG (r,off+j) (List.mem_append_left _ AR))
    refine⟨⟨?_,?_⟩,?_⟩
    ·rw[List.all_eq_true]
     intro y hy
     obtain⟨j,hj⟩:=List.mem_iff_getElem?.1 hy
     have rO:j<p.2.length:=by rw[<-hlen];exact(List.getElem?_eq_some_iff.1 hj).1
     obtain⟨y',fm,lM,_⟩:=GZ j _ (List.getElem?_eq_getElem rO)
     rw[hj]at fm
     injection fm with fm
     subst fm
     exact lM
    ·obtain⟨b,xs⟩:=p
     cases b with
     | true=>
      obtain⟨us,e,eo⟩:=AQ
      obtain⟨k1,k2⟩:=key us eo
      exact⟨us,e,k1,k2⟩
     | false=>
      obtain⟨k1,k2⟩:=key #[v] AQ
      exact⟨#[v],rfl,k1,k2⟩
    ·rw[hlen]
     exact iK
   ·cases h
theorem ain{t:TypeId}{x:A}{k:A->Option X}(h:g7 P σ t x k=some r){u:Value}(hu:RA w B af ρ x u):∃ ad,u = .pointer (some ad):=by
 unfold g7 at h
 split at h
 ·cases h
 ·split at h
  ·obtain⟨b,off,_,rfl⟩:=hu;exact⟨_,rfl⟩
  ·obtain⟨b,off,rfl,_⟩:=hu;exact⟨_,rfl⟩
  ·obtain⟨ad,rfl,_⟩:=hu;exact⟨_,rfl⟩
  ·cases h
theorem Vm{x:A}{p:Bool×List Lf}(h:HM x=some p){u:Value}(hu:RA w B af ρ x u):RP w B af ρ p u:=by
 unfold HM at h
 split at h
 ·injection h with h
  subst h
  refine⟨rfl,fun j y hy=>?_⟩
  cases j with
  | zero=>simp at hy;subst hy;exact⟨u,rfl,hu⟩
  | succ j=>simp at hy
 ·injection h with h
  subst h
  exact hu
 ·cases h
def tS(tmps:Array Value):ResultVar->Sem Value
 | .tmp t=>pure (tmps.getD t undef)
 | .cell a t=>do loadVar t (<-asAddr (tmps.getD a undef))
theorem HO:∀ (l:List ResultVar) (k:List (Bool×List Lf)->Option X),nS P σ l k=some r->∃ ps,k ps=some r/\∀ af ρ a w,Rl w0 N af ρ σ a w->∃ vs,(l.mapM (tS a.tmps)).run P w = .ok vs w/\vs.length=ps.length/\∀ (i:Nat) p v,ps[i]?=some p->vs[i]?=some v->RP w w0.heap.size af ρ p v
 | [],k,h=>⟨[],h,fun _ _ _ _ _=>⟨[],rfl,rfl,fun i p v hp=>by simp at hp⟩⟩
 | .tmp t :: rest,k,h=>by
  simp only[nS]at h
  split at h
  ·rename_i p hp
   obtain⟨ps,h2,gF⟩:=HO rest _ h
   refine⟨p :: ps,h2,fun af ρ a w hR=>?_⟩
   obtain⟨vs,aW,hl,hv⟩:=gF af ρ a w hR
   refine⟨a.tmps.getD t undef :: vs,?_,by simp[hl],fun i q u hq hu=>?_⟩
   ·rw[List.mapM_cons,Sem.run_bind]
    simp only[tS,Sem.run_pure,Result.andThen_ok,Sem.run_bind,aW]
   ·cases i with
    | zero=>simp only[List.getElem?_cons_zero,Option.some.injEq]at hq hu;subst hq hu;exact Vm hp (hR.tmp t)
    | succ i=>exact hv i q u (by simpa using hq) (by simpa using hu)
  ·cases h
 | .cell c ty :: rest,k,h=>by
  simp only[nS]at h
  obtain⟨y,hy,oQ⟩:=UI (w0:=w0) (N:=N) h
  split at hy
  ·rename_i p hp
   obtain⟨ps,h2,gF⟩:=HO rest _ hy
   refine⟨p :: ps,h2,fun af ρ a w hR=>?_⟩
   obtain⟨vs,aW,hl,hv⟩:=gF af ρ a w hR
   obtain⟨v,rV,tI⟩:=oQ af ρ a w hR _ (hR.tmp c)
   obtain⟨ad,iF⟩:=ain h (hR.tmp c)
   rw[iF]at rV
   have rV:(loadVar ty ad).run P w = .ok v w:=by
    simpa [Instr.loadAt,Instr.sureAddr]using rV
   refine⟨v :: vs,?_,by simp[hl],fun i q u hq hu=>?_⟩
   ·rw[List.mapM_cons,Sem.run_bind]
    simp only[tS,iF,asAddr,Sem.run_pure,Result.andThen_ok,Sem.run_bind,aW,rV]
   ·cases i with
    | zero=>simp only[List.getElem?_cons_zero,Option.some.injEq]at hq hu;subst hq hu;exact Vm hp tI
    | succ i=>exact hv i q u (by simpa using hq) (by simpa using hu)
  ·cases hy
theorem aio{fn:Func}{k:iL->Option X}(h:Dq P σ fn.results k=some r):∃ res,k res=some r/\∀ af ρ a w,Rl w0 N af ρ σ a w->∀ nm,∃ v ax,(results fn a.tmps).run P w = .ok v w/\(∀ b k,ax b=some k->(w0.heap.size<=b\/w0.L b≠none)/\b<w.heap.size/\k≠[])/\rX w w0.heap.size ax nm res v:=by
 unfold Dq at h
 obtain⟨ps,h2,gF⟩:=HO (w0:=w0) (N:=N) _ _ h
 clear h
 split at h2
 ·rename_i qs rs hqs
  cases ho:once rs with
  | false=>rw[ho]at h2;cases h2
  | true=>
   rw[ho,cond_true]at h2
   have gG:∀ p∈rs,rs.lookup p.1=some p.2:=by
    intro p hp
    have:=List.all_eq_true.1 ho p hp
    obtain⟨n,hn,he⟩:=(Option.any_eq_true _ _).1 this
    rw[hn,Nat.eq_of_beq_eq_true he]
   have core:∀ af ρ a w,Rl w0 N af ρ σ a w->∀ nm:Nat->Nat,∃ vs:List Value,(fn.results.mapM (tS a.tmps)).run P w = .ok vs.toArray w/\(∀ b k,eI af rs nm b=some k->(w0.heap.size<=b\/w0.L b≠none)/\b<w.heap.size/\k≠[])/\ja w w0.heap.size (eI af rs nm) nm 0 qs vs:=by
    intro af ρ a w hR nm
    obtain⟨vs,aW,hl,hv⟩:=gF af ρ a w hR
    refine⟨vs,?_,fun b k hk=>?_,Vl hR.root ps 0 qs rs vs hqs gG hl hv⟩
    ·rw[Array.mapM_eq_mapM_toList]
     simp[aW]
    ·unfold eI at hk
     split at hk
     ·cases hk
     ·rename_i k' ej
      have:=hR.cH b k' ej
      split at hk
      ·cases hk
      ·cases vU:rs.lookup _ with
       | none=>rw[vU]at hk;cases hk
       | some n=>
        rw[vU]at hk
        injection hk with hk
        subst hk
        exact⟨this.1,this.2.1,by simp⟩
   have g8:∀ (tmps:Array Value),results fn tmps=(do let vs <-fn.results.mapM (tS tmps);pure (if h:vs.size=1 then vs[0]else .tuple vs)):=fun tmps=>by
    unfold results
    congr 1
   split at h2
   ·rename_i p
    refine⟨_,h2,fun af ρ a w hR nm=>?_⟩
    obtain⟨vs,aW,nR,aT⟩:=core af ρ a w hR nm
    match vs,aT with
    | [v],aT=>exact⟨v,_,by rw[g8,Sem.run_bind,aW];rfl,nR,aT⟩
    | [],aT=>exact aT.elim
    | _ :: _ :: _,aT=>exact aT.2.elim
   ·rename_i aV
    refine⟨_,h2,fun af ρ a w hR nm=>?_⟩
    obtain⟨vs,aW,nR,aT⟩:=core af ρ a w hR nm
    have cT:vs.toArray.size≠1:=by
     intro e
     match qs,vs,aT,aV with
     | [q],[v],_,aV=>exact aV q rfl
     | [],[v],aT,_=>exact aT.elim
     | _ :: _ :: _,[v],aT,_=>exact aT.2.elim
    refine⟨.tuple vs.toArray,_,?_,nR,vs.toArray,rfl,aT⟩
    rw[g8,Sem.run_bind,aW,Result.andThen_ok]
    simp only[cT,dif_neg,not_false_eq_true,Sem.run_pure]
 ·cases h2
end
end Go.Proofs.YtinbifpbkcbnkaaGreat
namespace Go.Proofs.YtinbifpbkcbnkaaGreat
open Go.RowKit
set_option linter.unusedVariables false
inductive In where
 | ak (cs:List V)
 | sl (y:V)
def nF(i:Nat):Nat:=20000+1000*i
def nC(i j:Nat)(x:V):Nat:=bif x.ah then 20001+1000*i+j else 60000+1000*i+j
def AS(i j:Nat)(x:V):Lf:=bif x.plain then .v x else .own [nC i j x]
def xT(i:Nat):Nat->List V->List Lf
 | _,[]=>[]
 | j,x :: xs=>AS i j x :: xT i (j+1) xs
def Vn(i:Nat):Nat->List V->(Nat->Option aP)->(Nat->Option aP)
 | _,[],m=>m
 | j,x :: xs,m=>Vn i (j+1) xs (bif x.plain then m else bG m (nC i j x) (some (.sl x)))
def Oj:Nat->List In->(Nat->Option aP)->(Nat->Option aP)
 | _,[],m=>m
 | i,.ak cs :: r,m=>Oj (i+1) r (Vn i 0 cs (bG m (nF i) (some (.ak (xT i 0 cs)))))
 | i,.sl y :: r,m=>Oj (i+1) r (bG m (nF i) (some (.sl y)))
inductive Ar where
 | pt (p:Pt)
 | mut (i off:Nat)
def Ok(ins:List In):Ar->A
 | .pt (false,[x])=>.lf (.v x)
 | .pt (true,xs)=>.agg (xs.map .v)
 | .pt _=>.undef
 | .mut i off=>match ins[i]? with
  | some (.ak _)=>.aC (nF i) off
  | some (.sl _)=>.lf (.own [nF i])
  | none=>.undef
def Ol(ins:List In)(args:List Ar):S:=⟨fun k=>match args[k]? with
 | some x=>Ok ins x
 | none=>.undef,Oj 0 ins (fun _=>none)⟩
def Vo(w w':World)(ax:bq)(ρ:Nat->Loc)(nm:Nat->Nat):Nat->Nat->List In->List In->Prop
 | _,_,[],[]=>True
 | i,pos,.ak cs :: r,.ak fz :: r'=>(∃ b off cells oR e e',ρ (nF i) = .ak b off/\w.heap[b]?=some (.cells cells e (0,0))/\w'.heap[b]?=some (.cells oR e' (0,0))/\ax b=some [nm pos]/\off+fz.length<=oR.size/\fz.length=cs.length/\
   ∀ (j:Nat) x',fz[j]?=some x'->∃ u,oR[off+j]?=some u/\((x'.plain=true/\∀ (w:World) (B:Nat) (af:bq) (q:List Nat),RV w B af q x' u)\/(x' = .nil/\u = .slice none 0 0/\∃ x0,cs[j]?=some x0/\x0.ah=false)\/(x'.plain=false/\x'.ah=true/\x'.rK=true/\(∃ x0,cs[j]?=some x0/\Wk x0 x')/\cells[off+j]?=some u)\/(x'.ah=false/\RV w' w.heap.size ax [nm (pos+1+j)] x' u)))/\
   Vo w w' ax ρ nm (i+1) (pos+1+cs.length) r r'
 | i,pos,.sl y :: r,.sl y' :: r'=>(y' = .nil\/∃ v,ρ (nF i) = .dJ v/\RV w' w.heap.size ax [nm pos] y' v)/\Vo w w' ax ρ nm (i+1) (pos+1) r r'
 | _,_,_,_=>False
def HP(w w':World)(ax:bq)(ρ:Nat->Loc)(nm:Nat->Nat):Nat->Nat->List In->List In->Prop
 | _,_,[],[]=>True
 | i,pos,.ak cs :: r,.ak fz :: r'=>(∃ b off cells oR e e',ρ (nF i) = .ak b off/\w.heap[b]?=some (.cells cells e (0,0))/\w'.heap[b]?=some (.cells oR e' (0,0))/\ax b=some [nm pos]/\off+fz.length<=oR.size/\fz.length=cs.length/\
   ∀ (j:Nat) x',fz[j]?=some x'->∃ u,oR[off+j]?=some u/\((x'.plain=true/\∀ (w:World) (B:Nat) (af:bq) (q:List Nat),RV w B af q x' u)\/(x'.plain=false/\x'.ah=true/\cells[off+j]?=some u)\/(x'.ah=false/\RV w' w.heap.size ax [nm (pos+1+j)] x' u)))/\
   HP w w' ax ρ nm (i+1) (pos+1+cs.length) r r'
 | i,pos,.sl y :: r,.sl y' :: r'=>(y' = .nil\/∃ v,ρ (nF i) = .dJ v/\RV w' w.heap.size ax [nm pos] y' v)/\HP w w' ax ρ nm (i+1) (pos+1) r r'
 | _,_,_,_=>False
def iL.len:iL->Nat
 | .one p=>p.2.length
 | .cq ps=>(ps.map fun p=>p.2.length).sum
def HQ(w:World)(B:Nat)(af:bq)(ρ:Nat->Loc):Nat->List In->Prop
 | _,[]=>True
 | i,.ak cs :: r=>dK w B af ρ (nF i) (.ak (xT i 0 cs))/\(∀ (j:Nat) x,cs[j]?=some x->x.plain=false->dK w B af ρ (nC i j x) (.sl x))/\HQ w B af ρ (i+1) r
 | i,.sl y :: r=>dK w B af ρ (nF i) (.sl y)/\HQ w B af ρ (i+1) r
/-! The end: what is given back,and what the written parameters hold. -/
/-! Types of parameters and results. -/
def nT:List (Bool×TC×Nat)->Type
 | []=>Unit
 | [(_,t,_)]=>T t
 | (_,t,_) :: r=>T t×nT r
def xU:(l:List (Bool×TC×Nat))->nT l->List Pt
 | [],_=>[]
 | [(b,t,g)],x=>[(b,enc t g x)]
 | (b,t,g) :: q :: r,x=>(b,enc t g x.1) :: xU (q :: r) x.2
def rZ:(l:List (Bool×TC×Nat))->List Pt->Option (nT l)
 | [],[]=>some ()
 | [(b,t,g)],[(b',vs)]=>bif b==b' then dec t g vs else none
 | (b,t,g) :: q :: r,(b',vs) :: ps=>bif b==b' then (match dec t g vs,rZ (q :: r) ps with
  | some x,some xs=>some (x,xs)
  | _,_=>none)else none
 | _,_=>none
def AT(l:List (Bool×TC×Nat)):iL->Option (nT l)
 | .one p=>rZ l [p]
 | .cq ps=>bif Nat.beq ps.length 1 then none else rZ l ps
def ez(l:List (Bool×TC×Nat))(x:nT l):iL:=
 match xU l x with
 | [p]=>.one p
 | ps=>.cq ps
inductive PK where
 | v (b:Bool) (t:TC)
 | p (t:TC) (g off:Nat)
 | s (t:TC) (g:Nat)
def nU:List PK->Type
 | []=>Unit
 | .v _ t :: r=>T t×nU r
 | .p t _ _ :: r=>T t×nU r
 | .s t _ :: r=>List (T t)×nU r
def Dv:List (Bool×TC×Nat)->Type
 | []=>Unit
 | (true,t,_) :: r=>T t×Dv r
 | (false,t,_) :: r=>List (T t)×Dv r
def gX:(l:List (Bool×TC×Nat))->Dv l->List In
 | [],_=>[]
 | (true,t,g) :: r,x=>.ak (enc t g x.1) :: gX r x.2
 | (false,t,g) :: r,x=>.sl (bif Nat.ble 1000000 g then .nil else .sl t (g+2) false x.1) :: gX r x.2
def gm:List PK->List (Bool×TC×Nat)
 | []=>[]
 | .v _ _ :: r=>gm r
 | .p t g _ :: r=>(true,t,g) :: gm r
 | .s t g :: r=>(false,t,g) :: gm r
def qG:(l:List PK)->nU l->List In
 | [],_=>[]
 | .v _ _ :: r,x=>qG r x.2
 | .p t g _ :: r,x=>.ak (enc t g x.1) :: qG r x.2
 | .s t g :: r,x=>.sl (.sl t (g+2) false x.1) :: qG r x.2
def mR:(l:List PK)->Nat->nU l->List Ar
 | [],_,_=>[]
 | .v b t :: r,i,x=>.pt (b,enc t 0 x.1) :: mR r i x.2
 | .p _ _ off :: r,i,x=>.mut i off :: mR r (i+1) x.2
 | .s _ _ :: r,i,x=>.mut i 0 :: mR r (i+1) x.2
structure lN where
 ps:List PK
 ro:List (Bool×TC×Nat)
 F:nU ps->Option (nT ro×Dv (gm ps))
def xV(P:Program)(f:Nat)(c:lN):Prop:=
 ∀ x y,c.F x=some y->∀ (nm:Nat->Nat) (w:World) (af:bq) (ρ:Nat->Loc) (bZ:Array Value),HQ w w.heap.size af ρ 0 (qG c.ps x)->(∀ b k,af b=some k->b<w.heap.size/\k≠[])->
     bZ.size=c.ps.length->(∀ i,RA w w.heap.size af ρ ((Ol (qG c.ps x) (mR c.ps 0 x)).t i) (bZ.getD i undef))->∀ hQ:Hd w af,
     Calls P f bZ w fun e w'=>∃ v ax,e = .returned v/\iE ⟨w,af,fun _=>none,hQ,fun _ _=>rfl⟩ w w'/\(∀ b k,ax b=some k->(w.heap.size<=b\/af b≠none)/\b<w'.heap.size/\k≠[])/\rX w' w.heap.size ax nm (ez c.ro y.1) v/\HP w w' ax ρ nm 0 (ez c.ro y.1).len (qG c.ps x) (gX (gm c.ps) y.2)
end Go.Proofs.YtinbifpbkcbnkaaGreat
namespace Go.Proofs.YtinbifpbkcbnkaaGreat
open Go.RowKit
set_option linter.unusedVariables false
section
variable {P:Program} {w w':World} {w0:Wd} {B N:Nat} {af ax:bq} {ρ ρ':Nat->Loc} {σ:S} {a:Act} {X:Type} {d:Nat} {r:X} {rs:List (Nat×Nat)} {nm:Nat->Nat}
theorem Vp{i:Nat}:∀ (cs:List V) (j0 j:Nat) x,cs[j]?=some x->(xT i j0 cs)[j]?=some (AS i (j0+j) x)
 | [],j0,j,x,h=>by simp at h
 | c :: cs,j0,0,x,h=>by simp at h;subst h;rfl
 | c :: cs,j0,j+1,x,h=>by
  simp only[xT,List.getElem?_cons_succ]
  rw[Vp cs (j0+1) j x (by simpa using h)]
  congr 2
  omega
end
end Go.Proofs.YtinbifpbkcbnkaaGreat
namespace Go.Proofs.YtinbifpbkcbnkaaGreat
open Go.RowKit
set_option linter.unusedVariables false
def bN(n:Nat):List Nat->Bool
 | []=>false
 | m :: l=>Nat.beq n m || bN n l
theorem qH{n:Nat}:∀ {l:List Nat},bN n l=true ↔ n∈l
 | []=>by simp[bN]
 | m :: l=>by
  simp only[bN,Bool.or_eq_true,List.mem_cons,qH (l:=l)]
  constructor
  ·rintro(h | h)
   ·exact .inl (Nat.eq_of_beq_eq_true h)
   ·exact .inr h
  ·rintro(h | h)
   ·left;subst h;exact Nat.beq_refl n
   ·exact .inr h
theorem Vq{n:Nat}{l:List Nat}(h:bN n l=false):n ∉ l:=fun k=>by rw[qH.2 k]at h;cases h
def cg(k:List Nat)(l:List Nat):Bool:=match k.getLast? with
 | some r=>bN r l
 | none=>false
def Lf.bk(ns cn:List Nat):Lf->Lf
 | .own k=>bif cg k cn || (cg k ns && !(Nat.beq k.length 1))then .dead else .own k
 | x=>x
def A.bk(ns cn:List Nat):A->A
 | .lf x=>.lf (x.bk ns cn)
 | .agg cs=>.agg (cs.map (Lf.bk ns cn))
 | .cq xs=>.cq (xs.map fun p=>(p.1,p.2.map (Lf.bk ns cn)))
 | .ptr k=>bif cg k cn || cg k ns then .undef else .ptr k
 | .aC r j=>bif bN r cn then .undef else .aC r j
 | .pk r n=>bif bN r cn then .undef else .pk r n
 | .view k s i j=>bif cg k cn || cg k ns then .undef else .view k s i j
 | .fn f cap=>bif cap.any (fun p=>bN p.1 cn)then .undef else .fn f cap
 | x=>x
def aP.bk(ns cn:List Nat):aP->aP
 | .ak cs=>.ak (cs.map (Lf.bk ns cn))
 | .gh xs=>.gh (xs.map (A.bk ns cn))
 | x=>x
def S.bk(σ:S)(ns cn:List Nat)(nr:List (Nat×aP)):S:=⟨fun k=>(σ.t k).bk ns cn,fun r=>match nr.lookup r with
 | some x=>some x
 | none=>bif bN r ns || bN r cn then none else (σ.m r).map (aP.bk ns cn)⟩
structure oS (w w':World) (af cR:bq) (ρ dW:Nat->Loc) (ns cn:List Nat):Prop where
 size:w.heap.size<=w'.heap.size
 same:∀ b,b<w.heap.size->(∀ k,af b=some k->cg k ns=false)->w'.heap[b]?=w.heap[b]?/\cR b=af b
 dF:∀ r,bN r cn=false->dW r=ρ r
 af:∀ b k,af b=some k->b<w.heap.size/\k≠[]
section
variable {P:Program} {w w':World} {w0:Wd} {B N:Nat} {af cR ax:bq} {ρ dW:Nat->Loc} {σ:S} {a:Act} {X:Type} {d:Nat} {r:X} {ns cn:List Nat}
theorem xW{j i s:Nat}{q:List Nat}{l:List Nat}(h:q≠[]):cg (j :: i :: s :: q) l=cg q l:=by
 cases q with
 | nil=>exact absurd rfl h
 | cons x q=>simp[cg,List.getLast?_cons_cons]
theorem RV.iu(hv:oS w w' af cR ρ dW ns cn){q:List Nat}{x:V}{v:Value}(h:RV w B af q x v)(hq:cg q ns=false\/x.ah=true):RV w' B cR q x v:=by
 induction h with
 | int=>exact .int _ _ _
 | bool=>exact .bool _ _
 | str=>exact .str _ _
 | nil=>exact .nil _
 | cD=>exact .cD _ _ _
 | cK=>exact .cK _ _ _ _ _ (by first | assumption | omega)
 | cW=>exact .cW _ _ _ _ _ (by first | assumption | omega)
 | ah q t o qn l b off cap u ho hl hb h1 dP hc hr ih=>
  obtain⟨e1,e2⟩:=hv.same b hb (fun k hk=>by rw[hl]at hk;cases hk)
  exact .ah _ _ _ _ _ _ _ _ u ho (e2.trans hl) (Nat.lt_of_lt_of_le hb hv.size) h1 dP (fun i h j x hx=>(World.cell?_of_block (a:=⟨b,_,none⟩) e1).trans (hc i h j x hx)) (fun i h j x hx=>ih i h j x hx (.inr (jl t o l[i] ho j x hx)))
 | own q t o qn l b cap cs u hl hh hs hn hm hc hr ih=>
  have jW:cg q ns=false:=by
   rcases hq with hq | hq
   ·exact hq
   ·simp[V.ah]at hq;omega
  have aV:q≠[]:=(hv.af b q hl).2
  obtain⟨e1,e2⟩:=hv.same b (hv.af b q hl).1 (fun k hk=>by rw[hl]at hk;injection hk with hk;subst hk;exact jW)
  exact .own _ _ _ _ _ _ _ cs u (e2.trans hl) (e1.trans hh) hs hn hm hc (fun i h j x hx=>ih i h j x hx (.inl (by rw[xW aV];exact jW)))
theorem Om(hv:oS w w' af cR ρ dW ns cn):∀ (k:List Nat) (ad:Addr),cg k ns=false->cg k cn=false->addrAt w af ρ k=some ad->addrAt w' cR dW k=some ad
 | [],_,_,_,h=>by simp[addrAt]at h
 | [_],_,_,_,h=>by simp[addrAt]at h
 | [_,_],_,_,_,h=>by simp[addrAt]at h
 | [_,_,_],_,_,_,h=>by simp[addrAt]at h
 | [j,i,s,r],_,h1,h2,h=>by
  have h1:cg [r] ns=false:=by rwa [xW (by simp)]at h1
  have h2:bN r cn=false:=by rw[xW (by simp)]at h2;exact h2
  simp only[addrAt]at h ⊢
  rw[hv.dF r h2]
  split at h
  ·rename_i v b n c hr
   split at h
   ·rename_i hl
    obtain⟨_,e2⟩:=hv.same b (hv.af b _ hl).1 (fun k hk=>by rw[hl]at hk;injection hk with hk;subst hk;exact h1)
    rw[if_pos (e2.trans hl)]
    exact h
   ·cases h
  ·cases h
 | j :: i :: s :: x :: y :: q,ad,h1,h2,h=>by
  rw[xW (by simp)]at h1 h2
  simp only[addrAt]at h ⊢
  cases ha:addrAt w af ρ (x :: y :: q)with
  | none=>rw[ha]at h;cases h
  | some mL=>
   rw[Om hv _ _ h1 h2 ha]
   rw[ha]at h
   cases hc:w.cell? mL with
   | none=>simp[hc]at h
   | some v=>
    obtain⟨j',i',s',q',hk,fe,_,_⟩:=vA _ _ ha
    have aV:q'≠[]:=(hv.af _ _ fe).2
    have jW:cg q' ns=false:=by
     rw[hk,xW aV]at h1
     exact h1
    obtain⟨e1,_⟩:=hv.same mL.block (hv.af _ _ fe).1 (fun k hk=>by rw[fe]at hk;injection hk with hk;subst hk;exact jW)
    have e:w'.cell? mL=some v:=(World.cell?_of_block e1).trans hc
    simp only[Option.bind_some,hc]at h
    simp only[Option.bind_some,e]
    split at h
    ·split at h
     ·rename_i hl
      obtain⟨_,e2⟩:=hv.same _ (hv.af _ _ hl).1 (fun k hk=>by rw[hl]at hk;injection hk with hk;subst hk;exact h1)
      rw[if_pos (e2.trans hl)]
      exact h
     ·cases h
    ·cases h
theorem Vr(hv:oS w w' af cR ρ dW ns cn)(k:List Nat)(u:Value)(h1:k.length=1\/cg k ns=false)(h2:cg k cn=false)(h:cc w af ρ k=some u):cc w' cR dW k=some u:=by
 match k,h1,h2,h with
 | [],_,_,h=>simp[cc,addrAt]at h
 | [r],_,h2,h=>
  simp only[cc]at h ⊢
  rw[hv.dF r h2]
  exact h
 | x :: y :: q,h1,h2,h=>
  have h1:cg (x :: y :: q) ns=false:=by
   rcases h1 with h1 | h1
   ·simp at h1
   ·exact h1
  simp only[cc]at h ⊢
  cases ha:addrAt w af ρ (x :: y :: q)with
  | none=>rw[ha]at h;cases h
  | some ad=>
   rw[Om hv _ _ h1 h2 ha]
   rw[ha]at h
   have h:w.cell? ad=some u:=h
   obtain⟨j',i',s',q',hk,fe,_,_⟩:=vA _ _ ha
   have aV:q'≠[]:=(hv.af _ _ fe).2
   rw[hk,xW aV]at h1
   obtain⟨e1,_⟩:=hv.same ad.block (hv.af _ _ fe).1 (fun k hk=>by rw[fe]at hk;injection hk with hk;subst hk;exact h1)
   exact(World.cell?_of_block e1).trans h
theorem cL.iu(hv:oS w w' af cR ρ dW ns cn){x:Lf}{u:Value}(h:cL w B af ρ x u):cL w' B cR dW (x.bk ns cn) u:=by
 cases x with
 | v x=>exact⟨h.1,h.2.iu hv (.inr h.1)⟩
 | dead=>trivial
 | own k=>
  have e:Lf.bk ns cn (.own k)=(bif cg k cn || (cg k ns && !(Nat.beq k.length 1))then .dead else .own k):=rfl
  rw[e]
  cases hb:(cg k cn || (cg k ns && !(Nat.beq k.length 1)))with
  | true=>trivial
  | false=>
   rw[Bool.or_eq_false_iff]at hb
   refine⟨h.1,Vr hv k u ?_ hb.1 h.2⟩
   have hb:=hb.2
   cases hn:cg k ns with
   | false=>exact .inr rfl
   | true=>
    rw[hn,Bool.true_and,Bool.not_eq_false']at hb
    exact .inl (Nat.eq_of_beq_eq_true hb)
theorem cX.iu(hv:oS w w' af cR ρ dW ns cn){cs:List Lf}{us:Array Value}(h:cX w B af ρ cs us):cX w' B cR dW (cs.map (Lf.bk ns cn)) us:=by
 refine⟨by rw[List.length_map];exact h.1,fun j x hx=>?_⟩
 rw[List.getElem?_map]at hx
 cases hy:cs[j]? with
 | none=>rw[hy]at hx;cases hx
 | some y=>
  rw[hy]at hx
  injection hx with hx
  subst hx
  obtain⟨u,hu,r⟩:=h.2 j y hy
  exact⟨u,hu,r.iu hv⟩
theorem RP.iu(hv:oS w w' af cR ρ dW ns cn){p:Bool×List Lf}{u:Value}(h:RP w B af ρ p u):RP w' B cR dW (p.1,p.2.map (Lf.bk ns cn)) u:=by
 obtain⟨b,cs⟩:=p
 cases b with
 | true=>obtain⟨us,e,h⟩:=h;exact⟨us,e,h.iu hv⟩
 | false=>exact cX.iu hv h
theorem RA.iu(hv:oS w w' af cR ρ dW ns cn){x:A}{u:Value}(h:RA w B af ρ x u):RA w' B cR dW (x.bk ns cn) u:=by
 cases x with
 | undef=>trivial
 | skip=>exact h
 | lf x=>exact cL.iu hv h
 | agg cs=>exact RP.iu hv (p:=(true,cs)) h
 | cq xs=>
  obtain⟨us,e,hs,h⟩:=h
  refine⟨us,e,by rw[List.length_map];exact hs,fun j p hp=>?_⟩
  rw[List.getElem?_map]at hp
  cases hy:xs[j]? with
  | none=>rw[hy]at hp;cases hp
  | some y=>
   rw[hy]at hp
   injection hp with hp
   subst hp
   obtain⟨v,dR,r⟩:=h j y hy
   exact⟨v,dR,r.iu hv⟩
 | ptr k=>
  have e:A.bk ns cn (.ptr k)=(bif cg k cn || cg k ns then .undef else .ptr k):=rfl
  rw[e]
  cases hb:(cg k cn || cg k ns)with
  | true=>trivial
  | false=>
   rw[Bool.or_eq_false_iff]at hb
   obtain⟨ad,e,h⟩:=h
   exact⟨ad,e,Om hv k ad hb.2 hb.1 h⟩
 | view k s i j=>
  have e:A.bk ns cn (.view k s i j)=(bif cg k cn || cg k ns then .undef else .view k s i j):=rfl
  rw[e]
  cases hb:(cg k cn || cg k ns)with
  | true=>trivial
  | false=>
   rw[Bool.or_eq_false_iff]at hb
   obtain⟨A,n,c,h,g⟩:=h
   exact⟨A,n,c,Vr hv k _ (.inr hb.2) hb.1 h,g⟩
 | pk r n=>
  have e:A.bk ns cn (.pk r n)=(bif bN r cn then .undef else .pk r n):=rfl
  rw[e]
  cases hb:bN r cn with
  | true=>trivial
  | false=>
   obtain⟨b,e,h⟩:=h
   exact⟨b,(hv.dF r hb).trans e,h⟩
 | aC r j=>
  have e:A.bk ns cn (.aC r j)=(bif bN r cn then .undef else .aC r j):=rfl
  rw[e]
  cases hb:bN r cn with
  | true=>trivial
  | false=>
   obtain⟨b,off,e,h⟩:=h
   exact⟨b,off,(hv.dF r hb).trans e,h⟩
 | gz cs=>
  obtain⟨b,off,e,hb,hl,h⟩:=h
  obtain⟨e1,e2⟩:=hv.same b hb (fun k hk=>by rw[hl]at hk;cases hk)
  refine⟨b,off,e,Nat.lt_of_lt_of_le hb hv.size,e2.trans hl,fun j x hx=>?_⟩
  obtain⟨hf,v,dR,hr⟩:=h j x hx
  exact⟨hf,v,(World.cell?_of_block (a:=⟨b,_,none⟩) e1).trans dR,hr.iu hv (.inr hf)⟩
 | kN f cs=>
  obtain⟨pv,e0,h⟩:=h
  refine⟨pv,e0,?_⟩
  obtain⟨b,off,e,hb,hl,h⟩:=h
  obtain⟨e1,e2⟩:=hv.same b hb (fun k hk=>by rw[hl]at hk;cases hk)
  refine⟨b,off,e,Nat.lt_of_lt_of_le hb hv.size,e2.trans hl,fun j x hx=>?_⟩
  obtain⟨hf,v,dR,hr⟩:=h j x hx
  exact⟨hf,v,(World.cell?_of_block (a:=⟨b,_,none⟩) e1).trans dR,hr.iu hv (.inr hf)⟩
 | fn f cap=>
  have e:A.bk ns cn (.fn f cap)=(bif cap.any (fun p=>bN p.1 cn)then .undef else .fn f cap):=rfl
  rw[e]
  cases hb:cap.any (fun p=>bN p.1 cn)with
  | true=>trivial
  | false=>
   obtain⟨vs,e,hs,h⟩:=h
   refine⟨vs,e,hs,fun j p hp=>?_⟩
   obtain⟨b,off,e2,h2⟩:=h j p hp
   have:=List.any_eq_false.1 hb p (List.mem_of_getElem? hp)
   exact⟨b,off,(hv.dF _ (by simpa using this)).trans e2,h2⟩
theorem dK.iu(hv:oS w w' af cR ρ dW ns cn){n:Nat}{x:aP}(h:dK w B af ρ n x)(h1:bN n ns=false)(h2:bN n cn=false):dK w' B cR dW n (x.bk ns cn):=by
 cases h with
 | ak b off cells e cs us aK hl hh hs hc=>
  obtain⟨e1,e2⟩:=hv.same b (hv.af b _ hl).1 (fun k hk=>by rw[hl]at hk;injection hk with hk;subst hk;exact h1)
  refine .ak b off cells e _ us ((hv.dF n h2).trans aK) (e2.trans hl) (e1.trans hh) (by rw[List.length_map];exact hs) (fun j x hx=>?_)
  rw[List.getElem?_map]at hx
  cases hy:cs[j]? with
  | none=>rw[hy]at hx;cases hx
  | some y=>
   rw[hy]at hx
   injection hx with hx
   subst hx
   exact⟨(hc j y hy).1,(hc j y hy).2.iu hv⟩
 | sl v y aK hr=>exact .sl v y ((hv.dF n h2).trans aK) (hr.iu hv (.inl h1))
 | mp b c es l aK hl hh he=>
  obtain⟨e1,e2⟩:=hv.same b (hv.af b _ hl).1 (fun k hk=>by rw[hl]at hk;injection hk with hk;subst hk;exact h1)
  exact .mp b c es l ((hv.dF n h2).trans aK) (e2.trans hl) (e1.trans hh) he
 | gh us xs aK hx=>
  refine .gh us _ ((hv.dF n h2).trans aK) (fun j x hj=>?_)
  rw[List.getElem?_map]at hj
  cases hy:xs[j]? with
  | none=>rw[hy]at hj;cases hj
  | some y=>
   rw[hy]at hj
   injection hj with hj
   subst hj
   exact(hx j y hy).iu hv
theorem Rl.iu(h:Rl w0 N af ρ σ a w)(hv:oS w w' af cR ρ dW ns cn)(hb:iE w0 w w')(hl:∀ b k,cR b=some k->(w0.heap.size<=b\/w0.L b≠none)/\b<w'.heap.size/\k≠[])(hF:∀ r,bN r cn=true->w0.F r=none){nr:List (Nat×aP)}
  (kQ:∀ r x,nr.lookup r=some x->dK w' w0.heap.size cR dW r x):Rl w0 N cR dW (σ.bk ns cn nr) a w':=by
 refine⟨h.below.trans hb,hl,fun r x hx=>?_,fun k=>(h.tmp k).iu hv,h.size,h.defers,fun r l hr=>?_,h.eg⟩
 ·simp only[S.bk]at hx
  split at hx
  ·rename_i y hy
   injection hx with hx
   subst hx
   exact kQ r y hy
  ·cases hm:(bN r ns || bN r cn)with
   | true=>rw[hm]at hx;cases hx
   | false=>
    rw[hm,cond_false]at hx
    rw[Bool.or_eq_false_iff]at hm
    cases hy:σ.m r with
    | none=>rw[hy]at hx;cases hx
    | some y=>
     rw[hy]at hx
     injection hx with hx
     subst hx
     exact(h.root r y hy).iu hv hm.1 hm.2
 ·have hc:bN r cn=false:=by
   cases hc:bN r cn with
   | false=>rfl
   | true=>rw[hF r hc]at hr;cases hr
  exact(hv.dF r hc).trans (h.fix r l hr)
end
end Go.Proofs.YtinbifpbkcbnkaaGreat
namespace Go.Proofs.YtinbifpbkcbnkaaGreat
open Go.RowKit
set_option linter.unusedVariables false
inductive Mu where
 | ak (r:Nat) (cs:List Lf) (vs:List (V×Option Nat))
 | sl (q:Nat) (y:V)
def Mu.root:Mu->Nat
 | .ak r _ _=>r
 | .sl q _=>q
def sg(m:Nat->Option aP):Lf->Option (V×Option Nat)
 | .v x=>some (x.iZ,none)
 | .own [q]=>match m q with
  | some (.sl y)=>bif y.ah then some (y.iZ,none)else some (y,some q)
  | _=>none
 | _=>none
def oT(m:Nat->Option aP):List Lf->Option (List (V×Option Nat))
 | []=>some []
 | l :: ls=>match sg m l,oT m ls with
  | some v,some vs=>some (v :: vs)
  | _,_=>none
def si(σ:S):PK->A->Option (Option Mu)
 | .v _ _,_=>some none
 | .p _ _ off,.aC r j=>(match (bif Nat.beq j off then σ.m r else none)with
  | some (.ak cs)=>(match oT σ.m cs with
   | some vs=>bif Nat.blt cs.length 999 then some (some (.ak r cs vs))else none
   | none=>none)
  | _=>none)
 | .s _ _,.lf (.own [q])=>(match σ.m q with
  | some (.sl y)=>bif y.ah then none else some (some (.sl q y))
  | _=>none)
 | _,_=>none
def iM(σ:S):List PK->List Operand->Option (List Mu)
 | [],[]=>some []
 | p :: ps,x :: xs=>(match si σ p (aA σ x),iM σ ps xs with
  | some (some mu),some aJ=>some (mu :: aJ)
  | some none,some aJ=>some aJ
  | _,_=>none)
 | _,_=>none
def AU(i:Nat):Nat->List (V×Option Nat)->List (Nat×Nat)
 | _,[]=>[]
 | j,(_,some q) :: vs=>(q,60000+1000*i+j) :: AU i (j+1) vs
 | j,(_,none) :: vs=>AU i (j+1) vs
def jB:Nat->List Mu->List (Nat×Nat)
 | _,[]=>[]
 | i,.ak r _ vs :: aJ=>(r,nF i) :: (AU i 0 vs++jB (i+1) aJ)
 | i,.sl q _ :: aJ=>(q,nF i) :: jB (i+1) aJ
def HR(ns:List Nat):Lf->Bool
 | .own k=>!cg k ns
 | _=>true
def mS{X:Type}(σ:S)(ns:List Nat):List Lf->(List V->Option X)->Option X
 | [],k=>k []
 | x :: xs,k=>bif HR ns x then gB σ x fun y=>mS σ ns xs fun ys=>k (y.iZ :: ys)else none
def nW{X:Type}(σ:S)(ns:List Nat)(x:A)(k:Pt->Option X):Option X:=
 match x with
 | .lf y=>mS σ ns [y] fun vs=>k (false,vs)
 | .agg ys=>mS σ ns ys fun vs=>k (true,vs)
 | _=>none
def gO{X:Type}(σ:S)(ns:List Nat):(ps:List PK)->List Operand->List Mu->(nU ps->Option X)->Option X
 | [],[],[],k=>k ()
 | .v b t :: ps,x :: xs,aJ,k=>nW σ ns (aA σ x) fun p=>bif p.1==b then (match dec t 0 p.2 with
  | some y=>gO σ ns ps xs aJ fun ys=>k (y,ys)
  | none=>none)else none
 | .p t g _ :: ps,_ :: xs,.ak _ _ vs :: aJ,k=>(match (bif Nat.beq (g % 2) 0 then dec t g (vs.map (·.1))else none)with
  | some y=>gO σ ns ps xs aJ fun ys=>k (y,ys)
  | none=>none)
 | .s t g :: ps,_ :: xs,.sl _ y :: aJ,k=>(match (bif Nat.beq (g % 2) 0 then y.dh t (g+2)else none)with
  | some z=>gO σ ns ps xs aJ fun ys=>k (z,ys)
  | none=>none)
 | _,_,_,_=>none
def tT(w:World)(ρ:Nat->Loc)(rs:List Nat):Nat->Loc:=fun n=>
 if n<60000 then (if (n-20000) % 1000=0 then ρ (rs.getD ((n-20000) / 1000) 0)else (match ρ (rs.getD ((n-20000) / 1000) 0)with
  | .ak b off=>.dJ ((w.cell? ⟨b,off+((n-20000) % 1000-1),none⟩).getD undef)
  | .dJ v=>.dJ v
  | .bZ us=>.bZ us))
 else (match ρ (rs.getD ((n-60000) / 1000) 0)with
  | .ak b off=>.dJ ((w.cell? ⟨b,off+(n-60000) % 1000,none⟩).getD undef)
  | .dJ v=>.dJ v
  | .bZ us=>.bZ us)
theorem Dw{w:World}{ρ:Nat->Loc}{rs:List Nat}{i r:Nat}(h:rs[i]?=some r)(hi:i<40):tT w ρ rs (nF i)=ρ r:=by
 have h1:nF i<60000:=by unfold nF;omega
 have h2:(nF i-20000) % 1000=0:=by unfold nF;omega
 have h3:(nF i-20000) / 1000=i:=by unfold nF;omega
 have h4:rs.getD i 0=r:=by rw[List.getD_eq_getElem?_getD,h];rfl
 unfold tT
 rw[if_pos h1,if_pos h2,h3,h4]
theorem aip{w:World}{ρ:Nat->Loc}{rs:List Nat}{i j r b off:Nat}{u:Value}{x:V}(h:rs[i]?=some r)(hi:i<40)(hj:j<999)(aK:ρ r = .ak b off)(hu:w.cell? ⟨b,off+j,none⟩=some u):tT w ρ rs (nC i j x) = .dJ u:=by
 have h4:rs.getD i 0=r:=by rw[List.getD_eq_getElem?_getD,h];rfl
 unfold tT nC
 cases x.ah with
 | true=>
  have h1:20001+1000*i+j<60000:=by omega
  have h2:¬ (20001+1000*i+j-20000) % 1000=0:=by omega
  have h3:(20001+1000*i+j-20000) / 1000=i:=by omega
  have h5:(20001+1000*i+j-20000) % 1000-1=j:=by omega
  simp only[cond_true]
  rw[if_pos h1,if_neg h2,h3,h4,aK,h5]
  simp[hu]
 | false=>
  have h1:¬ 60000+1000*i+j<60000:=by omega
  have h3:(60000+1000*i+j-60000) / 1000=i:=by omega
  have h5:(60000+1000*i+j-60000) % 1000=j:=by omega
  simp only[cond_false]
  rw[if_neg h1,h3,h4,aK,h5]
  simp[hu]
def V.HS:V->Bool
 | .sl _ o _ _=>Nat.beq (o % 2) 0
 | _=>true
section
variable {P:Program} {w w':World} {w0:Wd} {B N:Nat} {af cR ax:bq} {ρ dW:Nat->Loc} {σ:S} {a:Act} {X:Type} {d:Nat} {r:X} {ns cn:List Nat}
theorem RV.Vs{B':Nat}{q:List Nat}{x:V}{v:Value}(h:RV w B af q x v)(hx:x.HS=true):RV w B' af q x v:=by
 induction h with
 | int=>exact .int _ _ _
 | bool=>exact .bool _ _
 | str=>exact .str _ _
 | nil=>exact .nil _
 | cD=>exact .cD _ _ _
 | cK=>exact .cK _ _ _ _ _ (by first | assumption | omega)
 | cW=>exact .cW _ _ _ _ _ (by first | assumption | omega)
 | ah q t o qn l b off cap u ho hl hb h1 dP hc hr ih=>
  have hx:=Nat.eq_of_beq_eq_true hx
  have ho0:o=0:=by omega
  subst ho0
  refine .ah _ _ _ _ _ _ _ _ u ho hl hb (by omega) dP hc (fun i h j x cz=>ih i h j x cz ?_)
  have:=s8 t 0 l[i] x (List.mem_of_getElem? cz)
  cases x with
  | sl t' o' q' l'=>
   have:o'=0:=by simpa [V.gr]using this
   subst this
   rfl
  | _=>rfl
 | own q t o qn l b cap cs u hl hh hs hn hm hc hr ih=>
  have hx:=Nat.eq_of_beq_eq_true hx
  refine .own _ _ _ _ _ _ _ cs u hl hh hs hn hm hc (fun i h j x cz=>ih i h j x cz ?_)
  have:=s8 t o l[i] x (List.mem_of_getElem? cz)
  cases x with
  | sl t' o' q' l'=>
   have:o'=o:=by simpa [V.gr]using this
   subst this
   show Nat.beq (o' % 2) 0=true
   rw[show o' % 2=0 by omega]
   rfl
  | _=>rfl
theorem RV.out{q q':List Nat}{x:V}{v:Value}(h:RV w B af q x v)(h1:∀ b,af b=none->ax b=none)(h2:∀ b k,af b=some k->k≠[]/\(cg k ns=false->ax b=none))(hq:x.ah=true\/cg q ns=false){B':Nat}:RV w B' ax q' x.iZ v:=by
 induction h generalizing q' with
 | int=>exact .int _ _ _
 | bool=>exact .bool _ _
 | str=>exact .str _ _
 | nil=>exact .nil _
 | cD=>exact .cD _ _ _
 | cK=>exact .cK _ _ _ _ _ (by first | assumption | omega)
 | cW=>exact .cW _ _ _ _ _ (by first | assumption | omega)
 | ah q t o qn l b off cap u ho hl hb de dP hc hr ih=>
  refine .ah _ _ _ _ _ _ _ _ u (by omega) (h1 b hl) hb (by omega) dP (fun i h j x hx=>?_) (fun i h j x hx=>?_)
  ·obtain⟨y,hy,_⟩:=s9 t o l[i] j x hx
   exact hc i h j y hy
  ·obtain⟨y,hy,rfl⟩:=s9 t o l[i] j x hx
   exact ih i h j y hy (.inl (jl t o l[i] ho j y hy))
 | own q t o qn l b cap cs u hl hh hs hn hm hc hr ih=>
  have jW:cg q ns=false:=by
   rcases hq with hq | hq
   ·simp[V.ah]at hq;omega
   ·exact hq
  obtain⟨aV,c9⟩:=h2 b q hl
  refine .ah _ _ _ _ _ _ _ _ u (by omega) (c9 jW) (Array.getElem?_eq_some_iff.1 hh).1 (by omega) hn (fun i h j x hx=>?_) (fun i h j x hx=>?_)
  ·obtain⟨y,hy,_⟩:=s9 t o l[i] j x hx
   have:=hc i h j y hy
   rw[Nat.zero_add,cell_of_row w b _ cs _ _ hh]
   exact this
  ·obtain⟨y,hy,rfl⟩:=s9 t o l[i] j x hx
   exact ih i h j y hy (.inr (by rw[xW aV];exact jW))
theorem aiq{x:Lf}{k:V->Option X}(h:gB σ x k=some r):∃ y,k y=some r/\∀ af ρ a w,Rl w0 N af ρ σ a w->∀ u,cL w w0.heap.size af ρ x u->∃ q,(x = .own q\/y.ah=true)/\RV w w0.heap.size af q y u:=by
 cases x with
 | v y=>exact⟨y,h,fun af ρ a w hR u hu=>⟨[],.inr hu.1,hu.2⟩⟩
 | dead=>cases h
 | own q=>
  obtain⟨y,hy,h'⟩:=qx q k h
  refine⟨y,h',fun af ρ a w hR u hu=>⟨q,.inl rfl,?_⟩⟩
  obtain⟨v,hv,hr⟩:=hy.ok hR.root
  have:v=u:=by
   have h2:=hu.2
   rw[hv]at h2
   injection h2
  subst this
  exact hr
structure xX (ns:List Nat) (af ax:bq):Prop where
 none:∀ b,af b=none->ax b=none
 rest:∀ b k,af b=some k->k≠[]/\(cg k ns=false->ax b=Option.none)
theorem On:∀ (xs:List Lf) (k:List V->Option X),mS σ ns xs k=some r->∃ vs,k vs=some r/\vs.length=xs.length/\∀ af ρ a w ax,Rl w0 N af ρ σ a w->xX ns af ax->∀ (j:Nat) x y u,xs[j]?=some x->vs[j]?=some y->cL w w0.heap.size af ρ x u->RV w w.heap.size ax [] y u
 | [],k,h=>⟨[],h,rfl,fun _ _ _ _ _ _ _ j x y u hx=>by simp at hx⟩
 | x :: xs,k,h=>by
  unfold mS at h
  cases ho:HR ns x with
  | false=>rw[ho]at h;cases h
  | true=>
   rw[ho,cond_true]at h
   obtain⟨y,h2,hy⟩:=aiq (w0:=w0) (N:=N) h
   obtain⟨ys,h3,hl,hr⟩:=On xs _ h2
   refine⟨y.iZ :: ys,h3,by simp[hl],fun af ρ a w ax hR hS j x' y' u cz fm hu=>?_⟩
   cases j with
   | zero=>
    simp at cz fm
    subst cz fm
    obtain⟨q,hq,lG⟩:=hy af ρ a w hR u hu
    refine lG.out hS.none hS.rest ?_
    rcases hq with rfl | hq
    ·exact .inr (by simpa [HR]using ho)
    ·exact .inl hq
   | succ j=>exact hr af ρ a w ax hR hS j x' y' u (by simpa using cz) (by simpa using fm) hu
theorem air{x:A}{k:Pt->Option X}(h:nW σ ns x k=some r):∃ p,k p=some r/\∀ af ρ a w ax,Rl w0 N af ρ σ a w->xX ns af ax->∀ u,RA w w0.heap.size af ρ x u->PV w w.heap.size ax (fun _=>[]) p u:=by
 unfold nW at h
 split at h
 ·rename_i y
  obtain⟨vs,h2,hl,hr⟩:=On (w0:=w0) (N:=N) _ _ h
  refine⟨_,h2,fun af ρ a w ax hR hS u hu=>⟨#[u],rfl,by simp[hl],fun j x hx=>?_⟩⟩
  have hj:j=0:=by
   have:=(List.getElem?_eq_some_iff.1 hx).1
   simp only[hl]at this
   simpa using this
  subst hj
  exact⟨u,rfl,hr af ρ a w ax hR hS 0 y x u rfl hx hu⟩
 ·rename_i ys
  obtain⟨vs,h2,hl,hr⟩:=On (w0:=w0) (N:=N) _ _ h
  refine⟨_,h2,fun af ρ a w ax hR hS u hu=>?_⟩
  obtain⟨us,rfl,hs⟩:=hu
  refine⟨us,rfl,by rw[hl];exact hs.1,fun j x hx=>?_⟩
  have hj:j<ys.length:=by rw[<-hl];exact(List.getElem?_eq_some_iff.1 hx).1
  obtain⟨v,hv,cN⟩:=hs.2 j _ (List.getElem?_eq_getElem hj)
  exact⟨v,hv,hr af ρ a w ax hR hS j _ x v (List.getElem?_eq_getElem hj) hx cN⟩
 ·cases h
def vV(σ:S):Mu->Prop
 | .ak r cs vs=>σ.m r=some (.ak cs)/\oT σ.m cs=some vs/\cs.length<999
 | .sl q y=>σ.m q=some (.sl y)/\y.ah=false
def Dx:List Mu->List In->Prop
 | [],[]=>True
 | .ak _ _ vs :: aJ,.ak xs :: ins=>(bJ (vs.map (·.1)) xs/\∀ x∈xs,x.rK=true/\x.HS=true)/\Dx aJ ins
 | .sl _ y :: aJ,.sl y' :: ins=>(Wk y y'/\y'.HS=true)/\Dx aJ ins
 | _,_=>False
def AV(w:World)(B:Nat)(af:bq)(ρ:Nat->Loc)(ins:List In):List Ar->List Value->Prop
 | [],[]=>True
 | x :: xs,v :: vs=>RA w B af ρ (Ok ins x) v/\AV w B af ρ ins xs vs
 | _,_=>False
theorem AV.get{ins:List In}:∀ (xs:List Ar) (vs:List Value),AV w B af ρ ins xs vs->vs.length=xs.length/\∀ i,RA w B af ρ ((Ol ins xs).t i) (vs.toArray.getD i undef)
 | [],[],_=>⟨rfl,fun i=>trivial⟩
 | [],_ :: _,h=>h.elim
 | _ :: _,[],h=>h.elim
 | x :: xs,v :: vs,h=>by
  obtain⟨h1,h2⟩:=AV.get xs vs h.2
  refine⟨by simp[h1],fun i=>?_⟩
  cases i with
  | zero=>exact h.1
  | succ i=>
   have:=h2 i
   simp only[Ol,List.getElem?_cons_succ,Array.getD_eq_getD_getElem?,List.getElem?_toArray]at this ⊢
   exact this
theorem ais{t:TC}{g:Nat}{x:T t}(hg:Nat.beq (g % 2) 0=true):∀ y∈enc t g x,y.rK=true/\y.HS=true:=by
 intro y hy
 refine⟨Uy t g x y hy,?_⟩
 have:=s8 t g x y hy
 cases y with
 | sl t' o' q' l'=>
  have:o'=g:=by simpa [V.gr]using this
  subst this
  exact hg
 | _=>rfl
def ait(σ:S):PK->A->Option Mu->Prop
 | .v _ _,_,none=>True
 | .p _ _ off,x,some (.ak r cs vs)=>x = .aC r off/\vV σ (.ak r cs vs)
 | .s _ _,x,some (.sl q y)=>x = .lf (.own [q])/\vV σ (.sl q y)
 | _,_,_=>False
theorem sj{p:PK}{x:A}{z:Option Mu}(h:si σ p x=some z):ait σ p x z:=by
 cases p with
 | v b t=>
  have h:(some none:Option (Option Mu))=some z:=h
  injection h with h
  subst h
  trivial
 | p t g off=>
  cases x with
  | aC r j=>
   have h:(match (bif Nat.beq j off then σ.m r else none)with
    | some (.ak cs)=>(match oT σ.m cs with
     | some vs=>bif Nat.blt cs.length 999 then some (some (.ak r cs vs))else none
     | none=>none)
    | _=>none)=some z:=h
   cases hj:Nat.beq j off with
   | false=>rw[hj]at h;cases h
   | true=>
    obtain rfl:=Nat.eq_of_beq_eq_true hj
    rw[hj,cond_true]at h
    split at h
    ·rename_i cs dn
     split at h
     ·rename_i vs fK
      cases hl:Nat.blt cs.length 999 with
      | false=>rw[hl]at h;cases h
      | true=>
       rw[hl,cond_true]at h
       injection h with h
       subst h
       exact⟨rfl,dn,fK,by have:=Nat.le_of_ble_eq_true hl;omega⟩
     ·cases h
    ·cases h
  | _=>cases h
 | s t g=>
  have hx:(∃ q,x = .lf (.own [q])):=by
   unfold si at h
   split at h
   ·rename_i e;cases e
   ·rename_i e;cases e
   ·exact⟨_,rfl⟩
   ·cases h
  obtain⟨q,rfl⟩:=hx
  have h:(match σ.m q with
   | some (.sl y)=>bif y.ah then none else some (some (.sl q y))
   | _=>none)=some z:=h
  split at h
  ·rename_i y hy
   cases hf:y.ah with
   | true=>rw[hf]at h;cases h
   | false=>
    rw[hf,cond_false]at h
    injection h with h
    subst h
    exact⟨rfl,hy,hf⟩
  ·cases h
theorem HT:∀ (ps:List PK) (xs:List Operand) (aJ:List Mu),iM σ ps xs=some aJ->∀ mu∈aJ,vV σ mu
 | [],[],aJ,h=>by injection h with h;subst h;simp
 | p :: ps,x :: xs,aJ,h=>by
  unfold iM at h
  split at h
  ·rename_i mu jc h1 h2
   injection h with h
   subst h
   have ih:=HT ps xs jc h2
   have h1:=sj h1
   intro z hz
   rcases List.mem_cons.1 hz with rfl | hz
   ·cases p with
    | v=>exact h1.elim
    | p=>
     cases z with
     | ak=>exact h1.2
     | sl=>exact h1.elim
    | s=>
     cases z with
     | ak=>exact h1.elim
     | sl=>exact h1.2
   ·exact ih z hz
  ·rename_i jc h1 h2
   injection h with h
   subst h
   exact HT ps xs jc h2
  ·cases h
 | [],_ :: _,aJ,h=>by cases h
 | _ :: _,[],aJ,h=>by cases h
theorem Dy:∀ {ps:List PK} (i i':Nat) (x:nU ps),(mR ps i x).length=(mR ps i' x).length
 | [],_,_,_=>rfl
 | .v _ _ :: ps,i,i',x=>by simp only[mR,List.length_cons];rw[Dy i i']
 | .p _ _ _ :: ps,i,i',x=>by simp only[mR,List.length_cons];rw[Dy (i+1) (i'+1)]
 | .s _ _ :: ps,i,i',x=>by simp only[mR,List.length_cons];rw[Dy (i+1) (i'+1)]
theorem HU:∀ (ps:List PK) (xs:List Operand) (aJ:List Mu) (k:nU ps->Option X),iM σ ps xs=some aJ->gO σ ns ps xs aJ k=some r->∃ x,k x=some r/\Dx aJ (qG ps x)/\(mR ps 0 x).length=xs.length/\
  ∀ af ρ a w ax ρ',Rl w0 N af ρ σ a w->xX ns af ax->∀ (ins:List In) (i:Nat),(∀ j z,(qG ps x)[j]?=some z->ins[i+j]?=some z)->(∀ j mu,aJ[j]?=some mu->ρ' (nF (i+j))=ρ mu.root)->AV w w.heap.size ax ρ' ins (mR ps i x) (xs.map a.eval)
 | [],[],aJ,k,hm,h=>by
  injection hm with hm
  subst hm
  exact⟨(),h,trivial,rfl,fun _ _ _ _ _ _ _ _ _ _ _ _=>trivial⟩
 | .v b t :: ps,x :: xs,aJ,k,hm,h=>by
  have lI:iM σ ps xs=some aJ:=by
   unfold iM at hm
   split at hm
   ·rename_i mu jc h1 h2;exact(sj h1).elim
   ·rename_i jc h1 h2;rw[h2];exact hm
   ·cases hm
  unfold gO at h
  obtain⟨p,h2,hp⟩:=air (w0:=w0) (N:=N) h
  cases hb:p.1==b with
  | false=>rw[hb]at h2;cases h2
  | true=>
   rw[hb,cond_true]at h2
   have hb:p.1=b:=by simpa using hb
   subst hb
   split at h2
   ·rename_i y hy
    obtain⟨ys,h3,h4,h5,h6⟩:=HU ps xs aJ _ lI h2
    refine⟨(y,ys),h3,h4,?_,fun af ρ a w ax ρ' hR hS ins i hi aK=>⟨?_,h6 af ρ a w ax ρ' hR hS ins i hi aK⟩⟩
    ·simp[mR,h5]
    ·have xY:=hp af ρ a w ax hR hS _ (hR.aA x)
     obtain⟨us,hu,hs,hr⟩:=xY
     have hk:=mK t 0 p.2 y hy
     have pW:∀ (j:Nat) z,(enc t 0 y)[j]?=some z->∃ v,us[j]?=some v/\z.ah=true/\RV w w.heap.size ax [] z v:=by
      intro j z hz
      have hj:j<p.2.length:=by rw[hk.1];exact(List.getElem?_eq_some_iff.1 hz).1
      obtain⟨v,hv,cN⟩:=hr j _ (List.getElem?_eq_getElem hj)
      exact⟨v,hv,jl t 0 y (by omega) j z hz,cN.wk (hk.2 j _ z (List.getElem?_eq_getElem hj) hz)⟩
     have hlen:us.size=(enc t 0 y).length:=hs.trans hk.1
     obtain⟨b,vs⟩:=p
     cases b with
     | true=>
      show RA _ _ _ _ (.agg ((enc t 0 y).map .v)) _
      refine⟨us,hu,by rw[List.length_map];exact hlen,fun j z hz=>?_⟩
      rw[List.getElem?_map]at hz
      cases AI:(enc t 0 y)[j]? with
      | none=>rw[AI]at hz;cases hz
      | some z'=>
       rw[AI]at hz
       injection hz with hz
       subst hz
       obtain⟨v,hv,g1,g2⟩:=pW j z' AI
       exact⟨v,hv,g1,g2⟩
     | false=>
      have hu:us = #[a.eval x]:=hu
      subst hu
      show RA _ _ _ _ (Ok ins (.pt (false,enc t 0 y))) _
      match he:enc t 0 y,pW,hlen with
      | [z],pW,_=>
       obtain⟨v,hv,g1,g2⟩:=pW 0 z rfl
       have:a.eval x=v:=by simpa using hv
       rw[this]
       exact⟨g1,g2⟩
      | [],_,_=>trivial
      | _ :: _ :: _,_,_=>trivial
   ·cases h2
 | .p t g off :: ps,x :: xs,aJ,k,hm,h=>by
  unfold iM at hm
  split at hm
  ·rename_i mu jc h1 h2
   injection hm with hm
   subst hm
   have h1:=sj h1
   cases mu with
   | sl=>exact h1.elim
   | ak r cs vs=>
    have h1:aA σ x = .aC r off/\vV σ (.ak r cs vs):=h1
    unfold gO at h
    split at h
    ·rename_i y hy
     cases hg:Nat.beq (g % 2) 0 with
     | false=>rw[hg]at hy;cases hy
     | true=>
      rw[hg,cond_true]at hy
      obtain⟨ys,h3,h4,h5,h6⟩:=HU ps xs jc _ h2 h
      refine⟨(y,ys),h3,⟨⟨mK t g _ y hy,ais hg⟩,h4⟩,by simp[mR,Dy 1 0,h5],fun af ρ a w ax ρ' hR hS ins i hi aK=>⟨?_,?_⟩⟩
      ·have Dz:=hi 0 _ rfl
       rw[Nat.add_zero]at Dz
       have hx:=hR.aA x
       rw[h1.1]at hx
       obtain⟨b,o,e1,e2⟩:=hx
       show RA _ _ _ _ (match ins[i]? with | some (.ak _)=>.aC (nF i) off | some (.sl _)=>.lf (.own [nF i]) | none=>.undef) _
       rw[Dz]
       have cr:=aK 0 _ rfl
       rw[Nat.add_zero]at cr
       exact⟨b,o,cr.trans e1,e2⟩
      ·refine h6 af ρ a w ax ρ' hR hS ins (i+1) (fun j z hz=>?_) (fun j mu fF=>?_)
       ·rw[show i+1+j=i+(j+1) by omega]
        exact hi (j+1) z hz
       ·rw[show i+1+j=i+(j+1) by omega]
        exact aK (j+1) mu fF
    ·cases h
  ·rename_i jc h1 h2
   exact(sj h1).elim
  ·cases hm
 | .s t g :: ps,x :: xs,aJ,k,hm,h=>by
  unfold iM at hm
  split at hm
  ·rename_i mu jc h1 h2
   injection hm with hm
   subst hm
   have h1:=sj h1
   cases mu with
   | ak=>exact h1.elim
   | sl q y0=>
    have h1:aA σ x = .lf (.own [q])/\vV σ (.sl q y0):=h1
    unfold gO at h
    split at h
    ·rename_i y hy
     cases hg:Nat.beq (g % 2) 0 with
     | false=>rw[hg]at hy;cases hy
     | true=>
      rw[hg,cond_true]at hy
      obtain⟨ys,h3,h4,h5,h6⟩:=HU ps xs jc _ h2 h
      refine⟨(y,ys),h3,⟨⟨V.dD hy,?_⟩,h4⟩,by simp[mR,Dy 1 0,h5],fun af ρ a w ax ρ' hR hS ins i hi aK=>⟨?_,?_⟩⟩
      ·show Nat.beq ((g+2) % 2) 0=true
       rw[show (g+2) % 2=g % 2 by omega]
       exact hg
      ·have Dz:=hi 0 _ rfl
       rw[Nat.add_zero]at Dz
       have hx:=hR.aA x
       rw[h1.1]at hx
       show RA _ _ _ _ (match ins[i]? with | some (.ak _)=>.aC (nF i) 0 | some (.sl _)=>.lf (.own [nF i]) | none=>.undef) _
       rw[Dz]
       have cr:=aK 0 _ rfl
       rw[Nat.add_zero]at cr
       refine⟨hx.1,?_⟩
       have h2:=hx.2
       simp only[cc]at h2 ⊢
       rw[cr]
       exact h2
      ·refine h6 af ρ a w ax ρ' hR hS ins (i+1) (fun j z hz=>?_) (fun j mu fF=>?_)
       ·rw[show i+1+j=i+(j+1) by omega]
        exact hi (j+1) z hz
       ·rw[show i+1+j=i+(j+1) by omega]
        exact aK (j+1) mu fF
    ·cases h
  ·rename_i jc h1 h2
   exact(sj h1).elim
  ·cases hm
 | [],_ :: _,aJ,k,hm,h=>by cases hm
 | _ :: _,[],aJ,k,hm,h=>by cases hm
end
end Go.Proofs.YtinbifpbkcbnkaaGreat
namespace Go.Proofs.YtinbifpbkcbnkaaGreat
open Go.RowKit
set_option linter.unusedVariables false
def kS(c0:Nat):Nat->List (V×Option Nat)->List Nat
 | _,[]=>[]
 | n,(_,some q) :: vs=>q :: kS c0 (n+1) vs
 | n,(_,none) :: vs=>(c0+n) :: kS c0 (n+1) vs
def vW(c0:Nat):Nat->List Mu->List Nat
 | _,[]=>[]
 | pos,.ak r _ vs :: aJ=>r :: (kS c0 (pos+1) vs++vW c0 (pos+1+vs.length) aJ)
 | pos,.sl q _ :: aJ=>q :: vW c0 (pos+1) aJ
def sk:List Nat->List V->List Nat
 | n :: dc,x :: xs=>bif x.ah then sk dc xs else n :: sk dc xs
 | _,_=>[]
def kT(c0:Nat):Nat->List Mu->List In->List Nat
 | pos,.ak _ _ vs :: aJ,.ak xs :: outs=>sk (kS c0 (pos+1) vs) xs++kT c0 (pos+1+vs.length) aJ outs
 | pos,.sl _ _ :: aJ,.sl _ :: outs=>kT c0 (pos+1) aJ outs
 | _,_,_=>[]
def mT(ns cn:List Nat):List Nat->List Lf->List V->List Lf
 | n :: dc,l :: ls,x :: xs=>(bif x.plain then .v x else bif x.ah then l.bk ns cn else .own [n]) :: mT ns cn dc ls xs
 | _,_,_=>[]
def qI:List Nat->List V->List (Nat×aP)
 | n :: dc,x :: xs=>bif x.ah then qI dc xs else (n,.sl x) :: qI dc xs
 | _,_=>[]
def jM(ns cn:List Nat)(c0:Nat):Nat->List Mu->List In->List (Nat×aP)
 | pos,.ak r cs vs :: aJ,.ak xs :: outs=>(r,.ak (mT ns cn (kS c0 (pos+1) vs) cs xs)) :: (qI (kS c0 (pos+1) vs) xs++jM ns cn c0 (pos+1+vs.length) aJ outs)
 | pos,.sl q _ :: aJ,.sl y :: outs=>bif y.rK then (q,.sl y) :: jM ns cn c0 (pos+1) aJ outs else jM ns cn c0 (pos+1) aJ outs
 | _,_,_=>[]
def HV:List Nat->Bool
 | []=>true
 | n :: l=>!bN n l&&HV l
def Vt:In->Bool
 | .ak xs=>xs.all fun x=>x.ah || x.loc
 | .sl y=>y.loc
def gn:Option Tmp->Nat
 | some d=>1000000000100000+1000*d
 | none=>90000
def kU{X:Type}(N:Nat)(σ:S)(dst:Option Tmp)(res:iL)(k:S->Option X):Option X:=
 match dst with
 | none=>k σ
 | some d=>bif Nat.blt d N then (match res with
  | .one p=>(match pT (p.1,jq (1000000000100000+1000*d) p.2)with
   | some y=>k ((fN (1000000000100000+1000*d) σ p.2).set d y)
   | none=>none)
  | .cq ps=>k ((ir (1000000000100000+1000*d) σ ps).set d (.cq (jL (1000000000100000+1000*d) ps))))else none
def xZ(N:Nat)(aJ:List Mu)(outs:List In)(cn:List Nat):Bool:=
 HV cn&&(aJ.all fun mu=>!bN mu.root cn)&&(cn.all fun n=>Nat.blt n N || Nat.ble 60000 n)&&outs.all Vt
def vX{X:Type}(N:Nat)(σ:S)(dst:Option Tmp)(aJ:List Mu)(ns cn:List Nat)(res:iL)(outs:List In)(k:S->Option X):Option X:=
 bif xZ N aJ outs cn then kU N (σ.bk ns cn (jM ns cn (gn dst) res.len aJ outs)) dst res k else none
def kj{X:Type}(N:Nat)(σ:S)(dst:Option Tmp)(c:lN)(args:List Operand)(k:S->Option X):Option X:=
 match iM σ c.ps args with
 | some aJ=>bif once (jB 0 aJ)&&Nat.ble aJ.length 40 then
   gO σ ((jB 0 aJ).map (·.1)) c.ps args aJ fun x=>(match c.F x with
    | some y=>vX N σ dst aJ ((jB 0 aJ).map (·.1)) (kT (gn dst) (ez c.ro y.1).len aJ (gX (gm c.ps) y.2)) (ez c.ro y.1) (gX (gm c.ps) y.2) k
    | none=>none)else none
 | none=>none
section
variable {P:Program} {w w':World} {w0:Wd} {B N:Nat} {af cR ax:bq} {ρ dW ρ':Nat->Loc} {σ:S} {a:Act} {X:Type} {d:Nat} {r:X} {ns cn:List Nat} {o:Oper} {rs:List Nat} {dL:List (Nat×Nat)}
theorem Vu{n:Nat}:∀ {l:List (Nat×Nat)},bN n (l.map (·.1))=false->l.lookup n=none
 | [],_=>rfl
 | p :: l,h=>by
  simp only[List.map_cons,bN,Bool.or_eq_false_iff]at h
  rw[List.lookup_cons]
  have:(n==p.1)=false:=by
   cases hb:n==p.1 with
   | false=>rfl
   | true=>
    have e:n=p.1:=by simpa using hb
    have h1:=h.1
    rw[<-e,Nat.beq_refl]at h1
    cases h1
  rw[this]
  exact Vu h.2
theorem aiu{b:Nat}{k:List Nat}{n m:Nat}(h:af b=some k)(hk:k.getLast?=some n)(hm:dL.lookup n=some m):eI af dL id b=some (k.dropLast++[m]):=by
 simp[eI,h,hk,hm]
theorem aiv(aV:∀ b k,af b=some k->k≠[]):xX (dL.map (·.1)) af (eI af dL id):=by
 refine⟨fun b h=>tQ h,fun b k h=>⟨aV b k h,fun hl=>?_⟩⟩
 simp only[eI,h]
 cases hk:k.getLast? with
 | none=>rfl
 | some n=>
  simp only[cg,hk]at hl
  simp[Vu hl]
theorem Oo{m:Nat->Option aP}:∀ (cs:List Lf) (vs:List (V×Option Nat)),oT m cs=some vs->vs.length=cs.length/\∀ (j:Nat) l,cs[j]?=some l->∃ v,vs[j]?=some v/\sg m l=some v
 | [],vs,h=>by injection h with h;subst h;exact⟨rfl,fun j l hl=>by simp at hl⟩
 | c :: cs,vs,h=>by
  unfold oT at h
  split at h
  ·rename_i v oL h1 h2
   injection h with h
   subst h
   obtain⟨k1,k2⟩:=Oo cs oL h2
   refine⟨by simp[k1],fun j l hl=>?_⟩
   cases j with
   | zero=>simp at hl;subst hl;exact⟨v,rfl,h1⟩
   | succ j=>exact k2 j l (by simpa using hl)
  ·cases h
theorem aiw{l:Lf}{v:V}{qo:Option Nat}(h:sg σ.m l=some (v,qo))(hR:Rl w0 N af ρ σ a w)(hS:xX ns af ax){u:Value}(hu:cL w w0.heap.size af ρ l u):
  (qo=none/\∀ B' q',RV w B' ax q' v u)\/(∃ q,qo=some q/\v.ah=false/\RV w w0.heap.size af [q] v u):=by
 unfold sg at h
 split at h
 ·simp only[Option.some.injEq,Prod.mk.injEq]at h
  obtain⟨rfl,rfl⟩:=h
  exact .inl ⟨rfl,fun B' q'=>hu.2.out hS.none hS.rest (.inl hu.1)⟩
 ·rename_i q
  split at h
  ·rename_i y hy
   have dm:=hR.root q _ hy
   generalize hx:aP.sl y=x at dm
   cases dm with
   | ak=>cases hx
   | mp=>cases hx
   | gh=>cases hx
   | sl v' y' aK hr=>
    injection hx with hx
    subst hx
    have rW:v'=u:=by
     have h2:=hu.2
     simp only[cc,aK]at h2
     injection h2
    subst rW
    cases hf:y.ah with
    | true=>
     rw[hf,cond_true]at h
     simp only[Option.some.injEq,Prod.mk.injEq]at h
     obtain⟨rfl,rfl⟩:=h
     exact .inl ⟨rfl,fun B' q'=>hr.out hS.none hS.rest (.inl hf)⟩
    | false=>
     rw[hf,cond_false]at h
     simp only[Option.some.injEq,Prod.mk.injEq]at h
     obtain⟨rfl,rfl⟩:=h
     exact .inr ⟨q,rfl,hf,hr⟩
  ·cases h
 ·cases h
theorem Vv{i:Nat}{v:V}{q:Nat}:∀ (vs:List (V×Option Nat)) (j0 j:Nat),vs[j]?=some (v,some q)->(q,60000+1000*i+(j0+j))∈AU i j0 vs
 | [],j0,j,h=>by simp at h
 | (v',qo) :: vs,j0,j,h=>by
  cases j with
  | zero=>
   simp at h
   obtain⟨rfl,rfl⟩:=h
   exact .head _
  | succ j=>
   have:=Vv (i:=i) vs (j0+1) j (by simpa using h)
   rw[show j0+1+j=j0+(j+1) by omega]at this
   cases qo with
   | none=>exact this
   | some q'=>exact .tail _ this
theorem Oq{i:Nat}:∀ (cs:List V) (j0:Nat),(xT i j0 cs).length=cs.length
 | [],_=>rfl
 | c :: cs,j0=>by simp[xT,Oq cs]
theorem RV.jV{q:List Nat}{x:V}{u:Value}(h:RV w B af q x u)(hp:x.plain=false)(hn:x.rK=true):jV u=true:=by
 cases h <;>first | rfl | cases hp | cases hn
theorem Wk.Vw{x y:V}(h:Wk x y)(hx:x.ah=false):y.ah=false:=by
 cases h with
 | same=>exact hx
 | nil=>cases hx
 | q=>exact hx
 | gr t o o' qn l h1 h2=>simp[V.ah];omega
theorem Ot(hR:Rl w0 N af ρ σ a w)(hS:xX ns af (eI af dL id)):∀ (aJ:List Mu) (ins:List In) (i:Nat),(∀ p∈jB i aJ,dL.lookup p.1=some p.2)->(∀ j mu,aJ[j]?=some mu->rs[i+j]?=some mu.root)->(∀ mu∈aJ,vV σ mu)->Dx aJ ins->i+aJ.length<=40->
  HQ w w.heap.size (eI af dL id) (tT w ρ rs) i ins
 | [],[],_,_,_,_,_,_=>trivial
 | [],_ :: _,_,_,_,_,h,_=>h.elim
 | .ak _ _ _ :: _,[],_,_,_,_,h,_=>h.elim
 | .sl _ _ :: _,[],_,_,_,_,h,_=>h.elim
 | .ak _ _ _ :: _,.sl _ :: _,_,_,_,_,h,_=>h.elim
 | .sl _ _ :: _,.ak _ :: _,_,_,_,_,h,_=>h.elim
 | .ak r cs vs :: aJ,.ak xs :: ins,i,tU,gG,fF,jN,hi=>by
  obtain⟨hm,hg,hlen⟩:=fF _ (.head _)
  obtain⟨⟨hw,hx⟩,ya⟩:=jN
  obtain⟨g1,g2⟩:=Oo cs vs hg
  have iI:=gG 0 _ rfl
  rw[Nat.add_zero]at iI
  simp only[List.length_cons]at hi
  have fJ:xs.length=cs.length:=by rw[<-hw.1,List.length_map,g1]
  have dm:=hR.root r _ hm
  generalize hz:aP.ak cs=z at dm
  cases dm with
  | sl=>cases hz
  | mp=>cases hz
  | gh=>cases hz
  | ak b off cells e fz us aK hl hh hs hc=>
   injection hz with hz
   subst hz
   have pW:∀ (j:Nat) x,xs[j]?=some x->cells[off+j]?=some (us j)/\RV w w.heap.size (eI af dL id) [nC i j x] x (us j)/\(x.plain=false->tT w ρ rs (nC i j x) = .dJ (us j)):=by
    intro j x hj
    have rO:j<cs.length:=by rw[<-fJ];exact(List.getElem?_eq_some_iff.1 hj).1
    obtain⟨v,hv,DA⟩:=g2 j _ (List.getElem?_eq_getElem rO)
    obtain⟨c1,c2⟩:=hc j _ (List.getElem?_eq_getElem rO)
    obtain⟨v,qo⟩:=v
    have Ou:Wk v x:=hw.2 j v x (by rw[List.getElem?_map,hv];rfl) hj
    obtain⟨xH,NN⟩:=hx x (List.mem_of_getElem? hj)
    refine⟨c1,?_,fun hp=>?_⟩
    ·rcases aiw DA hR hS c2 with ⟨rfl,h1⟩ | ⟨q,rfl,hf,h1⟩
     ·exact(h1 _ _).wk Ou
     ·have hfx:=Ou.Vw hf
      have hq:=tU (q,60000+1000*i+(0+j)) (.tail _ (List.mem_append_left _ (Vv vs 0 j hv)))
      rw[Nat.zero_add]at hq
      have h2:=(RV.eI (nm:=id) (p:=[]) h1 hq).wk Ou
      have e1:nC i j x=60000+1000*i+j:=by simp[nC,hfx]
      rw[e1]
      exact h2.Vs NN
    ·exact aip iI (by omega) (by omega) aK (by rw[cell_of_row w b _ cells _ _ hh];exact c1)
   refine⟨.ak b off cells e _ us ((Dw iI (by omega)).trans aK) ?_ hh (by rw[Oq,fJ];exact hs) (fun j z hz=>?_),fun j x hj hp=>?_,Ot hR hS aJ ins (i+1) (fun p hp=>tU p (.tail _ (List.mem_append_right _ hp))) (fun j mu yb=>?_) (fun mu h=>fF mu (.tail _ h)) ya (by omega)⟩
   ·exact aiu hl rfl (tU _ (.head _))
   ·have hj:j<xs.length:=by rw[<-Oq (i:=i) xs 0];exact(List.getElem?_eq_some_iff.1 hz).1
    have HW:=Vp (i:=i) xs 0 j _ (List.getElem?_eq_getElem hj)
    rw[hz]at HW
    injection HW with HW
    subst HW
    rw[Nat.zero_add]
    obtain⟨c1,c2,c3⟩:=pW j _ (List.getElem?_eq_getElem hj)
    refine⟨c1,?_⟩
    cases hp:(xs[j]).plain with
    | true=>
     have e1:AS i j xs[j] = .v xs[j]:=by simp[AS,hp]
     rw[e1]
     exact⟨V.C7 hp,c2.xG hp⟩
    | false=>
     have e1:AS i j xs[j] = .own [nC i j xs[j]]:=by simp[AS,hp]
     rw[e1]
     exact⟨c2.jV hp (hx _ (List.getElem_mem _)).1,by simp only[cc,c3 hp]⟩
   ·obtain⟨c1,c2,c3⟩:=pW j x hj
    exact .sl _ x (c3 hp) c2
   ·have:=gG (j+1) mu (by simpa using yb)
    rw[show i+(j+1)=i+1+j by omega]at this
    exact this
 | .sl q y :: aJ,.sl y' :: ins,i,tU,gG,fF,jN,hi=>by
  obtain⟨hm,hf⟩:=fF _ (.head _)
  obtain⟨⟨hw,hx⟩,ya⟩:=jN
  have iI:=gG 0 _ rfl
  rw[Nat.add_zero]at iI
  simp only[List.length_cons]at hi
  have dm:=hR.root q _ hm
  generalize hz:aP.sl y=z at dm
  cases dm with
  | ak=>cases hz
  | mp=>cases hz
  | gh=>cases hz
  | sl v y0 aK hr=>
   injection hz with hz
   subst hz
   refine⟨.sl v y' ((Dw iI (by omega)).trans aK) ?_,Ot hR hS aJ ins (i+1) (fun p hp=>tU p (.tail _ hp)) (fun j mu yb=>?_) (fun mu h=>fF mu (.tail _ h)) ya (by omega)⟩
   ·exact((RV.eI (nm:=id) (p:=[]) hr (tU _ (.head _))).wk hw).Vs hx
   ·have:=gG (j+1) mu (by simpa using yb)
    rw[show i+(j+1)=i+1+j by omega]at this
    exact this
end
end Go.Proofs.YtinbifpbkcbnkaaGreat
namespace Go.Proofs.YtinbifpbkcbnkaaGreat
open Go.RowKit
set_option linter.unusedVariables false
def Ov:Loc->Nat×Nat
 | .ak b off=>(b,off)
 | .dJ _=>(0,0)
 | .bZ _=>(0,0)
def vY(w:World)(b off:Nat):Nat->List Nat->List V->List (Nat×Value)
 | j,n :: dc,x :: xs=>bif x.ah then vY w b off (j+1) dc xs else (n,(w.cell? ⟨b,off+j,none⟩).getD undef) :: vY w b off (j+1) dc xs
 | _,_,_=>[]
def pX(w:World)(ρ:Nat->Loc)(c0:Nat):Nat->List Mu->List In->List (Nat×Value)
 | pos,.ak r _ vs :: aJ,.ak xs :: outs=>vY w (Ov (ρ r)).1 (Ov (ρ r)).2 0 (kS c0 (pos+1) vs) xs++pX w ρ c0 (pos+1+vs.length) aJ outs
 | pos,.sl _ _ :: aJ,.sl _ :: outs=>pX w ρ c0 (pos+1) aJ outs
 | _,_,_=>[]
def Vx(l:List (Nat×Value))(ρ:Nat->Loc):Nat->Loc:=fun n=>match l.lookup n with
 | some v=>.dJ v
 | none=>ρ n
theorem Ow{w:World}{b off:Nat}:∀ (dc:List Nat) (xs:List V) (j:Nat),(vY w b off j dc xs).map (·.1)=sk dc xs
 | [],[],_=>rfl
 | [],_ :: _,_=>rfl
 | _ :: _,[],_=>rfl
 | n :: dc,x :: xs,j=>by
  simp only[vY,sk]
  cases x.ah with
  | true=>exact Ow dc xs (j+1)
  | false=>simp only[cond_false,List.map_cons];rw[Ow dc xs (j+1)]
theorem HX{w:World}{ρ:Nat->Loc}{c0:Nat}:∀ (aJ:List Mu) (outs:List In) (pos:Nat),(pX w ρ c0 pos aJ outs).map (·.1)=kT c0 pos aJ outs
 | .ak r _ vs :: aJ,.ak xs :: outs,pos=>by
  simp only[pX,kT,List.map_append]
  rw[Ow,HX aJ outs]
 | .sl _ _ :: aJ,.sl _ :: outs,pos=>by
  simp only[pX,kT]
  exact HX aJ outs _
 | [],_,_=>by simp[pX,kT]
 | .ak _ _ _ :: _,[],_=>rfl
 | .sl _ _ :: _,[],_=>rfl
 | .ak _ _ _ :: _,.sl _ :: _,_=>rfl
 | .sl _ _ :: _,.ak _ :: _,_=>rfl
theorem Vy{n:Nat}:∀ {l:List (Nat×Value)},bN n (l.map (·.1))=false->l.lookup n=none
 | [],_=>rfl
 | p :: l,h=>by
  simp only[List.map_cons,bN,Bool.or_eq_false_iff]at h
  rw[List.lookup_cons]
  cases hb:n==p.1 with
  | false=>exact Vy h.2
  | true=>
   have e:n=p.1:=by simpa using hb
   have h1:=h.1
   rw[<-e,Nat.beq_refl]at h1
   cases h1
theorem Vz:∀ {l:List (Nat×Value)},HV (l.map (·.1))=true->∀ p∈l,l.lookup p.1=some p.2
 | [],_,p,hp=>by cases hp
 | q :: l,h,p,hp=>by
  simp only[List.map_cons,HV,Bool.and_eq_true,Bool.not_eq_true']at h
  rw[List.lookup_cons]
  rcases List.mem_cons.1 hp with rfl | hp
  ·simp
  ·cases hb:p.1==q.1 with
   | false=>exact Vz h.2 p hp
   | true=>
    have e:p.1=q.1:=by simpa using hb
    exact absurd (List.mem_map_of_mem (f:=(·.1)) hp) (by rw[e];exact Vq h.1)
theorem DB{c0:Nat}:∀ (vs:List (V×Option Nat)) (n:Nat),(kS c0 n vs).length=vs.length
 | [],_=>rfl
 | (_,some _) :: vs,n=>by simp[kS,DB vs]
 | (_,none) :: vs,n=>by simp[kS,DB vs]
theorem VA{ns cn:List Nat}:∀ (dc:List Nat) (ls:List Lf) (xs:List V),dc.length=ls.length->xs.length=ls.length->(mT ns cn dc ls xs).length=ls.length/\
  ∀ (j:Nat) z,(mT ns cn dc ls xs)[j]?=some z->∃ n l x,dc[j]?=some n/\ls[j]?=some l/\xs[j]?=some x/\z=(bif x.plain then .v x else bif x.ah then l.bk ns cn else .own [n])
 | [],[],[],_,_=>⟨rfl,fun j z hz=>by simp[mT]at hz⟩
 | n :: dc,l :: ls,x :: xs,h1,h2=>by
  obtain⟨k1,k2⟩:=VA (ns:=ns) (cn:=cn) dc ls xs (by simpa using h1) (by simpa using h2)
  refine⟨by simp[mT,k1],fun j z hz=>?_⟩
  cases j with
  | zero=>simp only[mT,List.getElem?_cons_zero,Option.some.injEq]at hz;exact⟨n,l,x,rfl,rfl,rfl,hz.symm⟩
  | succ j=>exact k2 j z (by simpa [mT]using hz)
 | [],_ :: _,_,h1,_=>by simp at h1
 | _ :: _,[],_,h1,_=>by simp at h1
 | _ :: _,_ :: _,[],_,h2=>by simp at h2
 | [],[],_ :: _,_,h2=>by simp at h2
theorem VB:∀ (dc:List Nat) (xs:List V),∀ p∈qI dc xs,∃ (j:Nat) (x:V),dc[j]?=some p.1/\xs[j]?=some x/\x.ah=false/\p.2 = .sl x
 | [],[],p,hp=>by cases hp
 | [],_ :: _,p,hp=>by cases hp
 | _ :: _,[],p,hp=>by cases hp
 | n :: dc,x :: xs,p,hp=>by
  simp only[qI]at hp
  have rest:p∈qI dc xs->∃ (j:Nat) (y:V),(n :: dc)[j]?=some p.1/\(x :: xs)[j]?=some y/\y.ah=false/\p.2 = .sl y:=fun hp=>by
   obtain⟨j,y,h1,h2,h3,h4⟩:=VB dc xs p hp
   exact⟨j+1,y,by simpa using h1,by simpa using h2,h3,h4⟩
  cases hf:x.ah with
  | true=>rw[hf]at hp;exact rest hp
  | false=>
   rw[hf,cond_false]at hp
   rcases List.mem_cons.1 hp with rfl | hp
   ·exact⟨0,x,rfl,rfl,hf,rfl⟩
   ·exact rest hp
theorem VC{w:World}{b off n:Nat}{x:V}:∀ (dc:List Nat) (xs:List V) (j0 j:Nat),dc[j]?=some n->xs[j]?=some x->x.ah=false->(n,(w.cell? ⟨b,off+(j0+j),none⟩).getD undef)∈vY w b off j0 dc xs
 | [],_,_,j,h,_,_=>by simp at h
 | _ :: _,[],_,j,_,h,_=>by simp at h
 | m :: dc,y :: xs,j0,j,h1,h2,hf=>by
  cases j with
  | zero=>
   simp at h1 h2
   subst h1 h2
   simp only[vY,hf,cond_false]
   exact .head _
  | succ j=>
   have:=VC (w:=w) (b:=b) (off:=off) dc xs (j0+1) j (by simpa using h1) (by simpa using h2) hf
   rw[show j0+1+j=j0+(j+1) by omega]at this
   simp only[vY]
   cases y.ah with
   | true=>exact this
   | false=>exact .tail _ this
section
variable {P:Program} {w w':World} {w0:Wd} {B N:Nat} {af cR ax:bq} {ρ dW ρ':Nat->Loc} {σ:S} {a:Act} {X:Type} {d:Nat} {r:X} {ns cn:List Nat} {o:Oper} {rs:List Nat} {dL:List (Nat×Nat)} {nm HY:Nat->Nat} {c0:Nat}
theorem RV.yc{q:List Nat}{x:V}{v:Value}(h:RV w B af q x v){B':Nat}(hB:B'<=B)(hl:∀ b,B<=b->ax b=af b)(hg:∀ b k,af b=some k->ax b=some k)(hx:x.loc=true):RV w B' ax q x v:=by
 induction h with
 | int=>exact .int _ _ _
 | bool=>exact .bool _ _
 | str=>exact .str _ _
 | nil=>exact .nil _
 | cD=>exact .cD _ _ _
 | cK=>exact .cK _ _ _ _ _ (by first | assumption | omega)
 | cW=>exact .cW _ _ _ _ _ (by first | assumption | omega)
 | ah q t o qn l b off cap u ho c9 hb h1 dP hc hr ih=>
  have tM:o=1:=by
   match o,ho,hx with
   | 0,_,hx=>cases hx
   | 1,_,_=>rfl
   | n+2,ho,_=>omega
  subst tM
  have Dl:=h1 rfl
  refine .ah _ _ _ _ _ _ _ _ u ho ((hl b Dl).trans c9) hb (fun _=>Nat.le_trans hB Dl) dP hc (fun i h j x cz=>ih i h j x cz ?_)
  have:=s8 t 1 l[i] x (List.mem_of_getElem? cz)
  cases x with
  | sl t' o' q' l'=>
   have:o'=1:=by simpa [V.gr]using this
   subst this
   rfl
  | _=>rfl
 | own q t o qn l b cap cs u c9 hh hs hn hm hc hr ih=>
  exact .own _ _ _ _ _ _ _ cs u (hg b q c9) hh hs hn hm hc (fun i h j x cz=>ih i h j x cz (Vi hx l[i] x (List.mem_of_getElem? cz)))
theorem ja.yc{nm:Nat->Nat}:∀ (ps:List Pt) (off:Nat) (vs:List Value) {B':Nat},ja w B af nm off ps vs->B'<=B->(∀ b,B<=b->ax b=af b)->(∀ b k,af b=some k->ax b=some k)->(∀ n,off<=n->n<off+(ps.map fun p=>p.2.length).sum->nm n=HY n)->ja w B' ax HY off ps vs
 | [],_,[],_,h,_,_,_,_=>h
 | [],_,_ :: _,_,h,_,_,_,_=>h
 | _ :: _,_,[],_,h,_,_,_,_=>h
 | p :: ps,off,v :: vs,B',h,hB,hl,hg,hn=>by
  obtain⟨⟨lM,us,hu,hs,hr⟩,iK⟩:=h
  simp only[List.map_cons,List.sum_cons]at hn
  refine⟨⟨lM,us,hu,hs,fun j x hx=>?_⟩,ja.yc ps _ vs iK hB hl hg (fun n h1 h2=>hn n (by omega) (by omega))⟩
  obtain⟨v',dR,cN⟩:=hr j x hx
  have hj:j<p.2.length:=(List.getElem?_eq_some_iff.1 hx).1
  refine⟨v',dR,?_⟩
  show RV w B' ax [HY (off+j)] x v'
  rw[<-hn (off+j) (by omega) (by omega)]
  exact cN.yc hB hl hg (List.all_eq_true.1 lM x (List.mem_of_getElem? hx))
theorem Ox(hR:Rl w0 N af ρ σ a w)(hv:oS w w' af cR ρ dW ns cn)(nR:∀ b k,ax b=some k->cR b=some k)(mM:∀ b,w.heap.size<=b->cR b=ax b)(hB:w0.heap.size<=w.heap.size):
  ∀ (aJ:List Mu) (ins outs:List In) (i pos:Nat),(∀ j mu,aJ[j]?=some mu->rs[i+j]?=some mu.root)->(∀ mu∈aJ,vV σ mu)->Dx aJ ins->i+aJ.length<=40->HP w w' ax (tT w ρ rs) nm i pos ins outs->
  (∀ k n,(vW c0 pos aJ)[k]?=some n->nm (pos+k)=n)->(∀ p∈pX w' ρ c0 pos aJ outs,dW p.1 = .dJ p.2)->(∀ mu∈aJ,bN mu.root cn=false)->outs.all Vt=true->∀ p∈jM ns cn c0 pos aJ outs,dK w' w0.heap.size cR dW p.1 p.2
 | [],[],[],_,_,_,_,_,_,_,_,_,_,_,p,hp=>by simp[jM]at hp
 | [],[],_ :: _,_,_,_,_,_,_,h,_,_,_,_,_,_=>h.elim
 | [],_ :: _,_,_,_,_,_,h,_,_,_,_,_,_,_,_=>h.elim
 | .ak _ _ _ :: _,[],_,_,_,_,_,h,_,_,_,_,_,_,_,_=>h.elim
 | .sl _ _ :: _,[],_,_,_,_,_,h,_,_,_,_,_,_,_,_=>h.elim
 | .ak _ _ _ :: _,.sl _ :: _,_,_,_,_,_,h,_,_,_,_,_,_,_,_=>h.elim
 | .sl _ _ :: _,.ak _ :: _,_,_,_,_,_,h,_,_,_,_,_,_,_,_=>h.elim
 | .ak _ _ _ :: _,.ak _ :: _,[],_,_,_,_,_,_,h,_,_,_,_,_,_=>h.elim
 | .sl _ _ :: _,.sl _ :: _,[],_,_,_,_,_,_,h,_,_,_,_,_,_=>h.elim
 | .ak _ _ _ :: _,.ak _ :: _,.sl _ :: _,_,_,_,_,_,_,h,_,_,_,_,_,_=>h.elim
 | .sl _ _ :: _,.sl _ :: _,.ak _ :: _,_,_,_,_,_,_,h,_,_,_,_,_,_=>h.elim
 | .ak r cs vs :: aJ,.ak xs0 :: ins,.ak xs :: outs,i,pos,gG,fF,jN,hi,hO,dw,yd,pY,lM,p,hp=>by
  obtain⟨hm,hg,hlen⟩:=fF _ (.head _)
  obtain⟨⟨hw,hx⟩,ya⟩:=jN
  obtain⟨g1,g2⟩:=Oo cs vs hg
  have iI:=gG 0 _ rfl
  rw[Nat.add_zero]at iI
  simp only[List.length_cons]at hi
  have Oy:xs0.length=cs.length:=by rw[<-hw.1,List.length_map,g1]
  obtain⟨⟨b,off,cells,oR,e,e',h1,h2,h3,h4,h5,h6,h7⟩,Oz⟩:=hO
  have dm:=hR.root r _ hm
  generalize hz:aP.ak cs=z at dm
  cases dm with
  | sl=>cases hz
  | mp=>cases hz
  | gh=>cases hz
  | ak b0 sn VD e0 fz us aK hl hh hs hc=>
   injection hz with hz
   subst hz
   rw[Dw iI (by omega)]at h1
   have h1:ρ r = .ak b off:=h1
   rw[aK]at h1
   injection h1 with e1 e2
   subst e1 e2
   have aix:VD=cells:=by
    rw[hh]at h2
    injection h2 with h2
    injection h2
   subst aix
   have cr:=pY _ (.head _)
   have rY:dW r = .ak b0 sn:=(hv.dF r cr).trans aK
   have DC:nm pos=r:=by have:=dw 0 r rfl;rwa [Nat.add_zero]at this
   have aiy:∀ (j:Nat) n,(kS c0 (pos+1) vs)[j]?=some n->nm (pos+1+j)=n:=by
    intro j n hn
    have hj:j<(kS c0 (pos+1) vs).length:=(List.getElem?_eq_some_iff.1 hn).1
    have:=dw (j+1) n (by simp only[vW,List.getElem?_cons_succ];rw[List.getElem?_append_left hj];exact hn)
    rw[show pos+1+j=pos+(j+1) by omega]
    exact this
   have pW:∀ (j:Nat) x,xs[j]?=some x->∃ u,oR[sn+j]?=some u/\w'.cell? ⟨b0,sn+j,none⟩=some u/\((x.plain=true/\∀ (w:World) (B:Nat) (af:bq) (q:List Nat),RV w B af q x u)\/(x.plain=false/\x.ah=true/\VD[sn+j]?=some u)\/(x.ah=false/\RV w' w.heap.size ax [nm (pos+1+j)] x u)):=by
    intro j x hj
    obtain⟨u,hu,hd⟩:=h7 j x hj
    exact⟨u,hu,by rw[cell_of_row w' b0 _ oR _ _ h3];exact hu,hd⟩
   have gT:∀ (j:Nat) n x u,(kS c0 (pos+1) vs)[j]?=some n->xs[j]?=some x->x.ah=false->w'.cell? ⟨b0,sn+j,none⟩=some u->dW n = .dJ u:=by
    intro j n x u hn hxj hf hu
    have AR:=VC (w:=w') (b:=b0) (off:=sn) _ xs 0 j hn hxj hf
    rw[Nat.zero_add,hu]at AR
    exact yd (n,u) (by simp only[pX,aK,Ov];exact List.mem_append_left _ AR)
   simp only[jM]at hp
   rcases List.mem_cons.1 hp with rfl | hp
   ·obtain⟨k1,k2⟩:=VA (ns:=ns) (cn:=cn) (kS c0 (pos+1) vs) cs xs (by rw[DB,g1]) (by rw[h6,Oy])
    refine .ak b0 sn oR e' _ (fun j=>oR.getD (sn+j) undef) rY (nR _ _ (by rw[h4,DC])) h3 (by show sn+(mT _ _ _ _ _).length<=_;rw[k1,<-Oy,<-h6];exact h5) (fun j z hz=>?_)
    obtain⟨n,l,x,n1,n2,n3,rfl⟩:=k2 j z hz
    obtain⟨u,hu,OA,hd⟩:=pW j x n3
    have eu:oR.getD (sn+j) undef=u:=by rw[Array.getD_eq_getD_getElem?,hu];rfl
    rw[eu]
    refine⟨hu,?_⟩
    rcases hd with ⟨d1,d2⟩ | ⟨d1,d2,d3⟩ | ⟨d1,d2⟩
    ·rw[d1,cond_true]
     exact⟨V.C7 d1,d2 _ _ _ _⟩
    ·rw[d1,d2,cond_false,cond_true]
     obtain⟨c1,c2⟩:=hc j l n2
     rw[c1]at d3
     injection d3 with d3
     rw[<-d3]
     exact c2.iu hv
    ·have AQ:x.plain=false:=by
      cases AQ:x.plain with
      | false=>rfl
      | true=>rw[V.C7 AQ]at d1;cases d1
     rw[AQ,d1,cond_false,cond_false]
     exact⟨d2.Hs d1,by simp only[cc,gT j n x u n1 n3 d1 OA]⟩
   ·rcases List.mem_append.1 hp with hp | hp
    ·obtain⟨j,x,n1,n2,n3,n4⟩:=VB _ _ p hp
     obtain⟨u,hu,OA,hd⟩:=pW j x n2
     rw[n4]
     refine .sl u x (gT j p.1 x u n1 n2 n3 OA) ?_
     rcases hd with ⟨d1,d2⟩ | ⟨d1,d2,d3⟩ | ⟨d1,d2⟩
     ·exact d2 _ _ _ _
     ·rw[n3]at d2;cases d2
     ·rw[aiy j _ n1]at d2
      refine d2.yc hB mM nR ?_
      rw[List.all_cons,Bool.and_eq_true]at lM
      have:=List.all_eq_true.1 lM.1 x (List.mem_of_getElem? n2)
      rwa [n3,Bool.false_or]at this
    ·rw[List.all_cons,Bool.and_eq_true]at lM
     refine Ox hR hv nR mM hB aJ ins outs (i+1) (pos+1+vs.length) (fun j mu yb=>?_) (fun mu h=>fF mu (.tail _ h)) ya (by omega) ?_ (fun k n hn=>?_) (fun p hp=>yd p ?_) (fun mu h=>pY mu (.tail _ h)) lM.2 p hp
     ·have:=gG (j+1) mu (by simpa using yb)
      rw[show i+(j+1)=i+1+j by omega]at this
      exact this
     ·rw[g1,<-Oy]
      exact Oz
     ·have:=dw (1+vs.length+k) n (by
       rw[show 1+vs.length+k=(vs.length+k)+1 by omega]
       simp only[vW,List.getElem?_cons_succ]
       rw[List.getElem?_append_right (by rw[DB];omega),DB]
       rw[show vs.length+k-vs.length=k by omega]
       exact hn)
      rw[show pos+1+vs.length+k=pos+(1+vs.length+k) by omega]
      exact this
     ·simp only[pX]
      exact List.mem_append_right _ hp
 | .sl q y0 :: aJ,.sl y1 :: ins,.sl y :: outs,i,pos,gG,fF,jN,hi,hO,dw,yd,pY,lM,p,hp=>by
  obtain⟨hm,hf⟩:=fF _ (.head _)
  obtain⟨_,ya⟩:=jN
  have iI:=gG 0 _ rfl
  rw[Nat.add_zero]at iI
  simp only[List.length_cons]at hi
  obtain⟨hO1,Oz⟩:=hO
  rw[List.all_cons,Bool.and_eq_true]at lM
  have DC:nm pos=q:=by have:=dw 0 q rfl;rwa [Nat.add_zero]at this
  have hp:(p=(q,.sl y)/\y.rK=true)\/p∈jM ns cn c0 (pos+1) aJ outs:=by
   simp only[jM]at hp
   cases hy:y.rK with
   | false=>rw[hy]at hp;exact .inr hp
   | true=>
    rw[hy]at hp
    rcases List.mem_cons.1 hp with h | h
    ·exact .inl ⟨h,rfl⟩
    ·exact .inr h
  rcases hp with ⟨rfl,hy⟩ | hp
  ·obtain⟨v,h1,h2⟩:=hO1.resolve_left (by rintro rfl;cases hy)
   rw[Dw iI (by omega)]at h1
   rw[DC]at h2
   exact .sl v y ((hv.dF q (pY _ (.head _))).trans h1) (h2.yc hB mM nR lM.1)
  ·refine Ox hR hv nR mM hB aJ ins outs (i+1) (pos+1) (fun j mu yb=>?_) (fun mu h=>fF mu (.tail _ h)) ya (by omega) Oz (fun k n hn=>?_) (fun p hp=>yd p hp) (fun mu h=>pY mu (.tail _ h)) lM.2 p hp
   ·have:=gG (j+1) mu (by simpa using yb)
    rw[show i+(j+1)=i+1+j by omega]at this
    exact this
   ·have:=dw (k+1) n (by simpa [vW]using hn)
    rw[show pos+1+k=pos+(k+1) by omega]
    exact this
end
end Go.Proofs.YtinbifpbkcbnkaaGreat
namespace Go.Proofs.YtinbifpbkcbnkaaGreat
open Go.RowKit
set_option linter.unusedVariables false
section
variable {P:Program} {w w':World} {w0:Wd} {B N:Nat} {af cR ax:bq} {ρ dW ρ':Nat->Loc} {σ:S} {a:Act} {X:Type} {d:Nat} {r:X} {ns cn:List Nat} {o:Oper} {rs:List Nat} {dL:List (Nat×Nat)} {nm HY:Nat->Nat} {c0:Nat}
theorem aiz{dst:Option Tmp}{res:iL}{k:S->Option X}(h:kU N σ dst res k=some r):∃ aj,k aj=some r/\∀ af ρ a w v,Rl w0 N af ρ σ a w->rX w w0.heap.size af (fun n=>gn dst+n) res v->∃ ρ',Rl w0 N af ρ' aj (a.put dst v) w/\∀ r,r<gn dst->ρ' r=ρ r:=by
 unfold kU at h
 cases dst with
 | none=>exact⟨σ,h,fun af ρ a w v hR _=>⟨ρ,hR,fun _ _=>rfl⟩⟩
 | some d=>
  have h:(bif Nat.blt d N then (match res with
   | .one p=>(match pT (p.1,jq (1000000000100000+1000*d) p.2)with
    | some y=>k ((fN (1000000000100000+1000*d) σ p.2).set d y)
    | none=>none)
   | .cq ps=>k ((ir (1000000000100000+1000*d) σ ps).set d (.cq (jL (1000000000100000+1000*d) ps))))else none)=some r:=h
  cases hN:Nat.blt d N with
  | false=>rw[hN]at h;cases h
  | true=>
   rw[hN,cond_true]at h
   have tO:d<N:=Nat.le_of_ble_eq_true hN
   cases res with
   | one p=>
    simp only at h
    split at h
    ·rename_i y hy
     refine⟨_,h,fun af ρ a w v hR g8=>?_⟩
     obtain⟨ρ',jA,gl,_,gF⟩:=Dr [p] (1000000000100000+1000*d) 0 σ ρ [v] (by omega) hR g8
     have Og:=gF 0 _ v rfl rfl
     exact⟨ρ',jA.set (NR hy Og) tO,gl⟩
    ·cases h
   | cq mQ=>
    refine⟨_,h,fun af ρ a w v hR g8=>?_⟩
    obtain⟨vs,rfl,hv⟩:=g8
    obtain⟨ρ',jA,gl,hlen,gF⟩:=Dr mQ (1000000000100000+1000*d) 0 σ ρ vs.toList (by omega) hR hv
    refine⟨ρ',jA.set ⟨vs,rfl,by simpa using hlen,fun j p hp=>?_⟩ tO,gl⟩
    have hj:j<vs.size:=by
     have:=(List.getElem?_eq_some_iff.1 hp).1
     rw[Nat.add_zero]at hlen
     rw[<-hlen]at this
     simpa using this
    exact⟨vs[j],Array.getElem?_eq_getElem hj,gF j p _ hp (by rw[Array.getElem?_toList,Array.getElem?_eq_getElem hj])⟩
theorem OB{f:Nat}{args:Array Operand}{cO:Array TypeId}{c:lN}{k:S->Option X}(ho:o.op = .call { callee:=.value (.func f),args,argTypes:=cO })(he:enters P f)(hc:xV P f c)(h:kj N σ o.dst c args.toList k=some r):∃ aj aJ cn,k aj=some r/\iM σ c.ps args.toList=some aJ/\(∀ n,bN n cn=true->n<N\/60000<=n)/\(∀ mu∈aJ,bN mu.root cn=false)/\
  ∀ a w K Q af ρ,Rl w0 N af ρ σ a w->(∀ v w' cR dW pZ,Rl w0 N cR pZ aj (a.put o.dst v) w'->oS w w' af cR ρ dW ((jB 0 aJ).map (·.1)) cn->iE w0 w w'->(∀ r,r<gn o.dst->pZ r=dW r)->K (a.put o.dst v) w')->o.wp P a w K Q:=by
 unfold kj at h
 split at h
 ·rename_i aJ kV
  generalize tU:jB 0 aJ=dL at h
  cases g9:(once dL&&Nat.ble aJ.length 40)with
  | false=>rw[g9]at h;cases h
  | true=>
   rw[g9,cond_true]at h
   rw[Bool.and_eq_true]at g9
   have azA:=Nat.le_of_ble_eq_true g9.2
   have vU:∀ p∈jB 0 aJ,dL.lookup p.1=some p.2:=by
    intro p hp
    rw[tU]at hp
    have:=List.all_eq_true.1 g9.1 p hp
    obtain⟨n,hn,he⟩:=(Option.any_eq_true _ _).1 this
    rw[hn,Nat.eq_of_beq_eq_true he]
   obtain⟨x,h2,jN,azB,gW⟩:=HU (w0:=w0) (N:=N) _ _ aJ _ kV h
   clear h
   split at h2
   ·rename_i y hy
    unfold vX at h2
    generalize pY:kT (gn o.dst) (ez c.ro y.1).len aJ (gX (gm c.ps) y.2)=cn at h2
    generalize qv:dL.map (·.1)=ns at h2 gW
    cases dx:xZ N aJ (gX (gm c.ps) y.2) cn with
    | false=>rw[dx]at h2;cases h2
    | true=>
     rw[dx,cond_true]at h2
     simp only[xZ,Bool.and_eq_true]at dx
     obtain⟨⟨⟨ok1,VE⟩,VF⟩,ok4⟩:=dx
     obtain⟨aj,h3,HZ⟩:=aiz (w0:=w0) h2
     refine⟨aj,aJ,cn,h3,kV,fun n hn=>?_,fun mu fF=>by simpa using List.all_eq_true.1 VE mu fF,fun a w K Q af ρ hR hK=>?_⟩
     ·have:=List.all_eq_true.1 VF n (qH.1 hn)
      rw[Bool.or_eq_true]at this
      rcases this with h | h
      ·exact .inl (by have:=Nat.le_of_ble_eq_true h;omega)
      ·exact .inr (Nat.le_of_ble_eq_true h)
     have hS:xX ns af (eI af dL id):=by rw[<-qv];exact aiv (fun b k hb=>(hR.cH b k hb).2.2)
     have VG:=HT _ _ _ kV
     let rs:=aJ.map Mu.root
     have gG:∀ j mu,aJ[j]?=some mu->rs[0+j]?=some mu.root:=by
      intro j mu hj
      rw[Nat.zero_add,List.getElem?_map,hj]
      rfl
     have hE:=Ot (rs:=rs) hR hS aJ (qG c.ps x) 0 vU gG VG jN (by omega)
     have hA:=gW af ρ a w (eI af dL id) (tT w ρ rs) hR hS (qG c.ps x) 0 (fun j z hz=>by rw[Nat.zero_add];exact hz) (fun j mu hj=>by
      have h1:=gG j mu hj
      rw[Nat.zero_add]at h1 ⊢
      exact Dw h1 (by have:=(List.getElem?_eq_some_iff.1 hj).1;omega))
     obtain⟨hA1,hA2⟩:=AV.get _ _ hA
     let nm:Nat->Nat:=fun n=>if n<(ez c.ro y.1).len then gn o.dst+n else (vW (gn o.dst) (ez c.ro y.1).len aJ).getD (n-(ez c.ro y.1).len) 0
     have gF:∀ (ps:List PK) (i:Nat) (x:nU ps),(mR ps i x).length=ps.length:=by
      intro ps
      induction ps with
      | nil=>intro i x;rfl
      | cons p ps ih=>
       intro i x
       cases p with
       | v=>exact congrArg (· + 1) (ih _ _)
       | p=>exact congrArg (· + 1) (ih _ _)
       | s=>exact congrArg (· + 1) (ih _ _)
     unfold Oper.wp
     rw[HN w o a f args cO ho he,Oper.upon_enter]
     have xS:(args.map a.eval)=(args.toList.map a.eval).toArray:=by apply Array.ext';rw[Array.toList_map]
     rw[xS]
     have H6:∀ b k,eI af dL id b=some k->(∃ k',af b=some k'/\cg k' ns=true)/\k≠[]:=by
      intro b k hb
      cases hl:af b with
      | none=>rw[hS.none b hl]at hb;cases hb
      | some k'=>
       refine⟨⟨k',rfl,?_⟩,?_⟩
       ·cases hq:cg k' ns with
        | true=>rfl
        | false=>rw[(hS.rest b k' hl).2 hq]at hb;cases hb
       ·simp only[eI,hl]at hb
        split at hb
        ·cases hb
        ·cases VH:dL.lookup _ with
         | none=>rw[VH]at hb;cases hb
         | some n=>rw[VH]at hb;injection hb with hb;subst hb;simp
     have hQ:Hd w (eI af dL id):=w0.on hR.below (fun b k hb=>by obtain⟨⟨k',hl,_⟩,_⟩:=H6 b k hb;exact(hR.cH b k' hl).1)
     refine(hc x y hy nm w (eI af dL id) (tT w ρ rs) _ hE (fun b k hb=>⟨?_,(H6 b k hb).2⟩) ?_ hA2 hQ).mono fun e w' tP=>?_
     ·obtain⟨⟨k',hl,_⟩,_⟩:=H6 b k hb
      exact(hR.cH b k' hl).2.1
     ·rw[List.size_toArray,hA1,gF]
     ·obtain⟨v,ki,rfl,fM,AX,g8,aiA⟩:=tP
      have hB:=hR.below.size
      let cR:bq:=fun b=>match eI af dL id b with
       | none=>if b<w.heap.size then af b else ki b
       | some _=>ki b
      have e1:∀ b k,ki b=some k->cR b=some k:=by
       intro b k hb
       show (match eI af dL id b with | none=>if b<w.heap.size then af b else ki b | some _=>ki b)=some k
       split
       ·rename_i cr
        have:=(AX b k hb).1
        have mM:w.heap.size<=b:=this.resolve_right (fun h=>h cr)
        rw[if_neg (by omega)]
        exact hb
       ·exact hb
      have e2:∀ b,w.heap.size<=b->cR b=ki b:=by
       intro b hb
       show (match eI af dL id b with | none=>if b<w.heap.size then af b else ki b | some _=>ki b)=ki b
       split
       ·rw[if_neg (by omega)]
       ·rfl
      have VI:∀ p∈pX w' ρ (gn o.dst) (ez c.ro y.1).len aJ (gX (gm c.ps) y.2),(pX w' ρ (gn o.dst) (ez c.ro y.1).len aJ (gX (gm c.ps) y.2)).lookup p.1=some p.2:=
       Vz (by rw[HX,pY];exact ok1)
      generalize yd:pX w' ρ (gn o.dst) (ez c.ro y.1).len aJ (gX (gm c.ps) y.2)=hd at VI
      have aiB:hd.map (·.1)=cn:=by rw[<-yd,HX,pY]
      have hv:oS w w' af cR ρ (Vx hd ρ) ns cn:=by
       refine⟨fM.size,fun b hb hk=>?_,fun n hn=>?_,fun b k hb=>(hR.cH b k hb).2⟩
       ·have cr:eI af dL id b=none:=by
         cases hl:af b with
         | none=>exact hS.none b hl
         | some k=>exact(hS.rest b k hl).2 (hk k hl)
        refine⟨fM.block b hb cr,?_⟩
        show (match eI af dL id b with | none=>if b<w.heap.size then af b else ki b | some _=>ki b)=af b
        rw[cr]
        exact if_pos hb
       ·show (match hd.lookup n with | some v=>Loc.dJ v | none=>ρ n)=ρ n
        rw[Vy (by rw[aiB];exact hn)]
      have vZ:∀ mu∈aJ,bN mu.root cn=false:=fun mu fF=>by simpa using List.all_eq_true.1 VE mu fF
      have DD:=Ox (c0:=gn o.dst) (nm:=nm) hR hv e1 e2 hB aJ (qG c.ps x) (gX (gm c.ps) y.2) 0 (ez c.ro y.1).len gG VG jN (by omega) aiA (fun k n hn=>?_) (fun p hp=>?_) vZ ok4
      ·have VJ:iE w0 w w':=by
        refine⟨fM.os,fM.tape,fM.output,fM.size,fun k hk hL=>fM.block k (Nat.lt_of_lt_of_le hk hB) ?_⟩
        cases hl:af k with
        | none=>exact hS.none k hl
        | some k'=>exact absurd hL ((hR.cH k k' hl).1.resolve_left (by omega))
       have jA:Rl w0 N cR (Vx hd ρ) (σ.bk ns cn (jM ns cn (gn o.dst) (ez c.ro y.1).len aJ (gX (gm c.ps) y.2))) a w':=by
        refine hR.iu hv VJ (fun b k hb=>?_) (fun n hn=>?_) (fun n z hz=>?_)
        ·have hb:(match eI af dL id b with | none=>if b<w.heap.size then af b else ki b | some _=>ki b)=some k:=hb
         have VK:ki b=some k->(w0.heap.size<=b\/w0.L b≠none)/\b<w'.heap.size/\k≠[]:=by
          intro h1
          obtain⟨g1,g2,g3⟩:=AX b k h1
          refine⟨?_,g2,g3⟩
          rcases g1 with g1 | g1
          ·exact .inl (Nat.le_trans hB g1)
          ·cases cr:eI af dL id b with
           | none=>exact absurd cr g1
           | some k2=>
            obtain⟨⟨k',hl,_⟩,_⟩:=H6 b k2 cr
            exact(hR.cH b k' hl).1
         split at hb
         ·split at hb
          ·have:=hR.cH b k hb
           exact⟨this.1,Nat.lt_of_lt_of_le this.2.1 fM.size,this.2.2⟩
          ·exact VK hb
         ·exact VK hb
        ·have:=List.all_eq_true.1 VF n (qH.1 hn)
         rw[Bool.or_eq_true]at this
         refine hR.eg n ?_
         rcases this with h | h
         ·exact .inl (by have:=Nat.le_of_ble_eq_true h;omega)
         ·exact .inr (Nat.le_of_ble_eq_true h)
        ·have AR:(n,z)∈jM ns cn (gn o.dst) (ez c.ro y.1).len aJ (gX (gm c.ps) y.2):=by
          clear DD
          generalize jM ns cn (gn o.dst) (ez c.ro y.1).len aJ (gX (gm c.ps) y.2)=l at hz
          induction l with
          | nil=>cases hz
          | cons p l ih=>
           rw[List.lookup_cons]at hz
           cases hb:n==p.1 with
           | true=>
            rw[hb]at hz
            have e:n=p.1:=by simpa using hb
            injection hz with hz
            rw[e,<-hz]
            exact .head _
           | false=>
            rw[hb]at hz
            exact .tail _ (ih hz)
         exact DD (n,z) AR
       have aiC:rX w' w0.heap.size cR (fun n=>gn o.dst+n) (ez c.ro y.1) v:=?_
       ·obtain⟨pZ,DE,tV⟩:=HZ cR _ a w' v jA aiC
        exact hK v w' cR _ pZ DE (by rw[tU,qv];exact hv) VJ tV
       have OC:∀ (L:Nat),L=(ez c.ro y.1).len->∀ n,n<L->nm n=gn o.dst+n:=fun L hL n hn=>if_pos (by omega)
       generalize azC:ez c.ro y.1=res at g8 OC
       cases res with
       | one p=>
        have g8:ja w' w.heap.size ki nm 0 [p] [v]:=g8
        exact ja.yc [p] 0 [v] g8 hB e2 e1 (fun n _ hn=>OC _ rfl n (by simpa [iL.len]using hn))
       | cq mQ=>
        obtain⟨vs,e,fK⟩:=g8
        exact⟨vs,e,ja.yc mQ 0 vs.toList fK hB e2 e1 (fun n _ hn=>OC _ rfl n (by simpa [iL.len]using hn))⟩
      ·show (if (ez c.ro y.1).len+k<(ez c.ro y.1).len then gn o.dst+((ez c.ro y.1).len+k)else (vW (gn o.dst) (ez c.ro y.1).len aJ).getD ((ez c.ro y.1).len+k-(ez c.ro y.1).len) 0)=n
       rw[if_neg (by omega),show (ez c.ro y.1).len+k-(ez c.ro y.1).len=k by omega,List.getD_eq_getElem?_getD,hn]
       rfl
      ·rw[yd]at hp
       show (match hd.lookup p.1 with | some v=>Loc.dJ v | none=>ρ p.1) = .dJ p.2
       rw[VI p hp]
   ·cases h2
 ·cases h
theorem aiD{f:Nat}{args:Array Operand}{cO:Array TypeId}{c:lN}{k:S->Option X}(ho:o.op = .call { callee:=.value (.func f),args,argTypes:=cO })(he:enters P f)(hc:xV P f c)(h:kj N σ o.dst c args.toList k=some r):∃ aj,k aj=some r/\jZ P w0 N o σ aj:=by
 obtain⟨aj,aJ,cn,h1,_,_,_,h2⟩:=OB (w0:=w0) ho he hc h
 refine⟨aj,h1,fun a w K Q hR hK=>?_⟩
 obtain⟨af,ρ,hR⟩:=hR
 exact h2 a w K Q af ρ hR fun v w' cR dW pZ aT _ _ _=>hK _ _ ⟨cR,pZ,aT⟩
end
end Go.Proofs.YtinbifpbkcbnkaaGreat
