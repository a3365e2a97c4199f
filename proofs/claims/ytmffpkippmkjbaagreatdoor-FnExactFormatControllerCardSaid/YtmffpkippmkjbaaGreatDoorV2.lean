/-
  Running the program over pure contents, and that it follows (part 2). Nothing here is a claim.
-/
import Derived.Laws.StructEq
import Derived.Test.YtmffpkippmkjbaaGreatDoorV1
set_option linter.unusedSimpArgs false
namespace Go.Proofs.YtmffpkippmkjbaaGreatDoor
open Go.RowKit
set_option linter.unusedVariables false
def Qg{X:Type}(N:Nat)(σ:S)(dst:Option Tmp)(c x y:A)(k:S->Option X):Option X:=
 match c with
 | .lf (.v (.bool b))=>bif b then fN N σ dst x k else fN N σ dst y k
 | _=>none
def rQ{X:Type}(P:Program)(s:TypeId)(x:A)(f:Nat)(k:A->Option X):Option X:=
 match A6 P s f,x with
 | some fd,.agg cs=>(match ia P fd.type,yB P fd.type with
  | some n,some true=>if fd.offset+n<=cs.length then k (.agg ((cs.drop fd.offset).take n))else none
  | some _,some false=>(match cs[fd.offset]? with
   | some y=>k (.lf y)
   | none=>none)
  | _,_=>none)
 | _,_=>none
def vN{X:Type}(mx:Bool)(x y:A)(k:A->Option X):Option X:=
 match x,y with
 | .lf (.v (.int kx a)),.lf (.v (.int _ b))=>k (.lf (.v (.int kx (bif mx then (if b > a then b else a)else (if b<a then b else a)))))
 | _,_=>none
def ua{X:Type}(P:Program)(t:TypeId)(x i:A)(k:A->Option X):Option X:=
 match x,i with
 | .lf (.v (.str s)),.lf (.v (.int _ iv))=>(match P.underlying t with
  | some .string=>if h:0<=iv/\iv.toNat<s.size then k (.lf (.v (.int .u8 ((s[iv.toNat]'h.2).toNat:Int))))else none
  | _=>none)
 | _,_=>none
def rR{X:Type}(x:Option A)(d:Int)(k:Int->Option X):Option X:=
 match x with
 | none=>k d
 | some (.lf (.v (.int _ n)))=>k n
 | _=>none
def uc{X:Type}(P:Program)(t:TypeId)(x:A)(lo hi:Option A)(k:A->Option X):Option X:=
 match x with
 | .lf (.v (.str s))=>(match P.underlying t with
  | some .string=>rR lo 0 fun l=>rR hi (s.size:Int) fun h=>if 0<=l/\l<=h/\h<=(s.size:Int)then k (.lf (.v (.str (s.extract l.toNat h.toNat))))else none
  | _=>none)
 | .lf (.v (.sl t' g qn l))=>(match ou P t with
  | some e=>(match ia P e with
   | some n=>if n=aq t' then (bif Nat.blt g 2 then rR lo 0 fun a=>rR hi (l.length:Int) fun b=>if 0<=a/\a<=b/\b<=(l.length:Int)then k (.lf (.v (.sl t' g false ((l.take b.toNat).drop a.toNat))))else none else none)else none
   | none=>none)
  | none=>none)
 | _=>none
def ud(P:Program)(src dst:TypeId):Bool:=
 match P.underlying src,P.underlying dst with
 | some (.slice e),some .string=>(match P.underlying e with
  | some (.int .u8)=>true
  | _=>false)
 | _,_=>false
def rS{X:Type}(P:Program)(src dst:TypeId)(z:V)(k:A->Option X):Option X:=
 match z with
 | .sl .u8 _ _ l=>bif ud P src dst then k (.lf (.v (.str (strOfNums l))))else none
 | .nil=>bif ud P src dst then k (.lf (.v (.str (strOfNums []))))else none
 | _=>none
def kW{X:Type}(P:Program)(σ:S)(src dst:TypeId)(x:A)(k:A->Option X):Option X:=
 match x with
 | .lf (.v (.int _ n))=>(match P.underlying src,P.underlying dst with
  | some _,some (.int kd)=>k (.lf (.v (.int kd (kd.wrap n))))
  | _,_=>none)
 | .lf y=>fE σ y fun z=>rS P src dst z k
 | _=>none
section
variable {P:Program} {w w':World} {w0:Wd} {B N:Nat} {lab aj:aQ} {ρ ρ':Nat->Loc} {σ:S} {a:Act} {X:Type} {d:Nat} {r:X} {o:Oper}
theorem ace{α:Type}(f:α->List Value)(s:Nat)(hf:∀ x,(f x).length=s)(l:List α):(l.flatMap f).length=l.length*s:=by
 induction l with
 | nil=>simp
 | cons a l ih=>rw[List.flatMap_cons,List.length_append,hf,ih,List.length_cons,Nat.succ_mul];omega
theorem acf{α:Type}(f:α->List Value)(s:Nat)(hf:∀ x,(f x).length=s):∀ (l:List α) (k:Nat) (hk:k<l.length) (j:Nat),j<s->(l.flatMap f)[k*s+j]?=(f l[k])[j]?:=by
 intro l
 induction l with
 | nil=>intro k hk;simp at hk
 | cons a l ih=>
  intro k hk j hj
  rw[List.flatMap_cons]
  cases k with
  | zero=>rw[Nat.zero_mul,Nat.zero_add,List.getElem?_append_left (by rw[hf];exact hj)];rfl
  | succ k=>
   have e:(k+1)*s+j=s+(k*s+j):=by rw[Nat.succ_mul];omega
   rw[e,List.getElem?_append_right (by rw[hf];omega),hf,Nat.add_sub_cancel_left]
   exact ih k (by simpa using hk) j hj
theorem Qh(z:Array Value)(s n:Nat)(hs:z.size=s)(h0:0<s):(madeCells z (n*s)).toList=(List.replicate n z.toList).flatten:=by
 have e:(List.replicate n z.toList).flatten=(List.replicate n ()).flatMap (fun _=>z.toList):=by
  rw[List.flatMap_def,List.map_replicate]
 rw[e]
 have hl:((List.replicate n ()).flatMap (fun _=>z.toList)).length=n*s:=by
  rw[ace (fun _=>z.toList) s (fun _=>by simpa using hs)]
  simp
 apply List.ext_getElem?
 intro i
 rcases Nat.lt_or_ge i (n*s)with hi | hi
 ·have hk:i / s<n:=Nat.div_lt_of_lt_mul (by rw[Nat.mul_comm];exact hi)
  have hj:i % s<s:=Nat.mod_lt _ h0
  have ei:i=i / s*s+i % s:=by rw[Nat.mul_comm];exact(Nat.div_add_mod i s).symm
  have h2:=acf (fun _=>z.toList) s (fun _=>by simpa using hs) (List.replicate n ()) (i / s) (by simpa using hk) (i % s) hj
  rw[<-ei]at h2
  rw[h2]
  have hz:i % s<z.size:=by omega
  simp only[madeCells,Array.toList_map,Array.toList_range,List.getElem?_map,List.getElem?_range hi,Option.map_some,hs]
  simp[hz]
 ·rw[List.getElem?_eq_none (by rw[Array.length_toList,size_madeCells];exact hi),List.getElem?_eq_none (by rw[hl];exact hi)]
theorem acg{t:TypeId}{len:Nat}{parts:Array (Nat×Operand)}{k:S->Option X}(h:vM P N σ d t len parts.toList k=some r):∃ af,k af=some r/\∀ lab ρ a w,Rl w0 N lab ρ σ a w->
  ∃ w' aj ρ' v,(Instr.buildSlice t len (parts.map fun(i,x)=>(i,a.eval x))).run P w = .ok v w'/\Rl w0 N aj ρ' af (a.put (some d) v) w':=by
 unfold vM at h
 split at h
 ·rename_i e tc fQ
  obtain⟨dX,ht,i,hi,hsz,ez⟩:=vJ fQ
  split at h
  ·rename_i z hz
   cases hc:(Nat.beq (full tc) 0&&Nat.beq z.cells.size (aq tc)&&Nat.blt (len*aq tc) 16777217)with
   | false=>rw[hc]at h;cases h
   | true=>
    rw[hc,cond_true]at h
    simp only[Bool.and_eq_true]at hc
    have hf:=Nat.eq_of_beq_eq_true hc.1.1
    have ee:=Nat.eq_of_beq_eq_true hc.1.2
    have hsm:len*aq tc<16777217:=by have:=Nat.le_of_ble_eq_true hc.2;omega
    have nI:i.zero=some z:=by unfold zeroOf at hz;simpa [hi]using hz
    split at h
    ·rename_i cs cC
     split at h
     ·rename_i vs eT
      split at h
      ·rename_i l hl
       obtain⟨hd,h⟩:=kV h
       refine⟨_,h,fun lab ρ a w hR=>?_⟩
       obtain⟨E7,ow,ku⟩:=Ks tc 0 len vs l hl
       have Kt:cG w w0.heap.size lab ρ (List.replicate len (z.cells.toList.map gl)).flatten (madeCells z.cells (len*aq tc)):=by
        have e1:(List.replicate len (z.cells.toList.map gl)).flatten=((List.replicate len z.cells.toList).flatten).map gl:=by
         rw[List.map_flatten,List.map_replicate]
        rw[e1,<-Qh z.cells (aq tc) len ee (nA tc)]
        refine⟨by simp,fun j x hx=>?_⟩
        rw[List.getElem?_map]at hx
        cases hv:(madeCells z.cells (len*aq tc)).toList[j]? with
        | none=>rw[hv]at hx;cases hx
        | some v=>
         rw[hv]at hx
         injection hx with hx
         subst hx
         exact⟨v,by simpa using hv,E1 v⟩
       obtain⟨eC,rT,aA⟩:=E5 (w:=w) (B:=w0.heap.size) (lab:=lab) (ρ:=ρ) _ _ _ (parts.toList.map fun p=>(p.1,a.eval p.2)) cs cC Kt (by simp) (fun j p q hp hq=>by
        rw[List.getElem?_map]at hp hq
        cases hx:parts.toList[j]? with
        | none=>rw[hx]at hp;cases hp
        | some x=>
         rw[hx]at hp hq
         injection hp with hp
         injection hq with hq
         subst hp hq
         exact⟨rfl,hR.ak x.2⟩)
       have Qi:=E6 cs vs eT
       have ach:eC.size=len*aq tc:=by rw[aA.1,Qi,List.length_map,ow]
       have aL:(Instr.buildSlice t len (parts.map fun(i,x)=>(i,a.eval x))).run P w = .ok (.slice (some ⟨w.heap.size,0,none⟩) len len) (w.alloc (.cells eC e)):=by
        have Bf:(parts.map fun(i,x)=>(i,a.eval x)).toList=parts.toList.map fun p=>(p.1,a.eval p.2):=by simp
        by_cases h0:len*aq tc=0
        ·have hm:madeCells z.cells (len*aq tc) = #[]:=by rw[h0];simp[madeCells]
         rw[hm]at rT
         have Ku:len*i.size=0:=by rw[hsz];exact h0
         rw[<-hsz]at rT
         have e0:∀ f:Nat->Value,Array.map f (Array.range 0) = #[]:=fun f=>by simp
         simp only[Instr.buildSlice,Sem.run_bind,run_underlying dX,Result.andThen_ok,sizeOf,typeInfo]
         simp[hi,Ku]
         rw[e0,rT]
         simp[newRow]
        ·exact run_buildSlice (P:=P) w t e len _ eC i z dX hi nI (by rw[hsz];omega) (by rw[hsz];exact h0) (by rw[hsz,Bf];exact rT)
       refine⟨_,aX lab w.heap.size (some [d]),aX ρ d (.cS (.slice (some ⟨w.heap.size,0,none⟩) len len)),_,aL,(hR.yE (hR.dM d (.inl hd)) (fun r hr=>bB _ _ _ hr) (.sl _ _ (aZ _ _ _) ?_)).set ⟨rfl,by simp[bC,aZ]⟩ hd⟩
       have gI:∀ i' (h':i'<l.length) j x,(enc tc 0 l[i'])[j]?=some x->∃ v,eC[i'*aq tc+j]?=some v/\∀ (w':World) (B':Nat) (aj:aQ) (q':List Nat),RV w' B' aj q' x v:=by
        intro i' h' j x hx
        obtain⟨y,hy,hw⟩:=ku i' h' j x hx
        obtain⟨v,hv,hr⟩:=aA.2 (i'*aq tc+j) (.v y) (by rw[Qi,List.getElem?_map,hy];rfl)
        exact⟨v,hv,fun w' B' aj q'=>(hr.2.wk hw).tV (AV tc 0 l[i'] hf x (List.mem_of_getElem? hx))⟩
       have:=RV.own (w:=w.alloc (.cells eC e)) (B:=w0.heap.size) (lab:=aX lab w.heap.size (some [d])) [d] tc 0 true l w.heap.size len eC (fun i j=>(eC[i*aq tc+j]?).getD undef)
        (aZ _ _ _) (by rw[ht];exact heap_alloc_new w _) ach (by omega) ⟨by have:=Nat.le_mul_of_pos_right len (nA tc);unfold maxLen;omega,fun _=>E7.symm⟩ (fun i' h' j x hx=>?_) (fun i' h' j x hx=>?_)
       ·rw[E7]at this
        exact this
       ·obtain⟨v,hv,_⟩:=gI i' h' j x hx
        rw[hv];rfl
       ·obtain⟨v,hv,hr⟩:=gI i' h' j x hx
        rw[hv];exact hr _ _ _ _
      ·cases h
     ·cases h
    ·cases h
  ·cases h
 ·cases h
theorem Qj{mx:Bool}{x y:A}{k:A->Option X}(h:vN mx x y k=some r):∃ z,k z=some r/\∀ (w:World) (B:Nat) (lab:aQ) (ρ:Nat->Loc) (t ty:TypeId) (u v:Value),RA w B lab ρ x u->RA w B lab ρ y v->
  ∃ t',((bif mx then Builtin.max_ #[t,t] ty #[u,v]else Builtin.min_ #[t,t] ty #[u,v]):Sem Value).run P w = .ok t' w/\RA w B lab ρ z t':=by
 unfold vN at h
 split at h
 ·refine⟨_,h,fun w B lab ρ t ty u v hu hv=>?_⟩
  obtain rfl:=hu.2.gk
  obtain rfl:=hv.2.gk
  cases mx with
  | true=>exact⟨_,by simp[Builtin.max_,Builtin.max2],rfl,.int _ _ _⟩
  | false=>exact⟨_,by simp[Builtin.min_,Builtin.min2],rfl,.int _ _ _⟩
 ·cases h
theorem aci{t:TypeId}{x i:A}{k:A->Option X}(h:ua P t x i k=some r):∃ z,k z=some r/\∀ (w:World) (B:Nat) (lab:aQ) (ρ:Nat->Loc) (u v:Value),RA w B lab ρ x u->RA w B lab ρ i v->
  ∃ t',(Instr.index t u v).run P w = .ok t' w/\RA w B lab ρ z t':=by
 unfold ua at h
 split at h
 ·rename_i s kk iv
  split at h
  ·rename_i hu
   split at h
   ·rename_i hb
    refine⟨_,h,fun w B lab ρ u v iW hv=>?_⟩
    obtain rfl:=iW.2.nE
    obtain rfl:=hv.2.gk
    exact⟨_,by simp[Instr.index,asIntOf,run_underlying hu,hb.1,hb.2],rfl,.int _ _ _⟩
   ·cases h
  ·cases h
 ·cases h
theorem Qk{src dst:TypeId}(h:ud P src dst=true):∃ e,P.underlying src=some (.slice e)/\P.underlying dst=some .string/\P.underlying e=some (.int .u8):=by
 unfold ud at h
 split at h
 ·rename_i e h1 h2
  split at h
  ·rename_i h3
   exact⟨e,h1,h2,h3⟩
  ·cases h
 ·cases h
theorem arQ:strOfNums []=ByteArray.empty:=rfl
theorem getD_at(l:List Int)(i:Nat)(hi:i<l.length):l.getD i 0=l[i]:=by rw[List.getD_eq_getElem?_getD,List.getElem?_eq_getElem hi];rfl
theorem RV.toStr{src dst e:TypeId}(hs:P.underlying src=some (.slice e))(hd:P.underlying dst=some .string)(he:P.underlying e=some (.int .u8)){o:Nat}{qn:Bool}{l:List (T .u8)}{q:List Nat}{B:Nat}{u:Value}(h:RV w B lab q (.sl .u8 o qn l) u):
  (convert src dst u).run P w = .ok (.string (strOfNums l)) w:=by
 generalize hy:V.sl .u8 o qn l=y at h
 cases h with
 | int=>cases hy
 | bool=>cases hy
 | str=>cases hy
 | nil=>cases hy
 | bO q t o'=>
  injection hy with e1 e2 e3 e4
  subst e1
  obtain rfl:=eq_of_heq e4
  rw[run_convert_bytes_nil w src e hs he 0 0 dst hd];rfl
 | bY q t o' A c ho=>
  injection hy with e1 e2 e3 e4
  subst e1
  obtain rfl:=eq_of_heq e4
  have hl:(loadCells A 0).run P w = .ok (([]:List Int).map (Value.int .u8)).toArray w:=run_loadCells_list (P:=P) w A [] (fun j v hj=>by simp at hj)
  rw[run_convert_bytes_string w src dst e _ 0 c hs he hd,run_bytesToString w A 0 c [] hl]
  rfl
 | cy q t o' A c ho=>
  injection hy with e1 e2 e3 e4
  subst e1
  obtain rfl:=eq_of_heq e4
  have hl:(loadCells A 0).run P w = .ok (([]:List Int).map (Value.int .u8)).toArray w:=run_loadCells_list (P:=P) w A [] (fun j v hj=>by simp at hj)
  rw[run_convert_bytes_string w src dst e _ 0 c hs he hd,run_bytesToString w A 0 c [] hl]
  rfl
 | ah q t o' Kv l' b off cap uu ho hl hb h1 hcap hc hr=>
  injection hy with e1 e2 e3 e4
  subst e1
  obtain rfl:=eq_of_heq e4
  refine run_convert_bytes_arg w src e hs he b off _ cap l rfl (fun i hi=>?_) dst hd
  have h2:=hc i hi 0 (.int .u8 l[i]) rfl
  have h3:=(hr i hi 0 (.int .u8 l[i]) rfl).gk
  simp only[aq,Nat.mul_one,Nat.add_zero]at h2
  have hg:=getD_at (show List Int from l) i hi
  rw[h2,h3]
  exact congrArg (fun z=>some (Value.int .u8 z)) hg.symm
 | own q t o' Kv l' b cap cs uu hl hh kj hn hm hc hr=>
  injection hy with e1 e2 e3 e4
  subst e1
  obtain rfl:=eq_of_heq e4
  refine run_convert_bytes_arg w src e hs he b 0 _ cap l rfl (fun i hi=>?_) dst hd
  have h2:=hc i hi 0 (.int .u8 l[i]) rfl
  have h3:=(hr i hi 0 (.int .u8 l[i]) rfl).gk
  simp only[aq,Nat.mul_one,Nat.add_zero]at h2
  have hg:=getD_at (show List Int from l) i hi
  rw[h3]at h2
  have h4:w.cell? ⟨b,0+i,none⟩=some (.int .u8 l[i]):=by simp[World.cell?,hh,h2]
  rw[h4]
  exact congrArg (fun z=>some (Value.int .u8 z)) hg.symm
theorem acj{src dst:TypeId}{x:A}{k:A->Option X}(h:kW P σ src dst x k=some r):∃ z,k z=some r/\∀ lab ρ a w,Rl w0 N lab ρ σ a w->∀ u,RA w w0.heap.size lab ρ x u->
  ∃ t',(convert src dst u).run P w = .ok t' w/\RA w w0.heap.size lab ρ z t':=by
 unfold kW at h
 split at h
 ·rename_i kk n
  split at h
  ·rename_i d1 kd hs hd
   refine⟨_,h,fun lab ρ a w _ u hu=>?_⟩
   obtain rfl:=hu.2.gk
   exact⟨_,by simp[convert,run_underlying hs,run_underlying hd,Conv.intToInt],rfl,.int _ _ _⟩
  ·cases h
 ·rename_i y _
  have key:∃ z,(∀ lab ρ a w,Rl w0 N lab ρ σ a w->∀ u,cg w w0.heap.size lab ρ y u->∃ q,RV w w0.heap.size lab q z u)/\rS P src dst z k=some r:=by
   cases y with
   | v z=>exact⟨z,fun lab ρ a w _ u hu=>⟨[],hu.2⟩,h⟩
   | dead=>cases h
   | own q=>
    obtain⟨z,hz,h⟩:=oq q _ h
    refine⟨z,fun lab ρ a w hR u hu=>?_,h⟩
    obtain⟨v,hv,hr⟩:=hz.ok hR.root
    have h3:=hu.2
    rw[hv]at h3
    injection h3 with h3
    subst h3
    exact⟨q,hr⟩
  obtain⟨z,hz,h2⟩:=key
  clear h
  unfold rS at h2
  split at h2
  ·rename_i o qn l
   cases ht:ud P src dst with
   | false=>rw[ht]at h2;cases h2
   | true=>
    rw[ht,cond_true]at h2
    obtain⟨e,e1,e2,e3⟩:=Qk ht
    refine⟨_,h2,fun lab ρ a w hR u hu=>?_⟩
    obtain⟨q,hr⟩:=hz lab ρ a w hR u hu
    exact⟨_,hr.toStr e1 e2 e3,rfl,.str _ _⟩
  ·cases ht:ud P src dst with
   | false=>rw[ht]at h2;cases h2
   | true=>
    rw[ht,cond_true]at h2
    obtain⟨e,e1,e2,e3⟩:=Qk ht
    refine⟨_,h2,fun lab ρ a w hR u hu=>?_⟩
    obtain⟨q,hr⟩:=hz lab ρ a w hR u hu
    cases hr
    exact⟨_,by rw[run_convert_bytes_nil w src e e1 e3 0 0 dst e2];rfl,rfl,.str _ _⟩
  ·cases h2
 ·cases h
theorem ack{s:TypeId}{x:A}{f:Nat}{k:A->Option X}(h:rQ P s x f k=some r):∃ z,k z=some r/\∀ (w:World) (B:Nat) (lab:aQ) (ρ:Nat->Loc) (u:Value),RA w B lab ρ x u->
  ∃ t',(Instr.field s u f).run P w = .ok t' w/\RA w B lab ρ z t':=by
 unfold rQ at h
 split at h
 ·rename_i fd cs lK
  have gB:∃ fs,P.underlying s=some (.struct fs)/\fs[f]?=some fd:=by
   unfold A6 at lK
   split at lK
   ·rename_i fs hu;exact⟨fs,hu,lK⟩
   ·cases lK
  obtain⟨fs,dN,kX⟩:=gB
  split at h
  ·rename_i n hn iK
   split at h
   ·rename_i hle
    refine⟨_,h,fun w B lab ρ u hu=>?_⟩
    obtain⟨us,rfl,hR⟩:=hu
    have rD:(isAgg fd.type).run P w = .ok true w:=by
     unfold yB at iK
     split at iK
     ·rename_i fs' hu;unfold isAgg;rw[Sem.run_bind,run_underlying hu w];rfl
     ·rename_i c e hu;unfold isAgg;rw[Sem.run_bind,run_underlying hu w];rfl
     ·cases iK
     ·cases iK
    unfold ia at hn
    cases hi:P.info? fd.type with
    | none=>simp[hi]at hn
    | some i=>
     have vE:i.size=n:=by simpa [hi]using hn
     refine⟨.agg (us.extract fd.offset (fd.offset+n)),by simp[Instr.field,run_underlying dN,kX,asAgg,part,Sem.run_bind,rD,sizeOf,typeInfo,hi,vE],_,rfl,?_,fun j y hy=>?_⟩
     ·have:=hR.1
      simp
      omega
     ·obtain⟨hj,dH⟩:=EW _ _ _ _ _ hy
      obtain⟨v,hv,hr⟩:=hR.2 _ y dH
      refine⟨v,?_,hr⟩
      rw[Array.getElem?_extract]
      have:=hR.1
      rw[if_pos (by omega)]
      exact hv
   ·cases h
  ·rename_i n hn iK
   split at h
   ·rename_i y hy
    refine⟨_,h,fun w B lab ρ u hu=>?_⟩
    obtain⟨us,rfl,hR⟩:=hu
    obtain⟨v,hv,hr⟩:=hR.2 _ y hy
    have rD:(isAgg fd.type).run P w = .ok false w:=by
     unfold yB at iK
     split at iK
     ·cases iK
     ·cases iK
     ·rename_i d hs ha hu
      unfold isAgg
      rw[Sem.run_bind,run_underlying hu w]
      cases d <;>first | rfl | (rename_i x;exact absurd rfl (hs x)) | (rename_i x y;exact absurd rfl (ha x y)) | simp_all
     ·cases iK
    exact⟨v,by simp[Instr.field,run_underlying dN,kX,asAgg,part,Sem.run_bind,rD,hv],hr⟩
   ·cases h
  ·cases h
 ·cases h
theorem arR{c x y:Operand}{k:S->Option X}(ho:o.op = .pick c x y)(h:Qg N σ o.dst (ak σ c) (ak σ x) (ak σ y) k=some r):∃ af,k af=some r/\iJ P w0 N o σ af:=by
 unfold Qg at h
 split at h
 ·rename_i b hb
  cases b with
  | true=>
   refine iJ.val h fun lab ρ a w hR=>⟨a.eval x,?_,hR.ak x⟩
   have hc:=hR.ak c
   rw[hb]at hc
   have:=hc.2.qh
   simp[execOp,ho,this,asBool]
  | false=>
   refine iJ.val h fun lab ρ a w hR=>⟨a.eval y,?_,hR.ak y⟩
   have hc:=hR.ak c
   rw[hb]at hc
   have:=hc.2.qh
   simp[execOp,ho,this,asBool]
 ·cases h
end
end Go.Proofs.YtmffpkippmkjbaaGreatDoor
namespace Go.Proofs.YtmffpkippmkjbaaGreatDoor
open Go.RowKit
set_option linter.unusedVariables false
def V.val:V->Value
 | .int k n=>.int k n
 | .bool b=>.bool b
 | .str s=>.string s
 | _=>undef
def E8:TypeDesc->V->V->Option Bool
 | .int _,.int k a,.int k' b=>if k=k' then some (a==b)else none
 | .bool,.bool a,.bool b=>some (a==b)
 | .string,.str a,.str b=>some (a.toList==b.toList)
 | _,_,_=>none
def Bg(P:Program)(g:TypeId->List V->List V->Option Bool)(xs ys:List V):List Field->Option Bool
 | []=>some true
 | f :: fs=>bif f.name == "_" then Bg P g xs ys fs else (match ia P f.type with
  | some n=>bif Nat.ble (f.offset+n) xs.length then (match g f.type ((xs.drop f.offset).take n) ((ys.drop f.offset).take n),Bg P g xs ys fs with
   | some a,some b=>some (a&&b)
   | _,_=>none)else none
  | none=>none)
def ue(P:Program):Nat->TypeId->List V->List V->Option Bool
 | 0,_,_,_=>none
 | n+1,t,xs,ys=>match P.underlying t with
  | some (.struct fs)=>bif P.stoodInHeld t || !Nat.beq xs.length ys.length then none else Bg P (ue P n) xs ys fs.toList
  | some d=>(match xs,ys with
   | [x],[y]=>E8 d x y
   | _,_=>none)
  | none=>none
def E9:BinOp->Option Bool
 | .eql=>some false
 | .neq=>some true
 | _=>none
def rU{α:Type}:List α->Bool
 | []=>true
 | _=>false
def isStr(P:Program)(t:TypeId):Bool:=match P.underlying t with
 | some (.struct _)=>true
 | _=>false
def iY{X:Type}(P:Program)(σ:S)(op:BinOp)(t:TypeId)(x y:A)(k:A->Option X):Option X:=
 match E9 op,x,y with
 | some ng,.agg cs,.agg ds=>(match rE cs,rE ds with
  | some xs,some ys=>bif P.eqGuardType P.depth t || !isStr P t then none else (match ue P 20 t xs ys with
   | some b=>k (.lf (.v (.bool (bif ng then !b else b))))
   | none=>none)
  | _,_=>none)
 | some ng,.lf l,.lf (.v .nil)=>(match ou P t with
  | some _=>fE σ l fun z=>(match z with
   | .nil=>k (.lf (.v (.bool (bif ng then false else true))))
   | .sl _ _ true _=>k (.lf (.v (.bool (bif ng then true else false))))
   | .sl _ _ false l=>bif rU l then none else k (.lf (.v (.bool (bif ng then true else false))))
   | _=>none)
  | none=>none)
 | _,_,_=>vK x fun a=>vK y fun b=>jE P t op a b fun z=>k (.lf (.v z))
section
variable {P:Program} {w w':World} {w0:Wd} {B N:Nat} {lab aj:aQ} {ρ ρ':Nat->Loc} {σ:S} {a:Act} {X:Type} {d:Nat} {r:X} {o:Oper}
theorem acm{ds:TypeDesc}{x y:V}{b:Bool}{t:TypeId}{n:Nat}(ht:P.underlying t=some ds)(h:E8 ds x y=some b):(Op.equalIn (n+1) t x.val y.val).run P w = .ok b w:=by
 unfold E8 at h
 split at h
 ·split at h
  ·rename_i k' _ a k b' hk
   subst hk
   injection h with h
   subst h
   exact run_equalIn_int w n t _ _ _ _ ht
  ·cases h
 ·injection h with h
  subst h
  exact run_equalIn_bool' w n t _ _ ht
 ·injection h with h
  subst h
  exact run_equalIn_string w n t _ _ ht
 ·cases h
def o3(P:Program)(t:TypeId)(xs:List V)(u:Value):Prop:=
 match P.underlying t with
 | some (.struct _)=>u = .agg (xs.map V.val).toArray
 | _=>∃ x,xs=[x]/\u=x.val
theorem Ql{t:TypeId}{n off:Nat}{xs:List V}(hn:ia P t=some n)(hle:off+n<=xs.length)(hu:∃ d,P.underlying t=some d/\(∀ c e,d ≠ .array c e)/\((∀ fs,d ≠ .struct fs)->n=1)):
  ∃ u,(part t (xs.map V.val).toArray off).run P w = .ok u w/\o3 P t ((xs.drop off).take n) u:=by
 obtain⟨d,hd,ha,h1⟩:=hu
 unfold ia at hn
 cases hi:P.info? t with
 | none=>simp[hi]at hn
 | some i=>
  have vE:i.size=n:=by simpa [hi]using hn
  by_cases hs:∃ fs,d = .struct fs
  ·obtain⟨fs,rfl⟩:=hs
   have rD:(isAgg t).run P w = .ok true w:=by
    unfold isAgg;rw[Sem.run_bind,run_underlying hd w];rfl
   refine⟨.agg ((xs.map V.val).toArray.extract off (off+n)),by simp[part,Sem.run_bind,rD,sizeOf,typeInfo,hi,vE],?_⟩
   unfold o3
   rw[hd]
   simp only
   congr 1
   apply Array.ext'
   simp[List.map_drop,List.map_take]
  ·have rD:(isAgg t).run P w = .ok false w:=by
    unfold isAgg
    rw[Sem.run_bind,run_underlying hd w]
    cases d <;>first | rfl | (exfalso;exact hs ⟨_,rfl⟩) | (exfalso;exact ha _ _ rfl)
   have uf:n=1:=h1 fun fs e=>hs ⟨fs,e⟩
   subst uf
   have bU:off<xs.length:=by omega
   have gI:(xs.map V.val).toArray[off]?=some (xs[off]).val:=by simp[bU]
   refine⟨(xs[off]).val,by simp[part,Sem.run_bind,rD,gI],?_⟩
   have e1:(xs.drop off).take 1=[xs[off]]:=by
    rw[List.drop_eq_getElem_cons bU];rfl
   unfold o3
   rw[hd]
   split
   ·rename_i fs e;injection e with e;exact absurd ⟨fs,e⟩ hs
   ·exact⟨_,e1,rfl⟩
theorem acn{n:Nat}{t:TypeId}{xs ys:List V}{b:Bool}(h:ue P n t xs ys=some b):∃ d,P.underlying t=some d/\(∀ c e,d ≠ .array c e)/\((∀ fs,d ≠ .struct fs)->xs.length=1):=by
 cases n with
 | zero=>cases h
 | succ n=>
  unfold ue at h
  split at h
  ·rename_i fs kX
   exact⟨_,kX,(fun c e h=>by cases h),fun h=>absurd rfl (h fs)⟩
  ·rename_i d oW hd
   split at h
   ·rename_i x y
    exact⟨d,hd,(fun c e he=>by subst he;simp[E8]at h),fun _=>rfl⟩
   ·cases h
  ·cases h
theorem Kw{n:Nat}{xs ys:List V}(hlen:xs.length=ys.length)(IH:∀ t xs ys b,ue P n t xs ys=some b->∀ u v,o3 P t xs u->o3 P t ys v->∀ k,(Op.equalIn (k+n) t u v).run P w = .ok b w)(k:Nat):∀ (fs:List Field) (b:Bool),Bg P (ue P n) xs ys fs=some b->
  (Op.eqFields (k+n) (xs.map V.val).toArray (ys.map V.val).toArray fs).run P w = .ok b w
 | [],b,h=>by
  injection h with h
  subst h
  simp[Op.eqFields]
 | f :: fs,b,h=>by
  unfold Bg at h
  cases di:f.name == "_" with
  | true=>
   rw[di,cond_true]at h
   have:f.name = "_":=by simpa using di
   simp only[Op.eqFields,this,ne_eq,not_true,if_false]
   exact Kw hlen IH k fs b h
  | false=>
   rw[di,cond_false]at h
   have aK:f.name ≠ "_":=by simpa using di
   split at h
   ·rename_i s hs
    cases hle:Nat.ble (f.offset+s) xs.length with
    | false=>rw[hle]at h;cases h
    | true=>
     rw[hle,cond_true]at h
     have hle:=Nat.le_of_ble_eq_true hle
     split at h
     ·rename_i c e h1 h2
      injection h with h
      subst h
      obtain⟨d1,vO,Qm,yG⟩:=acn h1
      have rK:((xs.drop f.offset).take s).length=s:=by simp;omega
      obtain⟨u,Fa,nJ⟩:=Ql (w:=w) hs hle ⟨d1,vO,Qm,fun h=>rK.symm.trans (yG h)⟩
      obtain⟨v,qp,rV⟩:=Ql (w:=w) (xs:=ys) (off:=f.offset) hs (by omega) ⟨d1,vO,Qm,fun h=>rK.symm.trans (yG h)⟩
      have hr:=IH _ _ _ c h1 u v nJ rV k
      have gL:=Kw hlen IH k fs e h2
      simp only[Op.eqFields,aK,ne_eq,not_false_eq_true,if_true,Sem.run_bind,Fa,qp,hr,Result.andThen_ok]
      cases c
      ·simp
      ·simpa using gL
     ·cases h
   ·cases h
theorem Qn:∀ (n:Nat) (t:TypeId) (xs ys:List V) (b:Bool),ue P n t xs ys=some b->∀ u v,o3 P t xs u->o3 P t ys v->∀ k,(Op.equalIn (k+n) t u v).run P w = .ok b w
 | 0,t,xs,ys,b,h=>by cases h
 | n+1,t,xs,ys,b,h=>by
  intro u v hu hv k
  unfold ue at h
  split at h
  ·rename_i fs kX
   cases hc:(P.stoodInHeld t || !Nat.beq xs.length ys.length)with
   | true=>rw[hc]at h;cases h
   | false=>
    rw[hc,cond_false]at h
    rw[Bool.or_eq_false_iff,Bool.not_eq_false']at hc
    have hlen:=Nat.eq_of_beq_eq_true hc.2
    unfold o3 at hu hv
    rw[kX]at hu hv
    simp only at hu hv
    subst hu hv
    have hf:P.fieldsOf t=fs:=by simp[Program.fieldsOf,kX]
    rw[<-Nat.add_assoc,run_equalIn_struct w (k+n) t _ _ (by rw[hf];exact kX) hc.1,hf]
    exact Kw hlen (Qn n) k fs.toList b h
  ·rename_i d oW hd
   split at h
   ·rename_i x y
    unfold o3 at hu hv
    rw[hd]at hu hv
    split at hu
    ·rename_i fs e;injection e with e;exact absurd e (oW fs)
    ·split at hv
     ·rename_i fs e;injection e with e;exact absurd e (oW fs)
     ·obtain⟨x',e1,rfl⟩:=hu
      obtain⟨y',e2,rfl⟩:=hv
      injection e1 with e1
      injection e2 with e2
      subst e1 e2
      exact acm hd h
   ·cases h
  ·cases h
theorem Qo{cs:List Lf}{xs:List V}(h:rE cs=some xs){u:Value}(hu:RA w B lab ρ (.agg cs) u):u = .agg (xs.map V.val).toArray:=by
 obtain⟨e,hp⟩:=J8 _ _ h
 obtain⟨us,rfl,hs,hr⟩:=hu
 congr 1
 apply Array.ext'
 apply List.ext_getElem?
 intro j
 rw[List.toList_toArray,List.getElem?_map,Array.getElem?_toList]
 cases hx:xs[j]? with
 | none=>
  rw[Option.map_none]
  refine Array.getElem?_eq_none ?_
  rw[hs,e,List.length_map]
  exact List.getElem?_eq_none_iff.1 hx
 | some x=>
  obtain⟨v,hv,yH⟩:=hr j (.v x) (by rw[e,List.getElem?_map,hx];rfl)
  rw[hv,Option.map_some]
  congr 1
  have:=hp x (List.mem_of_getElem? hx)
  have h2:=yH.2
  cases h2 <;>first | rfl | cases this
theorem yI{op:BinOp}{ng:Bool}(eg:E9 op=some ng){t e:TypeId}(ht:P.underlying t=some (.slice e))(xo yo:Operand)(A:Option Addr)(n c:Nat):
  (do eqGuard op t xo yo (.slice A n c) (.slice none 0 0);binOp op t (.slice A n c) (.slice none 0 0):Sem Value).run P w = .ok (.bool (bif ng then !A.isNone else A.isNone)) w:=by
 have he:(Op.equal t (.slice A n c) (.slice none 0 0)).run P w = .ok A.isNone w:=by
  have h:∀ d,(Op.equalIn (d+1) t (.slice A n c) (.slice none 0 0)).run P w = .ok A.isNone w:=by
   intro d
   cases A <;>simp[Op.equalIn,run_underlying ht]
  exact h 9999
 cases op <;>simp[E9]at eg <;>subst eg <;>simp[eqGuard,binOp,he]
theorem aco{op:BinOp}{t:TypeId}{x y:A}{k:A->Option X}(h:iY P σ op t x y k=some r):∃ z,k z=some r/\∀ lab ρ a w,Rl w0 N lab ρ σ a w->∀ xo yo u v,RA w w0.heap.size lab ρ x u->RA w w0.heap.size lab ρ y v->
  ∃ t',(do eqGuard op t xo yo u v;binOp op t u v:Sem Value).run P w = .ok t' w/\RA w w0.heap.size lab ρ z t':=by
 unfold iY at h
 split at h
 ·rename_i ng cs ds eg
  split at h
  ·rename_i xs ys eS iV
   cases hg:(P.eqGuardType P.depth t || !isStr P t)with
   | true=>rw[hg]at h;cases h
   | false=>
    rw[hg,cond_false]at h
    rw[Bool.or_eq_false_iff,Bool.not_eq_false']at hg
    obtain⟨hg,gB⟩:=hg
    split at h
    ·rename_i b hb
     refine⟨_,h,fun lab ρ a w hR xo yo u v hu hv=>?_⟩
     have hu:=Qo eS hu
     have hv:=Qo iV hv
     subst hu hv
     have hs:∃ fs,P.underlying t=some (.struct fs):=by
      unfold isStr at gB
      split at gB
      ·rename_i fs kX;exact⟨fs,kX⟩
      ·cases gB
     obtain⟨fs,kX⟩:=hs
     have hr:=Qn (w:=w) 20 t xs ys b hb (.agg (xs.map V.val).toArray) (.agg (ys.map V.val).toArray) (by unfold o3;rw[kX]) (by unfold o3;rw[kX]) 9980
     refine⟨.bool (bif ng then !b else b),?_,rfl,.bool _ _⟩
     rw[Sem.run_bind,run_eqGuard_agg w op t xo yo _ _ hg,Result.andThen_ok]
     cases op <;>simp[E9]at eg <;>subst eg
     ·rw[run_eql_struct,hr];rfl
     ·rw[run_neq_struct,hr];rfl
    ·cases h
  ·cases h
 ·rename_i ng l eg
  split at h
  ·rename_i e he
   have ht:P.underlying t=some (.slice e):=by
    unfold ou at he
    split at he
    ·rename_i e' hu;injection he with he;rw[<-he];exact hu
    ·cases he
   obtain⟨z,hz,h2⟩:=Kq (w0:=w0) (N:=N) h
   clear h
   split at h2
   ·refine⟨_,h2,fun lab ρ a w hR xo yo u v hu hv=>?_⟩
    obtain⟨q,hq⟩:=hz lab ρ a w hR u hu
    cases hq
    cases hv.2
    exact⟨_,yI eg ht xo yo none 0 0,rfl,by cases ng <;>exact .bool _ _⟩
   ·refine⟨_,h2,fun lab ρ a w hR xo yo u v hu hv=>?_⟩
    obtain⟨q,hq⟩:=hz lab ρ a w hR u hu
    cases hv.2
    cases hq with
    | ah _ _ _ _ _ b off cap us ho hl hb h1 hcap hc hr=>exact⟨_,yI eg ht xo yo _ _ _,rfl,by cases ng <;>exact .bool _ _⟩
    | own=>exact⟨_,yI eg ht xo yo _ _ _,rfl,by cases ng <;>exact .bool _ _⟩
    | cy=>exact⟨_,yI eg ht xo yo _ _ _,rfl,by cases ng <;>exact .bool _ _⟩
   ·rename_i t' o' l'
    cases hl:rU l' with
    | true=>rw[hl]at h2;cases h2
    | false=>
     rw[hl,cond_false]at h2
     refine⟨_,h2,fun lab ρ a w hR xo yo u v hu hv=>?_⟩
     obtain⟨q,hq⟩:=hz lab ρ a w hR u hu
     cases hv.2
     cases hq with
     | bO=>cases hl
     | bY=>cases hl
     | ah _ _ _ _ _ b off cap us ho eB hb h1 hcap hc hr=>exact⟨_,yI eg ht xo yo _ _ _,rfl,by cases ng <;>exact .bool _ _⟩
     | own=>exact⟨_,yI eg ht xo yo _ _ _,rfl,by cases ng <;>exact .bool _ _⟩
   ·cases h2
  ·cases h
 ·obtain⟨u0,hx,h1⟩:=EV h
  obtain⟨v0,hy,h2⟩:=EV h1
  obtain⟨z,h3,hp,hs⟩:=abL h2
  subst hx hy
  refine⟨_,h3,fun lab ρ a w hR xo yo u v hu hv=>?_⟩
  obtain⟨t',aL,hr⟩:=hs w _ lab xo yo [] [] _ _ hu.2 hv.2
  exact⟨t',aL,V.A5 hp,hr⟩
/-! Parts of slices that nobody writes. -/
theorem yJ{x:Option A}{o4:Int}{k:Int->Option X}(h:rR x o4 k=some r):∃ n,k n=some r/\(∀ (X':Type) (k':Int->Option X'),rR x o4 k'=k' n)/\((x=none/\n=o4)\/∃ kd,x=some (.lf (.v (.int kd n)))):=by
 unfold rR at h
 split at h
 ·exact⟨_,h,fun _ _=>rfl,.inl ⟨rfl,rfl⟩⟩
 ·exact⟨_,h,fun _ _=>rfl,.inr ⟨_,rfl⟩⟩
 ·cases h
theorem acp{t:TypeId}{x:A}{lo hi:Option A}{k:A->Option X}(h:uc P t x lo hi k=some r):∃ y,k y=some r/\(∀ (X':Type) (k':A->Option X'),uc P t x lo hi k'=k' y)/\
  ((∃ (s:ByteArray) (l h:Int),x = .lf (.v (.str s))/\P.underlying t=some .string/\((lo=none/\l=0)\/∃ kd,lo=some (.lf (.v (.int kd l))))/\((hi=none/\h=s.size)\/∃ kd,hi=some (.lf (.v (.int kd h))))/\0<=l/\l<=h/\h<=(s.size:Int)/\y = .lf (.v (.str (s.extract l.toNat h.toNat))))\/
   ∃ (tc:TC) (g:Nat) (qn:Bool) (xs:List (T tc)) (e:TypeId) (l h:Int),x = .lf (.v (.sl tc g qn xs))/\ou P t=some e/\ia P e=some (aq tc)/\g<2/\((lo=none/\l=0)\/∃ kd,lo=some (.lf (.v (.int kd l))))/\((hi=none/\h=xs.length)\/∃ kd,hi=some (.lf (.v (.int kd h))))/\0<=l/\l<=h/\h<=(xs.length:Int)/\y = .lf (.v (.sl tc g false ((xs.take h.toNat).drop l.toNat)))):=by
 unfold uc at h
 split at h
 ·rename_i s
  split at h
  ·rename_i hu
   obtain⟨l,h1,d1,e1⟩:=yJ h
   obtain⟨m,h2,d2,e2⟩:=yJ h1
   split at h2
   ·rename_i hb
    refine⟨_,h2,fun X' k'=>?_,.inl ⟨s,l,m,rfl,hu,e1,e2,hb.1,hb.2.1,hb.2.2,rfl⟩⟩
    simp only[uc,hu]
    rw[d1,d2,if_pos hb]
   ·cases h2
  ·cases h
 ·rename_i tc g qn xs
  split at h
  ·rename_i e he
   split at h
   ·rename_i n hn
    split at h
    ·rename_i jy
     subst jy
     cases hg:Nat.blt g 2 with
     | false=>rw[hg]at h;cases h
     | true=>
      rw[hg,cond_true]at h
      obtain⟨l,h1,d1,e1⟩:=yJ h
      obtain⟨m,h2,d2,e2⟩:=yJ h1
      split at h2
      ·rename_i hb
       refine⟨_,h2,fun X' k'=>?_,.inr ⟨tc,g,qn,xs,e,l,m,rfl,he,hn,Nat.le_of_ble_eq_true hg,e1,e2,hb.1,hb.2.1,hb.2.2,rfl⟩⟩
       simp only[uc,he,hn,if_true,hg,cond_true]
       rw[d1,d2,if_pos hb]
      ·cases h2
    ·cases h
   ·cases h
  ·cases h
 ·cases h
theorem Qp{t:TypeId}{x:A}{lo hi:Option A}{k:A->Option X}(h:uc P t x lo hi k=some r):∃ y,k y=some r/\(∀ (X':Type) (k':A->Option X'),uc P t x lo hi k'=k' y)/\
  ∀ (w:World) (B:Nat) (lab:aQ) (ρ:Nat->Loc) (u:Value) (lv hv:Option Value),RA w B lab ρ x u->(∀ a,lo=some a->∃ v,lv=some v/\RA w B lab ρ a v)->(lo=none->lv=none)->(∀ a,hi=some a->∃ v,hv=some v/\RA w B lab ρ a v)->(hi=none->hv=none)->
   ∃ t',(Instr.sliceAt t u lv hv none).run P w = .ok t' w/\RA w B lab ρ y t':=by
 obtain⟨y,h1,hd,hc⟩:=acp h
 refine⟨y,h1,hd,fun w B lab ρ u lv hv hu rK fY Fb yK=>?_⟩
 have bl:∀ {o:Option A} {ov:Option Value} {n o4:Int},(∀ a,o=some a->∃ v,ov=some v/\RA w B lab ρ a v)->(o=none->ov=none)->((o=none/\n=o4)\/∃ kd,o=some (.lf (.v (.int kd n))))->(ov=none/\n=o4)\/∃ kd,ov=some (.int kd n):=by
  intro o ov n o4 g1 g2 g3
  rcases g3 with ⟨e,e'⟩ | ⟨kd,e⟩
  ·exact .inl ⟨g2 e,e'⟩
  ·obtain⟨v,hv,hr⟩:=g1 _ e
   exact .inr ⟨kd,by rw[hv,hr.2.gk]⟩
 rcases hc with ⟨s,l,m,rfl,dX,e1,e2,b1,b2,b3,rfl⟩ | ⟨tc,g,qn,xs,e,l,m,rfl,he,hn,hg,e1,e2,b1,b2,b3,rfl⟩
 ·have h5:=bl rK fY e1
  have h6:=bl Fb yK e2
  obtain rfl:=hu.2.nE
  have em:(m.toNat:Int)=m:=Int.toNat_of_nonneg (by omega)
  refine⟨.string (s.extract l.toNat m.toNat),?_,rfl,.str _ _⟩
  rw[run_sliceAt_string w t _ _ _ _ dX]
  have hb0:0<=m:=by omega
  rcases h5 with ⟨rfl,h7⟩ | ⟨kl,rfl⟩ <;>rcases h6 with ⟨rfl,h8⟩ | ⟨kh,rfl⟩
  all_goals simp_all [Instr.slice,run_underlying dX,Instr.sliceBounds,run_sliceBound]
 ·have h5:=bl rK fY e1
  have h6:=bl Fb yK e2
  have dX:P.underlying t=some (.slice e):=by
   unfold ou at he
   split at he
   ·rename_i e' iW;injection he with he;rw[<-he];exact iW
   ·cases he
  have ku:P.elem t=e:=by simp[Program.elem,dX]
  have o5:P.underlying t=some (.slice (P.elem t)):=by rw[ku];exact dX
  have rW:(sizeOf (P.elem t)).run P w = .ok (aq tc) w:=by
   unfold ia at hn
   cases hi:P.info? e with
   | none=>simp[hi]at hn
   | some i=>
    have:i.size=aq tc:=by simpa [hi]using hn
    simp[sizeOf,typeInfo,ku,hi,this]
  have dN:∃ A n c,u = .slice A n c:=by
   cases hu.2 with
   | bO=>exact⟨_,_,_,rfl⟩
   | bY=>exact⟨_,_,_,rfl⟩
   | cy=>exact⟨_,_,_,rfl⟩
   | ah=>exact⟨_,_,_,rfl⟩
   | own=>exact⟨_,_,_,rfl⟩
  obtain⟨A,n,c,rfl⟩:=dN
  obtain⟨hp,uf,Qq⟩:=hu.2.part (a:=l.toNat) (h:=m.toNat) hg (by omega) (by omega)
  refine⟨_,?_,by simp[V.ah,hg],hp⟩
  rw[run_sliceAt_slice w t _ _ _ _ o5]
  rcases h5 with ⟨rfl,rfl⟩ | ⟨kl,rfl⟩ <;>rcases h6 with ⟨rfl,rfl⟩ | ⟨kh,rfl⟩
  ·rw[run_slice_all w t A n c o5,rW,uf]
   simp
  ·rw[run_slice_h w t A n c o5 kh m (by omega) (by omega),rW]
   simp
  ·rw[run_slice_l w t A n c o5 kl l (by omega) (by omega),rW,uf]
   simp
  ·rw[run_slice_lh w t A n c o5 kl kh l m (by omega) (by omega) (by omega),rW]
   simp
/-! Parts of slices that are owned. -/
def Bh{X:Type}(n:Nat)(q:List Nat)(lo hi:Option A)(y:V)(k:A->Option X):Option X:=
 match y with
 | .sl t' _ _ l=>if n=aq t' then rR lo 0 fun a=>rR hi (l.length:Int) fun b=>if 0<=a/\a<=b/\b<=(l.length:Int)then k (.view q n a.toNat b.toNat)else none else none
 | _=>none
def ug{X:Type}(P:Program)(σ:S)(t:TypeId)(q:List Nat)(lo hi:Option A)(k:A->Option X):Option X:=
 match ou P t with
 | some e=>(match ia P e with
  | some n=>eF σ.m q fun y=>Bh n q lo hi y k
  | none=>none)
 | none=>none
def mO{X:Type}(P:Program)(σ:S)(t:TypeId)(x:A)(lo hi:Option A)(k:A->Option X):Option X:=
 match x with
 | .lf (.own q)=>ug P σ t q lo hi k
 | x=>uc P t x lo hi k
theorem Qr{n:Nat}{q:List Nat}{lo hi:Option A}{y:V}{k:A->Option X}(h:Bh n q lo hi y k=some r):∃ (tc:TC) (g:Nat) (qn:Bool) (xs:List (T tc)) (l h:Int),y = .sl tc g qn xs/\n=aq tc/\
  ((lo=none/\l=0)\/∃ kd,lo=some (.lf (.v (.int kd l))))/\((hi=none/\h=xs.length)\/∃ kd,hi=some (.lf (.v (.int kd h))))/\0<=l/\l<=h/\h<=(xs.length:Int)/\k (.view q n l.toNat h.toNat)=some r/\
  ∀ (X':Type) (k':A->Option X'),Bh n q lo hi y k'=k' (.view q n l.toNat h.toNat):=by
 unfold Bh at h
 split at h
 ·rename_i tc g qn xs
  split at h
  ·rename_i jy
   obtain⟨l,h1,d1,e1⟩:=yJ h
   obtain⟨m,h2,d2,e2⟩:=yJ h1
   split at h2
   ·rename_i hb
    refine⟨tc,g,qn,xs,l,m,rfl,jy,e1,e2,hb.1,hb.2.1,hb.2.2,h2,fun X' k'=>?_⟩
    simp only[Bh,if_pos jy]
    rw[d1,d2,if_pos hb]
   ·cases h2
  ·cases h
 ·cases h
theorem acq{t:TypeId}{x:A}{lo hi:Option A}{k:A->Option X}(h:mO P σ t x lo hi k=some r):∃ y,k y=some r/\
  ∀ lab ρ a w,Rl w0 N lab ρ σ a w->∀ (u:Value) (lv hv:Option Value),RA w w0.heap.size lab ρ x u->(∀ a,lo=some a->∃ v,lv=some v/\RA w w0.heap.size lab ρ a v)->(lo=none->lv=none)->(∀ a,hi=some a->∃ v,hv=some v/\RA w w0.heap.size lab ρ a v)->(hi=none->hv=none)->
   ∃ t',(Instr.sliceAt t u lv hv none).run P w = .ok t' w/\RA w w0.heap.size lab ρ y t':=by
 unfold mO at h
 split at h
 ·rename_i q
  unfold ug at h
  split at h
  ·rename_i e he
   split at h
   ·rename_i n hn
    obtain⟨y0,hy0,h2⟩:=oq q _ h
    obtain⟨tc,g,qn,xs,l,m,rfl,jy,e1,e2,b1,b2,b3,h3,_⟩:=Qr h2
    refine⟨_,h3,fun lab ρ a w hR u lv hv hu rK fY Fb yK=>?_⟩
    have bl:∀ {o:Option A} {ov:Option Value} {n o4:Int},(∀ a,o=some a->∃ v,ov=some v/\RA w w0.heap.size lab ρ a v)->(o=none->ov=none)->((o=none/\n=o4)\/∃ kd,o=some (.lf (.v (.int kd n))))->(ov=none/\n=o4)\/∃ kd,ov=some (.int kd n):=by
     intro o ov n o4 g1 g2 g3
     rcases g3 with ⟨e,e'⟩ | ⟨kd,e⟩
     ·exact .inl ⟨g2 e,e'⟩
     ·obtain⟨v,hv,hr⟩:=g1 _ e
      exact .inr ⟨kd,by rw[hv,hr.2.gk]⟩
    have h5:=bl rK fY e1
    have h6:=bl Fb yK e2
    have dX:P.underlying t=some (.slice e):=by
     unfold ou at he
     split at he
     ·rename_i e' iW;injection he with he;rw[<-he];exact iW
     ·cases he
    have ku:P.elem t=e:=by simp[Program.elem,dX]
    have o5:P.underlying t=some (.slice (P.elem t)):=by rw[ku];exact dX
    have rW:(sizeOf (P.elem t)).run P w = .ok n w:=by
     unfold ia at hn
     cases hi:P.info? e with
     | none=>simp[hi]at hn
     | some i=>
      have:i.size=n:=by simpa [hi]using hn
      simp[sizeOf,typeInfo,ku,hi,this]
    obtain⟨v0,o6,bL⟩:=hy0.ok hR.root
    have qq:=hu.2
    rw[o6]at qq
    injection qq with qq
    subst qq
    have hf:RV w 0 (fun _=>none) [] (.sl tc 0 qn xs) v0:=bL.gz
    have dN:∃ A n c,v0 = .slice A n c:=by
     cases hf with
     | bO=>exact⟨_,_,_,rfl⟩
     | bY=>exact⟨_,_,_,rfl⟩
     | cy=>exact⟨_,_,_,rfl⟩
     | ah=>exact⟨_,_,_,rfl⟩
    obtain⟨A,n',c,rfl⟩:=dN
    obtain⟨hp,uf,Qq⟩:=hf.part (a:=l.toNat) (h:=m.toNat) (by omega) (by omega) (by omega)
    refine⟨sliced A l.toNat m.toNat c n,?_,A,n',c,o6,by omega,by omega,rfl⟩
    rw[run_sliceAt_slice w t _ _ _ _ o5]
    rcases h5 with ⟨rfl,rfl⟩ | ⟨kl,rfl⟩ <;>rcases h6 with ⟨rfl,rfl⟩ | ⟨kh,rfl⟩
    ·rw[run_slice_all w t A n' c o5,rW,uf]
     simp
    ·rw[run_slice_h w t A n' c o5 kh m (by omega) (by omega),rW]
     simp
    ·rw[run_slice_l w t A n' c o5 kl l (by omega) (by omega),rW,uf]
     simp
    ·rw[run_slice_lh w t A n' c o5 kl kh l m (by omega) (by omega) (by omega),rW]
     simp
   ·cases h
  ·cases h
 ·obtain⟨y,h1,_,hs⟩:=Qp h
  exact⟨y,h1,fun lab ρ a w _ u lv hv=>hs w _ lab ρ u lv hv⟩
end
end Go.Proofs.YtmffpkippmkjbaaGreatDoor
namespace Go.Proofs.YtmffpkippmkjbaaGreatDoor
open Go.RowKit
set_option linter.unusedVariables false
abbrev Pt:=Bool×List V
def PV(w:World)(B:Nat)(lab:aQ)(key:Nat->List Nat)(p:Pt)(u:Value):Prop:=
 ∃ us:Array Value,(match p.1 with | true=>u = .agg us | false=>us = #[u])/\us.size=p.2.length/\∀ (j:Nat) x,p.2[j]?=some x->∃ v,us[j]?=some v/\RV w B lab (key j) x v
def uh(w:World)(cs:List V)(u:Value):Prop:=
 ∃ b off,u = .pointer (some ⟨b,off,none⟩)/\b<w.heap.size/\∀ (j:Nat) x,cs[j]?=some x->∃ v,w.cell? ⟨b,off+j,none⟩=some v/\RV w w.heap.size (fun _=>none) [] x v
inductive PA (w:World):Pt->Value->Prop
 | v (p:Pt) (u:Value) (h:PV w w.heap.size (fun _=>none) (fun _=>[]) p u):PA w p u
 | p (c:V) (cs:List V) (u:Value) (h:uh w (c :: cs) u):PA w (false,.bool true :: c :: cs) u
 | f (g:Nat) (c:V) (cs:List V) (u:Value) (h:uh w (c :: cs) u):PA w (false,.bool false :: .int .i64 (g:Int) :: c :: cs) (.func (.func g) #[] #[u])
def nK(w:World)(args:List Pt)(aT:Array Value):Prop:=
 aT.size=args.length/\∀ (i:Nat) p,args[i]?=some p->∃ u,aT[i]?=some u/\PA w p u
theorem PA.pv{w:World}{x:V}{u:Value}(h:PA w (false,[x]) u):PV w w.heap.size (fun _=>none) (fun _=>[]) (false,[x]) u:=by
 cases h with
 | v _ _ h=>exact h
theorem PA.Qs{w:World}{xs:List V}{u:Value}(h:PA w (true,xs) u):PV w w.heap.size (fun _=>none) (fun _=>[]) (true,xs) u:=by
 cases h with
 | v _ _ h=>exact h
inductive eM where
 | one (p:Pt)
 | bJ (ps:List Pt)
def uj(t:TC):Nat->Bool
 | 0=>false
 | 1=>true
 | o+2=>Nat.ble (full t) o || Nat.beq (o % 2) 1
def V.loc:V->Bool
 | .sl t o _ _=>uj t o
 | _=>true
def gM(w:World)(B:Nat)(lab:aQ)(nm:Nat->Nat):Nat->List Pt->List Value->Prop
 | _,[],[]=>True
 | off,p :: ps,v :: vs=>(p.2.all V.loc=true/\PV w B lab (fun j=>[nm (off+j)]) p v)/\gM w B lab nm (off+p.2.length) ps vs
 | _,_,_=>False
def mP(w:World)(B:Nat)(lab:aQ)(nm:Nat->Nat):eM->Value->Prop
 | .one p,v=>gM w B lab nm 0 [p] [v]
 | .bJ ps,v=>∃ vs:Array Value,v = .tuple vs/\gM w B lab nm 0 ps vs.toList
structure aI where
 run:(X:Type)->List Pt->(eM->Option X)->Option X
def aG(P:Program)(f:Nat)(c:aI):Prop:=
 ∀ (X:Type) (args:List Pt) (k:eM->Option X) (r:X),c.run X args k=some r->∃ res,k res=some r/\(∀ (X':Type) (k':eM->Option X'),c.run X' args k'=k' res)/\∀ (nm:Nat->Nat) (w:World) (aT:Array Value),nK w args aT->Hd w (fun _=>none)->
  Calls P f aT w fun e w'=>∃ v aj,e = .returned v/\Below w.heap.size w w'/\(∀ b k,aj b=some k->w.heap.size<=b/\b<w'.heap.size/\k≠[])/\mP w' w.heap.size aj nm res v
def kz{X:Type}(σ:S):List Lf->(List V->Option X)->Option X
 | [],k=>k []
 | x :: xs,k=>fE σ x fun y=>kz σ xs fun ys=>k (y.gz :: ys)
def jH{X:Type}(σ:S)(x:A)(k:Pt->Option X):Option X:=
 match x with
 | .lf y=>kz σ [y] fun vs=>k (false,vs)
 | .agg ys=>kz σ ys fun vs=>k (true,vs)
 | .view q s i j=>ot σ q s i j fun y=>k (false,[y])
 | .fL (c :: cs)=>k (false,.bool true :: c.gz :: cs.map V.gz)
 | _=>none
def rX{X:Type}(σ:S)(x:A)(k:Pt->Option X):Option X:=
 match x with
 | .fL (c :: cs)=>k (false,.bool true :: c.gz :: cs.map V.gz)
 | .jD f (c :: cs)=>k (false,.bool false :: .int .i64 (f:Int) :: c.gz :: cs.map V.gz)
 | .az r j=>(match σ.m r with
  | some (.blk cs)=>kz σ (cs.drop j) fun vs=>(match vs with
   | c :: cs=>k (false,.bool true :: c :: cs)
   | []=>none)
  | _=>none)
 | .fn f [(r,j)]=>(match σ.m r with
  | some (.blk cs)=>kz σ (cs.drop j) fun vs=>(match vs with
   | c :: cs=>k (false,.bool false :: .int .i64 (f:Int) :: c :: cs)
   | []=>none)
  | _=>none)
 | x=>jH σ x k
def uk{X:Type}(σ:S):List Operand->(List Pt->Option X)->Option X
 | [],k=>k []
 | x :: xs,k=>rX σ (ak σ x) fun p=>uk σ xs fun ps=>k (p :: ps)
def gT{X:Type}(σ:S):List Operand->(List Pt->Option X)->Option X
 | [],k=>k []
 | x :: xs,k=>jH σ (ak σ x) fun p=>gT σ xs fun ps=>k (p :: ps)
def ig(c:Nat):List V->List Lf
 | []=>[]
 | x :: xs=>(bif x.ah then .v x else .own [c]) :: ig (c+1) xs
def eV(c:Nat)(σ:S):List V->S
 | []=>σ
 | x :: xs=>eV (c+1) (bif x.ah then σ else (σ.drop c).root c (.sl x)) xs
def iZ(c:Nat):List Pt->List (Bool×List Lf)
 | []=>[]
 | p :: ps=>(p.1,ig c p.2) :: iZ (c+p.2.length) ps
def gC(c:Nat)(σ:S):List Pt->S
 | []=>σ
 | p :: ps=>gC (c+p.2.length) (eV c σ p.2) ps
def um{X:Type}(N:Nat)(σ:S)(d:Nat)(c:aI)(args:List Operand)(k:S->Option X):Option X:=
 bif Nat.blt d N then uk σ args fun ps=>c.run X ps fun res=>(match res with
  | .one p=>(match ox (p.1,ig (1000000000100000+1000*d) p.2)with
   | some y=>k ((eV (1000000000100000+1000*d) σ p.2).set d y)
   | none=>none)
  | .bJ ps=>k ((gC (1000000000100000+1000*d) σ ps).set d (.bJ (iZ (1000000000100000+1000*d) ps))))else none
def rY{X:Type}(N:Nat)(σ:S)(d:Nat)(c:aI)(args:List Operand)(k:S->Option X):Option X:=
 bif Nat.blt d N then gT σ args fun ps=>c.run X ps fun res=>(match res with
  | .one p=>(match ox (p.1,ig (1000000000100000+1000*d) p.2)with
   | some y=>k ((eV (1000000000100000+1000*d) σ p.2).set d y)
   | none=>none)
  | .bJ ps=>k ((gC (1000000000100000+1000*d) σ ps).set d (.bJ (iZ (1000000000100000+1000*d) ps))))else none
section
variable {P:Program} {w w':World} {w0:Wd} {B N:Nat} {lab aj:aQ} {ρ ρ':Nat->Loc} {σ:S} {a:Act} {X:Type} {d:Nat} {r:X} {o:Oper}
theorem Bi:∀ (xs:List Lf) (k:List V->Option X),kz σ xs k=some r->∃ vs,k vs=some r/\vs.length=xs.length/\∀ lab ρ a w,Rl w0 N lab ρ σ a w->∀ (j:Nat) x y u,xs[j]?=some x->vs[j]?=some y->cg w w0.heap.size lab ρ x u->RV w w.heap.size (fun _=>none) [] y u
 | [],k,h=>⟨[],h,rfl,fun _ _ _ _ _ j x y u hx=>by simp at hx⟩
 | x :: xs,k,h=>by
  unfold kz at h
  obtain⟨y,hy,h2⟩:=Kq (w0:=w0) (N:=N) h
  obtain⟨ys,h3,hl,hr⟩:=Bi xs _ h2
  refine⟨y.gz :: ys,h3,by simp[hl],fun lab ρ a w hR j x' y' u bR dH hu=>?_⟩
  cases j with
  | zero=>
   simp at bR dH
   subst bR dH
   obtain⟨q,hq⟩:=hy lab ρ a w hR u hu
   exact hq.gz
  | succ j=>exact hr lab ρ a w hR j x' y' u (by simpa using bR) (by simpa using dH) hu
theorem Qt{r' j':Nat}{cs:List Lf}{vs:List V}(hm:σ.m r'=some (.blk cs))(hl:vs.length=(cs.drop j').length)
  (hr:∀ lab ρ a w,Rl w0 N lab ρ σ a w->∀ (j:Nat) x y u,(cs.drop j')[j]?=some x->vs[j]?=some y->cg w w0.heap.size lab ρ x u->RV w w.heap.size (fun _=>none) [] y u)
  {lab:aQ} {ρ:Nat->Loc} {a:Act} {w:World} {u:Value} (hR:Rl w0 N lab ρ σ a w) (hu:RA w w0.heap.size lab ρ (.az r' j') u):uh w vs u:=by
 obtain⟨b,off,e1,rfl⟩:=hu
 cases hR.root r' _ hm with
 | blk b' mj cells e _ us av ij hh hs hc=>
  rw[e1]at av
  injection av with q1 q2
  subst q1 q2
  refine⟨b,off+j',rfl,(Array.getElem?_eq_some_iff.1 hh).1,fun j x hx=>?_⟩
  have hj:j<(cs.drop j').length:=by rw[<-hl];exact(List.getElem?_eq_some_iff.1 hx).1
  have Qu:=List.getElem?_eq_getElem hj
  have acr:cs[j'+j]?=some (cs.drop j')[j]:=by rw[<-List.getElem?_drop];exact Qu
  obtain⟨k1,k2⟩:=hc _ _ acr
  refine⟨us (j'+j),?_,hr lab ρ a w hR j _ x _ Qu hx k2⟩
  rw[Nat.add_assoc,cell_of_row w b _ cells _ _ hh]
  exact k1
theorem Kx{cs:List V}{u:Value}(hu:RF w B lab cs u):uh w (cs.map V.gz) u:=by
 obtain⟨b,off,rfl,h1,h2,h3⟩:=hu
 refine⟨b,off,rfl,h1,fun j x hx=>?_⟩
 rw[List.getElem?_map]at hx
 cases hy:cs[j]? with
 | none=>rw[hy]at hx;cases hx
 | some y=>
  rw[hy]at hx
  injection hx with hx
  subst hx
  obtain⟨_,v,h4,h5⟩:=h3 j y hy
  exact⟨v,h4,h5.gz⟩
theorem Qv{x:A}{k:Pt->Option X}(h:jH σ x k=some r):∃ p,k p=some r/\∀ lab ρ a w,Rl w0 N lab ρ σ a w->∀ u,RA w w0.heap.size lab ρ x u->PA w p u:=by
 unfold jH at h
 split at h
 ·rename_i y
  obtain⟨vs,h2,hl,hr⟩:=Bi (w0:=w0) (N:=N) _ _ h
  refine⟨_,h2,fun lab ρ a w hR u hu=>.v _ _ ⟨#[u],rfl,by simp[hl],fun j x hx=>?_⟩⟩
  have hj:j=0:=by
   have:=(List.getElem?_eq_some_iff.1 hx).1
   simp only[hl]at this
   simpa using this
  subst hj
  exact⟨u,rfl,hr lab ρ a w hR 0 y x u rfl hx hu⟩
 ·rename_i ys
  obtain⟨vs,h2,hl,hr⟩:=Bi (w0:=w0) (N:=N) _ _ h
  refine⟨_,h2,fun lab ρ a w hR u hu=>?_⟩
  obtain⟨us,rfl,hs⟩:=hu
  refine .v _ _ ⟨us,rfl,by rw[hl];exact hs.1,fun j x hx=>?_⟩
  have hj:j<ys.length:=by rw[<-hl];exact(List.getElem?_eq_some_iff.1 hx).1
  obtain⟨v,hv,cw⟩:=hs.2 j _ (List.getElem?_eq_getElem hj)
  exact⟨v,hv,hr lab ρ a w hR j _ x v (List.getElem?_eq_getElem hj) hx cw⟩
 ·obtain⟨z,h2,_,hz⟩:=PW h
  refine⟨_,h2,fun lab ρ a w hR u hu=>.v _ _ ⟨#[u],rfl,rfl,fun j x hx=>?_⟩⟩
  cases j with
  | zero=>
   simp at hx
   subst hx
   exact⟨u,rfl,hz _ _ _ _ _ _ hR u hu _⟩
  | succ j=>simp at hx
 ·rename_i c cs
  exact⟨_,h,fun lab ρ a w hR u hu=>.p _ _ _ (Kx hu)⟩
 ·cases h
theorem acs{x:A}{k:Pt->Option X}(h:rX σ x k=some r):∃ p,k p=some r/\∀ lab ρ a w,Rl w0 N lab ρ σ a w->∀ u,RA w w0.heap.size lab ρ x u->PA w p u:=by
 unfold rX at h
 split at h
 ·rename_i c cs
  refine⟨_,h,fun lab ρ a w hR u hu=>?_⟩
  exact .p _ _ _ (Kx hu)
 ·rename_i f c cs
  refine⟨_,h,fun lab ρ a w hR u hu=>?_⟩
  obtain⟨pv,rfl,hp⟩:=hu
  exact .f _ _ _ _ (Kx hp)
 ·rename_i r' j'
  split at h
  ·rename_i cs hm
   obtain⟨vs,h2,hl,hr⟩:=Bi (w0:=w0) (N:=N) _ _ h
   split at h2
   ·rename_i c cz
    refine⟨_,h2,fun lab ρ a w hR u hu=>?_⟩
    exact .p _ _ _ (Qt hm hl hr hR hu)
   ·cases h2
  ·cases h
 ·rename_i f r' j'
  split at h
  ·rename_i cs hm
   obtain⟨vs,h2,hl,hr⟩:=Bi (w0:=w0) (N:=N) _ _ h
   split at h2
   ·rename_i c cz
    refine⟨_,h2,fun lab ρ a w hR u hu=>?_⟩
    obtain⟨ps,rfl,hs,hp⟩:=hu
    obtain⟨b,off,e1,e2⟩:=hp 0 _ rfl
    have e:ps = #[.pointer (some ⟨b,off+j',none⟩)]:=by
     apply Array.ext (by simpa using hs)
     intro i h1 h2
     have:i=0:=by simp at h2;omega
     subst this
     rw[Array.getElem?_eq_getElem h1]at e2
     injection e2
    subst e
    exact .f _ _ _ _ (Qt hm hl hr hR ⟨b,off,e1,rfl⟩)
   ·cases h2
  ·cases h
 ·exact Qv h
theorem Qx:∀ (xs:List Operand) (k:List Pt->Option X),uk σ xs k=some r->∃ ps,k ps=some r/\∀ lab ρ a w,Rl w0 N lab ρ σ a w->nK w ps (xs.map a.eval).toArray
 | [],k,h=>⟨[],h,fun _ _ _ _ _=>⟨rfl,fun i p hp=>by simp at hp⟩⟩
 | x :: xs,k,h=>by
  unfold uk at h
  obtain⟨p,h2,hp⟩:=acs (w0:=w0) (N:=N) h
  obtain⟨ps,h3,fq⟩:=Qx xs _ h2
  refine⟨p :: ps,h3,fun lab ρ a w hR=>⟨?_,fun i q hq=>?_⟩⟩
  ·have:=(fq lab ρ a w hR).1
   simp at this
   simp[this]
  ·cases i with
   | zero=>
    simp at hq
    subst hq
    exact⟨_,rfl,hp lab ρ a w hR _ (hR.ak x)⟩
   | succ i=>
    obtain⟨u,hu,hr⟩:=(fq lab ρ a w hR).2 i q (by simpa using hq)
    exact⟨u,by simpa using hu,hr⟩
theorem Ky:∀ (xs:List Operand) (k:List Pt->Option X),gT σ xs k=some r->∃ ps,k ps=some r/\∀ lab ρ a w,Rl w0 N lab ρ σ a w->nK w ps (xs.map a.eval).toArray
 | [],k,h=>⟨[],h,fun _ _ _ _ _=>⟨rfl,fun i p hp=>by simp at hp⟩⟩
 | x :: xs,k,h=>by
  unfold gT at h
  obtain⟨p,h2,hp⟩:=Qv (w0:=w0) (N:=N) h
  obtain⟨ps,h3,fq⟩:=Ky xs _ h2
  refine⟨p :: ps,h3,fun lab ρ a w hR=>⟨?_,fun i q hq=>?_⟩⟩
  ·have:=(fq lab ρ a w hR).1
   simp at this
   simp[this]
  ·cases i with
   | zero=>
    simp at hq
    subst hq
    exact⟨_,rfl,hp lab ρ a w hR _ (hR.ak x)⟩
   | succ i=>
    obtain⟨u,hu,hr⟩:=(fq lab ρ a w hR).2 i q (by simpa using hq)
    exact⟨u,by simpa using hu,hr⟩
theorem Qy{t:TC}{o:Nat}(h:uj t (o+2)=true)(x:T t):∀ y∈enc t o x,y.loc=true:=by
 intro y hy
 have hg:=rq t o x y hy
 cases y with
 | sl t' o' q l=>
  have ho:o'=o:=by simpa [V.gr]using hg
  subst ho
  have hf:full t'+2<=full t:=Nat.le_of_ble_eq_true (EP t o' x _ hy)
  show uj t' o'=true
  simp only[uj,Bool.or_eq_true]at h
  rcases h with h | h
  ·have h:=Nat.le_of_ble_eq_true h
   match o',h with
   | 0,h=>omega
   | 1,h=>rfl
   | n+2,h=>
    simp only[uj,Bool.or_eq_true]
    left
    exact Nat.ble_eq_true_of_le (by omega)
  ·have h:=Nat.eq_of_beq_eq_true h
   match o',h with
   | 0,h=>omega
   | 1,h=>rfl
   | n+2,h=>
    simp only[uj,Bool.or_eq_true]
    right
    have:n % 2=1:=by omega
    rw[this]
    rfl
 | _=>rfl
theorem RV.home{q:List Nat}{x:V}{v:Value}(h:RV w B lab q x v){B':Nat}(hB:B'<=B)(hl:∀ b,B<=b->aj b=lab b)(hg:∀ b k,lab b=some k->B<=b)(hx:x.loc=true):RV w B' aj q x v:=by
 induction h with
 | int=>exact .int _ _ _
 | bool=>exact .bool _ _
 | str=>exact .str _ _
 | nil=>exact .nil _
 | bO=>exact .bO _ _ _
 | bY=>exact .bY _ _ _ _ _ (by first | assumption | omega)
 | cy=>exact .cy _ _ _ _ _ (by first | assumption | omega)
 | ah q t o qn l b off cap u ho cL hb h1 hcap hc hr ih=>
  have kA:o=1:=by
   match o,ho,hx with
   | 0,_,hx=>cases hx
   | 1,_,_=>rfl
   | n+2,ho,_=>omega
  subst kA
  have Bj:=h1 rfl
  refine .ah _ _ _ _ _ _ _ _ u ho ((hl b Bj).trans cL) hb (fun _=>Nat.le_trans hB Bj) hcap hc (fun i h j x bR=>ih i h j x bR ?_)
  have:=rq t 1 l[i] x (List.mem_of_getElem? bR)
  cases x with
  | sl t' o' q' l'=>
   have:o'=1:=by simpa [V.gr]using this
   subst this
   rfl
  | _=>rfl
 | own q t o qn l b cap cs u cL hh hs hn hm hc hr ih=>
  exact .own _ _ _ _ _ _ _ cs u ((hl b (hg b q cL)).trans cL) hh hs hn hm hc (fun i h j x bR=>ih i h j x bR (Qy hx l[i] x (List.mem_of_getElem? bR)))
theorem Kz:∀ (xs:List V) (c:Nat) (σ:S) (ρ:Nat->Loc) (us:List Value),60000<=c->Rl w0 N lab ρ σ a w->us.length=xs.length->(∀ (j:Nat) x u,xs[j]?=some x->us[j]?=some u->RV w w0.heap.size lab [c+j] x u)->
  ∃ ρ',Rl w0 N lab ρ' (eV c σ xs) a w/\(∀ r,r<c->ρ' r=ρ r)/\∀ (j:Nat) x u,(ig c xs)[j]?=some x->us[j]?=some u->cg w w0.heap.size lab ρ' x u
 | [],c,σ,ρ,us,_,h,hl,hr=>⟨ρ,h,fun _ _=>rfl,fun j x u hx=>by simp[ig]at hx⟩
 | x :: xs,c,σ,ρ,us,hc,h,hl,hr=>by
  cases us with
  | nil=>simp at hl
  | cons u us=>
   have bL:=hr 0 x u rfl rfl
   rw[Nat.add_zero]at bL
   have gL:∀ (j:Nat) x' u',xs[j]?=some x'->us[j]?=some u'->RV w w0.heap.size lab [c+1+j] x' u':=fun j x' u' hx hu=>by
    have:=hr (j+1) x' u' (by simpa using hx) (by simpa using hu)
    rw[show c+1+j=c+(j+1) by omega]
    exact this
   cases hf:x.ah with
   | true=>
    obtain⟨ρ',aA,av,o7⟩:=Kz xs (c+1) σ ρ us (by omega) h (by simpa using hl) gL
    refine⟨ρ',?_,fun r hr=>av r (by omega),fun j y v hy hv=>?_⟩
    ·simp only[eV,hf,cond_true]
     exact aA
    ·simp only[ig,hf,cond_true]at hy
     cases j with
     | zero=>
      simp at hy hv
      subst hy hv
      exact⟨hf,bL.key hf⟩
     | succ j=>exact o7 j y v (by simpa using hy) (by simpa using hv)
   | false=>
    have fD:=bL.ER hf
    obtain⟨ρ',aA,av,o7⟩:=Kz xs (c+1) _ _ us (by omega) (h.new (d:=c) (x:=.sl x) (.cS u) (.sl u x (aZ _ _ _) bL) (h.dM c (.inr hc))) (by simpa using hl) gL
    refine⟨ρ',?_,fun r hr=>?_,fun j y v hy hv=>?_⟩
    ·simp only[eV,hf,cond_false]
     exact aA
    ·rw[av r (by omega)]
     exact bB _ _ _ (by omega)
    ·simp only[ig,hf,cond_false]at hy
     cases j with
     | zero=>
      simp at hy hv
      subst hy hv
      refine⟨fD,?_⟩
      have:ρ' c = .cS u:=by rw[av c (by omega)];exact aZ _ _ _
      simp[bC,this]
     | succ j=>exact o7 j y v (by simpa using hy) (by simpa using hv)
theorem acu(xs:List V):∀ c,(ig c xs).length=xs.length:=by
 induction xs with
 | nil=>intro c;rfl
 | cons x xs ih=>intro c;simp[ig,ih]
end
end Go.Proofs.YtmffpkippmkjbaaGreatDoor
namespace Go.Proofs.YtmffpkippmkjbaaGreatDoor
open Go.RowKit
set_option linter.unusedVariables false
def enters(P:Program)(f:Nat):Prop:=∃ fn,P.funcs[f]?=some fn/\(fn.name == "runtime.NumGoroutine")=false/\fn.body.isNone=false
/-! What a function gives back. -/
def Fc:A->Option (Bool×List Lf)
 | .lf x=>some (false,[x])
 | .agg xs=>some (true,xs)
 | _=>none
def lM{X:Type}(P:Program)(σ:S):List ResultVar->(List (Bool×List Lf)->Option X)->Option X
 | [],k=>k []
 | .tmp t :: rest,k=>(match Fc (σ.t t)with
  | some p=>lM P σ rest fun ps=>k (p :: ps)
  | none=>none)
 | .cell p ty :: rest,k=>gw P σ ty (σ.t p) fun x=>(match Fc x with
  | some p=>lM P σ rest fun ps=>k (p :: ps)
  | none=>none)
def KA(m:Nat->Option ax):Lf->Option (V×Option Nat)
 | .v x=>bif x.loc&&x.ah then some (x,none)else none
 | .own [r]=>match m r with
  | some (.sl y)=>bif y.loc then some (y,some r)else none
  | _=>none
 | _=>none
def Bk(m:Nat->Option ax)(off:Nat):List Lf->Option (List V×List (Nat×Nat))
 | []=>some ([],[])
 | x :: xs=>match KA m x,Bk m (off+1) xs with
  | some (y,none),some (ys,rs)=>some (y :: ys,rs)
  | some (y,some r),some (ys,rs)=>some (y :: ys,(r,off) :: rs)
  | _,_=>none
def yL(m:Nat->Option ax)(off:Nat):List (Bool×List Lf)->Option (List Pt×List (Nat×Nat))
 | []=>some ([],[])
 | p :: ps=>match Bk m off p.2,yL m (off+p.2.length) ps with
  | some (vs,rs),some (qs,lN)=>some ((p.1,vs) :: qs,rs++lN)
  | _,_=>none
def once(rs:List (Nat×Nat)):Bool:=rs.all fun p=>(rs.lookup p.1).any fun n=>Nat.beq n p.2
def Bl{X:Type}(P:Program)(σ:S)(fn:Array ResultVar)(k:eM->Option X):Option X:=
 lM P σ fn.toList fun ps=>match yL σ.m 0 ps with
  | some (qs,rs)=>bif once rs then (match qs with
   | [p]=>k (.one p)
   | qs=>k (.bJ qs))else none
  | none=>none
section
variable {P:Program} {w w':World} {w0:Wd} {B N:Nat} {lab aj:aQ} {ρ ρ':Nat->Loc} {σ:S} {a:Act} {X:Type} {d:Nat} {r:X} {o:Oper}
theorem Qz:∀ (xs:List V) (c:Nat) (j:Nat) x u,(ig c xs)[j]?=some x->cg w B lab ρ x u->(∀ r,r<c+xs.length->ρ' r=ρ r)->cg w B lab ρ' x u
 | [],c,j,x,u,hx,_,_=>by simp[ig]at hx
 | y :: ys,c,j,x,u,hx,hr,av=>by
  cases j with
  | zero=>
   simp only[ig,List.getElem?_cons_zero,Option.some.injEq]at hx
   subst hx
   cases hf:y.ah with
   | true=>rw[hf,cond_true]at hr;simp only[cond_true];exact hr
   | false=>
    rw[hf,cond_false]at hr
    simp only[cond_false]
    refine⟨hr.1,?_⟩
    have:=hr.2
    simp only[bC,av c (by simp)]at this ⊢
    exact this
  | succ j=>
   simp only[ig,List.getElem?_cons_succ]at hx
   exact Qz ys (c+1) j x u hx hr (fun r h=>av r (by simp;omega))
theorem PV.cells{key:Nat->List Nat}{p:Pt}{u:Value}(h:PV w B lab key p u):∃ us:List Value,us.length=p.2.length/\(∀ (j:Nat) x v,p.2[j]?=some x->us[j]?=some v->RV w B lab (key j) x v)/\
  ∀ (ρ:Nat->Loc) (ls:List Lf),ls.length=p.2.length->(∀ (j:Nat) x v,ls[j]?=some x->us[j]?=some v->cg w B lab ρ x v)->RP w B lab ρ (p.1,ls) u:=by
 obtain⟨us,hu,hs,hr⟩:=h
 obtain⟨b,xs⟩:=p
 refine⟨us.toList,by simpa using hs,fun j x v hx hv=>?_,fun ρ ls hl Bm=>?_⟩
 ·obtain⟨v',dh,cw⟩:=hr j x hx
  have:v'=v:=by
   rw[Array.getElem?_toList]at hv
   rw[dh]at hv
   injection hv
  subst this
  exact cw
 ·have yH:cG w B lab ρ ls us:=⟨by rw[hs,hl],fun j x hx=>by
   have hj:j<us.size:=by rw[hs,<-hl];exact(List.getElem?_eq_some_iff.1 hx).1
   exact⟨us[j],Array.getElem?_eq_getElem hj,Bm j x _ hx (by rw[Array.getElem?_toList,Array.getElem?_eq_getElem hj])⟩⟩
  cases b with
  | true=>exact⟨us,hu,yH⟩
  | false=>have hu:us = #[u]:=hu;subst hu;exact yH
theorem Bn:∀ (ps:List Pt) (c0 off:Nat) (σ:S) (ρ:Nat->Loc) (vs:List Value),60000<=c0->Rl w0 N lab ρ σ a w->gM w w0.heap.size lab (fun n=>c0+n) off ps vs->
  ∃ ρ',Rl w0 N lab ρ' (gC (c0+off) σ ps) a w/\(∀ r,r<c0+off->ρ' r=ρ r)/\vs.length=(iZ (c0+off) ps).length/\∀ (i:Nat) p v,(iZ (c0+off) ps)[i]?=some p->vs[i]?=some v->RP w w0.heap.size lab ρ' p v
 | [],c0,off,σ,ρ,vs,_,h,hr=>by
  cases vs with
  | nil=>exact⟨ρ,h,fun _ _=>rfl,rfl,fun i p v hp=>by simp[iZ]at hp⟩
  | cons v vs=>exact hr.elim
 | p :: ps,c0,off,σ,ρ,vs,hc,h,hr=>by
  cases vs with
  | nil=>exact hr.elim
  | cons v vs=>
   obtain⟨⟨_,hp⟩,hr⟩:=hr
   obtain⟨us,hl,kn,nL⟩:=hp.cells
   obtain⟨oz,h1,fM,o7⟩:=Kz p.2 (c0+off) σ ρ us (by omega) h hl (fun j x u hx hu=>by
    have:RV w w0.heap.size lab [c0+(off+j)] x u:=kn j x u hx hu
    rw[<-Nat.add_assoc]at this
    exact this)
   obtain⟨dI,h2,qt,hlen,fq⟩:=Bn ps c0 (off+p.2.length) (eV (c0+off) σ p.2) oz vs hc h1 hr
   rw[<-Nat.add_assoc]at h2 qt hlen fq
   refine⟨dI,h2,fun r hr=>(qt r (by omega)).trans (fM r hr),by simp[iZ,hlen],fun i q u hq hu=>?_⟩
   cases i with
   | zero=>
    simp only[iZ,List.getElem?_cons_zero,Option.some.injEq]at hq hu
    subst hq hu
    refine nL dI _ (acu _ _) (fun j x u hx hu=>Qz p.2 (c0+off) j x u hx (o7 j x u hx hu) qt)
   | succ i=>
    simp only[iZ,List.getElem?_cons_succ]at hq hu
    exact fq i q u hq hu
theorem gM.home{nm:Nat->Nat}:∀ (ps:List Pt) (off:Nat) (vs:List Value) {B':Nat},gM w B lab nm off ps vs->B'<=B->(∀ b,B<=b->aj b=lab b)->(∀ b k,lab b=some k->B<=b)->gM w B' aj nm off ps vs
 | [],_,[],_,h,_,_,_=>h
 | [],_,_ :: _,_,h,_,_,_=>h
 | _ :: _,_,[],_,h,_,_,_=>h
 | p :: ps,off,v :: vs,B',h,hB,hl,hg=>by
  obtain⟨⟨kB,us,hu,hs,hr⟩,gL⟩:=h
  refine⟨⟨kB,us,hu,hs,fun j x hx=>?_⟩,gM.home ps _ vs gL hB hl hg⟩
  obtain⟨v',dh,cw⟩:=hr j x hx
  exact⟨v',dh,cw.home hB hl hg (List.all_eq_true.1 kB x (List.mem_of_getElem? hx))⟩
theorem Fe(w:World)(o:Oper)(a:Act)(f:Nat)(args:Array Operand)(cA:Array TypeId)(ho:o.op = .call { callee:=.value (.func f),args,argTypes:=cA })(he:enters P f):(execOp a.eval o).run P w = .ok (.enter f (args.map a.eval)) w:=by
 obtain⟨fn,h1,h2,h3⟩:=he
 have Bo:¬ fn.name = "runtime.NumGoroutine":=by simpa using h2
 have vP:¬ fn.body=none:=by intro e;rw[e]at h3;cases h3
 simp[execOp,ho,resolve,Act.eval,Deferred.ofValue,invoke,callFunc,Sem.run_bind,Sem.run,program,h1,Bo,vP]
theorem QA{f:Nat}{args:Array Operand}{cA:Array TypeId}{c:aI}{k:S->Option X}(ho:o.op = .call { callee:=.value (.func f),args,argTypes:=cA })(hd:o.dst=some d)(he:enters P f)(hc:aG P f c)(rZ:d<N){ps:List Pt}(eW:∀ lab ρ a w,Rl w0 N lab ρ σ a w->nK w ps (args.toList.map a.eval).toArray)
  (h2:(c.run X ps fun res=>(match res with
  | .one p=>(match ox (p.1,ig (1000000000100000+1000*d) p.2)with
   | some y=>k ((eV (1000000000100000+1000*d) σ p.2).set d y)
   | none=>none)
  | .bJ ps=>k ((gC (1000000000100000+1000*d) σ ps).set d (.bJ (iZ (1000000000100000+1000*d) ps)))))=some r):∃ af,k af=some r/\iJ P w0 N o σ af:=by
 obtain⟨res,h3,_,Bp⟩:=hc X ps _ r h2
 have step:∀ a w K Q lab ρ,Rl w0 N lab ρ σ a w->(∀ v w' aj,Below w.heap.size w w'->Rl w0 N aj ρ σ a w'->mP w' w0.heap.size aj (fun n=>1000000000100000+1000*d+n) res v->K (a.put o.dst v) w')->o.wp P a w K Q:=by
  intro a w K Q lab ρ hR hK
  unfold Oper.wp
  rw[Fe w o a f args cA ho he,Oper.upon_enter]
  have o8:(args.map a.eval)=(args.toList.map a.eval).toArray:=by apply Array.ext';rw[Array.toList_map]
  rw[o8]
  refine(Bp (fun n=>1000000000100000+1000*d+n) w _ (eW lab ρ a w hR) (w0.on hR.below (fun _ _ h=>by cases h))).mono fun e w' kC=>?_
  obtain⟨v,iq,rfl,ep,ij,eX⟩:=kC
  have hB:=hR.below.size
  let cI:aQ:=fun b=>if b<w.heap.size then lab b else iq b
  have e1:∀ b,b<w.heap.size->cI b=lab b:=fun b hb=>if_pos hb
  have e2:∀ b,w.heap.size<=b->cI b=iq b:=fun b hb=>if_neg (by omega)
  refine hK v w' cI ep (hR.grow ep e1 (fun b k hb hk=>?_)) ?_
  ·rw[e2 b hb]at hk
   exact(ij b k hk).2
  ·cases res with
   | one p=>exact gM.home [p] 0 [v] eX hB e2 (fun b k hk=>(ij b k hk).1)
   | bJ lO=>
    obtain⟨vs,e,hv⟩:=eX
    exact⟨vs,e,gM.home lO 0 vs.toList hv hB e2 (fun b k hk=>(ij b k hk).1)⟩
 cases res with
 | one p=>
  simp only at h3
  split at h3
  ·rename_i y hy
   refine⟨_,h3,fun a w K Q hR hK=>?_⟩
   obtain⟨lab,ρ,hR⟩:=hR
   refine step a w K Q lab ρ hR fun v w' aj ep aA eX=>?_
   obtain⟨ρ',iM,_,_,fq⟩:=Bn [p] (1000000000100000+1000*d) 0 σ ρ [v] (by omega) aA eX
   rw[hd]
   have KB:=fq 0 _ v rfl rfl
   exact hK _ _ ⟨aj,ρ',iM.set (Ke hy KB) rZ⟩
  ·cases h3
 | bJ lO=>
  refine⟨_,h3,fun a w K Q hR hK=>?_⟩
  obtain⟨lab,ρ,hR⟩:=hR
  refine step a w K Q lab ρ hR fun v w' aj ep aA eX=>?_
  obtain⟨vs,rfl,hv⟩:=eX
  obtain⟨ρ',iM,_,hlen,fq⟩:=Bn lO (1000000000100000+1000*d) 0 σ ρ vs.toList (by omega) aA hv
  rw[hd]
  refine hK _ _ ⟨aj,ρ',iM.set ⟨vs,rfl,by simpa using hlen,fun j p hp=>?_⟩ rZ⟩
  have hj:j<vs.size:=by
   have:=(List.getElem?_eq_some_iff.1 hp).1
   rw[Nat.add_zero]at hlen
   rw[<-hlen]at this
   simpa using this
  exact⟨vs[j],Array.getElem?_eq_getElem hj,fq j p _ hp (by rw[Array.getElem?_toList,Array.getElem?_eq_getElem hj])⟩
theorem acv{f:Nat}{args:Array Operand}{cA:Array TypeId}{c:aI}{k:S->Option X}(ho:o.op = .call { callee:=.value (.func f),args,argTypes:=cA })(hd:o.dst=some d)(he:enters P f)(hc:aG P f c)(h:rY N σ d c args.toList k=some r):∃ af,k af=some r/\iJ P w0 N o σ af:=by
 unfold rY at h
 cases hN:Nat.blt d N with
 | false=>rw[hN]at h;cases h
 | true=>
  rw[hN,cond_true]at h
  obtain⟨ps,h2,eW⟩:=Ky (w0:=w0) (N:=N) _ _ h
  exact QA ho hd he hc (Nat.le_of_ble_eq_true hN) eW h2
theorem acw{f:Nat}{args:Array Operand}{cA:Array TypeId}{c:aI}{k:S->Option X}(ho:o.op = .call { callee:=.value (.func f),args,argTypes:=cA })(hd:o.dst=some d)(he:enters P f)(hc:aG P f c)(h:um N σ d c args.toList k=some r):∃ af,k af=some r/\iJ P w0 N o σ af:=by
 unfold um at h
 cases hN:Nat.blt d N with
 | false=>rw[hN]at h;cases h
 | true=>
  rw[hN,cond_true]at h
  obtain⟨ps,h2,eW⟩:=Qx (w0:=w0) (N:=N) _ _ h
  exact QA ho hd he hc (Nat.le_of_ble_eq_true hN) eW h2
end
end Go.Proofs.YtmffpkippmkjbaaGreatDoor
namespace Go.Proofs.YtmffpkippmkjbaaGreatDoor
open Go.RowKit
set_option linter.unusedVariables false
def dD(lab:aQ)(rs:List (Nat×Nat))(nm:Nat->Nat):aQ:=fun b=>
 match lab b with
 | none=>none
 | some k=>match k.getLast? with
  | none=>none
  | some r=>(rs.lookup r).map fun n=>k.dropLast++[nm n]
section
variable {P:Program} {w w':World} {w0:Wd} {B N:Nat} {lab aj:aQ} {ρ ρ':Nat->Loc} {σ:S} {a:Act} {X:Type} {d:Nat} {r:X} {rs:List (Nat×Nat)} {nm:Nat->Nat}
theorem RV.Bq{q:List Nat}{x:V}{v:Value}(h:RV w B lab q x v)(hf:x.ah=true)(hl:∀ b,lab b=none->aj b=none):RV w B aj q x v:=by
 induction h with
 | int=>exact .int _ _ _
 | bool=>exact .bool _ _
 | str=>exact .str _ _
 | nil=>exact .nil _
 | bO=>exact .bO _ _ _
 | bY=>exact .bY _ _ _ _ _ (by first | assumption | omega)
 | cy=>exact .cy _ _ _ _ _ (by first | assumption | omega)
 | ah q t o qn l b off cap u ho cL hb h1 hcap hc hr ih=>
  exact .ah _ _ _ _ _ _ _ _ u ho (hl b cL) hb h1 hcap hc (fun i h j x hx=>ih i h j x hx (hG t o l[i] ho j x hx))
 | own q t o qn l b cap cs u cL hh hs hn hm hc hr ih=>simp[V.ah]at hf;omega
theorem sg{b:Nat}(h:lab b=none):dD lab rs nm b=none:=by simp[dD,h]
theorem RV.dD{p:List Nat}{r n:Nat}{x:V}{v:Value}(h:RV w B lab (p++[r]) x v)(hr:rs.lookup r=some n):RV w B (dD lab rs nm) (p++[nm n]) x v:=by
 generalize hq:p++[r]=q at h
 induction h generalizing p with
 | int=>exact .int _ _ _
 | bool=>exact .bool _ _
 | str=>exact .str _ _
 | nil=>exact .nil _
 | bO=>exact .bO _ _ _
 | bY=>exact .bY _ _ _ _ _ (by first | assumption | omega)
 | cy=>exact .cy _ _ _ _ _ (by first | assumption | omega)
 | ah q t o qn l b off cap u ho cL hb h1 hcap hc cw ih=>
  exact .ah _ _ _ _ _ _ _ _ u ho (sg cL) hb h1 hcap hc (fun i h j x hx=>(cw i h j x hx).Bq (hG t o l[i] ho j x hx) (fun b=>sg))
 | own q t o qn l b cap cs u cL hh hs hn hm hc cw ih=>
  subst hq
  refine .own _ _ _ _ _ _ _ cs u ?_ hh hs hn hm hc (fun i h j x hx=>ih i h j x hx (p:=j :: i :: aq t :: p) rfl)
  simp[Proofs.YtmffpkippmkjbaaGreatDoor.dD,cL,hr]
theorem KC{m:Nat->Option ax}:∀ (xs:List Lf) (off:Nat) (ys:List V) (ir:List (Nat×Nat)),Bk m off xs=some (ys,ir)->ys.length=xs.length/\∀ (j:Nat) x,xs[j]?=some x->∃ y,ys[j]?=some y/\y.loc=true/\((x = .v y/\y.ah=true)\/∃ r,x = .own [r]/\m r=some (.sl y)/\(r,off+j)∈ir)
 | [],off,ys,ir,h=>by
  simp only[Bk,Option.some.injEq,Prod.mk.injEq]at h
  obtain⟨rfl,rfl⟩:=h
  exact⟨rfl,fun j x hx=>by simp at hx⟩
 | x :: xs,off,ys,ir,h=>by
  have hc:∀ y z,KA m x=some (y,z)->y.loc=true/\((z=none/\x = .v y/\y.ah=true)\/∃ r,z=some r/\x = .own [r]/\m r=some (.sl y)):=by
   intro y z hz
   unfold KA at hz
   split at hz
   ·rename_i x'
    cases hl:(x'.loc&&x'.ah)with
    | false=>rw[hl]at hz;cases hz
    | true=>
     rw[hl,cond_true]at hz
     simp only[Option.some.injEq,Prod.mk.injEq]at hz
     obtain⟨rfl,rfl⟩:=hz
     rw[Bool.and_eq_true]at hl
     exact⟨hl.1,.inl ⟨rfl,rfl,hl.2⟩⟩
   ·rename_i r
    split at hz
    ·rename_i y' dH
     cases hl:y'.loc with
     | false=>rw[hl]at hz;cases hz
     | true=>
      rw[hl,cond_true]at hz
      simp only[Option.some.injEq,Prod.mk.injEq]at hz
      obtain⟨rfl,rfl⟩:=hz
      exact⟨hl,.inr ⟨r,rfl,rfl,dH⟩⟩
    ·cases hz
   ·cases hz
  unfold Bk at h
  split at h
  ·rename_i y vQ lN hy iV
   simp only[Option.some.injEq,Prod.mk.injEq]at h
   obtain⟨rfl,rfl⟩:=h
   obtain⟨h1,h2⟩:=KC xs (off+1) vQ lN iV
   refine⟨by simp[h1],fun j x' hx=>?_⟩
   cases j with
   | zero=>
    simp at hx
    subst hx
    obtain⟨hl,hz | ⟨r,hz,_⟩⟩:=hc y none hy
    ·exact⟨y,rfl,hl,.inl hz.2⟩
    ·cases hz
   | succ j=>
    obtain⟨y',dH,hl,hz⟩:=h2 j x' (by simpa using hx)
    refine⟨y',by simpa using dH,hl,hz.imp id fun⟨r,e1,e2,e3⟩=>⟨r,e1,e2,by rw[show off+(j+1)=off+1+j by omega];exact e3⟩⟩
  ·rename_i y r vQ lN hy iV
   simp only[Option.some.injEq,Prod.mk.injEq]at h
   obtain⟨rfl,rfl⟩:=h
   obtain⟨h1,h2⟩:=KC xs (off+1) vQ lN iV
   refine⟨by simp[h1],fun j x' hx=>?_⟩
   cases j with
   | zero=>
    simp at hx
    subst hx
    obtain⟨hl,hz | ⟨r',hz,e1,e2⟩⟩:=hc y (some r) hy
    ·cases hz.1
    ·injection hz with hz
     subst hz
     exact⟨y,rfl,hl,.inr ⟨r,e1,e2,.head _⟩⟩
   | succ j=>
    obtain⟨y',dH,hl,hz⟩:=h2 j x' (by simpa using hx)
    refine⟨y',by simpa using dH,hl,hz.imp id fun⟨r,e1,e2,e3⟩=>⟨r,e1,e2,by rw[show off+(j+1)=off+1+j by omega];exact .tail _ e3⟩⟩
  ·cases h
theorem KD{m:Nat->Option ax}(hm:∀ r x,m r=some x->cX w B lab ρ r x):∀ (ps:List (Bool×List Lf)) (off:Nat) (qs:List Pt) (ir:List (Nat×Nat)) (vs:List Value),yL m off ps=some (qs,ir)->(∀ p∈ir,rs.lookup p.1=some p.2)->vs.length=ps.length->
  (∀ (i:Nat) p v,ps[i]?=some p->vs[i]?=some v->RP w B lab ρ p v)->gM w B (dD lab rs nm) nm off qs vs
 | [],off,qs,ir,vs,h,_,hl,_=>by
  have:vs=[]:=List.eq_nil_of_length_eq_zero hl
  subst this
  simp only[yL,Option.some.injEq,Prod.mk.injEq]at h
  obtain⟨rfl,rfl⟩:=h
  trivial
 | p :: ps,off,qs,ir,vs,h,dY,hl,hp=>by
  cases vs with
  | nil=>simp at hl
  | cons v vs=>
   unfold yL at h
   split at h
   ·rename_i ys rs1 qs' Br h1 h2
    simp only[Option.some.injEq,Prod.mk.injEq]at h
    obtain⟨rfl,rfl⟩:=h
    obtain⟨hlen,hcells⟩:=KC _ _ _ _ h1
    have gL:=KD hm ps _ qs' Br vs h2 (fun q hq=>dY q (List.mem_append_right _ hq)) (by simpa using hl) (fun i q u hq hu=>hp (i+1) q u (by simpa using hq) (by simpa using hu))
    have uo:=hp 0 p v rfl rfl
    have key:∀ us:Array Value,cG w B lab ρ p.2 us->(us.size=ys.length/\∀ (j:Nat) x,ys[j]?=some x->∃ u,us[j]?=some u/\RV w B (dD lab rs nm) [nm (off+j)] x u):=by
     intro us dN
     refine⟨by rw[hlen];exact dN.1,fun j y hy=>?_⟩
     have hj:j<p.2.length:=by rw[<-hlen];exact(List.getElem?_eq_some_iff.1 hy).1
     obtain⟨y',dH,kB,hz⟩:=hcells j _ (List.getElem?_eq_getElem hj)
     rw[hy]at dH
     injection dH with dH
     subst dH
     obtain⟨u,hu,hr⟩:=dN.2 j _ (List.getElem?_eq_getElem hj)
     refine⟨u,hu,?_⟩
     rcases hz with ⟨e,hf⟩ | ⟨r,e,hmr,qu⟩
     ·rw[e]at hr
      exact(hr.2.Bq hf (fun b=>sg)).key hf
     ·rw[e]at hr
      have bZ:=hm r _ hmr
      generalize he:ax.sl y=z at bZ
      cases bZ with
      | blk=>cases he
      | mp=>cases he
      | gh=>cases he
      | sl v' y' av kn=>
       injection he with he
       subst he
       have qq:v'=u:=by
        have h4:=hr.2
        simp only[bC,av]at h4
        injection h4
       subst qq
       exact RV.dD (p:=[]) kn (dY (r,off+j) (List.mem_append_left _ qu))
    refine⟨⟨?_,?_⟩,?_⟩
    ·rw[List.all_eq_true]
     intro y hy
     obtain⟨j,hj⟩:=List.mem_iff_getElem?.1 hy
     have om:j<p.2.length:=by rw[<-hlen];exact(List.getElem?_eq_some_iff.1 hj).1
     obtain⟨y',dH,kB,_⟩:=hcells j _ (List.getElem?_eq_getElem om)
     rw[hj]at dH
     injection dH with dH
     subst dH
     exact kB
    ·obtain⟨b,xs⟩:=p
     cases b with
     | true=>
      obtain⟨us,e,dN⟩:=uo
      obtain⟨k1,k2⟩:=key us dN
      exact⟨us,e,k1,k2⟩
     | false=>
      obtain⟨k1,k2⟩:=key #[v] uo
      exact⟨#[v],rfl,k1,k2⟩
    ·rw[hlen]
     exact gL
   ·cases h
theorem acy{t:TypeId}{x:A}{k:A->Option X}(h:gw P σ t x k=some r){u:Value}(hu:RA w B lab ρ x u):∃ ad,u = .pointer (some ad):=by
 unfold gw at h
 split at h
 ·cases h
 ·split at h
  ·obtain⟨b,off,_,rfl⟩:=hu;exact⟨_,rfl⟩
  ·obtain⟨b,off,rfl,_⟩:=hu;exact⟨_,rfl⟩
  ·obtain⟨ad,rfl,_⟩:=hu;exact⟨_,rfl⟩
  ·cases h
theorem QB{x:A}{p:Bool×List Lf}(h:Fc x=some p){u:Value}(hu:RA w B lab ρ x u):RP w B lab ρ p u:=by
 unfold Fc at h
 split at h
 ·injection h with h
  subst h
  refine⟨rfl,fun j y hy=>?_⟩
  cases j with
  | zero=>simp at hy;subst hy;exact⟨u,rfl,hu⟩
  | succ j=>simp at hy
 ·injection h with h
  subst h
  exact hu
 ·cases h
def nM(tmps:Array Value):ResultVar->Sem Value
 | .tmp t=>pure (tmps.getD t undef)
 | .cell a t=>do loadVar t (<-asAddr (tmps.getD a undef))
theorem Bs:∀ (l:List ResultVar) (k:List (Bool×List Lf)->Option X),lM P σ l k=some r->∃ ps,k ps=some r/\∀ lab ρ a w,Rl w0 N lab ρ σ a w->∃ vs,(l.mapM (nM a.tmps)).run P w = .ok vs w/\vs.length=ps.length/\∀ (i:Nat) p v,ps[i]?=some p->vs[i]?=some v->RP w w0.heap.size lab ρ p v
 | [],k,h=>⟨[],h,fun _ _ _ _ _=>⟨[],rfl,rfl,fun i p v hp=>by simp at hp⟩⟩
 | .tmp t :: rest,k,h=>by
  simp only[lM]at h
  split at h
  ·rename_i p hp
   obtain⟨ps,h2,fq⟩:=Bs rest _ h
   refine⟨p :: ps,h2,fun lab ρ a w hR=>?_⟩
   obtain⟨vs,aL,hl,hv⟩:=fq lab ρ a w hR
   refine⟨a.tmps.getD t undef :: vs,?_,by simp[hl],fun i q u hq hu=>?_⟩
   ·rw[List.mapM_cons,Sem.run_bind]
    simp only[nM,Sem.run_pure,Result.andThen_ok,Sem.run_bind,aL]
   ·cases i with
    | zero=>simp only[List.getElem?_cons_zero,Option.some.injEq]at hq hu;subst hq hu;exact QB hp (hR.tmp t)
    | succ i=>exact hv i q u (by simpa using hq) (by simpa using hu)
  ·cases h
 | .cell c ty :: rest,k,h=>by
  simp only[lM]at h
  obtain⟨y,hy,nN⟩:=PX (w0:=w0) (N:=N) h
  split at hy
  ·rename_i p hp
   obtain⟨ps,h2,fq⟩:=Bs rest _ hy
   refine⟨p :: ps,h2,fun lab ρ a w hR=>?_⟩
   obtain⟨vs,aL,hl,hv⟩:=fq lab ρ a w hR
   obtain⟨v,qp,rV⟩:=nN lab ρ a w hR _ (hR.tmp c)
   obtain⟨ad,gG⟩:=acy h (hR.tmp c)
   rw[gG]at qp
   have qp:(loadVar ty ad).run P w = .ok v w:=by
    simpa [Instr.loadAt,Instr.sureAddr]using qp
   refine⟨v :: vs,?_,by simp[hl],fun i q u hq hu=>?_⟩
   ·rw[List.mapM_cons,Sem.run_bind]
    simp only[nM,gG,asAddr,Sem.run_pure,Result.andThen_ok,Sem.run_bind,aL,qp]
   ·cases i with
    | zero=>simp only[List.getElem?_cons_zero,Option.some.injEq]at hq hu;subst hq hu;exact QB hp rV
    | succ i=>exact hv i q u (by simpa using hq) (by simpa using hu)
  ·cases hy
theorem acz{fn:Func}{k:eM->Option X}(h:Bl P σ fn.results k=some r):∃ res,k res=some r/\∀ lab ρ a w,Rl w0 N lab ρ σ a w->∀ nm,∃ v aj,(results fn a.tmps).run P w = .ok v w/\(∀ b k,aj b=some k->(w0.heap.size<=b\/w0.L b≠none)/\b<w.heap.size/\k≠[])/\mP w w0.heap.size aj nm res v:=by
 unfold Bl at h
 obtain⟨ps,h2,fq⟩:=Bs (w0:=w0) (N:=N) _ _ h
 clear h
 split at h2
 ·rename_i qs rs KE
  cases ho:once rs with
  | false=>rw[ho]at h2;cases h2
  | true=>
   rw[ho,cond_true]at h2
   have dY:∀ p∈rs,rs.lookup p.1=some p.2:=by
    intro p hp
    have:=List.all_eq_true.1 ho p hp
    obtain⟨n,hn,he⟩:=(Option.any_eq_true _ _).1 this
    rw[hn,Nat.eq_of_beq_eq_true he]
   have core:∀ lab ρ a w,Rl w0 N lab ρ σ a w->∀ nm:Nat->Nat,∃ vs:List Value,(fn.results.mapM (nM a.tmps)).run P w = .ok vs.toArray w/\(∀ b k,dD lab rs nm b=some k->(w0.heap.size<=b\/w0.L b≠none)/\b<w.heap.size/\k≠[])/\gM w w0.heap.size (dD lab rs nm) nm 0 qs vs:=by
    intro lab ρ a w hR nm
    obtain⟨vs,aL,hl,hv⟩:=fq lab ρ a w hR
    refine⟨vs,?_,fun b k hk=>?_,KD hR.root ps 0 qs rs vs KE dY hl hv⟩
    ·rw[Array.mapM_eq_mapM_toList]
     simp[aL]
    ·unfold dD at hk
     split at hk
     ·cases hk
     ·rename_i k' dm
      have:=hR.bV b k' dm
      split at hk
      ·cases hk
      ·cases o9:rs.lookup _ with
       | none=>rw[o9]at hk;cases hk
       | some n=>
        rw[o9]at hk
        injection hk with hk
        subst hk
        exact⟨this.1,this.2.1,by simp⟩
   have eX:∀ (tmps:Array Value),results fn tmps=(do let vs <-fn.results.mapM (nM tmps);pure (if h:vs.size=1 then vs[0]else .tuple vs)):=fun tmps=>by
    unfold results
    congr 1
   split at h2
   ·rename_i p
    refine⟨_,h2,fun lab ρ a w hR nm=>?_⟩
    obtain⟨vs,aL,ij,aA⟩:=core lab ρ a w hR nm
    match vs,aA with
    | [v],aA=>exact⟨v,_,by rw[eX,Sem.run_bind,aL];rfl,ij,aA⟩
    | [],aA=>exact aA.elim
    | _ :: _ :: _,aA=>exact aA.2.elim
   ·rename_i aK
    refine⟨_,h2,fun lab ρ a w hR nm=>?_⟩
    obtain⟨vs,aL,ij,aA⟩:=core lab ρ a w hR nm
    have hsz:vs.toArray.size≠1:=by
     intro e
     match qs,vs,aA,aK with
     | [q],[v],_,aK=>exact aK q rfl
     | [],[v],aA,_=>exact aA.elim
     | _ :: _ :: _,[v],aA,_=>exact aA.2.elim
    refine⟨.tuple vs.toArray,_,?_,ij,vs.toArray,rfl,aA⟩
    rw[eX,Sem.run_bind,aL,Result.andThen_ok]
    simp only[hsz,dif_neg,not_false_eq_true,Sem.run_pure]
 ·cases h2
end
end Go.Proofs.YtmffpkippmkjbaaGreatDoor
namespace Go.Proofs.YtmffpkippmkjbaaGreatDoor
open Go.RowKit
set_option linter.unusedVariables false
inductive In where
 | blk (cs:List V)
 | sl (y:V)
def nF(i:Nat):Nat:=20000+1000*i
def nC(i j:Nat)(x:V):Nat:=bif x.ah then 20001+1000*i+j else 60000+1000*i+j
def uq(i j:Nat)(x:V):Lf:=bif x.plain then .v x else .own [nC i j x]
def ur(i:Nat):Nat->List V->List Lf
 | _,[]=>[]
 | j,x :: xs=>uq i j x :: ur i (j+1) xs
def Ff(i:Nat):Nat->List V->(Nat->Option ax)->(Nat->Option ax)
 | _,[],m=>m
 | j,x :: xs,m=>Ff i (j+1) xs (bif x.plain then m else aX m (nC i j x) (some (.sl x)))
def Fg:Nat->List In->(Nat->Option ax)->(Nat->Option ax)
 | _,[],m=>m
 | i,.blk cs :: r,m=>Fg (i+1) r (Ff i 0 cs (aX m (nF i) (some (.blk (ur i 0 cs)))))
 | i,.sl y :: r,m=>Fg (i+1) r (aX m (nF i) (some (.sl y)))
inductive Ar where
 | pt (p:Pt)
 | mut (i off:Nat)
def KF(ins:List In):Ar->A
 | .pt (false,[x])=>.lf (.v x)
 | .pt (true,xs)=>.agg (xs.map .v)
 | .pt _=>.undef
 | .mut i off=>match ins[i]? with
  | some (.blk _)=>.az (nF i) off
  | some (.sl _)=>.lf (.own [nF i])
  | none=>.undef
def qv(ins:List In)(args:List Ar):S:=⟨fun k=>match args[k]? with
 | some x=>KF ins x
 | none=>.undef,Fg 0 ins (fun _=>none)⟩
def nO(w w':World)(aj:aQ)(ρ:Nat->Loc)(nm:Nat->Nat):Nat->Nat->List In->List In->Prop
 | _,_,[],[]=>True
 | i,pos,.blk cs :: r,.blk cz :: r'=>(∃ b off cells kD e e',ρ (nF i) = .blk b off/\w.heap[b]?=some (.cells cells e (0,0))/\w'.heap[b]?=some (.cells kD e' (0,0))/\aj b=some [nm pos]/\off+cz.length<=kD.size/\cz.length=cs.length/\
   ∀ (j:Nat) x',cz[j]?=some x'->∃ u,kD[off+j]?=some u/\((x'.plain=true/\∀ (w:World) (B:Nat) (lab:aQ) (q:List Nat),RV w B lab q x' u)\/(x' = .nil/\u = .slice none 0 0/\∃ x0,cs[j]?=some x0/\x0.ah=false)\/(x'.plain=false/\x'.ah=true/\x'.mI=true/\(∃ x0,cs[j]?=some x0/\Wk x0 x')/\cells[off+j]?=some u)\/(x'.ah=false/\RV w' w.heap.size aj [nm (pos+1+j)] x' u)))/\
   nO w w' aj ρ nm (i+1) (pos+1+cs.length) r r'
 | i,pos,.sl y :: r,.sl y' :: r'=>(∃ v,ρ (nF i) = .cS v/\RV w' w.heap.size aj [nm pos] y' v)/\nO w w' aj ρ nm (i+1) (pos+1) r r'
 | _,_,_,_=>False
def Bt(w w':World)(aj:aQ)(ρ:Nat->Loc)(nm:Nat->Nat):Nat->Nat->List In->List In->Prop
 | _,_,[],[]=>True
 | i,pos,.blk cs :: r,.blk cz :: r'=>(∃ b off cells kD e e',ρ (nF i) = .blk b off/\w.heap[b]?=some (.cells cells e (0,0))/\w'.heap[b]?=some (.cells kD e' (0,0))/\aj b=some [nm pos]/\off+cz.length<=kD.size/\cz.length=cs.length/\
   ∀ (j:Nat) x',cz[j]?=some x'->∃ u,kD[off+j]?=some u/\((x'.plain=true/\∀ (w:World) (B:Nat) (lab:aQ) (q:List Nat),RV w B lab q x' u)\/(x'.plain=false/\x'.ah=true/\cells[off+j]?=some u)\/(x'.ah=false/\RV w' w.heap.size aj [nm (pos+1+j)] x' u)))/\
   Bt w w' aj ρ nm (i+1) (pos+1+cs.length) r r'
 | i,pos,.sl y :: r,.sl y' :: r'=>(∃ v,ρ (nF i) = .cS v/\RV w' w.heap.size aj [nm pos] y' v)/\Bt w w' aj ρ nm (i+1) (pos+1) r r'
 | _,_,_,_=>False
def eM.len:eM->Nat
 | .one p=>p.2.length
 | .bJ ps=>(ps.map fun p=>p.2.length).sum
def lP(w:World)(B:Nat)(lab:aQ)(ρ:Nat->Loc):Nat->List In->Prop
 | _,[]=>True
 | i,.blk cs :: r=>cX w B lab ρ (nF i) (.blk (ur i 0 cs))/\(∀ (j:Nat) x,cs[j]?=some x->x.plain=false->cX w B lab ρ (nC i j x) (.sl x))/\lP w B lab ρ (i+1) r
 | i,.sl y :: r=>cX w B lab ρ (nF i) (.sl y)/\lP w B lab ρ (i+1) r
/-! The end: what is given back,and what the written parameters hold. -/
def KG(m:Nat->Option ax)(i j:Nat)(x0:V):Lf->Option (V×Option Nat)
 | .v x=>bif x.plain then some (x,none)else (bif !x.mI && !x0.ah then some (.nil,none)else none)
 | .own [r]=>match m r with
  | some (.sl y)=>bif y.ah then (bif !x0.plain&&(x0.ah&&x0.mI)&&Nat.beq r (20001+1000*i+j)&&Nat.blt r 60000 then some (x0,none)else none)else (bif y.loc then some (y,some r)else none)
  | _=>none
 | _=>none
def vR(m:Nat->Option ax)(i pos:Nat):Nat->List V->List Lf->Option (List V×List (Nat×Nat))
 | _,[],[]=>some ([],[])
 | j,x0 :: xs,l :: ls=>match KG m i j x0 l,vR m i pos (j+1) xs ls with
  | some (y,none),some (ys,rs)=>some (y :: ys,rs)
  | some (y,some r),some (ys,rs)=>some (y :: ys,(r,pos+1+j) :: rs)
  | _,_=>none
 | _,_,_=>none
def vS(m:Nat->Option ax):Nat->Nat->List In->Option (List In×List (Nat×Nat))
 | _,_,[]=>some ([],[])
 | i,pos,.blk cs :: r=>match bif Nat.blt (nF i) 60000 then m (nF i)else none with
  | some (.blk ls)=>match vR m i pos 0 cs ls,vS m (i+1) (pos+1+cs.length) r with
   | some (cz,rs),some (os,lN)=>some (.blk cz :: os,(nF i,pos) :: (rs++lN))
   | _,_=>none
  | _=>none
 | i,pos,.sl _ :: r=>match bif Nat.blt (nF i) 60000 then m (nF i)else none with
  | some (.sl y')=>bif y'.loc && !y'.ah then (match vS m (i+1) (pos+1) r with
   | some (os,lN)=>some (.sl y' :: os,(nF i,pos) :: lN)
   | none=>none)else none
  | _=>none
def Bu{X:Type}(P:Program)(σ:S)(fn:Array ResultVar)(ins:List In)(k:List In->eM->Option X):Option X:=
 lM P σ fn.toList fun ps=>match yL σ.m 0 ps with
  | some (qs,rs)=>match vS σ.m 0 (qs.map fun p=>p.2.length).sum ins with
   | some (os,lN)=>bif once (rs++lN)then (match qs with
    | [p]=>k os (.one p)
    | qs=>k os (.bJ qs))else none
   | none=>none
  | none=>none
/-! Types of parameters and results. -/
def jI:List (Bool×TC×Nat)->Type
 | []=>Unit
 | [(_,t,_)]=>T t
 | (_,t,_) :: r=>T t×jI r
def pe:(l:List (Bool×TC×Nat))->jI l->List Pt
 | [],_=>[]
 | [(b,t,g)],x=>[(b,enc t g x)]
 | (b,t,g) :: q :: r,x=>(b,enc t g x.1) :: pe (q :: r) x.2
def jJ:(l:List (Bool×TC×Nat))->List Pt->Option (jI l)
 | [],[]=>some ()
 | [(b,t,g)],[(b',vs)]=>bif b==b' then dec t g vs else none
 | (b,t,g) :: q :: r,(b',vs) :: ps=>bif b==b' then (match dec t g vs,jJ (q :: r) ps with
  | some x,some xs=>some (x,xs)
  | _,_=>none)else none
 | _,_=>none
def lQ(l:List (Bool×TC×Nat)):eM->Option (jI l)
 | .one p=>jJ l [p]
 | .bJ ps=>bif Nat.beq ps.length 1 then none else jJ l ps
def dK(l:List (Bool×TC×Nat))(x:jI l):eM:=
 match pe l x with
 | [p]=>.one p
 | ps=>.bJ ps
inductive PK where
 | v (b:Bool) (t:TC)
 | p (t:TC) (g off:Nat)
 | s (t:TC) (g:Nat)
def kE:List PK->Type
 | []=>Unit
 | .v _ t :: r=>T t×kE r
 | .p t _ _ :: r=>T t×kE r
 | .s t _ :: r=>List (T t)×kE r
def si:List (Bool×TC×Nat)->Type
 | []=>Unit
 | (true,t,_) :: r=>T t×si r
 | (false,t,_) :: r=>List (T t)×si r
def fZ:(l:List (Bool×TC×Nat))->si l->List In
 | [],_=>[]
 | (true,t,g) :: r,x=>.blk (enc t g x.1) :: fZ r x.2
 | (false,t,g) :: r,x=>.sl (.sl t (g+2) false x.1) :: fZ r x.2
def dQ:List PK->List (Bool×TC×Nat)
 | []=>[]
 | .v _ _ :: r=>dQ r
 | .p t g _ :: r=>(true,t,g) :: dQ r
 | .s t g :: r=>(false,t,g) :: dQ r
def nP:(l:List PK)->kE l->List In
 | [],_=>[]
 | .v _ _ :: r,x=>nP r x.2
 | .p t g _ :: r,x=>.blk (enc t g x.1) :: nP r x.2
 | .s t g :: r,x=>.sl (.sl t (g+2) false x.1) :: nP r x.2
def jK:(l:List PK)->Nat->kE l->List Ar
 | [],_,_=>[]
 | .v b t :: r,i,x=>.pt (b,enc t 0 x.1) :: jK r i x.2
 | .p _ _ off :: r,i,x=>.mut i off :: jK r (i+1) x.2
 | .s _ _ :: r,i,x=>.mut i 0 :: jK r (i+1) x.2
structure gN where
 ps:List PK
 ro:List (Bool×TC×Nat)
 F:kE ps->Option (jI ro×si (dQ ps))
def kF(P:Program)(f:Nat)(c:gN):Prop:=
 ∀ x y,c.F x=some y->∀ (nm:Nat->Nat) (w:World) (lab:aQ) (ρ:Nat->Loc) (aT:Array Value),lP w w.heap.size lab ρ 0 (nP c.ps x)->(∀ b k,lab b=some k->b<w.heap.size/\k≠[])->
     aT.size=c.ps.length->(∀ i,RA w w.heap.size lab ρ ((qv (nP c.ps x) (jK c.ps 0 x)).t i) (aT.getD i undef))->∀ hQ:Hd w lab,
     Calls P f aT w fun e w'=>∃ v aj,e = .returned v/\gv ⟨w,lab,fun _=>none,hQ,fun _ _=>rfl⟩ w w'/\(∀ b k,aj b=some k->(w.heap.size<=b\/lab b≠none)/\b<w'.heap.size/\k≠[])/\mP w' w.heap.size aj nm (dK c.ro y.1) v/\Bt w w' aj ρ nm 0 (dK c.ro y.1).len (nP c.ps x) (fZ (dQ c.ps) y.2)
end Go.Proofs.YtmffpkippmkjbaaGreatDoor
namespace Go.Proofs.YtmffpkippmkjbaaGreatDoor
open Go.RowKit
set_option linter.unusedVariables false
def Bv(w:World)(ρ:Nat->Loc):Nat->List In->Prop
 | _,[]=>True
 | i,.blk cs :: r=>(∃ b off cells e,ρ (nF i) = .blk b off/\w.heap[b]?=some (.cells cells e (0,0))/\∀ (j:Nat) x,cs[j]?=some x->x.plain=false->x.ah=true->∃ u,cells[off+j]?=some u/\ρ (20001+1000*i+j) = .cS u)/\Bv w ρ (i+1) r
 | i,.sl y :: r=>(∃ v,ρ (nF i) = .cS v)/\Bv w ρ (i+1) r
section
variable {P:Program} {w w':World} {w0:Wd} {B N:Nat} {lab aj:aQ} {ρ ρ':Nat->Loc} {σ:S} {a:Act} {X:Type} {d:Nat} {r:X} {rs:List (Nat×Nat)} {nm:Nat->Nat}
theorem KH{m:Nat->Option ax}{i pos:Nat}:∀ (xs:List V) (ls:List Lf) (j0:Nat) (ys:List V) (ir:List (Nat×Nat)),vR m i pos j0 xs ls=some (ys,ir)->ys.length=xs.length/\ls.length=xs.length/\
  ∀ (j:Nat) y,ys[j]?=some y->∃ l x0,ls[j]?=some l/\xs[j]?=some x0/\((l = .v y/\y.plain=true)\/(l = .v .nil/\y = .nil/\x0.ah=false)\/(l = .own [20001+1000*i+(j0+j)]/\y=x0/\y.plain=false/\(y.ah&&y.mI)=true/\20001+1000*i+(j0+j)<60000)\/(∃ q,l = .own [q]/\m q=some (.sl y)/\y.ah=false/\(q,pos+1+(j0+j))∈ir))
 | [],[],j0,ys,ir,h=>by
  simp only[vR,Option.some.injEq,Prod.mk.injEq]at h
  obtain⟨rfl,rfl⟩:=h
  exact⟨rfl,rfl,fun j y hy=>by simp at hy⟩
 | [],_ :: _,j0,ys,ir,h=>by simp[vR]at h
 | _ :: _,[],j0,ys,ir,h=>by simp[vR]at h
 | x0 :: xs,l :: ls,j0,ys,ir,h=>by
  have hc:∀ y z,KG m i j0 x0 l=some (y,z)->(z=none/\l = .v y/\y.plain=true)\/(z=none/\l = .v .nil/\y = .nil/\x0.ah=false)\/(z=none/\l = .own [20001+1000*i+j0]/\y=x0/\y.plain=false/\(y.ah&&y.mI)=true/\20001+1000*i+j0<60000)\/(∃ q,z=some q/\l = .own [q]/\m q=some (.sl y)/\y.ah=false):=by
   intro y z hz
   unfold KG at hz
   split at hz
   ·rename_i x
    cases hp:x.plain with
    | false=>
     rw[hp,cond_false]at hz
     cases hb:(!x.mI && !x0.ah)with
     | false=>rw[hb]at hz;cases hz
     | true=>
      rw[hb,cond_true]at hz
      simp only[Option.some.injEq,Prod.mk.injEq]at hz
      obtain⟨rfl,rfl⟩:=hz
      rw[Bool.and_eq_true,Bool.not_eq_true',Bool.not_eq_true']at hb
      have hx:x = .nil:=by
       cases x <;>first | rfl | (exact absurd hb.1 (by simp[V.mI]))
      subst hx
      exact .inr (.inl ⟨rfl,rfl,rfl,hb.2⟩)
    | true=>
     rw[hp,cond_true]at hz
     simp only[Option.some.injEq,Prod.mk.injEq]at hz
     obtain⟨rfl,rfl⟩:=hz
     exact .inl ⟨rfl,rfl,hp⟩
   ·rename_i q
    split at hz
    ·rename_i y1 hy1
     cases hf:y1.ah with
     | true=>
      rw[hf,cond_true]at hz
      cases hb:(!x0.plain&&(x0.ah&&x0.mI)&&Nat.beq q (20001+1000*i+j0)&&Nat.blt q 60000)with
      | false=>rw[hb]at hz;cases hz
      | true=>
       rw[hb,cond_true]at hz
       simp only[Option.some.injEq,Prod.mk.injEq]at hz
       obtain⟨rfl,rfl⟩:=hz
       rw[Bool.and_eq_true,Bool.and_eq_true,Bool.and_eq_true,Bool.not_eq_true']at hb
       obtain⟨⟨⟨b1,b2⟩,b3⟩,b4⟩:=hb
       obtain rfl:=Nat.eq_of_beq_eq_true b3
       exact .inr (.inr (.inl ⟨rfl,rfl,rfl,b1,b2,by have:=Nat.le_of_ble_eq_true b4;omega⟩))
     | false=>
      rw[hf,cond_false]at hz
      cases hl:y1.loc with
      | false=>rw[hl]at hz;cases hz
      | true=>
       rw[hl,cond_true]at hz
       simp only[Option.some.injEq,Prod.mk.injEq]at hz
       obtain⟨rfl,rfl⟩:=hz
       exact .inr (.inr (.inr ⟨q,rfl,rfl,hy1,hf⟩))
    ·cases hz
   ·cases hz
  unfold vR at h
  split at h
  ·rename_i y vQ lN hy iV
   simp only[Option.some.injEq,Prod.mk.injEq]at h
   obtain⟨rfl,rfl⟩:=h
   obtain⟨h1,h2,h3⟩:=KH xs ls (j0+1) vQ lN iV
   refine⟨by simp[h1],by simp[h2],fun j y' dH=>?_⟩
   cases j with
   | zero=>
    simp at dH
    subst dH
    refine⟨l,x0,rfl,rfl,?_⟩
    rcases hc y none hy with ⟨_,e1,e2⟩ | ⟨_,e1,e2,e3⟩ | ⟨_,e1,e2,e3,e4,e5⟩ | ⟨q,hq,_⟩
    ·exact .inl ⟨e1,e2⟩
    ·exact .inr (.inl ⟨e1,e2,e3⟩)
    ·exact .inr (.inr (.inl ⟨e1,e2,e3,e4,e5⟩))
    ·cases hq
   | succ j=>
    obtain⟨l',x',g1,g2,g3⟩:=h3 j y' (by simpa using dH)
    rw[show j0+1+j=j0+(j+1) by omega]at g3
    exact⟨l',x',by simpa using g1,by simpa using g2,g3⟩
  ·rename_i y q vQ lN hy iV
   simp only[Option.some.injEq,Prod.mk.injEq]at h
   obtain⟨rfl,rfl⟩:=h
   obtain⟨h1,h2,h3⟩:=KH xs ls (j0+1) vQ lN iV
   refine⟨by simp[h1],by simp[h2],fun j y' dH=>?_⟩
   cases j with
   | zero=>
    simp at dH
    subst dH
    refine⟨l,x0,rfl,rfl,?_⟩
    rcases hc y (some q) hy with ⟨e0,_⟩ | ⟨e0,_⟩ | ⟨e0,_⟩ | ⟨q',hq,e1,e2,e3⟩
    ·cases e0
    ·cases e0
    ·cases e0
    ·injection hq with hq
     subst hq
     exact .inr (.inr (.inr ⟨q,e1,e2,e3,.head _⟩))
   | succ j=>
    obtain⟨l',x',g1,g2,g3⟩:=h3 j y' (by simpa using dH)
    rw[show j0+1+j=j0+(j+1) by omega]at g3
    exact⟨l',x',by simpa using g1,by simpa using g2,g3.imp id (fun g=>g.imp id (fun g=>g.imp id fun⟨q',e1,e2,e3,e4⟩=>⟨q',e1,e2,e3,.tail _ e4⟩))⟩
  ·cases h
theorem KI{w1:World}{qw:Nat->Loc}{m:Nat->Option ax}(sj:∀ r,20000<=r->r<60000->ρ r=qw r)(hm:∀ r x,m r=some x->cX w w1.heap.size lab ρ r x):
  ∀ (ins:List In) (i pos:Nat) (outs:List In) (ir:List (Nat×Nat)),vS m i pos ins=some (outs,ir)->(∀ p∈ir,rs.lookup p.1=some p.2)->Bv w1 qw i ins->nO w1 w (dD lab rs nm) qw nm i pos ins outs
 | [],i,pos,outs,ir,h,dY,he=>by
  simp only[vS,Option.some.injEq,Prod.mk.injEq]at h
  obtain⟨rfl,rfl⟩:=h
  trivial
 | .blk cs :: r,i,pos,outs,ir,h,dY,he=>by
  unfold vS at h
  cases hi:Nat.blt (nF i) 60000 with
  | false=>rw[hi]at h;cases h
  | true=>
   rw[hi,cond_true]at h
   have hi:=Nat.le_of_ble_eq_true hi
   split at h
   ·rename_i ls Bm
    split at h
    ·rename_i cz rs1 os Br h1 h2
     simp only[Option.some.injEq,Prod.mk.injEq]at h
     obtain⟨rfl,rfl⟩:=h
     obtain⟨⟨b,off,cells,e,QC,hh0,sk⟩,vT⟩:=he
     obtain⟨k1,k2,k3⟩:=KH _ _ _ _ _ h1
     refine⟨?_,KI sj hm r (i+1) _ os Br h2 (fun p hp=>dY p (.tail _ (List.mem_append_right _ hp))) vT⟩
     have bZ:=hm _ _ Bm
     have KJ:=sj (nF i) (by unfold nF;omega) (by omega)
     generalize hx:ax.blk ls=x at bZ
     cases bZ with
     | sl=>cases hx
     | mp=>cases hx
     | gh=>cases hx
     | blk b' mj kD e' ls' us av hl hh hs hc=>
      injection hx with hx
      subst hx
      rw[KJ,QC]at av
      injection av with e1 e2
      subst e1 e2
      refine⟨b,off,cells,kD,e,e',QC,hh0,hh,?_,by rw[k1,<-k2];exact hs,k1,fun j y hy=>?_⟩
      ·have:=dY _ (List.Mem.head _)
       simp[dD,hl,this]
      ·obtain⟨l,x0,g1,g2,g3⟩:=k3 j y hy
       obtain⟨c1,c2⟩:=hc j l g1
       refine⟨_,c1,?_⟩
       rw[Nat.zero_add]at g3
       rcases g3 with ⟨rfl,hp⟩ | ⟨rfl,rfl,hf0⟩ | ⟨rfl,rfl,hp,kX,bU⟩ | ⟨q,rfl,hq,hf,qu⟩
       ·exact .inl ⟨hp,fun _ _ _ _=>c2.2.tV hp⟩
       ·exact .inr (.inl ⟨rfl,by have h9:=c2.2;generalize us j=u9 at h9 ⊢;cases h9;rfl,x0,g2,hf0⟩)
       ·rw[Bool.and_eq_true]at kX
        obtain⟨hf,hs0⟩:=kX
        obtain⟨u,hu,acA⟩:=sk j y g2 hp hf
        refine .inr (.inr (.inl ⟨hp,hf,hs0,⟨y,g2,.same _⟩,?_⟩))
        have h3:=c2.2
        have KL:=sj (20001+1000*i+j) (by omega) bU
        simp only[bC,KL,acA]at h3
        injection h3 with h3
        rw[<-h3]
        exact hu
       ·refine .inr (.inr (.inr ⟨hf,?_⟩))
        have bZ:=hm _ _ hq
        generalize hx:ax.sl y=x at bZ
        cases bZ with
        | blk=>cases hx
        | mp=>cases hx
        | gh=>cases hx
        | sl v y' av hr=>
         injection hx with hx
         subst hx
         have h3:=c2.2
         simp only[bC,av]at h3
         injection h3 with h3
         rw[<-h3]
         exact RV.dD (p:=[]) hr (dY _ (.tail _ (List.mem_append_left _ qu)))
    ·cases h
   ·cases h
 | .sl y :: r,i,pos,outs,ir,h,dY,he=>by
  unfold vS at h
  cases hi:Nat.blt (nF i) 60000 with
  | false=>rw[hi]at h;cases h
  | true=>
   rw[hi,cond_true]at h
   have hi:=Nat.le_of_ble_eq_true hi
   split at h
   ·rename_i y' dH
    cases hl:(y'.loc && !y'.ah)with
    | false=>rw[hl]at h;cases h
    | true=>
     rw[hl,cond_true]at h
     split at h
     ·rename_i os Br h2
      simp only[Option.some.injEq,Prod.mk.injEq]at h
      obtain⟨rfl,rfl⟩:=h
      obtain⟨⟨v,hv⟩,vT⟩:=he
      refine⟨⟨v,hv,?_⟩,KI sj hm r (i+1) _ os Br h2 (fun p hp=>dY p (.tail _ hp)) vT⟩
      have KJ:=sj (nF i) (by unfold nF;omega) (by omega)
      have bZ:=hm _ _ dH
      generalize hx:ax.sl y'=x at bZ
      cases bZ with
      | blk=>cases hx
      | mp=>cases hx
      | gh=>cases hx
      | sl v' y'' av hr=>
       injection hx with hx
       subst hx
       rw[KJ,hv]at av
       injection av with av
       subst av
       exact RV.dD (p:=[]) hr (dY _ (.head _))
     ·cases h
   ·cases h
theorem acB{w1:World}{qw:Nat->Loc}{fn:Func}{ins:List In}{k:List In->eM->Option X}(hw:w0.w=w1)(hF:∀ r,20000<=r->r<60000->w0.F r=some (qw r))(he:Bv w1 qw 0 ins)(h:Bu P σ fn.results ins k=some r):
  ∃ outs res,k outs res=some r/\∀ lab ρ a w,Rl w0 N lab ρ σ a w->∀ nm,∃ v aj,(results fn a.tmps).run P w = .ok v w/\(∀ b k,aj b=some k->(w0.heap.size<=b\/w0.L b≠none)/\b<w.heap.size/\k≠[])/\mP w w0.heap.size aj nm res v/\nO w1 w aj qw nm 0 res.len ins outs:=by
 unfold Bu at h
 obtain⟨ps,h2,fq⟩:=Bs (w0:=w0) (N:=N) _ _ h
 clear h
 split at h2
 ·rename_i qs KM KE
  split at h2
  ·rename_i os KN hos
   cases ho:once (KM++KN)with
   | false=>rw[ho]at h2;cases h2
   | true=>
    rw[ho,cond_true]at h2
    generalize QD:KM++KN=rs at ho
    have dY:∀ p∈rs,rs.lookup p.1=some p.2:=by
     intro p hp
     have:=List.all_eq_true.1 ho p hp
     obtain⟨n,hn,he⟩:=(Option.any_eq_true _ _).1 this
     rw[hn,Nat.eq_of_beq_eq_true he]
    have core:∀ lab ρ a w,Rl w0 N lab ρ σ a w->∀ nm:Nat->Nat,∃ vs:List Value,(fn.results.mapM (nM a.tmps)).run P w = .ok vs.toArray w/\(∀ b k,dD lab rs nm b=some k->(w0.heap.size<=b\/w0.L b≠none)/\b<w.heap.size/\k≠[])/\gM w w0.heap.size (dD lab rs nm) nm 0 qs vs/\
      nO w1 w (dD lab rs nm) qw nm 0 (qs.map fun p=>p.2.length).sum ins os:=by
     intro lab ρ a w hR nm
     obtain⟨vs,aL,hl,hv⟩:=fq lab ρ a w hR
     refine⟨vs,?_,fun b k hk=>?_,KD hR.root ps 0 qs KM vs KE (fun p hp=>dY p (by rw[<-QD];exact List.mem_append_left _ hp)) hl hv,
      KI (fun r h1 h2=>hR.fix r _ (hF r h1 h2)) (by rw[<-hw];exact hR.root) ins 0 _ os KN hos (fun p hp=>dY p (by rw[<-QD];exact List.mem_append_right _ hp)) he⟩
     ·rw[Array.mapM_eq_mapM_toList]
      simp[aL]
     ·unfold dD at hk
      split at hk
      ·cases hk
      ·rename_i k' dm
       have:=hR.bV b k' dm
       split at hk
       ·cases hk
       ·cases o9:rs.lookup _ with
        | none=>rw[o9]at hk;cases hk
        | some n=>
         rw[o9]at hk
         injection hk with hk
         subst hk
         exact⟨this.1,this.2.1,by simp⟩
    have eX:∀ (tmps:Array Value),results fn tmps=(do let vs <-fn.results.mapM (nM tmps);pure (if h:vs.size=1 then vs[0]else .tuple vs)):=fun tmps=>by
     unfold results
     congr 1
    split at h2
    ·rename_i p
     refine⟨_,_,h2,fun lab ρ a w hR nm=>?_⟩
     obtain⟨vs,aL,ij,aA,hO⟩:=core lab ρ a w hR nm
     have hO:nO w1 w (dD lab rs nm) qw nm 0 (eM.one p).len ins os:=by simpa [eM.len]using hO
     match vs,aA with
     | [v],aA=>exact⟨v,_,by rw[eX,Sem.run_bind,aL];rfl,ij,aA,hO⟩
     | [],aA=>exact aA.elim
     | _ :: _ :: _,aA=>exact aA.2.elim
    ·rename_i aK
     refine⟨_,_,h2,fun lab ρ a w hR nm=>?_⟩
     obtain⟨vs,aL,ij,aA,hO⟩:=core lab ρ a w hR nm
     have hsz:vs.toArray.size≠1:=by
      intro e
      clear hO
      have e:vs.length=1:=by simpa using e
      match qs,vs,aA,aK,e with
      | [q],[v],_,aK,_=>exact aK q rfl
      | [],[v],aA,_,_=>exact aA.elim
      | _ :: _ :: _,[v],aA,_,_=>exact aA.2.elim
     refine⟨.tuple vs.toArray,_,?_,ij,⟨vs.toArray,rfl,aA⟩,hO⟩
     rw[eX,Sem.run_bind,aL,Result.andThen_ok]
     simp only[hsz,dif_neg,not_false_eq_true,Sem.run_pure]
  ·cases h2
 ·cases h2
theorem QE{i:Nat}:∀ (cs:List V) (j0:Nat) (m:Nat->Option ax) (r:Nat) (x:ax),Ff i j0 cs m r=some x->m r=some x\/∃ j y,cs[j]?=some y/\y.plain=false/\r=nC i (j0+j) y/\x = .sl y
 | [],j0,m,r,x,h=>.inl h
 | c :: cs,j0,m,r,x,h=>by
  unfold Ff at h
  rcases QE cs (j0+1) _ r x h with h1 | ⟨j,y,h1,h2,h3,h4⟩
  ·cases hp:c.plain with
   | true=>rw[hp]at h1;exact .inl h1
   | false=>
    rw[hp,cond_false]at h1
    by_cases hr:r=nC i j0 c
    ·subst hr
     rw[aZ]at h1
     injection h1 with h1
     exact .inr ⟨0,c,rfl,hp,rfl,h1.symm⟩
    ·rw[bB _ _ _ hr]at h1
     exact .inl h1
  ·exact .inr ⟨j+1,y,by simpa using h1,h2,by rw[h3];congr 1;omega,h4⟩
theorem lP.roots:∀ (ins:List In) (i:Nat) (m:Nat->Option ax),lP w B lab ρ i ins->(∀ r x,m r=some x->cX w B lab ρ r x)->∀ r x,Fg i ins m r=some x->cX w B lab ρ r x
 | [],i,m,_,hm,r,x,h=>hm r x h
 | .blk cs :: ins,i,m,he,hm,r,x,h=>by
  obtain⟨h1,h2,h3⟩:=he
  refine lP.roots ins (i+1) _ h3 (fun r x hx=>?_) r x h
  rcases QE cs 0 _ r x hx with h4 | ⟨j,y,g1,g2,g3,g4⟩
  ·by_cases hr:r=nF i
   ·subst hr
    rw[aZ]at h4
    injection h4 with h4
    subst h4
    exact h1
   ·rw[bB _ _ _ hr]at h4
    exact hm r x h4
  ·rw[Nat.zero_add]at g3
   subst g3 g4
   exact h2 j y g1 g2
 | .sl y :: ins,i,m,he,hm,r,x,h=>by
  obtain⟨h1,h3⟩:=he
  refine lP.roots ins (i+1) _ h3 (fun r x hx=>?_) r x h
  by_cases hr:r=nF i
  ·subst hr
   rw[aZ]at hx
   injection hx with hx
   subst hx
   exact h1
  ·rw[bB _ _ _ hr]at hx
   exact hm r x hx
theorem KO{i:Nat}:∀ (cs:List V) (j0 j:Nat) x,cs[j]?=some x->(ur i j0 cs)[j]?=some (uq i (j0+j) x)
 | [],j0,j,x,h=>by simp at h
 | c :: cs,j0,0,x,h=>by simp at h;subst h;rfl
 | c :: cs,j0,j+1,x,h=>by
  simp only[ur,List.getElem?_cons_succ]
  rw[KO cs (j0+1) j x (by simpa using h)]
  congr 2
  omega
theorem lP.uv:∀ (ins:List In) (i:Nat),lP w B lab ρ i ins->Bv w ρ i ins
 | [],_,_=>trivial
 | .blk cs :: ins,i,he=>by
  obtain⟨h1,_,h3⟩:=he
  refine⟨?_,lP.uv ins (i+1) h3⟩
  generalize hx:ax.blk (ur i 0 cs)=x at h1
  cases h1 with
  | sl=>cases hx
  | mp=>cases hx
  | gh=>cases hx
  | blk b off cells e ls us av hl hh hs hc=>
   injection hx with hx
   subst hx
   refine⟨b,off,cells,e,av,hh,fun j x hj hp hf=>?_⟩
   obtain⟨c1,c2⟩:=hc j _ (KO cs 0 j x hj)
   rw[Nat.zero_add]at c2
   refine⟨_,c1,?_⟩
   have e1:uq i j x = .own [20001+1000*i+j]:=by simp[uq,hp,nC,hf]
   rw[e1]at c2
   have h4:=c2.2
   simp only[bC]at h4
   split at h4
   ·rename_i v hv
    injection h4 with h4
    rw[<-h4]
    exact hv
   ·cases h4
 | .sl y :: ins,i,he=>by
  obtain⟨h1,h3⟩:=he
  refine⟨?_,lP.uv ins (i+1) h3⟩
  cases h1 with
  | sl v y' av hr=>exact⟨v,av⟩
end
end Go.Proofs.YtmffpkippmkjbaaGreatDoor
namespace Go.Proofs.YtmffpkippmkjbaaGreatDoor
open Go.RowKit
set_option linter.unusedVariables false
def bg(n:Nat):List Nat->Bool
 | []=>false
 | m :: l=>Nat.beq n m || bg n l
theorem pg{n:Nat}:∀ {l:List Nat},bg n l=true ↔ n∈l
 | []=>by simp[bg]
 | m :: l=>by
  simp only[bg,Bool.or_eq_true,List.mem_cons,pg (l:=l)]
  constructor
  ·rintro(h | h)
   ·exact .inl (Nat.eq_of_beq_eq_true h)
   ·exact .inr h
  ·rintro(h | h)
   ·left;subst h;exact Nat.beq_refl n
   ·exact .inr h
theorem QF{n:Nat}{l:List Nat}(h:bg n l=false):n ∉ l:=fun k=>by rw[pg.2 k]at h;cases h
def bG(k:List Nat)(l:List Nat):Bool:=match k.getLast? with
 | some r=>bg r l
 | none=>false
def Lf.aP(ns cn:List Nat):Lf->Lf
 | .own k=>bif bG k cn || (bG k ns && !(Nat.beq k.length 1))then .dead else .own k
 | x=>x
def A.aP(ns cn:List Nat):A->A
 | .lf x=>.lf (x.aP ns cn)
 | .agg cs=>.agg (cs.map (Lf.aP ns cn))
 | .bJ xs=>.bJ (xs.map fun p=>(p.1,p.2.map (Lf.aP ns cn)))
 | .ptr k=>bif bG k cn || bG k ns then .undef else .ptr k
 | .az r j=>bif bg r cn then .undef else .az r j
 | .pk r n=>bif bg r cn then .undef else .pk r n
 | .view k s i j=>bif bG k cn || bG k ns then .undef else .view k s i j
 | .fn f cap=>bif cap.any (fun p=>bg p.1 cn)then .undef else .fn f cap
 | x=>x
def ax.aP(ns cn:List Nat):ax->ax
 | .blk cs=>.blk (cs.map (Lf.aP ns cn))
 | .gh xs=>.gh (xs.map (A.aP ns cn))
 | x=>x
def S.aP(σ:S)(ns cn:List Nat)(nr:List (Nat×ax)):S:=⟨fun k=>(σ.t k).aP ns cn,fun r=>match nr.lookup r with
 | some x=>some x
 | none=>bif bg r ns || bg r cn then none else (σ.m r).map (ax.aP ns cn)⟩
structure nQ (w w':World) (lab cI:aQ) (ρ dI:Nat->Loc) (ns cn:List Nat):Prop where
 size:w.heap.size<=w'.heap.size
 same:∀ b,b<w.heap.size->(∀ k,lab b=some k->bG k ns=false)->w'.heap[b]?=w.heap[b]?/\cI b=lab b
 dj:∀ r,bg r cn=false->dI r=ρ r
 lab:∀ b k,lab b=some k->b<w.heap.size/\k≠[]
section
variable {P:Program} {w w':World} {w0:Wd} {B N:Nat} {lab cI aj:aQ} {ρ dI:Nat->Loc} {σ:S} {a:Act} {X:Type} {d:Nat} {r:X} {ns cn:List Nat}
theorem vU{j i s:Nat}{q:List Nat}{l:List Nat}(h:q≠[]):bG (j :: i :: s :: q) l=bG q l:=by
 cases q with
 | nil=>exact absurd rfl h
 | cons x q=>simp[bG,List.getLast?_cons_cons]
theorem RV.gD(hv:nQ w w' lab cI ρ dI ns cn){q:List Nat}{x:V}{v:Value}(h:RV w B lab q x v)(hq:bG q ns=false\/x.ah=true):RV w' B cI q x v:=by
 induction h with
 | int=>exact .int _ _ _
 | bool=>exact .bool _ _
 | str=>exact .str _ _
 | nil=>exact .nil _
 | bO=>exact .bO _ _ _
 | bY=>exact .bY _ _ _ _ _ (by first | assumption | omega)
 | cy=>exact .cy _ _ _ _ _ (by first | assumption | omega)
 | ah q t o qn l b off cap u ho hl hb h1 hcap hc hr ih=>
  obtain⟨e1,e2⟩:=hv.same b hb (fun k hk=>by rw[hl]at hk;cases hk)
  exact .ah _ _ _ _ _ _ _ _ u ho (e2.trans hl) (Nat.lt_of_lt_of_le hb hv.size) h1 hcap (fun i h j x hx=>(World.cell?_of_block (a:=⟨b,_,none⟩) e1).trans (hc i h j x hx)) (fun i h j x hx=>ih i h j x hx (.inr (hG t o l[i] ho j x hx)))
 | own q t o qn l b cap cs u hl hh hs hn hm hc hr ih=>
  have jh:bG q ns=false:=by
   rcases hq with hq | hq
   ·exact hq
   ·simp[V.ah]at hq;omega
  have aK:q≠[]:=(hv.lab b q hl).2
  obtain⟨e1,e2⟩:=hv.same b (hv.lab b q hl).1 (fun k hk=>by rw[hl]at hk;injection hk with hk;subst hk;exact jh)
  exact .own _ _ _ _ _ _ _ cs u (e2.trans hl) (e1.trans hh) hs hn hm hc (fun i h j x hx=>ih i h j x hx (.inl (by rw[vU aK];exact jh)))
theorem KP(hv:nQ w w' lab cI ρ dI ns cn):∀ (k:List Nat) (ad:Addr),bG k ns=false->bG k cn=false->addrAt w lab ρ k=some ad->addrAt w' cI dI k=some ad
 | [],_,_,_,h=>by simp[addrAt]at h
 | [_],_,_,_,h=>by simp[addrAt]at h
 | [_,_],_,_,_,h=>by simp[addrAt]at h
 | [_,_,_],_,_,_,h=>by simp[addrAt]at h
 | [j,i,s,r],_,h1,h2,h=>by
  have h1:bG [r] ns=false:=by rwa [vU (by simp)]at h1
  have h2:bg r cn=false:=by rw[vU (by simp)]at h2;exact h2
  simp only[addrAt]at h ⊢
  rw[hv.dj r h2]
  split at h
  ·rename_i v b n c hr
   split at h
   ·rename_i hl
    obtain⟨_,e2⟩:=hv.same b (hv.lab b _ hl).1 (fun k hk=>by rw[hl]at hk;injection hk with hk;subst hk;exact h1)
    rw[if_pos (e2.trans hl)]
    exact h
   ·cases h
  ·cases h
 | j :: i :: s :: x :: y :: q,ad,h1,h2,h=>by
  rw[vU (by simp)]at h1 h2
  simp only[addrAt]at h ⊢
  cases ha:addrAt w lab ρ (x :: y :: q)with
  | none=>rw[ha]at h;cases h
  | some lH=>
   rw[KP hv _ _ h1 h2 ha]
   rw[ha]at h
   cases hc:w.cell? lH with
   | none=>simp[hc]at h
   | some v=>
    obtain⟨j',i',s',q',hk,eB,_,_⟩:=tU _ _ ha
    have aK:q'≠[]:=(hv.lab _ _ eB).2
    have jh:bG q' ns=false:=by
     rw[hk,vU aK]at h1
     exact h1
    obtain⟨e1,_⟩:=hv.same lH.block (hv.lab _ _ eB).1 (fun k hk=>by rw[eB]at hk;injection hk with hk;subst hk;exact jh)
    have e:w'.cell? lH=some v:=(World.cell?_of_block e1).trans hc
    simp only[Option.bind_some,hc]at h
    simp only[Option.bind_some,e]
    split at h
    ·split at h
     ·rename_i hl
      obtain⟨_,e2⟩:=hv.same _ (hv.lab _ _ hl).1 (fun k hk=>by rw[hl]at hk;injection hk with hk;subst hk;exact h1)
      rw[if_pos (e2.trans hl)]
      exact h
     ·cases h
    ·cases h
theorem QG(hv:nQ w w' lab cI ρ dI ns cn)(k:List Nat)(u:Value)(h1:k.length=1\/bG k ns=false)(h2:bG k cn=false)(h:bC w lab ρ k=some u):bC w' cI dI k=some u:=by
 match k,h1,h2,h with
 | [],_,_,h=>simp[bC,addrAt]at h
 | [r],_,h2,h=>
  simp only[bC]at h ⊢
  rw[hv.dj r h2]
  exact h
 | x :: y :: q,h1,h2,h=>
  have h1:bG (x :: y :: q) ns=false:=by
   rcases h1 with h1 | h1
   ·simp at h1
   ·exact h1
  simp only[bC]at h ⊢
  cases ha:addrAt w lab ρ (x :: y :: q)with
  | none=>rw[ha]at h;cases h
  | some ad=>
   rw[KP hv _ _ h1 h2 ha]
   rw[ha]at h
   have h:w.cell? ad=some u:=h
   obtain⟨j',i',s',q',hk,eB,_,_⟩:=tU _ _ ha
   have aK:q'≠[]:=(hv.lab _ _ eB).2
   rw[hk,vU aK]at h1
   obtain⟨e1,_⟩:=hv.same ad.block (hv.lab _ _ eB).1 (fun k hk=>by rw[eB]at hk;injection hk with hk;subst hk;exact h1)
   exact(World.cell?_of_block e1).trans h
theorem cg.gD(hv:nQ w w' lab cI ρ dI ns cn){x:Lf}{u:Value}(h:cg w B lab ρ x u):cg w' B cI dI (x.aP ns cn) u:=by
 cases x with
 | v x=>exact⟨h.1,h.2.gD hv (.inr h.1)⟩
 | dead=>trivial
 | own k=>
  have e:Lf.aP ns cn (.own k)=(bif bG k cn || (bG k ns && !(Nat.beq k.length 1))then .dead else .own k):=rfl
  rw[e]
  cases hb:(bG k cn || (bG k ns && !(Nat.beq k.length 1)))with
  | true=>trivial
  | false=>
   rw[Bool.or_eq_false_iff]at hb
   refine⟨h.1,QG hv k u ?_ hb.1 h.2⟩
   have hb:=hb.2
   cases hn:bG k ns with
   | false=>exact .inr rfl
   | true=>
    rw[hn,Bool.true_and,Bool.not_eq_false']at hb
    exact .inl (Nat.eq_of_beq_eq_true hb)
theorem cG.gD(hv:nQ w w' lab cI ρ dI ns cn){cs:List Lf}{us:Array Value}(h:cG w B lab ρ cs us):cG w' B cI dI (cs.map (Lf.aP ns cn)) us:=by
 refine⟨by rw[List.length_map];exact h.1,fun j x hx=>?_⟩
 rw[List.getElem?_map]at hx
 cases hy:cs[j]? with
 | none=>rw[hy]at hx;cases hx
 | some y=>
  rw[hy]at hx
  injection hx with hx
  subst hx
  obtain⟨u,hu,r⟩:=h.2 j y hy
  exact⟨u,hu,r.gD hv⟩
theorem RP.gD(hv:nQ w w' lab cI ρ dI ns cn){p:Bool×List Lf}{u:Value}(h:RP w B lab ρ p u):RP w' B cI dI (p.1,p.2.map (Lf.aP ns cn)) u:=by
 obtain⟨b,cs⟩:=p
 cases b with
 | true=>obtain⟨us,e,h⟩:=h;exact⟨us,e,h.gD hv⟩
 | false=>exact cG.gD hv h
theorem RA.gD(hv:nQ w w' lab cI ρ dI ns cn){x:A}{u:Value}(h:RA w B lab ρ x u):RA w' B cI dI (x.aP ns cn) u:=by
 cases x with
 | undef=>trivial
 | skip=>exact h
 | lf x=>exact cg.gD hv h
 | agg cs=>exact RP.gD hv (p:=(true,cs)) h
 | bJ xs=>
  obtain⟨us,e,hs,h⟩:=h
  refine⟨us,e,by rw[List.length_map];exact hs,fun j p hp=>?_⟩
  rw[List.getElem?_map]at hp
  cases hy:xs[j]? with
  | none=>rw[hy]at hp;cases hp
  | some y=>
   rw[hy]at hp
   injection hp with hp
   subst hp
   obtain⟨v,dh,r⟩:=h j y hy
   exact⟨v,dh,r.gD hv⟩
 | ptr k=>
  have e:A.aP ns cn (.ptr k)=(bif bG k cn || bG k ns then .undef else .ptr k):=rfl
  rw[e]
  cases hb:(bG k cn || bG k ns)with
  | true=>trivial
  | false=>
   rw[Bool.or_eq_false_iff]at hb
   obtain⟨ad,e,h⟩:=h
   exact⟨ad,e,KP hv k ad hb.2 hb.1 h⟩
 | view k s i j=>
  have e:A.aP ns cn (.view k s i j)=(bif bG k cn || bG k ns then .undef else .view k s i j):=rfl
  rw[e]
  cases hb:(bG k cn || bG k ns)with
  | true=>trivial
  | false=>
   rw[Bool.or_eq_false_iff]at hb
   obtain⟨A,n,c,h,g⟩:=h
   exact⟨A,n,c,QG hv k _ (.inr hb.2) hb.1 h,g⟩
 | pk r n=>
  have e:A.aP ns cn (.pk r n)=(bif bg r cn then .undef else .pk r n):=rfl
  rw[e]
  cases hb:bg r cn with
  | true=>trivial
  | false=>
   obtain⟨b,e,h⟩:=h
   exact⟨b,(hv.dj r hb).trans e,h⟩
 | az r j=>
  have e:A.aP ns cn (.az r j)=(bif bg r cn then .undef else .az r j):=rfl
  rw[e]
  cases hb:bg r cn with
  | true=>trivial
  | false=>
   obtain⟨b,off,e,h⟩:=h
   exact⟨b,off,(hv.dj r hb).trans e,h⟩
 | fL cs=>
  obtain⟨b,off,e,hb,hl,h⟩:=h
  obtain⟨e1,e2⟩:=hv.same b hb (fun k hk=>by rw[hl]at hk;cases hk)
  refine⟨b,off,e,Nat.lt_of_lt_of_le hb hv.size,e2.trans hl,fun j x hx=>?_⟩
  obtain⟨hf,v,dh,hr⟩:=h j x hx
  exact⟨hf,v,(World.cell?_of_block (a:=⟨b,_,none⟩) e1).trans dh,hr.gD hv (.inr hf)⟩
 | jD f cs=>
  obtain⟨pv,e0,h⟩:=h
  refine⟨pv,e0,?_⟩
  obtain⟨b,off,e,hb,hl,h⟩:=h
  obtain⟨e1,e2⟩:=hv.same b hb (fun k hk=>by rw[hl]at hk;cases hk)
  refine⟨b,off,e,Nat.lt_of_lt_of_le hb hv.size,e2.trans hl,fun j x hx=>?_⟩
  obtain⟨hf,v,dh,hr⟩:=h j x hx
  exact⟨hf,v,(World.cell?_of_block (a:=⟨b,_,none⟩) e1).trans dh,hr.gD hv (.inr hf)⟩
 | fn f cap=>
  have e:A.aP ns cn (.fn f cap)=(bif cap.any (fun p=>bg p.1 cn)then .undef else .fn f cap):=rfl
  rw[e]
  cases hb:cap.any (fun p=>bg p.1 cn)with
  | true=>trivial
  | false=>
   obtain⟨vs,e,hs,h⟩:=h
   refine⟨vs,e,hs,fun j p hp=>?_⟩
   obtain⟨b,off,e2,h2⟩:=h j p hp
   have:=List.any_eq_false.1 hb p (List.mem_of_getElem? hp)
   exact⟨b,off,(hv.dj _ (by simpa using this)).trans e2,h2⟩
theorem cX.gD(hv:nQ w w' lab cI ρ dI ns cn){n:Nat}{x:ax}(h:cX w B lab ρ n x)(h1:bg n ns=false)(h2:bg n cn=false):cX w' B cI dI n (x.aP ns cn):=by
 cases h with
 | blk b off cells e cs us av hl hh hs hc=>
  obtain⟨e1,e2⟩:=hv.same b (hv.lab b _ hl).1 (fun k hk=>by rw[hl]at hk;injection hk with hk;subst hk;exact h1)
  refine .blk b off cells e _ us ((hv.dj n h2).trans av) (e2.trans hl) (e1.trans hh) (by rw[List.length_map];exact hs) (fun j x hx=>?_)
  rw[List.getElem?_map]at hx
  cases hy:cs[j]? with
  | none=>rw[hy]at hx;cases hx
  | some y=>
   rw[hy]at hx
   injection hx with hx
   subst hx
   exact⟨(hc j y hy).1,(hc j y hy).2.gD hv⟩
 | sl v y av hr=>exact .sl v y ((hv.dj n h2).trans av) (hr.gD hv (.inl h1))
 | mp b c es l av hl hh he=>
  obtain⟨e1,e2⟩:=hv.same b (hv.lab b _ hl).1 (fun k hk=>by rw[hl]at hk;injection hk with hk;subst hk;exact h1)
  exact .mp b c es l ((hv.dj n h2).trans av) (e2.trans hl) (e1.trans hh) he
 | gh us xs av hx=>
  refine .gh us _ ((hv.dj n h2).trans av) (fun j x hj=>?_)
  rw[List.getElem?_map]at hj
  cases hy:xs[j]? with
  | none=>rw[hy]at hj;cases hj
  | some y=>
   rw[hy]at hj
   injection hj with hj
   subst hj
   exact(hx j y hy).gD hv
theorem Rl.gD(h:Rl w0 N lab ρ σ a w)(hv:nQ w w' lab cI ρ dI ns cn)(hb:gv w0 w w')(hl:∀ b k,cI b=some k->(w0.heap.size<=b\/w0.L b≠none)/\b<w'.heap.size/\k≠[])(hF:∀ r,bg r cn=true->w0.F r=none){nr:List (Nat×ax)}
  (jG:∀ r x,nr.lookup r=some x->cX w' w0.heap.size cI dI r x):Rl w0 N cI dI (σ.aP ns cn nr) a w':=by
 refine⟨h.below.trans hb,hl,fun r x hx=>?_,fun k=>(h.tmp k).gD hv,h.size,h.defers,fun r l hr=>?_,h.dM⟩
 ·simp only[S.aP]at hx
  split at hx
  ·rename_i y hy
   injection hx with hx
   subst hx
   exact jG r y hy
  ·cases hm:(bg r ns || bg r cn)with
   | true=>rw[hm]at hx;cases hx
   | false=>
    rw[hm,cond_false]at hx
    rw[Bool.or_eq_false_iff]at hm
    cases hy:σ.m r with
    | none=>rw[hy]at hx;cases hx
    | some y=>
     rw[hy]at hx
     injection hx with hx
     subst hx
     exact(h.root r y hy).gD hv hm.1 hm.2
 ·have hc:bg r cn=false:=by
   cases hc:bg r cn with
   | false=>rfl
   | true=>rw[hF r hc]at hr;cases hr
  exact(hv.dj r hc).trans (h.fix r l hr)
end
end Go.Proofs.YtmffpkippmkjbaaGreatDoor
namespace Go.Proofs.YtmffpkippmkjbaaGreatDoor
open Go.RowKit
set_option linter.unusedVariables false
inductive Mu where
 | blk (r:Nat) (cs:List Lf) (vs:List (V×Option Nat))
 | sl (q:Nat) (y:V)
def Mu.root:Mu->Nat
 | .blk r _ _=>r
 | .sl q _=>q
def qx(m:Nat->Option ax):Lf->Option (V×Option Nat)
 | .v x=>some (x.gz,none)
 | .own [q]=>match m q with
  | some (.sl y)=>bif y.ah then some (y.gz,none)else some (y,some q)
  | _=>none
 | _=>none
def nR(m:Nat->Option ax):List Lf->Option (List (V×Option Nat))
 | []=>some []
 | l :: ls=>match qx m l,nR m ls with
  | some v,some vs=>some (v :: vs)
  | _,_=>none
def qy(σ:S):PK->A->Option (Option Mu)
 | .v _ _,_=>some none
 | .p _ _ off,.az r j=>(match (bif Nat.beq j off then σ.m r else none)with
  | some (.blk cs)=>(match nR σ.m cs with
   | some vs=>bif Nat.blt cs.length 999 then some (some (.blk r cs vs))else none
   | none=>none)
  | _=>none)
 | .s _ _,.lf (.own [q])=>(match σ.m q with
  | some (.sl y)=>bif y.ah then none else some (some (.sl q y))
  | _=>none)
 | _,_=>none
def gU(σ:S):List PK->List Operand->Option (List Mu)
 | [],[]=>some []
 | p :: ps,x :: xs=>(match qy σ p (ak σ x),gU σ ps xs with
  | some (some mu),some ay=>some (mu :: ay)
  | some none,some ay=>some ay
  | _,_=>none)
 | _,_=>none
def yM(i:Nat):Nat->List (V×Option Nat)->List (Nat×Nat)
 | _,[]=>[]
 | j,(_,some q) :: vs=>(q,60000+1000*i+j) :: yM i (j+1) vs
 | j,(_,none) :: vs=>yM i (j+1) vs
def iN:Nat->List Mu->List (Nat×Nat)
 | _,[]=>[]
 | i,.blk r _ vs :: ay=>(r,nF i) :: (yM i 0 vs++iN (i+1) ay)
 | i,.sl q _ :: ay=>(q,nF i) :: iN (i+1) ay
def Fh(ns:List Nat):Lf->Bool
 | .own k=>!bG k ns
 | _=>true
def lR{X:Type}(σ:S)(ns:List Nat):List Lf->(List V->Option X)->Option X
 | [],k=>k []
 | x :: xs,k=>bif Fh ns x then fE σ x fun y=>lR σ ns xs fun ys=>k (y.gz :: ys)else none
def mQ{X:Type}(σ:S)(ns:List Nat)(x:A)(k:Pt->Option X):Option X:=
 match x with
 | .lf y=>lR σ ns [y] fun vs=>k (false,vs)
 | .agg ys=>lR σ ns ys fun vs=>k (true,vs)
 | _=>none
def ga{X:Type}(σ:S)(ns:List Nat):(ps:List PK)->List Operand->List Mu->(kE ps->Option X)->Option X
 | [],[],[],k=>k ()
 | .v b t :: ps,x :: xs,ay,k=>mQ σ ns (ak σ x) fun p=>bif p.1==b then (match dec t 0 p.2 with
  | some y=>ga σ ns ps xs ay fun ys=>k (y,ys)
  | none=>none)else none
 | .p t g _ :: ps,_ :: xs,.blk _ _ vs :: ay,k=>(match (bif Nat.beq (g % 2) 0 then dec t g (vs.map (·.1))else none)with
  | some y=>ga σ ns ps xs ay fun ys=>k (y,ys)
  | none=>none)
 | .s t g :: ps,_ :: xs,.sl _ y :: ay,k=>(match (bif Nat.beq (g % 2) 0 then y.cR t (g+2)else none)with
  | some z=>ga σ ns ps xs ay fun ys=>k (z,ys)
  | none=>none)
 | _,_,_,_=>none
def sn(w:World)(ρ:Nat->Loc)(rs:List Nat):Nat->Loc:=fun n=>
 if n<60000 then (if (n-20000) % 1000=0 then ρ (rs.getD ((n-20000) / 1000) 0)else (match ρ (rs.getD ((n-20000) / 1000) 0)with
  | .blk b off=>.cS ((w.cell? ⟨b,off+((n-20000) % 1000-1),none⟩).getD undef)
  | .cS v=>.cS v
  | .aT us=>.aT us))
 else (match ρ (rs.getD ((n-60000) / 1000) 0)with
  | .blk b off=>.cS ((w.cell? ⟨b,off+(n-60000) % 1000,none⟩).getD undef)
  | .cS v=>.cS v
  | .aT us=>.aT us)
theorem Bw{w:World}{ρ:Nat->Loc}{rs:List Nat}{i r:Nat}(h:rs[i]?=some r)(hi:i<40):sn w ρ rs (nF i)=ρ r:=by
 have h1:nF i<60000:=by unfold nF;omega
 have h2:(nF i-20000) % 1000=0:=by unfold nF;omega
 have h3:(nF i-20000) / 1000=i:=by unfold nF;omega
 have h4:rs.getD i 0=r:=by rw[List.getD_eq_getElem?_getD,h];rfl
 unfold sn
 rw[if_pos h1,if_pos h2,h3,h4]
theorem acC{w:World}{ρ:Nat->Loc}{rs:List Nat}{i j r b off:Nat}{u:Value}{x:V}(h:rs[i]?=some r)(hi:i<40)(hj:j<999)(av:ρ r = .blk b off)(hu:w.cell? ⟨b,off+j,none⟩=some u):sn w ρ rs (nC i j x) = .cS u:=by
 have h4:rs.getD i 0=r:=by rw[List.getD_eq_getElem?_getD,h];rfl
 unfold sn nC
 cases x.ah with
 | true=>
  have h1:20001+1000*i+j<60000:=by omega
  have h2:¬ (20001+1000*i+j-20000) % 1000=0:=by omega
  have h3:(20001+1000*i+j-20000) / 1000=i:=by omega
  have h5:(20001+1000*i+j-20000) % 1000-1=j:=by omega
  simp only[cond_true]
  rw[if_pos h1,if_neg h2,h3,h4,av,h5]
  simp[hu]
 | false=>
  have h1:¬ 60000+1000*i+j<60000:=by omega
  have h3:(60000+1000*i+j-60000) / 1000=i:=by omega
  have h5:(60000+1000*i+j-60000) % 1000=j:=by omega
  simp only[cond_false]
  rw[if_neg h1,h3,h4,av,h5]
  simp[hu]
def V.Fi:V->Bool
 | .sl _ o _ _=>Nat.beq (o % 2) 0
 | _=>true
section
variable {P:Program} {w w':World} {w0:Wd} {B N:Nat} {lab cI aj:aQ} {ρ dI:Nat->Loc} {σ:S} {a:Act} {X:Type} {d:Nat} {r:X} {ns cn:List Nat}
theorem RV.QH{B':Nat}{q:List Nat}{x:V}{v:Value}(h:RV w B lab q x v)(hx:x.Fi=true):RV w B' lab q x v:=by
 induction h with
 | int=>exact .int _ _ _
 | bool=>exact .bool _ _
 | str=>exact .str _ _
 | nil=>exact .nil _
 | bO=>exact .bO _ _ _
 | bY=>exact .bY _ _ _ _ _ (by first | assumption | omega)
 | cy=>exact .cy _ _ _ _ _ (by first | assumption | omega)
 | ah q t o qn l b off cap u ho hl hb h1 hcap hc hr ih=>
  have hx:=Nat.eq_of_beq_eq_true hx
  have ho0:o=0:=by omega
  subst ho0
  refine .ah _ _ _ _ _ _ _ _ u ho hl hb (by omega) hcap hc (fun i h j x bR=>ih i h j x bR ?_)
  have:=rq t 0 l[i] x (List.mem_of_getElem? bR)
  cases x with
  | sl t' o' q' l'=>
   have:o'=0:=by simpa [V.gr]using this
   subst this
   rfl
  | _=>rfl
 | own q t o qn l b cap cs u hl hh hs hn hm hc hr ih=>
  have hx:=Nat.eq_of_beq_eq_true hx
  refine .own _ _ _ _ _ _ _ cs u hl hh hs hn hm hc (fun i h j x bR=>ih i h j x bR ?_)
  have:=rq t o l[i] x (List.mem_of_getElem? bR)
  cases x with
  | sl t' o' q' l'=>
   have:o'=o:=by simpa [V.gr]using this
   subst this
   show Nat.beq (o' % 2) 0=true
   rw[show o' % 2=0 by omega]
   rfl
  | _=>rfl
theorem RV.out{q q':List Nat}{x:V}{v:Value}(h:RV w B lab q x v)(h1:∀ b,lab b=none->aj b=none)(h2:∀ b k,lab b=some k->k≠[]/\(bG k ns=false->aj b=none))(hq:x.ah=true\/bG q ns=false){B':Nat}:RV w B' aj q' x.gz v:=by
 induction h generalizing q' with
 | int=>exact .int _ _ _
 | bool=>exact .bool _ _
 | str=>exact .str _ _
 | nil=>exact .nil _
 | bO=>exact .bO _ _ _
 | bY=>exact .bY _ _ _ _ _ (by first | assumption | omega)
 | cy=>exact .cy _ _ _ _ _ (by first | assumption | omega)
 | ah q t o qn l b off cap u ho hl hb h1' hcap hc hr ih=>
  refine .ah _ _ _ _ _ _ _ _ u (by omega) (h1 b hl) hb (by omega) hcap (fun i h j x hx=>?_) (fun i h j x hx=>?_)
  ·obtain⟨y,hy,_⟩:=ru t o l[i] j x hx
   exact hc i h j y hy
  ·obtain⟨y,hy,rfl⟩:=ru t o l[i] j x hx
   exact ih i h j y hy (.inl (hG t o l[i] ho j y hy))
 | own q t o qn l b cap cs u hl hh hs hn hm hc hr ih=>
  have jh:bG q ns=false:=by
   rcases hq with hq | hq
   ·simp[V.ah]at hq;omega
   ·exact hq
  obtain⟨aK,cL⟩:=h2 b q hl
  refine .ah _ _ _ _ _ _ _ _ u (by omega) (cL jh) (Array.getElem?_eq_some_iff.1 hh).1 (by omega) hn (fun i h j x hx=>?_) (fun i h j x hx=>?_)
  ·obtain⟨y,hy,_⟩:=ru t o l[i] j x hx
   have:=hc i h j y hy
   rw[Nat.zero_add,cell_of_row w b _ cs _ _ hh]
   exact this
  ·obtain⟨y,hy,rfl⟩:=ru t o l[i] j x hx
   exact ih i h j y hy (.inr (by rw[vU aK];exact jh))
theorem acD{x:Lf}{k:V->Option X}(h:fE σ x k=some r):∃ y,k y=some r/\∀ lab ρ a w,Rl w0 N lab ρ σ a w->∀ u,cg w w0.heap.size lab ρ x u->∃ q,(x = .own q\/y.ah=true)/\RV w w0.heap.size lab q y u:=by
 cases x with
 | v y=>exact⟨y,h,fun lab ρ a w hR u hu=>⟨[],.inr hu.1,hu.2⟩⟩
 | dead=>cases h
 | own q=>
  obtain⟨y,hy,h'⟩:=oq q k h
  refine⟨y,h',fun lab ρ a w hR u hu=>⟨q,.inl rfl,?_⟩⟩
  obtain⟨v,hv,hr⟩:=hy.ok hR.root
  have:v=u:=by
   have h2:=hu.2
   rw[hv]at h2
   injection h2
  subst this
  exact hr
structure vV (ns:List Nat) (lab aj:aQ):Prop where
 none:∀ b,lab b=none->aj b=none
 rest:∀ b k,lab b=some k->k≠[]/\(bG k ns=false->aj b=Option.none)
theorem KQ:∀ (xs:List Lf) (k:List V->Option X),lR σ ns xs k=some r->∃ vs,k vs=some r/\vs.length=xs.length/\∀ lab ρ a w aj,Rl w0 N lab ρ σ a w->vV ns lab aj->∀ (j:Nat) x y u,xs[j]?=some x->vs[j]?=some y->cg w w0.heap.size lab ρ x u->RV w w.heap.size aj [] y u
 | [],k,h=>⟨[],h,rfl,fun _ _ _ _ _ _ _ j x y u hx=>by simp at hx⟩
 | x :: xs,k,h=>by
  unfold lR at h
  cases ho:Fh ns x with
  | false=>rw[ho]at h;cases h
  | true=>
   rw[ho,cond_true]at h
   obtain⟨y,h2,hy⟩:=acD (w0:=w0) (N:=N) h
   obtain⟨ys,h3,hl,hr⟩:=KQ xs _ h2
   refine⟨y.gz :: ys,h3,by simp[hl],fun lab ρ a w aj hR hS j x' y' u bR dH hu=>?_⟩
   cases j with
   | zero=>
    simp at bR dH
    subst bR dH
    obtain⟨q,hq,kn⟩:=hy lab ρ a w hR u hu
    refine kn.out hS.none hS.rest ?_
    rcases hq with rfl | hq
    ·exact .inr (by simpa [Fh]using ho)
    ·exact .inl hq
   | succ j=>exact hr lab ρ a w aj hR hS j x' y' u (by simpa using bR) (by simpa using dH) hu
theorem acE{x:A}{k:Pt->Option X}(h:mQ σ ns x k=some r):∃ p,k p=some r/\∀ lab ρ a w aj,Rl w0 N lab ρ σ a w->vV ns lab aj->∀ u,RA w w0.heap.size lab ρ x u->PV w w.heap.size aj (fun _=>[]) p u:=by
 unfold mQ at h
 split at h
 ·rename_i y
  obtain⟨vs,h2,hl,hr⟩:=KQ (w0:=w0) (N:=N) _ _ h
  refine⟨_,h2,fun lab ρ a w aj hR hS u hu=>⟨#[u],rfl,by simp[hl],fun j x hx=>?_⟩⟩
  have hj:j=0:=by
   have:=(List.getElem?_eq_some_iff.1 hx).1
   simp only[hl]at this
   simpa using this
  subst hj
  exact⟨u,rfl,hr lab ρ a w aj hR hS 0 y x u rfl hx hu⟩
 ·rename_i ys
  obtain⟨vs,h2,hl,hr⟩:=KQ (w0:=w0) (N:=N) _ _ h
  refine⟨_,h2,fun lab ρ a w aj hR hS u hu=>?_⟩
  obtain⟨us,rfl,hs⟩:=hu
  refine⟨us,rfl,by rw[hl];exact hs.1,fun j x hx=>?_⟩
  have hj:j<ys.length:=by rw[<-hl];exact(List.getElem?_eq_some_iff.1 hx).1
  obtain⟨v,hv,cw⟩:=hs.2 j _ (List.getElem?_eq_getElem hj)
  exact⟨v,hv,hr lab ρ a w aj hR hS j _ x v (List.getElem?_eq_getElem hj) hx cw⟩
 ·cases h
def uw(σ:S):Mu->Prop
 | .blk r cs vs=>σ.m r=some (.blk cs)/\nR σ.m cs=some vs/\cs.length<999
 | .sl q y=>σ.m q=some (.sl y)/\y.ah=false
def By:List Mu->List In->Prop
 | [],[]=>True
 | .blk _ _ vs :: ay,.blk xs :: ins=>(aY (vs.map (·.1)) xs/\∀ x∈xs,x.mI=true/\x.Fi=true)/\By ay ins
 | .sl _ y :: ay,.sl y' :: ins=>(Wk y y'/\y'.Fi=true)/\By ay ins
 | _,_=>False
def yN(w:World)(B:Nat)(lab:aQ)(ρ:Nat->Loc)(ins:List In):List Ar->List Value->Prop
 | [],[]=>True
 | x :: xs,v :: vs=>RA w B lab ρ (KF ins x) v/\yN w B lab ρ ins xs vs
 | _,_=>False
theorem yN.get{ins:List In}:∀ (xs:List Ar) (vs:List Value),yN w B lab ρ ins xs vs->vs.length=xs.length/\∀ i,RA w B lab ρ ((qv ins xs).t i) (vs.toArray.getD i undef)
 | [],[],_=>⟨rfl,fun i=>trivial⟩
 | [],_ :: _,h=>h.elim
 | _ :: _,[],h=>h.elim
 | x :: xs,v :: vs,h=>by
  obtain⟨h1,h2⟩:=yN.get xs vs h.2
  refine⟨by simp[h1],fun i=>?_⟩
  cases i with
  | zero=>exact h.1
  | succ i=>
   have:=h2 i
   simp only[qv,List.getElem?_cons_succ,Array.getD_eq_getD_getElem?,List.getElem?_toArray]at this ⊢
   exact this
theorem acF{t:TC}{g:Nat}{x:T t}(hg:Nat.beq (g % 2) 0=true):∀ y∈enc t g x,y.mI=true/\y.Fi=true:=by
 intro y hy
 refine⟨JV t g x y hy,?_⟩
 have:=rq t g x y hy
 cases y with
 | sl t' o' q' l'=>
  have:o'=g:=by simpa [V.gr]using this
  subst this
  exact hg
 | _=>rfl
def acG(σ:S):PK->A->Option Mu->Prop
 | .v _ _,_,none=>True
 | .p _ _ off,x,some (.blk r cs vs)=>x = .az r off/\uw σ (.blk r cs vs)
 | .s _ _,x,some (.sl q y)=>x = .lf (.own [q])/\uw σ (.sl q y)
 | _,_,_=>False
theorem qz{p:PK}{x:A}{z:Option Mu}(h:qy σ p x=some z):acG σ p x z:=by
 cases p with
 | v b t=>
  have h:(some none:Option (Option Mu))=some z:=h
  injection h with h
  subst h
  trivial
 | p t g off=>
  cases x with
  | az r j=>
   have h:(match (bif Nat.beq j off then σ.m r else none)with
    | some (.blk cs)=>(match nR σ.m cs with
     | some vs=>bif Nat.blt cs.length 999 then some (some (.blk r cs vs))else none
     | none=>none)
    | _=>none)=some z:=h
   cases hj:Nat.beq j off with
   | false=>rw[hj]at h;cases h
   | true=>
    obtain rfl:=Nat.eq_of_beq_eq_true hj
    rw[hj,cond_true]at h
    split at h
    ·rename_i cs cC
     split at h
     ·rename_i vs eT
      cases hl:Nat.blt cs.length 999 with
      | false=>rw[hl]at h;cases h
      | true=>
       rw[hl,cond_true]at h
       injection h with h
       subst h
       exact⟨rfl,cC,eT,by have:=Nat.le_of_ble_eq_true hl;omega⟩
     ·cases h
    ·cases h
  | _=>cases h
 | s t g=>
  have hx:(∃ q,x = .lf (.own [q])):=by
   unfold qy at h
   split at h
   ·rename_i e;cases e
   ·rename_i e;cases e
   ·exact⟨_,rfl⟩
   ·cases h
  obtain⟨q,rfl⟩:=hx
  have h:(match σ.m q with
   | some (.sl y)=>bif y.ah then none else some (some (.sl q y))
   | _=>none)=some z:=h
  split at h
  ·rename_i y hy
   cases hf:y.ah with
   | true=>rw[hf]at h;cases h
   | false=>
    rw[hf,cond_false]at h
    injection h with h
    subst h
    exact⟨rfl,hy,hf⟩
  ·cases h
theorem KR:∀ (ps:List PK) (xs:List Operand) (ay:List Mu),gU σ ps xs=some ay->∀ mu∈ay,uw σ mu
 | [],[],ay,h=>by injection h with h;subst h;simp
 | p :: ps,x :: xs,ay,h=>by
  unfold gU at h
  split at h
  ·rename_i mu iu h1 h2
   injection h with h
   subst h
   have ih:=KR ps xs iu h2
   have h1:=qz h1
   intro z hz
   rcases List.mem_cons.1 hz with rfl | hz
   ·cases p with
    | v=>exact h1.elim
    | p=>
     cases z with
     | blk=>exact h1.2
     | sl=>exact h1.elim
    | s=>
     cases z with
     | blk=>exact h1.elim
     | sl=>exact h1.2
   ·exact ih z hz
  ·rename_i iu h1 h2
   injection h with h
   subst h
   exact KR ps xs iu h2
  ·cases h
 | [],_ :: _,ay,h=>by cases h
 | _ :: _,[],ay,h=>by cases h
theorem Bz:∀ {ps:List PK} (i i':Nat) (x:kE ps),(jK ps i x).length=(jK ps i' x).length
 | [],_,_,_=>rfl
 | .v _ _ :: ps,i,i',x=>by simp only[jK,List.length_cons];rw[Bz i i']
 | .p _ _ _ :: ps,i,i',x=>by simp only[jK,List.length_cons];rw[Bz (i+1) (i'+1)]
 | .s _ _ :: ps,i,i',x=>by simp only[jK,List.length_cons];rw[Bz (i+1) (i'+1)]
theorem Fj:∀ (ps:List PK) (xs:List Operand) (ay:List Mu) (k:kE ps->Option X),gU σ ps xs=some ay->ga σ ns ps xs ay k=some r->∃ x,k x=some r/\By ay (nP ps x)/\(jK ps 0 x).length=xs.length/\
  ∀ lab ρ a w aj ρ',Rl w0 N lab ρ σ a w->vV ns lab aj->∀ (ins:List In) (i:Nat),(∀ j z,(nP ps x)[j]?=some z->ins[i+j]?=some z)->(∀ j mu,ay[j]?=some mu->ρ' (nF (i+j))=ρ mu.root)->yN w w.heap.size aj ρ' ins (jK ps i x) (xs.map a.eval)
 | [],[],ay,k,hm,h=>by
  injection hm with hm
  subst hm
  exact⟨(),h,trivial,rfl,fun _ _ _ _ _ _ _ _ _ _ _ _=>trivial⟩
 | .v b t :: ps,x :: xs,ay,k,hm,h=>by
  have kq:gU σ ps xs=some ay:=by
   unfold gU at hm
   split at hm
   ·rename_i mu iu h1 h2;exact(qz h1).elim
   ·rename_i iu h1 h2;rw[h2];exact hm
   ·cases hm
  unfold ga at h
  obtain⟨p,h2,hp⟩:=acE (w0:=w0) (N:=N) h
  cases hb:p.1==b with
  | false=>rw[hb]at h2;cases h2
  | true=>
   rw[hb,cond_true]at h2
   have hb:p.1=b:=by simpa using hb
   subst hb
   split at h2
   ·rename_i y hy
    obtain⟨ys,h3,h4,h5,h6⟩:=Fj ps xs ay _ kq h2
    refine⟨(y,ys),h3,h4,?_,fun lab ρ a w aj ρ' hR hS ins i hi av=>⟨?_,h6 lab ρ a w aj ρ' hR hS ins i hi av⟩⟩
    ·simp[jK,h5]
    ·have pn:=hp lab ρ a w aj hR hS _ (hR.ak x)
     obtain⟨us,hu,hs,hr⟩:=pn
     have hk:=jC t 0 p.2 y hy
     have kY:∀ (j:Nat) z,(enc t 0 y)[j]?=some z->∃ v,us[j]?=some v/\z.ah=true/\RV w w.heap.size aj [] z v:=by
      intro j z hz
      have hj:j<p.2.length:=by rw[hk.1];exact(List.getElem?_eq_some_iff.1 hz).1
      obtain⟨v,hv,cw⟩:=hr j _ (List.getElem?_eq_getElem hj)
      exact⟨v,hv,hG t 0 y (by omega) j z hz,cw.wk (hk.2 j _ z (List.getElem?_eq_getElem hj) hz)⟩
     have hlen:us.size=(enc t 0 y).length:=hs.trans hk.1
     obtain⟨b,vs⟩:=p
     cases b with
     | true=>
      show RA _ _ _ _ (.agg ((enc t 0 y).map .v)) _
      refine⟨us,hu,by rw[List.length_map];exact hlen,fun j z hz=>?_⟩
      rw[List.getElem?_map]at hz
      cases yC:(enc t 0 y)[j]? with
      | none=>rw[yC]at hz;cases hz
      | some z'=>
       rw[yC]at hz
       injection hz with hz
       subst hz
       obtain⟨v,hv,g1,g2⟩:=kY j z' yC
       exact⟨v,hv,g1,g2⟩
     | false=>
      have hu:us = #[a.eval x]:=hu
      subst hu
      show RA _ _ _ _ (KF ins (.pt (false,enc t 0 y))) _
      match he:enc t 0 y,kY,hlen with
      | [z],kY,_=>
       obtain⟨v,hv,g1,g2⟩:=kY 0 z rfl
       have:a.eval x=v:=by simpa using hv
       rw[this]
       exact⟨g1,g2⟩
      | [],_,_=>trivial
      | _ :: _ :: _,_,_=>trivial
   ·cases h2
 | .p t g off :: ps,x :: xs,ay,k,hm,h=>by
  unfold gU at hm
  split at hm
  ·rename_i mu iu h1 h2
   injection hm with hm
   subst hm
   have h1:=qz h1
   cases mu with
   | sl=>exact h1.elim
   | blk r cs vs=>
    have h1:ak σ x = .az r off/\uw σ (.blk r cs vs):=h1
    unfold ga at h
    split at h
    ·rename_i y hy
     cases hg:Nat.beq (g % 2) 0 with
     | false=>rw[hg]at hy;cases hy
     | true=>
      rw[hg,cond_true]at hy
      obtain⟨ys,h3,h4,h5,h6⟩:=Fj ps xs iu _ h2 h
      refine⟨(y,ys),h3,⟨⟨jC t g _ y hy,acF hg⟩,h4⟩,by simp[jK,Bz 1 0,h5],fun lab ρ a w aj ρ' hR hS ins i hi av=>⟨?_,?_⟩⟩
      ·have vW:=hi 0 _ rfl
       rw[Nat.add_zero]at vW
       have hx:=hR.ak x
       rw[h1.1]at hx
       obtain⟨b,o,e1,e2⟩:=hx
       show RA _ _ _ _ (match ins[i]? with | some (.blk _)=>.az (nF i) off | some (.sl _)=>.lf (.own [nF i]) | none=>.undef) _
       rw[vW]
       have bL:=av 0 _ rfl
       rw[Nat.add_zero]at bL
       exact⟨b,o,bL.trans e1,e2⟩
      ·refine h6 lab ρ a w aj ρ' hR hS ins (i+1) (fun j z hz=>?_) (fun j mu fh=>?_)
       ·rw[show i+1+j=i+(j+1) by omega]
        exact hi (j+1) z hz
       ·rw[show i+1+j=i+(j+1) by omega]
        exact av (j+1) mu fh
    ·cases h
  ·rename_i iu h1 h2
   exact(qz h1).elim
  ·cases hm
 | .s t g :: ps,x :: xs,ay,k,hm,h=>by
  unfold gU at hm
  split at hm
  ·rename_i mu iu h1 h2
   injection hm with hm
   subst hm
   have h1:=qz h1
   cases mu with
   | blk=>exact h1.elim
   | sl q y0=>
    have h1:ak σ x = .lf (.own [q])/\uw σ (.sl q y0):=h1
    unfold ga at h
    split at h
    ·rename_i y hy
     cases hg:Nat.beq (g % 2) 0 with
     | false=>rw[hg]at hy;cases hy
     | true=>
      rw[hg,cond_true]at hy
      obtain⟨ys,h3,h4,h5,h6⟩:=Fj ps xs iu _ h2 h
      refine⟨(y,ys),h3,⟨⟨V.de hy,?_⟩,h4⟩,by simp[jK,Bz 1 0,h5],fun lab ρ a w aj ρ' hR hS ins i hi av=>⟨?_,?_⟩⟩
      ·show Nat.beq ((g+2) % 2) 0=true
       rw[show (g+2) % 2=g % 2 by omega]
       exact hg
      ·have vW:=hi 0 _ rfl
       rw[Nat.add_zero]at vW
       have hx:=hR.ak x
       rw[h1.1]at hx
       show RA _ _ _ _ (match ins[i]? with | some (.blk _)=>.az (nF i) 0 | some (.sl _)=>.lf (.own [nF i]) | none=>.undef) _
       rw[vW]
       have bL:=av 0 _ rfl
       rw[Nat.add_zero]at bL
       refine⟨hx.1,?_⟩
       have h2:=hx.2
       simp only[bC]at h2 ⊢
       rw[bL]
       exact h2
      ·refine h6 lab ρ a w aj ρ' hR hS ins (i+1) (fun j z hz=>?_) (fun j mu fh=>?_)
       ·rw[show i+1+j=i+(j+1) by omega]
        exact hi (j+1) z hz
       ·rw[show i+1+j=i+(j+1) by omega]
        exact av (j+1) mu fh
    ·cases h
  ·rename_i iu h1 h2
   exact(qz h1).elim
  ·cases hm
 | [],_ :: _,ay,k,hm,h=>by cases hm
 | _ :: _,[],ay,k,hm,h=>by cases hm
end
end Go.Proofs.YtmffpkippmkjbaaGreatDoor
namespace Go.Proofs.YtmffpkippmkjbaaGreatDoor
open Go.RowKit
set_option linter.unusedVariables false
def jL(c0:Nat):Nat->List (V×Option Nat)->List Nat
 | _,[]=>[]
 | n,(_,some q) :: vs=>q :: jL c0 (n+1) vs
 | n,(_,none) :: vs=>(c0+n) :: jL c0 (n+1) vs
def ux(c0:Nat):Nat->List Mu->List Nat
 | _,[]=>[]
 | pos,.blk r _ vs :: ay=>r :: (jL c0 (pos+1) vs++ux c0 (pos+1+vs.length) ay)
 | pos,.sl q _ :: ay=>q :: ux c0 (pos+1) ay
def qA:List Nat->List V->List Nat
 | n :: cM,x :: xs=>bif x.ah then qA cM xs else n :: qA cM xs
 | _,_=>[]
def jM(c0:Nat):Nat->List Mu->List In->List Nat
 | pos,.blk _ _ vs :: ay,.blk xs :: outs=>qA (jL c0 (pos+1) vs) xs++jM c0 (pos+1+vs.length) ay outs
 | pos,.sl _ _ :: ay,.sl _ :: outs=>jM c0 (pos+1) ay outs
 | _,_,_=>[]
def lS(ns cn:List Nat):List Nat->List Lf->List V->List Lf
 | n :: cM,l :: ls,x :: xs=>(bif x.plain then .v x else bif x.ah then l.aP ns cn else .own [n]) :: lS ns cn cM ls xs
 | _,_,_=>[]
def pq:List Nat->List V->List (Nat×ax)
 | n :: cM,x :: xs=>bif x.ah then pq cM xs else (n,.sl x) :: pq cM xs
 | _,_=>[]
def jN(ns cn:List Nat)(c0:Nat):Nat->List Mu->List In->List (Nat×ax)
 | pos,.blk r cs vs :: ay,.blk xs :: outs=>(r,.blk (lS ns cn (jL c0 (pos+1) vs) cs xs)) :: (pq (jL c0 (pos+1) vs) xs++jN ns cn c0 (pos+1+vs.length) ay outs)
 | pos,.sl q _ :: ay,.sl y :: outs=>(q,.sl y) :: jN ns cn c0 (pos+1) ay outs
 | _,_,_=>[]
def Fk:List Nat->Bool
 | []=>true
 | n :: l=>!bg n l&&Fk l
def QI:In->Bool
 | .blk xs=>xs.all fun x=>x.ah || x.loc
 | .sl y=>y.loc
def fR:Option Tmp->Nat
 | some d=>1000000000100000+1000*d
 | none=>90000
def jO{X:Type}(N:Nat)(σ:S)(dst:Option Tmp)(res:eM)(k:S->Option X):Option X:=
 match dst with
 | none=>k σ
 | some d=>bif Nat.blt d N then (match res with
  | .one p=>(match ox (p.1,ig (1000000000100000+1000*d) p.2)with
   | some y=>k ((eV (1000000000100000+1000*d) σ p.2).set d y)
   | none=>none)
  | .bJ ps=>k ((gC (1000000000100000+1000*d) σ ps).set d (.bJ (iZ (1000000000100000+1000*d) ps))))else none
def vX(N:Nat)(ay:List Mu)(outs:List In)(cn:List Nat):Bool:=
 Fk cn&&(ay.all fun mu=>!bg mu.root cn)&&(cn.all fun n=>Nat.blt n N || Nat.ble 60000 n)&&outs.all QI
def uy{X:Type}(N:Nat)(σ:S)(dst:Option Tmp)(ay:List Mu)(ns cn:List Nat)(res:eM)(outs:List In)(k:S->Option X):Option X:=
 bif vX N ay outs cn then jO N (σ.aP ns cn (jN ns cn (fR dst) res.len ay outs)) dst res k else none
def jP{X:Type}(N:Nat)(σ:S)(dst:Option Tmp)(c:gN)(args:List Operand)(k:S->Option X):Option X:=
 match gU σ c.ps args with
 | some ay=>bif once (iN 0 ay)&&Nat.ble ay.length 40 then
   ga σ ((iN 0 ay).map (·.1)) c.ps args ay fun x=>(match c.F x with
    | some y=>uy N σ dst ay ((iN 0 ay).map (·.1)) (jM (fR dst) (dK c.ro y.1).len ay (fZ (dQ c.ps) y.2)) (dK c.ro y.1) (fZ (dQ c.ps) y.2) k
    | none=>none)else none
 | none=>none
section
variable {P:Program} {w w':World} {w0:Wd} {B N:Nat} {lab cI aj:aQ} {ρ dI ρ':Nat->Loc} {σ:S} {a:Act} {X:Type} {d:Nat} {r:X} {ns cn:List Nat} {o:Oper} {rs:List Nat} {dr:List (Nat×Nat)}
theorem QJ{n:Nat}:∀ {l:List (Nat×Nat)},bg n (l.map (·.1))=false->l.lookup n=none
 | [],_=>rfl
 | p :: l,h=>by
  simp only[List.map_cons,bg,Bool.or_eq_false_iff]at h
  rw[List.lookup_cons]
  have:(n==p.1)=false:=by
   cases hb:n==p.1 with
   | false=>rfl
   | true=>
    have e:n=p.1:=by simpa using hb
    have h1:=h.1
    rw[<-e,Nat.beq_refl]at h1
    cases h1
  rw[this]
  exact QJ h.2
theorem acH{b:Nat}{k:List Nat}{n m:Nat}(h:lab b=some k)(hk:k.getLast?=some n)(hm:dr.lookup n=some m):dD lab dr id b=some (k.dropLast++[m]):=by
 simp[dD,h,hk,hm]
theorem acI(aK:∀ b k,lab b=some k->k≠[]):vV (dr.map (·.1)) lab (dD lab dr id):=by
 refine⟨fun b h=>sg h,fun b k h=>⟨aK b k h,fun hl=>?_⟩⟩
 simp only[dD,h]
 cases hk:k.getLast? with
 | none=>rfl
 | some n=>
  simp only[bG,hk]at hl
  simp[QJ hl]
theorem KS{m:Nat->Option ax}:∀ (cs:List Lf) (vs:List (V×Option Nat)),nR m cs=some vs->vs.length=cs.length/\∀ (j:Nat) l,cs[j]?=some l->∃ v,vs[j]?=some v/\qx m l=some v
 | [],vs,h=>by injection h with h;subst h;exact⟨rfl,fun j l hl=>by simp at hl⟩
 | c :: cs,vs,h=>by
  unfold nR at h
  split at h
  ·rename_i v nH h1 h2
   injection h with h
   subst h
   obtain⟨k1,k2⟩:=KS cs nH h2
   refine⟨by simp[k1],fun j l hl=>?_⟩
   cases j with
   | zero=>simp at hl;subst hl;exact⟨v,rfl,h1⟩
   | succ j=>exact k2 j l (by simpa using hl)
  ·cases h
theorem acJ{l:Lf}{v:V}{qo:Option Nat}(h:qx σ.m l=some (v,qo))(hR:Rl w0 N lab ρ σ a w)(hS:vV ns lab aj){u:Value}(hu:cg w w0.heap.size lab ρ l u):
  (qo=none/\∀ B' q',RV w B' aj q' v u)\/(∃ q,qo=some q/\v.ah=false/\RV w w0.heap.size lab [q] v u):=by
 unfold qx at h
 split at h
 ·simp only[Option.some.injEq,Prod.mk.injEq]at h
  obtain⟨rfl,rfl⟩:=h
  exact .inl ⟨rfl,fun B' q'=>hu.2.out hS.none hS.rest (.inl hu.1)⟩
 ·rename_i q
  split at h
  ·rename_i y hy
   have bZ:=hR.root q _ hy
   generalize hx:ax.sl y=x at bZ
   cases bZ with
   | blk=>cases hx
   | mp=>cases hx
   | gh=>cases hx
   | sl v' y' av hr=>
    injection hx with hx
    subst hx
    have qq:v'=u:=by
     have h2:=hu.2
     simp only[bC,av]at h2
     injection h2
    subst qq
    cases hf:y.ah with
    | true=>
     rw[hf,cond_true]at h
     simp only[Option.some.injEq,Prod.mk.injEq]at h
     obtain⟨rfl,rfl⟩:=h
     exact .inl ⟨rfl,fun B' q'=>hr.out hS.none hS.rest (.inl hf)⟩
    | false=>
     rw[hf,cond_false]at h
     simp only[Option.some.injEq,Prod.mk.injEq]at h
     obtain⟨rfl,rfl⟩:=h
     exact .inr ⟨q,rfl,hf,hr⟩
  ·cases h
 ·cases h
theorem QK{i:Nat}{v:V}{q:Nat}:∀ (vs:List (V×Option Nat)) (j0 j:Nat),vs[j]?=some (v,some q)->(q,60000+1000*i+(j0+j))∈yM i j0 vs
 | [],j0,j,h=>by simp at h
 | (v',qo) :: vs,j0,j,h=>by
  cases j with
  | zero=>
   simp at h
   obtain⟨rfl,rfl⟩:=h
   exact .head _
  | succ j=>
   have:=QK (i:=i) vs (j0+1) j (by simpa using h)
   rw[show j0+1+j=j0+(j+1) by omega]at this
   cases qo with
   | none=>exact this
   | some q'=>exact .tail _ this
theorem KT{i:Nat}:∀ (cs:List V) (j0:Nat),(ur i j0 cs).length=cs.length
 | [],_=>rfl
 | c :: cs,j0=>by simp[ur,KT cs]
theorem RV.iT{q:List Nat}{x:V}{u:Value}(h:RV w B lab q x u)(hp:x.plain=false)(hn:x.mI=true):iT u=true:=by
 cases h <;>first | rfl | cases hp | cases hn
theorem Wk.KU{x y:V}(h:Wk x y)(hx:x.ah=false):y.ah=false:=by
 cases h with
 | same=>exact hx
 | nil=>cases hx
 | q=>exact hx
 | gr t o o' qn l h1 h2=>simp[V.ah];omega
theorem KV(hR:Rl w0 N lab ρ σ a w)(hS:vV ns lab (dD lab dr id)):∀ (ay:List Mu) (ins:List In) (i:Nat),(∀ p∈iN i ay,dr.lookup p.1=some p.2)->(∀ j mu,ay[j]?=some mu->rs[i+j]?=some mu.root)->(∀ mu∈ay,uw σ mu)->By ay ins->i+ay.length<=40->
  lP w w.heap.size (dD lab dr id) (sn w ρ rs) i ins
 | [],[],_,_,_,_,_,_=>trivial
 | [],_ :: _,_,_,_,_,h,_=>h.elim
 | .blk _ _ _ :: _,[],_,_,_,_,h,_=>h.elim
 | .sl _ _ :: _,[],_,_,_,_,h,_=>h.elim
 | .blk _ _ _ :: _,.sl _ :: _,_,_,_,_,h,_=>h.elim
 | .sl _ _ :: _,.blk _ :: _,_,_,_,_,h,_=>h.elim
 | .blk r cs vs :: ay,.blk xs :: ins,i,so,dY,fh,ja,hi=>by
  obtain⟨hm,hg,hlen⟩:=fh _ (.head _)
  obtain⟨⟨hw,hx⟩,vY⟩:=ja
  obtain⟨g1,g2⟩:=KS cs vs hg
  have gJ:=dY 0 _ rfl
  rw[Nat.add_zero]at gJ
  simp only[List.length_cons]at hi
  have eS:xs.length=cs.length:=by rw[<-hw.1,List.length_map,g1]
  have bZ:=hR.root r _ hm
  generalize hz:ax.blk cs=z at bZ
  cases bZ with
  | sl=>cases hz
  | mp=>cases hz
  | gh=>cases hz
  | blk b off cells e cz us av hl hh hs hc=>
   injection hz with hz
   subst hz
   have kY:∀ (j:Nat) x,xs[j]?=some x->cells[off+j]?=some (us j)/\RV w w.heap.size (dD lab dr id) [nC i j x] x (us j)/\(x.plain=false->sn w ρ rs (nC i j x) = .cS (us j)):=by
    intro j x hj
    have om:j<cs.length:=by rw[<-eS];exact(List.getElem?_eq_some_iff.1 hj).1
    obtain⟨v,hv,BA⟩:=g2 j _ (List.getElem?_eq_getElem om)
    obtain⟨c1,c2⟩:=hc j _ (List.getElem?_eq_getElem om)
    obtain⟨v,qo⟩:=v
    have KW:Wk v x:=hw.2 j v x (by rw[List.getElem?_map,hv];rfl) hj
    obtain⟨vF,Ka⟩:=hx x (List.mem_of_getElem? hj)
    refine⟨c1,?_,fun hp=>?_⟩
    ·rcases acJ BA hR hS c2 with ⟨rfl,h1⟩ | ⟨q,rfl,hf,h1⟩
     ·exact(h1 _ _).wk KW
     ·have KL:=KW.KU hf
      have hq:=so (q,60000+1000*i+(0+j)) (.tail _ (List.mem_append_left _ (QK vs 0 j hv)))
      rw[Nat.zero_add]at hq
      have h2:=(RV.dD (nm:=id) (p:=[]) h1 hq).wk KW
      have e1:nC i j x=60000+1000*i+j:=by simp[nC,KL]
      rw[e1]
      exact h2.QH Ka
    ·exact acC gJ (by omega) (by omega) av (by rw[cell_of_row w b _ cells _ _ hh];exact c1)
   refine⟨.blk b off cells e _ us ((Bw gJ (by omega)).trans av) ?_ hh (by rw[KT,eS];exact hs) (fun j z hz=>?_),fun j x hj hp=>?_,KV hR hS ay ins (i+1) (fun p hp=>so p (.tail _ (List.mem_append_right _ hp))) (fun j mu vZ=>?_) (fun mu h=>fh mu (.tail _ h)) vY (by omega)⟩
   ·exact acH hl rfl (so _ (.head _))
   ·have hj:j<xs.length:=by rw[<-KT (i:=i) xs 0];exact(List.getElem?_eq_some_iff.1 hz).1
    have Fl:=KO (i:=i) xs 0 j _ (List.getElem?_eq_getElem hj)
    rw[hz]at Fl
    injection Fl with Fl
    subst Fl
    rw[Nat.zero_add]
    obtain⟨c1,c2,c3⟩:=kY j _ (List.getElem?_eq_getElem hj)
    refine⟨c1,?_⟩
    cases hp:(xs[j]).plain with
    | true=>
     have e1:uq i j xs[j] = .v xs[j]:=by simp[uq,hp]
     rw[e1]
     exact⟨V.A5 hp,c2.tV hp⟩
    | false=>
     have e1:uq i j xs[j] = .own [nC i j xs[j]]:=by simp[uq,hp]
     rw[e1]
     exact⟨c2.iT hp (hx _ (List.getElem_mem _)).1,by simp only[bC,c3 hp]⟩
   ·obtain⟨c1,c2,c3⟩:=kY j x hj
    exact .sl _ x (c3 hp) c2
   ·have:=dY (j+1) mu (by simpa using vZ)
    rw[show i+(j+1)=i+1+j by omega]at this
    exact this
 | .sl q y :: ay,.sl y' :: ins,i,so,dY,fh,ja,hi=>by
  obtain⟨hm,hf⟩:=fh _ (.head _)
  obtain⟨⟨hw,hx⟩,vY⟩:=ja
  have gJ:=dY 0 _ rfl
  rw[Nat.add_zero]at gJ
  simp only[List.length_cons]at hi
  have bZ:=hR.root q _ hm
  generalize hz:ax.sl y=z at bZ
  cases bZ with
  | blk=>cases hz
  | mp=>cases hz
  | gh=>cases hz
  | sl v y0 av hr=>
   injection hz with hz
   subst hz
   refine⟨.sl v y' ((Bw gJ (by omega)).trans av) ?_,KV hR hS ay ins (i+1) (fun p hp=>so p (.tail _ hp)) (fun j mu vZ=>?_) (fun mu h=>fh mu (.tail _ h)) vY (by omega)⟩
   ·exact((RV.dD (nm:=id) (p:=[]) hr (so _ (.head _))).wk hw).QH hx
   ·have:=dY (j+1) mu (by simpa using vZ)
    rw[show i+(j+1)=i+1+j by omega]at this
    exact this
end
end Go.Proofs.YtmffpkippmkjbaaGreatDoor
namespace Go.Proofs.YtmffpkippmkjbaaGreatDoor
open Go.RowKit
set_option linter.unusedVariables false
def KX:Loc->Nat×Nat
 | .blk b off=>(b,off)
 | .cS _=>(0,0)
 | .aT _=>(0,0)
def uz(w:World)(b off:Nat):Nat->List Nat->List V->List (Nat×Value)
 | j,n :: cM,x :: xs=>bif x.ah then uz w b off (j+1) cM xs else (n,(w.cell? ⟨b,off+j,none⟩).getD undef) :: uz w b off (j+1) cM xs
 | _,_,_=>[]
def oA(w:World)(ρ:Nat->Loc)(c0:Nat):Nat->List Mu->List In->List (Nat×Value)
 | pos,.blk r _ vs :: ay,.blk xs :: outs=>uz w (KX (ρ r)).1 (KX (ρ r)).2 0 (jL c0 (pos+1) vs) xs++oA w ρ c0 (pos+1+vs.length) ay outs
 | pos,.sl _ _ :: ay,.sl _ :: outs=>oA w ρ c0 (pos+1) ay outs
 | _,_,_=>[]
def QL(l:List (Nat×Value))(ρ:Nat->Loc):Nat->Loc:=fun n=>match l.lookup n with
 | some v=>.cS v
 | none=>ρ n
theorem KY{w:World}{b off:Nat}:∀ (cM:List Nat) (xs:List V) (j:Nat),(uz w b off j cM xs).map (·.1)=qA cM xs
 | [],[],_=>rfl
 | [],_ :: _,_=>rfl
 | _ :: _,[],_=>rfl
 | n :: cM,x :: xs,j=>by
  simp only[uz,qA]
  cases x.ah with
  | true=>exact KY cM xs (j+1)
  | false=>simp only[cond_false,List.map_cons];rw[KY cM xs (j+1)]
theorem Fo{w:World}{ρ:Nat->Loc}{c0:Nat}:∀ (ay:List Mu) (outs:List In) (pos:Nat),(oA w ρ c0 pos ay outs).map (·.1)=jM c0 pos ay outs
 | .blk r _ vs :: ay,.blk xs :: outs,pos=>by
  simp only[oA,jM,List.map_append]
  rw[KY,Fo ay outs]
 | .sl _ _ :: ay,.sl _ :: outs,pos=>by
  simp only[oA,jM]
  exact Fo ay outs _
 | [],_,_=>by simp[oA,jM]
 | .blk _ _ _ :: _,[],_=>rfl
 | .sl _ _ :: _,[],_=>rfl
 | .blk _ _ _ :: _,.sl _ :: _,_=>rfl
 | .sl _ _ :: _,.blk _ :: _,_=>rfl
theorem QM{n:Nat}:∀ {l:List (Nat×Value)},bg n (l.map (·.1))=false->l.lookup n=none
 | [],_=>rfl
 | p :: l,h=>by
  simp only[List.map_cons,bg,Bool.or_eq_false_iff]at h
  rw[List.lookup_cons]
  cases hb:n==p.1 with
  | false=>exact QM h.2
  | true=>
   have e:n=p.1:=by simpa using hb
   have h1:=h.1
   rw[<-e,Nat.beq_refl]at h1
   cases h1
theorem QN:∀ {l:List (Nat×Value)},Fk (l.map (·.1))=true->∀ p∈l,l.lookup p.1=some p.2
 | [],_,p,hp=>by cases hp
 | q :: l,h,p,hp=>by
  simp only[List.map_cons,Fk,Bool.and_eq_true,Bool.not_eq_true']at h
  rw[List.lookup_cons]
  rcases List.mem_cons.1 hp with rfl | hp
  ·simp
  ·cases hb:p.1==q.1 with
   | false=>exact QN h.2 p hp
   | true=>
    have e:p.1=q.1:=by simpa using hb
    exact absurd (List.mem_map_of_mem (f:=(·.1)) hp) (by rw[e];exact QF h.1)
theorem BB{c0:Nat}:∀ (vs:List (V×Option Nat)) (n:Nat),(jL c0 n vs).length=vs.length
 | [],_=>rfl
 | (_,some _) :: vs,n=>by simp[jL,BB vs]
 | (_,none) :: vs,n=>by simp[jL,BB vs]
theorem QO{ns cn:List Nat}:∀ (cM:List Nat) (ls:List Lf) (xs:List V),cM.length=ls.length->xs.length=ls.length->(lS ns cn cM ls xs).length=ls.length/\
  ∀ (j:Nat) z,(lS ns cn cM ls xs)[j]?=some z->∃ n l x,cM[j]?=some n/\ls[j]?=some l/\xs[j]?=some x/\z=(bif x.plain then .v x else bif x.ah then l.aP ns cn else .own [n])
 | [],[],[],_,_=>⟨rfl,fun j z hz=>by simp[lS]at hz⟩
 | n :: cM,l :: ls,x :: xs,h1,h2=>by
  obtain⟨k1,k2⟩:=QO (ns:=ns) (cn:=cn) cM ls xs (by simpa using h1) (by simpa using h2)
  refine⟨by simp[lS,k1],fun j z hz=>?_⟩
  cases j with
  | zero=>simp only[lS,List.getElem?_cons_zero,Option.some.injEq]at hz;exact⟨n,l,x,rfl,rfl,rfl,hz.symm⟩
  | succ j=>exact k2 j z (by simpa [lS]using hz)
 | [],_ :: _,_,h1,_=>by simp at h1
 | _ :: _,[],_,h1,_=>by simp at h1
 | _ :: _,_ :: _,[],_,h2=>by simp at h2
 | [],[],_ :: _,_,h2=>by simp at h2
theorem QS:∀ (cM:List Nat) (xs:List V),∀ p∈pq cM xs,∃ (j:Nat) (x:V),cM[j]?=some p.1/\xs[j]?=some x/\x.ah=false/\p.2 = .sl x
 | [],[],p,hp=>by cases hp
 | [],_ :: _,p,hp=>by cases hp
 | _ :: _,[],p,hp=>by cases hp
 | n :: cM,x :: xs,p,hp=>by
  simp only[pq]at hp
  have rest:p∈pq cM xs->∃ (j:Nat) (y:V),(n :: cM)[j]?=some p.1/\(x :: xs)[j]?=some y/\y.ah=false/\p.2 = .sl y:=fun hp=>by
   obtain⟨j,y,h1,h2,h3,h4⟩:=QS cM xs p hp
   exact⟨j+1,y,by simpa using h1,by simpa using h2,h3,h4⟩
  cases hf:x.ah with
  | true=>rw[hf]at hp;exact rest hp
  | false=>
   rw[hf,cond_false]at hp
   rcases List.mem_cons.1 hp with rfl | hp
   ·exact⟨0,x,rfl,rfl,hf,rfl⟩
   ·exact rest hp
theorem QT{w:World}{b off n:Nat}{x:V}:∀ (cM:List Nat) (xs:List V) (j0 j:Nat),cM[j]?=some n->xs[j]?=some x->x.ah=false->(n,(w.cell? ⟨b,off+(j0+j),none⟩).getD undef)∈uz w b off j0 cM xs
 | [],_,_,j,h,_,_=>by simp at h
 | _ :: _,[],_,j,_,h,_=>by simp at h
 | m :: cM,y :: xs,j0,j,h1,h2,hf=>by
  cases j with
  | zero=>
   simp at h1 h2
   subst h1 h2
   simp only[uz,hf,cond_false]
   exact .head _
  | succ j=>
   have:=QT (w:=w) (b:=b) (off:=off) cM xs (j0+1) j (by simpa using h1) (by simpa using h2) hf
   rw[show j0+1+j=j0+(j+1) by omega]at this
   simp only[uz]
   cases y.ah with
   | true=>exact this
   | false=>exact .tail _ this
section
variable {P:Program} {w w':World} {w0:Wd} {B N:Nat} {lab cI aj:aQ} {ρ dI ρ':Nat->Loc} {σ:S} {a:Act} {X:Type} {d:Nat} {r:X} {ns cn:List Nat} {o:Oper} {rs:List Nat} {dr:List (Nat×Nat)} {nm Fp:Nat->Nat} {c0:Nat}
theorem RV.v7{q:List Nat}{x:V}{v:Value}(h:RV w B lab q x v){B':Nat}(hB:B'<=B)(hl:∀ b,B<=b->aj b=lab b)(hg:∀ b k,lab b=some k->aj b=some k)(hx:x.loc=true):RV w B' aj q x v:=by
 induction h with
 | int=>exact .int _ _ _
 | bool=>exact .bool _ _
 | str=>exact .str _ _
 | nil=>exact .nil _
 | bO=>exact .bO _ _ _
 | bY=>exact .bY _ _ _ _ _ (by first | assumption | omega)
 | cy=>exact .cy _ _ _ _ _ (by first | assumption | omega)
 | ah q t o qn l b off cap u ho cL hb h1 hcap hc hr ih=>
  have kA:o=1:=by
   match o,ho,hx with
   | 0,_,hx=>cases hx
   | 1,_,_=>rfl
   | n+2,ho,_=>omega
  subst kA
  have Bj:=h1 rfl
  refine .ah _ _ _ _ _ _ _ _ u ho ((hl b Bj).trans cL) hb (fun _=>Nat.le_trans hB Bj) hcap hc (fun i h j x bR=>ih i h j x bR ?_)
  have:=rq t 1 l[i] x (List.mem_of_getElem? bR)
  cases x with
  | sl t' o' q' l'=>
   have:o'=1:=by simpa [V.gr]using this
   subst this
   rfl
  | _=>rfl
 | own q t o qn l b cap cs u cL hh hs hn hm hc hr ih=>
  exact .own _ _ _ _ _ _ _ cs u (hg b q cL) hh hs hn hm hc (fun i h j x bR=>ih i h j x bR (Qy hx l[i] x (List.mem_of_getElem? bR)))
theorem gM.v7{nm:Nat->Nat}:∀ (ps:List Pt) (off:Nat) (vs:List Value) {B':Nat},gM w B lab nm off ps vs->B'<=B->(∀ b,B<=b->aj b=lab b)->(∀ b k,lab b=some k->aj b=some k)->(∀ n,off<=n->n<off+(ps.map fun p=>p.2.length).sum->nm n=Fp n)->gM w B' aj Fp off ps vs
 | [],_,[],_,h,_,_,_,_=>h
 | [],_,_ :: _,_,h,_,_,_,_=>h
 | _ :: _,_,[],_,h,_,_,_,_=>h
 | p :: ps,off,v :: vs,B',h,hB,hl,hg,hn=>by
  obtain⟨⟨kB,us,hu,hs,hr⟩,gL⟩:=h
  simp only[List.map_cons,List.sum_cons]at hn
  refine⟨⟨kB,us,hu,hs,fun j x hx=>?_⟩,gM.v7 ps _ vs gL hB hl hg (fun n h1 h2=>hn n (by omega) (by omega))⟩
  obtain⟨v',dh,cw⟩:=hr j x hx
  have hj:j<p.2.length:=(List.getElem?_eq_some_iff.1 hx).1
  refine⟨v',dh,?_⟩
  show RV w B' aj [Fp (off+j)] x v'
  rw[<-hn (off+j) (by omega) (by omega)]
  exact cw.v7 hB hl hg (List.all_eq_true.1 kB x (List.mem_of_getElem? hx))
theorem KZ(hR:Rl w0 N lab ρ σ a w)(hv:nQ w w' lab cI ρ dI ns cn)(ij:∀ b k,aj b=some k->cI b=some k)(j3:∀ b,w.heap.size<=b->cI b=aj b)(hB:w0.heap.size<=w.heap.size):
  ∀ (ay:List Mu) (ins outs:List In) (i pos:Nat),(∀ j mu,ay[j]?=some mu->rs[i+j]?=some mu.root)->(∀ mu∈ay,uw σ mu)->By ay ins->i+ay.length<=40->Bt w w' aj (sn w ρ rs) nm i pos ins outs->
  (∀ k n,(ux c0 pos ay)[k]?=some n->nm (pos+k)=n)->(∀ p∈oA w' ρ c0 pos ay outs,dI p.1 = .cS p.2)->(∀ mu∈ay,bg mu.root cn=false)->outs.all QI=true->∀ p∈jN ns cn c0 pos ay outs,cX w' w0.heap.size cI dI p.1 p.2
 | [],[],[],_,_,_,_,_,_,_,_,_,_,_,p,hp=>by simp[jN]at hp
 | [],[],_ :: _,_,_,_,_,_,_,h,_,_,_,_,_,_=>h.elim
 | [],_ :: _,_,_,_,_,_,h,_,_,_,_,_,_,_,_=>h.elim
 | .blk _ _ _ :: _,[],_,_,_,_,_,h,_,_,_,_,_,_,_,_=>h.elim
 | .sl _ _ :: _,[],_,_,_,_,_,h,_,_,_,_,_,_,_,_=>h.elim
 | .blk _ _ _ :: _,.sl _ :: _,_,_,_,_,_,h,_,_,_,_,_,_,_,_=>h.elim
 | .sl _ _ :: _,.blk _ :: _,_,_,_,_,_,h,_,_,_,_,_,_,_,_=>h.elim
 | .blk _ _ _ :: _,.blk _ :: _,[],_,_,_,_,_,_,h,_,_,_,_,_,_=>h.elim
 | .sl _ _ :: _,.sl _ :: _,[],_,_,_,_,_,_,h,_,_,_,_,_,_=>h.elim
 | .blk _ _ _ :: _,.blk _ :: _,.sl _ :: _,_,_,_,_,_,_,h,_,_,_,_,_,_=>h.elim
 | .sl _ _ :: _,.sl _ :: _,.blk _ :: _,_,_,_,_,_,_,h,_,_,_,_,_,_=>h.elim
 | .blk r cs vs :: ay,.blk xs0 :: ins,.blk xs :: outs,i,pos,dY,fh,ja,hi,hO,di,v8,oB,kB,p,hp=>by
  obtain⟨hm,hg,hlen⟩:=fh _ (.head _)
  obtain⟨⟨hw,hx⟩,vY⟩:=ja
  obtain⟨g1,g2⟩:=KS cs vs hg
  have gJ:=dY 0 _ rfl
  rw[Nat.add_zero]at gJ
  simp only[List.length_cons]at hi
  have K0:xs0.length=cs.length:=by rw[<-hw.1,List.length_map,g1]
  obtain⟨⟨b,off,cells,kD,e,e',h1,h2,h3,h4,h5,h6,h7⟩,K1⟩:=hO
  have bZ:=hR.root r _ hm
  generalize hz:ax.blk cs=z at bZ
  cases bZ with
  | sl=>cases hz
  | mp=>cases hz
  | gh=>cases hz
  | blk b0 qB QU e0 cz us av hl hh hs hc=>
   injection hz with hz
   subst hz
   rw[Bw gJ (by omega)]at h1
   have h1:ρ r = .blk b off:=h1
   rw[av]at h1
   injection h1 with e1 e2
   subst e1 e2
   have acK:QU=cells:=by
    rw[hh]at h2
    injection h2 with h2
    injection h2
   subst acK
   have bL:=oB _ (.head _)
   have qt:dI r = .blk b0 qB:=(hv.dj r bL).trans av
   have BC:nm pos=r:=by have:=di 0 r rfl;rwa [Nat.add_zero]at this
   have acL:∀ (j:Nat) n,(jL c0 (pos+1) vs)[j]?=some n->nm (pos+1+j)=n:=by
    intro j n hn
    have hj:j<(jL c0 (pos+1) vs).length:=(List.getElem?_eq_some_iff.1 hn).1
    have:=di (j+1) n (by simp only[ux,List.getElem?_cons_succ];rw[List.getElem?_append_left hj];exact hn)
    rw[show pos+1+j=pos+(j+1) by omega]
    exact this
   have kY:∀ (j:Nat) x,xs[j]?=some x->∃ u,kD[qB+j]?=some u/\w'.cell? ⟨b0,qB+j,none⟩=some u/\((x.plain=true/\∀ (w:World) (B:Nat) (lab:aQ) (q:List Nat),RV w B lab q x u)\/(x.plain=false/\x.ah=true/\QU[qB+j]?=some u)\/(x.ah=false/\RV w' w.heap.size aj [nm (pos+1+j)] x u)):=by
    intro j x hj
    obtain⟨u,hu,hd⟩:=h7 j x hj
    exact⟨u,hu,by rw[cell_of_row w' b0 _ kD _ _ h3];exact hu,hd⟩
   have eD:∀ (j:Nat) n x u,(jL c0 (pos+1) vs)[j]?=some n->xs[j]?=some x->x.ah=false->w'.cell? ⟨b0,qB+j,none⟩=some u->dI n = .cS u:=by
    intro j n x u hn hxj hf hu
    have qu:=QT (w:=w') (b:=b0) (off:=qB) _ xs 0 j hn hxj hf
    rw[Nat.zero_add,hu]at qu
    exact v8 (n,u) (by simp only[oA,av,KX];exact List.mem_append_left _ qu)
   simp only[jN]at hp
   rcases List.mem_cons.1 hp with rfl | hp
   ·obtain⟨k1,k2⟩:=QO (ns:=ns) (cn:=cn) (jL c0 (pos+1) vs) cs xs (by rw[BB,g1]) (by rw[h6,K0])
    refine .blk b0 qB kD e' _ (fun j=>kD.getD (qB+j) undef) qt (ij _ _ (by rw[h4,BC])) h3 (by show qB+(lS _ _ _ _ _).length<=_;rw[k1,<-K0,<-h6];exact h5) (fun j z hz=>?_)
    obtain⟨n,l,x,n1,n2,n3,rfl⟩:=k2 j z hz
    obtain⟨u,hu,K2,hd⟩:=kY j x n3
    have eu:kD.getD (qB+j) undef=u:=by rw[Array.getD_eq_getD_getElem?,hu];rfl
    rw[eu]
    refine⟨hu,?_⟩
    rcases hd with ⟨d1,d2⟩ | ⟨d1,d2,d3⟩ | ⟨d1,d2⟩
    ·rw[d1,cond_true]
     exact⟨V.A5 d1,d2 _ _ _ _⟩
    ·rw[d1,d2,cond_false,cond_true]
     obtain⟨c1,c2⟩:=hc j l n2
     rw[c1]at d3
     injection d3 with d3
     rw[<-d3]
     exact c2.gD hv
    ·have uo:x.plain=false:=by
      cases uo:x.plain with
      | false=>rfl
      | true=>rw[V.A5 uo]at d1;cases d1
     rw[uo,d1,cond_false,cond_false]
     exact⟨d2.ER d1,by simp only[bC,eD j n x u n1 n3 d1 K2]⟩
   ·rcases List.mem_append.1 hp with hp | hp
    ·obtain⟨j,x,n1,n2,n3,n4⟩:=QS _ _ p hp
     obtain⟨u,hu,K2,hd⟩:=kY j x n2
     rw[n4]
     refine .sl u x (eD j p.1 x u n1 n2 n3 K2) ?_
     rcases hd with ⟨d1,d2⟩ | ⟨d1,d2,d3⟩ | ⟨d1,d2⟩
     ·exact d2 _ _ _ _
     ·rw[n3]at d2;cases d2
     ·rw[acL j _ n1]at d2
      refine d2.v7 hB j3 ij ?_
      rw[List.all_cons,Bool.and_eq_true]at kB
      have:=List.all_eq_true.1 kB.1 x (List.mem_of_getElem? n2)
      rwa [n3,Bool.false_or]at this
    ·rw[List.all_cons,Bool.and_eq_true]at kB
     refine KZ hR hv ij j3 hB ay ins outs (i+1) (pos+1+vs.length) (fun j mu vZ=>?_) (fun mu h=>fh mu (.tail _ h)) vY (by omega) ?_ (fun k n hn=>?_) (fun p hp=>v8 p ?_) (fun mu h=>oB mu (.tail _ h)) kB.2 p hp
     ·have:=dY (j+1) mu (by simpa using vZ)
      rw[show i+(j+1)=i+1+j by omega]at this
      exact this
     ·rw[g1,<-K0]
      exact K1
     ·have:=di (1+vs.length+k) n (by
       rw[show 1+vs.length+k=(vs.length+k)+1 by omega]
       simp only[ux,List.getElem?_cons_succ]
       rw[List.getElem?_append_right (by rw[BB];omega),BB]
       rw[show vs.length+k-vs.length=k by omega]
       exact hn)
      rw[show pos+1+vs.length+k=pos+(1+vs.length+k) by omega]
      exact this
     ·simp only[oA]
      exact List.mem_append_right _ hp
 | .sl q y0 :: ay,.sl y1 :: ins,.sl y :: outs,i,pos,dY,fh,ja,hi,hO,di,v8,oB,kB,p,hp=>by
  obtain⟨hm,hf⟩:=fh _ (.head _)
  obtain⟨_,vY⟩:=ja
  have gJ:=dY 0 _ rfl
  rw[Nat.add_zero]at gJ
  simp only[List.length_cons]at hi
  obtain⟨⟨v,h1,h2⟩,K1⟩:=hO
  rw[List.all_cons,Bool.and_eq_true]at kB
  have BC:nm pos=q:=by have:=di 0 q rfl;rwa [Nat.add_zero]at this
  simp only[jN]at hp
  rcases List.mem_cons.1 hp with rfl | hp
  ·rw[Bw gJ (by omega)]at h1
   rw[BC]at h2
   exact .sl v y ((hv.dj q (oB _ (.head _))).trans h1) (h2.v7 hB j3 ij kB.1)
  ·refine KZ hR hv ij j3 hB ay ins outs (i+1) (pos+1) (fun j mu vZ=>?_) (fun mu h=>fh mu (.tail _ h)) vY (by omega) K1 (fun k n hn=>?_) (fun p hp=>v8 p hp) (fun mu h=>oB mu (.tail _ h)) kB.2 p hp
   ·have:=dY (j+1) mu (by simpa using vZ)
    rw[show i+(j+1)=i+1+j by omega]at this
    exact this
   ·have:=di (k+1) n (by simpa [ux]using hn)
    rw[show pos+1+k=pos+(k+1) by omega]
    exact this
end
end Go.Proofs.YtmffpkippmkjbaaGreatDoor
namespace Go.Proofs.YtmffpkippmkjbaaGreatDoor
open Go.RowKit
set_option linter.unusedVariables false
section
variable {P:Program} {w w':World} {w0:Wd} {B N:Nat} {lab cI aj:aQ} {ρ dI ρ':Nat->Loc} {σ:S} {a:Act} {X:Type} {d:Nat} {r:X} {ns cn:List Nat} {o:Oper} {rs:List Nat} {dr:List (Nat×Nat)} {nm Fp:Nat->Nat} {c0:Nat}
theorem acM{dst:Option Tmp}{res:eM}{k:S->Option X}(h:jO N σ dst res k=some r):∃ af,k af=some r/\∀ lab ρ a w v,Rl w0 N lab ρ σ a w->mP w w0.heap.size lab (fun n=>fR dst+n) res v->∃ ρ',Rl w0 N lab ρ' af (a.put dst v) w/\∀ r,r<fR dst->ρ' r=ρ r:=by
 unfold jO at h
 cases dst with
 | none=>exact⟨σ,h,fun lab ρ a w v hR _=>⟨ρ,hR,fun _ _=>rfl⟩⟩
 | some d=>
  have h:(bif Nat.blt d N then (match res with
   | .one p=>(match ox (p.1,ig (1000000000100000+1000*d) p.2)with
    | some y=>k ((eV (1000000000100000+1000*d) σ p.2).set d y)
    | none=>none)
   | .bJ ps=>k ((gC (1000000000100000+1000*d) σ ps).set d (.bJ (iZ (1000000000100000+1000*d) ps))))else none)=some r:=h
  cases hN:Nat.blt d N with
  | false=>rw[hN]at h;cases h
  | true=>
   rw[hN,cond_true]at h
   have rZ:d<N:=Nat.le_of_ble_eq_true hN
   cases res with
   | one p=>
    simp only at h
    split at h
    ·rename_i y hy
     refine⟨_,h,fun lab ρ a w v hR eX=>?_⟩
     obtain⟨ρ',iM,fF,_,fq⟩:=Bn [p] (1000000000100000+1000*d) 0 σ ρ [v] (by omega) hR eX
     have KB:=fq 0 _ v rfl rfl
     exact⟨ρ',iM.set (Ke hy KB) rZ,fF⟩
    ·cases h
   | bJ lO=>
    refine⟨_,h,fun lab ρ a w v hR eX=>?_⟩
    obtain⟨vs,rfl,hv⟩:=eX
    obtain⟨ρ',iM,fF,hlen,fq⟩:=Bn lO (1000000000100000+1000*d) 0 σ ρ vs.toList (by omega) hR hv
    refine⟨ρ',iM.set ⟨vs,rfl,by simpa using hlen,fun j p hp=>?_⟩ rZ,fF⟩
    have hj:j<vs.size:=by
     have:=(List.getElem?_eq_some_iff.1 hp).1
     rw[Nat.add_zero]at hlen
     rw[<-hlen]at this
     simpa using this
    exact⟨vs[j],Array.getElem?_eq_getElem hj,fq j p _ hp (by rw[Array.getElem?_toList,Array.getElem?_eq_getElem hj])⟩
theorem QV{f:Nat}{args:Array Operand}{cA:Array TypeId}{c:gN}{k:S->Option X}(ho:o.op = .call { callee:=.value (.func f),args,argTypes:=cA })(he:enters P f)(hc:kF P f c)(h:jP N σ o.dst c args.toList k=some r):∃ af ay cn,k af=some r/\gU σ c.ps args.toList=some ay/\(∀ n,bg n cn=true->n<N\/60000<=n)/\(∀ mu∈ay,bg mu.root cn=false)/\
  ∀ a w K Q lab ρ,Rl w0 N lab ρ σ a w->(∀ v w' cI dI qC,Rl w0 N cI qC af (a.put o.dst v) w'->nQ w w' lab cI ρ dI ((iN 0 ay).map (·.1)) cn->gv w0 w w'->(∀ r,r<fR o.dst->qC r=dI r)->K (a.put o.dst v) w')->o.wp P a w K Q:=by
 unfold jP at h
 split at h
 ·rename_i ay nS
  generalize so:iN 0 ay=dr at h
  cases gx:(once dr&&Nat.ble ay.length 40)with
  | false=>rw[gx]at h;cases h
  | true=>
   rw[gx,cond_true]at h
   rw[Bool.and_eq_true]at gx
   have arS:=Nat.le_of_ble_eq_true gx.2
   have o9:∀ p∈iN 0 ay,dr.lookup p.1=some p.2:=by
    intro p hp
    rw[so]at hp
    have:=List.all_eq_true.1 gx.1 p hp
    obtain⟨n,hn,he⟩:=(Option.any_eq_true _ _).1 this
    rw[hn,Nat.eq_of_beq_eq_true he]
   obtain⟨x,h2,ja,arT,eW⟩:=Fj (w0:=w0) (N:=N) _ _ ay _ nS h
   clear h
   split at h2
   ·rename_i y hy
    unfold uy at h2
    generalize oB:jM (fR o.dst) (dK c.ro y.1).len ay (fZ (dQ c.ps) y.2)=cn at h2
    generalize oW:dr.map (·.1)=ns at h2 eW
    cases dw:vX N ay (fZ (dQ c.ps) y.2) cn with
    | false=>rw[dw]at h2;cases h2
    | true=>
     rw[dw,cond_true]at h2
     simp only[vX,Bool.and_eq_true]at dw
     obtain⟨⟨⟨ok1,QW⟩,QX⟩,ok4⟩:=dw
     obtain⟨af,h3,Fq⟩:=acM (w0:=w0) h2
     refine⟨af,ay,cn,h3,nS,fun n hn=>?_,fun mu fh=>by simpa using List.all_eq_true.1 QW mu fh,fun a w K Q lab ρ hR hK=>?_⟩
     ·have:=List.all_eq_true.1 QX n (pg.1 hn)
      rw[Bool.or_eq_true]at this
      rcases this with h | h
      ·exact .inl (by have:=Nat.le_of_ble_eq_true h;omega)
      ·exact .inr (Nat.le_of_ble_eq_true h)
     have hS:vV ns lab (dD lab dr id):=by rw[<-oW];exact acI (fun b k hb=>(hR.bV b k hb).2.2)
     have QY:=KR _ _ _ nS
     let rs:=ay.map Mu.root
     have dY:∀ j mu,ay[j]?=some mu->rs[0+j]?=some mu.root:=by
      intro j mu hj
      rw[Nat.zero_add,List.getElem?_map,hj]
      rfl
     have hE:=KV (rs:=rs) hR hS ay (nP c.ps x) 0 o9 dY QY ja (by omega)
     have hA:=eW lab ρ a w (dD lab dr id) (sn w ρ rs) hR hS (nP c.ps x) 0 (fun j z hz=>by rw[Nat.zero_add];exact hz) (fun j mu hj=>by
      have h1:=dY j mu hj
      rw[Nat.zero_add]at h1 ⊢
      exact Bw h1 (by have:=(List.getElem?_eq_some_iff.1 hj).1;omega))
     obtain⟨hA1,hA2⟩:=yN.get _ _ hA
     let nm:Nat->Nat:=fun n=>if n<(dK c.ro y.1).len then fR o.dst+n else (ux (fR o.dst) (dK c.ro y.1).len ay).getD (n-(dK c.ro y.1).len) 0
     have fq:∀ (ps:List PK) (i:Nat) (x:kE ps),(jK ps i x).length=ps.length:=by
      intro ps
      induction ps with
      | nil=>intro i x;rfl
      | cons p ps ih=>
       intro i x
       cases p with
       | v=>exact congrArg (· + 1) (ih _ _)
       | p=>exact congrArg (· + 1) (ih _ _)
       | s=>exact congrArg (· + 1) (ih _ _)
     unfold Oper.wp
     rw[Fe w o a f args cA ho he,Oper.upon_enter]
     have o8:(args.map a.eval)=(args.toList.map a.eval).toArray:=by apply Array.ext';rw[Array.toList_map]
     rw[o8]
     have Fs:∀ b k,dD lab dr id b=some k->(∃ k',lab b=some k'/\bG k' ns=true)/\k≠[]:=by
      intro b k hb
      cases hl:lab b with
      | none=>rw[hS.none b hl]at hb;cases hb
      | some k'=>
       refine⟨⟨k',rfl,?_⟩,?_⟩
       ·cases hq:bG k' ns with
        | true=>rfl
        | false=>rw[(hS.rest b k' hl).2 hq]at hb;cases hb
       ·simp only[dD,hl]at hb
        split at hb
        ·cases hb
        ·cases QZ:dr.lookup _ with
         | none=>rw[QZ]at hb;cases hb
         | some n=>rw[QZ]at hb;injection hb with hb;subst hb;simp
     have hQ:Hd w (dD lab dr id):=w0.on hR.below (fun b k hb=>by obtain⟨⟨k',hl,_⟩,_⟩:=Fs b k hb;exact(hR.bV b k' hl).1)
     refine(hc x y hy nm w (dD lab dr id) (sn w ρ rs) _ hE (fun b k hb=>⟨?_,(Fs b k hb).2⟩) ?_ hA2 hQ).mono fun e w' kC=>?_
     ·obtain⟨⟨k',hl,_⟩,_⟩:=Fs b k hb
      exact(hR.bV b k' hl).2.1
     ·rw[List.size_toArray,hA1,fq]
     ·obtain⟨v,iq,rfl,ep,yO,eX,K3⟩:=kC
      have hB:=hR.below.size
      let cI:aQ:=fun b=>match dD lab dr id b with
       | none=>if b<w.heap.size then lab b else iq b
       | some _=>iq b
      have e1:∀ b k,iq b=some k->cI b=some k:=by
       intro b k hb
       show (match dD lab dr id b with | none=>if b<w.heap.size then lab b else iq b | some _=>iq b)=some k
       split
       ·rename_i bL
        have:=(yO b k hb).1
        have j3:w.heap.size<=b:=this.resolve_right (fun h=>h bL)
        rw[if_neg (by omega)]
        exact hb
       ·exact hb
      have e2:∀ b,w.heap.size<=b->cI b=iq b:=by
       intro b hb
       show (match dD lab dr id b with | none=>if b<w.heap.size then lab b else iq b | some _=>iq b)=iq b
       split
       ·rw[if_neg (by omega)]
       ·rfl
      have Q0:∀ p∈oA w' ρ (fR o.dst) (dK c.ro y.1).len ay (fZ (dQ c.ps) y.2),(oA w' ρ (fR o.dst) (dK c.ro y.1).len ay (fZ (dQ c.ps) y.2)).lookup p.1=some p.2:=
       QN (by rw[Fo,oB];exact ok1)
      generalize v8:oA w' ρ (fR o.dst) (dK c.ro y.1).len ay (fZ (dQ c.ps) y.2)=hd at Q0
      have acN:hd.map (·.1)=cn:=by rw[<-v8,Fo,oB]
      have hv:nQ w w' lab cI ρ (QL hd ρ) ns cn:=by
       refine⟨ep.size,fun b hb hk=>?_,fun n hn=>?_,fun b k hb=>(hR.bV b k hb).2⟩
       ·have bL:dD lab dr id b=none:=by
         cases hl:lab b with
         | none=>exact hS.none b hl
         | some k=>exact(hS.rest b k hl).2 (hk k hl)
        refine⟨ep.block b hb bL,?_⟩
        show (match dD lab dr id b with | none=>if b<w.heap.size then lab b else iq b | some _=>iq b)=lab b
        rw[bL]
        exact if_pos hb
       ·show (match hd.lookup n with | some v=>Loc.cS v | none=>ρ n)=ρ n
        rw[QM (by rw[acN];exact hn)]
      have uA:∀ mu∈ay,bg mu.root cn=false:=fun mu fh=>by simpa using List.all_eq_true.1 QW mu fh
      have BD:=KZ (c0:=fR o.dst) (nm:=nm) hR hv e1 e2 hB ay (nP c.ps x) (fZ (dQ c.ps) y.2) 0 (dK c.ro y.1).len dY QY ja (by omega) K3 (fun k n hn=>?_) (fun p hp=>?_) uA ok4
      ·have Q1:gv w0 w w':=by
        refine⟨ep.os,ep.tape,ep.output,ep.size,fun k hk hL=>ep.block k (Nat.lt_of_lt_of_le hk hB) ?_⟩
        cases hl:lab k with
        | none=>exact hS.none k hl
        | some k'=>exact absurd hL ((hR.bV k k' hl).1.resolve_left (by omega))
       have iM:Rl w0 N cI (QL hd ρ) (σ.aP ns cn (jN ns cn (fR o.dst) (dK c.ro y.1).len ay (fZ (dQ c.ps) y.2))) a w':=by
        refine hR.gD hv Q1 (fun b k hb=>?_) (fun n hn=>?_) (fun n z hz=>?_)
        ·have hb:(match dD lab dr id b with | none=>if b<w.heap.size then lab b else iq b | some _=>iq b)=some k:=hb
         have Q2:iq b=some k->(w0.heap.size<=b\/w0.L b≠none)/\b<w'.heap.size/\k≠[]:=by
          intro h1
          obtain⟨g1,g2,g3⟩:=yO b k h1
          refine⟨?_,g2,g3⟩
          rcases g1 with g1 | g1
          ·exact .inl (Nat.le_trans hB g1)
          ·cases bL:dD lab dr id b with
           | none=>exact absurd bL g1
           | some k2=>
            obtain⟨⟨k',hl,_⟩,_⟩:=Fs b k2 bL
            exact(hR.bV b k' hl).1
         split at hb
         ·split at hb
          ·have:=hR.bV b k hb
           exact⟨this.1,Nat.lt_of_lt_of_le this.2.1 ep.size,this.2.2⟩
          ·exact Q2 hb
         ·exact Q2 hb
        ·have:=List.all_eq_true.1 QX n (pg.1 hn)
         rw[Bool.or_eq_true]at this
         refine hR.dM n ?_
         rcases this with h | h
         ·exact .inl (by have:=Nat.le_of_ble_eq_true h;omega)
         ·exact .inr (Nat.le_of_ble_eq_true h)
        ·have qu:(n,z)∈jN ns cn (fR o.dst) (dK c.ro y.1).len ay (fZ (dQ c.ps) y.2):=by
          clear BD
          generalize jN ns cn (fR o.dst) (dK c.ro y.1).len ay (fZ (dQ c.ps) y.2)=l at hz
          induction l with
          | nil=>cases hz
          | cons p l ih=>
           rw[List.lookup_cons]at hz
           cases hb:n==p.1 with
           | true=>
            rw[hb]at hz
            have e:n=p.1:=by simpa using hb
            injection hz with hz
            rw[e,<-hz]
            exact .head _
           | false=>
            rw[hb]at hz
            exact .tail _ (ih hz)
         exact BD (n,z) qu
       have acO:mP w' w0.heap.size cI (fun n=>fR o.dst+n) (dK c.ro y.1) v:=?_
       ·obtain⟨qC,BE,sq⟩:=Fq cI _ a w' v iM acO
        exact hK v w' cI _ qC BE (by rw[so,oW];exact hv) Q1 sq
       have K4:∀ (L:Nat),L=(dK c.ro y.1).len->∀ n,n<L->nm n=fR o.dst+n:=fun L hL n hn=>if_pos (by omega)
       generalize arU:dK c.ro y.1=res at eX K4
       cases res with
       | one p=>
        have eX:gM w' w.heap.size iq nm 0 [p] [v]:=eX
        exact gM.v7 [p] 0 [v] eX hB e2 e1 (fun n _ hn=>K4 _ rfl n (by simpa [eM.len]using hn))
       | bJ lO=>
        obtain⟨vs,e,eT⟩:=eX
        exact⟨vs,e,gM.v7 lO 0 vs.toList eT hB e2 e1 (fun n _ hn=>K4 _ rfl n (by simpa [eM.len]using hn))⟩
      ·show (if (dK c.ro y.1).len+k<(dK c.ro y.1).len then fR o.dst+((dK c.ro y.1).len+k)else (ux (fR o.dst) (dK c.ro y.1).len ay).getD ((dK c.ro y.1).len+k-(dK c.ro y.1).len) 0)=n
       rw[if_neg (by omega),show (dK c.ro y.1).len+k-(dK c.ro y.1).len=k by omega,List.getD_eq_getElem?_getD,hn]
       rfl
      ·rw[v8]at hp
       show (match hd.lookup p.1 with | some v=>Loc.cS v | none=>ρ p.1) = .cS p.2
       rw[Q0 p hp]
   ·cases h2
 ·cases h
theorem acP{f:Nat}{args:Array Operand}{cA:Array TypeId}{c:gN}{k:S->Option X}(ho:o.op = .call { callee:=.value (.func f),args,argTypes:=cA })(he:enters P f)(hc:kF P f c)(h:jP N σ o.dst c args.toList k=some r):∃ af,k af=some r/\iJ P w0 N o σ af:=by
 obtain⟨af,ay,cn,h1,_,_,_,h2⟩:=QV (w0:=w0) ho he hc h
 refine⟨af,h1,fun a w K Q hR hK=>?_⟩
 obtain⟨lab,ρ,hR⟩:=hR
 exact h2 a w K Q lab ρ hR fun v w' cI dI qC aA _ _ _=>hK _ _ ⟨cI,qC,aA⟩
end
end Go.Proofs.YtmffpkippmkjbaaGreatDoor
