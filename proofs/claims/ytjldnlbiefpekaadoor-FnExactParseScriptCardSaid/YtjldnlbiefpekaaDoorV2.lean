/-
  Running the program over pure contents, and that it follows (part 2). Nothing here is a claim.
-/
import Derived.Laws.StructEq
import Derived.Test.YtjldnlbiefpekaaDoorV1
set_option linter.unusedSimpArgs false
namespace Go.Proofs.YtjldnlbiefpekaaDoor
open Go.RowKit
set_option linter.unusedVariables false
def acY{X:Type}(N:Nat)(σ:S)(dst:Option Tmp)(c x y:A)(k:S->Option X):Option X:=
 match c with
 | .lf (.v (.bool b))=>bif b then eT N σ dst x k else eT N σ dst y k
 | _=>none
def pH{X:Type}(P:Program)(s:TypeId)(x:A)(f:Nat)(k:A->Option X):Option X:=
 match zz P s f,x with
 | some fd,.agg cs=>(match fM P fd.type,wq P fd.type with
  | some n,some true=>if fd.offset+n<=cs.length then k (.agg ((cs.drop fd.offset).take n))else none
  | some _,some false=>(match cs[fd.offset]? with
   | some y=>k (.lf y)
   | none=>none)
  | _,_=>none)
 | _,_=>none
def tF{X:Type}(mx:Bool)(x y:A)(k:A->Option X):Option X:=
 match x,y with
 | .lf (.v (.int kx a)),.lf (.v (.int _ b))=>k (.lf (.v (.int kx (bif mx then (if b > a then b else a)else (if b<a then b else a)))))
 | _,_=>none
def rW{X:Type}(P:Program)(t:TypeId)(x i:A)(k:A->Option X):Option X:=
 match x,i with
 | .lf (.v (.str s)),.lf (.v (.int _ iv))=>(match P.underlying t with
  | some .string=>if h:0<=iv/\iv.toNat<s.size then k (.lf (.v (.int .u8 ((s[iv.toNat]'h.2).toNat:Int))))else none
  | _=>none)
 | _,_=>none
def pI{X:Type}(x:Option A)(d:Int)(k:Int->Option X):Option X:=
 match x with
 | none=>k d
 | some (.lf (.v (.int _ n)))=>k n
 | _=>none
def rX{X:Type}(P:Program)(t:TypeId)(x:A)(lo hi:Option A)(k:A->Option X):Option X:=
 match x with
 | .lf (.v (.str s))=>(match P.underlying t with
  | some .string=>pI lo 0 fun l=>pI hi (s.size:Int) fun h=>if 0<=l/\l<=h/\h<=(s.size:Int)then k (.lf (.v (.str (s.extract l.toNat h.toNat))))else none
  | _=>none)
 | .lf (.v (.sl t' g qn l))=>(match l8 P t with
  | some e=>(match fM P e with
   | some n=>if n=aj t' then (bif Nat.blt g 2 then pI lo 0 fun a=>pI hi (l.length:Int) fun b=>if 0<=a/\a<=b/\b<=(l.length:Int)then k (.lf (.v (.sl t' g false ((l.take b.toNat).drop a.toNat))))else none else none)else none
   | none=>none)
  | none=>none)
 | _=>none
def rY(P:Program)(src dst:TypeId):Bool:=
 match P.underlying src,P.underlying dst with
 | some (.slice e),some .string=>(match P.underlying e with
  | some (.int .u8)=>true
  | _=>false)
 | _,_=>false
def pJ{X:Type}(P:Program)(src dst:TypeId)(z:V)(k:A->Option X):Option X:=
 match z with
 | .sl .u8 _ _ l=>bif rY P src dst then k (.lf (.v (.str (strOfNums l))))else none
 | .nil=>bif rY P src dst then k (.lf (.v (.str (strOfNums []))))else none
 | _=>none
def jv{X:Type}(P:Program)(σ:S)(src dst:TypeId)(x:A)(k:A->Option X):Option X:=
 match x with
 | .lf (.v (.int _ n))=>(match P.underlying src,P.underlying dst with
  | some _,some (.int kd)=>k (.lf (.v (.int kd (kd.wrap n))))
  | _,_=>none)
 | .lf y=>eg σ y fun z=>pJ P src dst z k
 | _=>none
section
variable {P:Program} {w w':World} {w0:Wd} {B N:Nat} {lab af:aH} {ρ ρ':Nat->Loc} {σ:S} {a:Act} {X:Type} {d:Nat} {r:X} {o:Oper}
theorem Uh{α:Type}(f:α->List Value)(s:Nat)(hf:∀ x,(f x).length=s)(l:List α):(l.flatMap f).length=l.length*s:=by
 induction l with
 | nil=>simp
 | cons a l ih=>rw[List.flatMap_cons,List.length_append,hf,ih,List.length_cons,Nat.succ_mul];omega
theorem Ui{α:Type}(f:α->List Value)(s:Nat)(hf:∀ x,(f x).length=s):∀ (l:List α) (k:Nat) (hk:k<l.length) (j:Nat),j<s->(l.flatMap f)[k*s+j]?=(f l[k])[j]?:=by
 intro l
 induction l with
 | nil=>intro k hk;simp at hk
 | cons a l ih=>
  intro k hk j hj
  rw[List.flatMap_cons]
  cases k with
  | zero=>rw[Nat.zero_mul,Nat.zero_add,List.getElem?_append_left (by rw[hf];exact hj)];rfl
  | succ k=>
   have e:(k+1)*s+j=s+(k*s+j):=by rw[Nat.succ_mul];omega
   rw[e,List.getElem?_append_right (by rw[hf];omega),hf,Nat.add_sub_cancel_left]
   exact ih k (by simpa using hk) j hj
theorem LH(z:Array Value)(s n:Nat)(hs:z.size=s)(h0:0<s):(madeCells z (n*s)).toList=(List.replicate n z.toList).flatten:=by
 have e:(List.replicate n z.toList).flatten=(List.replicate n ()).flatMap (fun _=>z.toList):=by
  rw[List.flatMap_def,List.map_replicate]
 rw[e]
 have hl:((List.replicate n ()).flatMap (fun _=>z.toList)).length=n*s:=by
  rw[Uh (fun _=>z.toList) s (fun _=>by simpa using hs)]
  simp
 apply List.ext_getElem?
 intro i
 rcases Nat.lt_or_ge i (n*s)with hi | hi
 ·have hk:i / s<n:=Nat.div_lt_of_lt_mul (by rw[Nat.mul_comm];exact hi)
  have hj:i % s<s:=Nat.mod_lt _ h0
  have ei:i=i / s*s+i % s:=by rw[Nat.mul_comm];exact(Nat.div_add_mod i s).symm
  have h2:=Ui (fun _=>z.toList) s (fun _=>by simpa using hs) (List.replicate n ()) (i / s) (by simpa using hk) (i % s) hj
  rw[<-ei]at h2
  rw[h2]
  have hz:i % s<z.size:=by omega
  simp only[madeCells,Array.toList_map,Array.toList_range,List.getElem?_map,List.getElem?_range hi,Option.map_some,hs]
  simp[hz]
 ·rw[List.getElem?_eq_none (by rw[Array.length_toList,size_madeCells];exact hi),List.getElem?_eq_none (by rw[hl];exact hi)]
theorem Uj{t:TypeId}{len:Nat}{parts:Array (Nat×Operand)}{k:S->Option X}(h:tE P N σ d t len parts.toList k=some r):∃ aa,k aa=some r/\∀ lab ρ a w,Rl w0 N lab ρ σ a w->
  ∃ w' af ρ' v,(Instr.buildSlice t len (parts.map fun(i,x)=>(i,a.eval x))).run P w = .ok v w'/\Rl w0 N af ρ' aa (a.put (some d) v) w':=by
 unfold tE at h
 split at h
 ·rename_i e tc eo
  obtain⟨cP,ht,i,hi,hsz,dS⟩:=tC eo
  split at h
  ·rename_i z hz
   cases hc:(Nat.beq (full tc) 0&&Nat.beq z.cells.size (aj tc)&&Nat.blt (len*aj tc) 16777217)with
   | false=>rw[hc]at h;cases h
   | true=>
    rw[hc,cond_true]at h
    simp only[Bool.and_eq_true]at hc
    have hf:=Nat.eq_of_beq_eq_true hc.1.1
    have dL:=Nat.eq_of_beq_eq_true hc.1.2
    have Uk:len*aj tc<16777217:=by have:=Nat.le_of_ble_eq_true hc.2;omega
    have k9:i.zero=some z:=by unfold zeroOf at hz;simpa [hi]using hz
    split at h
    ·rename_i cs bZ
     split at h
     ·rename_i vs cT
      split at h
      ·rename_i l hl
       obtain⟨hd,h⟩:=jt h
       refine⟨_,h,fun lab ρ a w hR=>?_⟩
       obtain⟨Cr,l9,iY⟩:=Gr tc 0 len vs l hl
       have Gs:bK w w0.heap.size lab ρ (List.replicate len (z.cells.toList.map eJ)).flatten (madeCells z.cells (len*aj tc)):=by
        have e1:(List.replicate len (z.cells.toList.map eJ)).flatten=((List.replicate len z.cells.toList).flatten).map eJ:=by
         rw[List.map_flatten,List.map_replicate]
        rw[e1,<-LH z.cells (aj tc) len dL (lY tc)]
        refine⟨by simp,fun j x hx=>?_⟩
        rw[List.getElem?_map]at hx
        cases hv:(madeCells z.cells (len*aj tc)).toList[j]? with
        | none=>rw[hv]at hx;cases hx
        | some v=>
         rw[hv]at hx
         injection hx with hx
         subst hx
         exact⟨v,by simpa using hv,Ck v⟩
       obtain⟨c9,pK,aB⟩:=Cp (w:=w) (B:=w0.heap.size) (lab:=lab) (ρ:=ρ) _ _ _ (parts.toList.map fun p=>(p.1,a.eval p.2)) cs bZ Gs (by simp) (fun j p q hp hq=>by
        rw[List.getElem?_map]at hp hq
        cases hx:parts.toList[j]? with
        | none=>rw[hx]at hp;cases hp
        | some x=>
         rw[hx]at hp hq
         injection hp with hp
         injection hq with hq
         subst hp hq
         exact⟨rfl,hR.ah x.2⟩)
       have LI:=Cq cs vs cT
       have Ul:c9.size=len*aj tc:=by rw[aB.1,LI,List.length_map,l9]
       have aD:(Instr.buildSlice t len (parts.map fun(i,x)=>(i,a.eval x))).run P w = .ok (.slice (some ⟨w.heap.size,0,none⟩) len len) (w.alloc (.cells c9 e)):=by
        have zH:(parts.map fun(i,x)=>(i,a.eval x)).toList=parts.toList.map fun p=>(p.1,a.eval p.2):=by simp
        by_cases h0:len*aj tc=0
        ·have hm:madeCells z.cells (len*aj tc) = #[]:=by rw[h0];simp[madeCells]
         rw[hm]at pK
         have Gt:len*i.size=0:=by rw[hsz];exact h0
         rw[<-hsz]at pK
         have e0:∀ f:Nat->Value,Array.map f (Array.range 0) = #[]:=fun f=>by simp
         simp only[Instr.buildSlice,Sem.run_bind,run_underlying cP,Result.andThen_ok,sizeOf,typeInfo]
         simp[hi,Gt]
         rw[e0,pK]
         simp[newRow]
        ·exact run_buildSlice (P:=P) w t e len _ c9 i z cP hi k9 (by rw[hsz];omega) (by rw[hsz];exact h0) (by rw[hsz,zH];exact pK)
       refine⟨_,aI lab w.heap.size (some [d]),aI ρ d (.bX (.slice (some ⟨w.heap.size,0,none⟩) len len)),_,aD,(hR.wz (hR.cF d (.inl hd)) (fun r hr=>aQ _ _ _ hr) (.sl _ _ (aK _ _ _) ?_)).set ⟨rfl,by simp[aP,aK]⟩ hd⟩
       have gI:∀ i' (h':i'<l.length) j x,(enc tc 0 l[i'])[j]?=some x->∃ v,c9[i'*aj tc+j]?=some v/\∀ (w':World) (B':Nat) (af:aH) (q':List Nat),RV w' B' af q' x v:=by
        intro i' h' j x hx
        obtain⟨y,hy,hw⟩:=iY i' h' j x hx
        obtain⟨v,hv,hr⟩:=aB.2 (i'*aj tc+j) (.v y) (by rw[LI,List.getElem?_map,hy];rfl)
        exact⟨v,hv,fun w' B' af q'=>(hr.2.wk hw).rQ (zm tc 0 l[i'] hf x (List.mem_of_getElem? hx))⟩
       have:=RV.own (w:=w.alloc (.cells c9 e)) (B:=w0.heap.size) (lab:=aI lab w.heap.size (some [d])) [d] tc 0 true l w.heap.size len c9 (fun i j=>(c9[i*aj tc+j]?).getD undef)
        (aK _ _ _) (by rw[ht];exact heap_alloc_new w _) Ul (by omega) ⟨by have:=Nat.le_mul_of_pos_right len (lY tc);unfold maxLen;omega,fun _=>Cr.symm⟩ (fun i' h' j x hx=>?_) (fun i' h' j x hx=>?_)
       ·rw[Cr]at this
        exact this
       ·obtain⟨v,hv,_⟩:=gI i' h' j x hx
        rw[hv];rfl
       ·obtain⟨v,hv,hr⟩:=gI i' h' j x hx
        rw[hv];exact hr _ _ _ _
      ·cases h
     ·cases h
    ·cases h
  ·cases h
 ·cases h
theorem LJ{mx:Bool}{x y:A}{k:A->Option X}(h:tF mx x y k=some r):∃ z,k z=some r/\∀ (w:World) (B:Nat) (lab:aH) (ρ:Nat->Loc) (t ty:TypeId) (u v:Value),RA w B lab ρ x u->RA w B lab ρ y v->
  ∃ t',((bif mx then Builtin.max_ #[t,t] ty #[u,v]else Builtin.min_ #[t,t] ty #[u,v]):Sem Value).run P w = .ok t' w/\RA w B lab ρ z t':=by
 unfold tF at h
 split at h
 ·refine⟨_,h,fun w B lab ρ t ty u v hu hv=>?_⟩
  obtain rfl:=hu.2.eM
  obtain rfl:=hv.2.eM
  cases mx with
  | true=>exact⟨_,by simp[Builtin.max_,Builtin.max2],rfl,.int _ _ _⟩
  | false=>exact⟨_,by simp[Builtin.min_,Builtin.min2],rfl,.int _ _ _⟩
 ·cases h
theorem Um{t:TypeId}{x i:A}{k:A->Option X}(h:rW P t x i k=some r):∃ z,k z=some r/\∀ (w:World) (B:Nat) (lab:aH) (ρ:Nat->Loc) (u v:Value),RA w B lab ρ x u->RA w B lab ρ i v->
  ∃ t',(Instr.index t u v).run P w = .ok t' w/\RA w B lab ρ z t':=by
 unfold rW at h
 split at h
 ·rename_i s kk iv
  split at h
  ·rename_i hu
   split at h
   ·rename_i U
    refine⟨_,h,fun w B lab ρ u v gp hv=>?_⟩
    obtain rfl:=gp.2.js
    obtain rfl:=hv.2.eM
    exact⟨_,by simp[Instr.index,asIntOf,run_underlying hu,U.1,U.2],rfl,.int _ _ _⟩
   ·cases h
  ·cases h
 ·cases h
theorem LK{src dst:TypeId}(h:rY P src dst=true):∃ e,P.underlying src=some (.slice e)/\P.underlying dst=some .string/\P.underlying e=some (.int .u8):=by
 unfold rY at h
 split at h
 ·rename_i e h1 h2
  split at h
  ·rename_i h3
   exact⟨e,h1,h2,h3⟩
  ·cases h
 ·cases h
theorem getD_at(l:List Int)(i:Nat)(hi:i<l.length):l.getD i 0=l[i]:=by rw[List.getD_eq_getElem?_getD,List.getElem?_eq_getElem hi];rfl
theorem RV.toStr{src dst e:TypeId}(hs:P.underlying src=some (.slice e))(hd:P.underlying dst=some .string)(he:P.underlying e=some (.int .u8)){o:Nat}{qn:Bool}{l:List (T .u8)}{q:List Nat}{B:Nat}{u:Value}(h:RV w B lab q (.sl .u8 o qn l) u):
  (convert src dst u).run P w = .ok (.string (strOfNums l)) w:=by
 generalize hy:V.sl .u8 o qn l=y at h
 cases h with
 | int=>cases hy
 | bool=>cases hy
 | str=>cases hy
 | nil=>cases hy
 | bg q t o'=>
  injection hy with e1 e2 e3 e4
  subst e1
  obtain rfl:=eq_of_heq e4
  rw[run_convert_bytes_nil w src e hs he 0 0 dst hd];rfl
 | bw q t o' A c ho=>
  injection hy with e1 e2 e3 e4
  subst e1
  obtain rfl:=eq_of_heq e4
  have hl:(loadCells A 0).run P w = .ok (([]:List Int).map (Value.int .u8)).toArray w:=run_loadCells_list (P:=P) w A [] (fun j v hj=>by simp at hj)
  rw[run_convert_bytes_string w src dst e _ 0 c hs he hd,run_bytesToString w A 0 c [] hl]
  rfl
 | bI q t o' A c ho=>
  injection hy with e1 e2 e3 e4
  subst e1
  obtain rfl:=eq_of_heq e4
  have hl:(loadCells A 0).run P w = .ok (([]:List Int).map (Value.int .u8)).toArray w:=run_loadCells_list (P:=P) w A [] (fun j v hj=>by simp at hj)
  rw[run_convert_bytes_string w src dst e _ 0 c hs he hd,run_bytesToString w A 0 c [] hl]
  rfl
 | av q t o' Gu l' b off cap uu ho hl U h1 hcap hc hr=>
  injection hy with e1 e2 e3 e4
  subst e1
  obtain rfl:=eq_of_heq e4
  refine run_convert_bytes_arg w src e hs he b off _ cap l rfl (fun i hi=>?_) dst hd
  have h2:=hc i hi 0 (.int .u8 l[i]) rfl
  have h3:=(hr i hi 0 (.int .u8 l[i]) rfl).eM
  simp only[aj,Nat.mul_one,Nat.add_zero]at h2
  have hg:=getD_at (show List Int from l) i hi
  rw[h2,h3]
  exact congrArg (fun z=>some (Value.int .u8 z)) hg.symm
 | own q t o' Gu l' b cap cs uu hl hh iS hn hm hc hr=>
  injection hy with e1 e2 e3 e4
  subst e1
  obtain rfl:=eq_of_heq e4
  refine run_convert_bytes_arg w src e hs he b 0 _ cap l rfl (fun i hi=>?_) dst hd
  have h2:=hc i hi 0 (.int .u8 l[i]) rfl
  have h3:=(hr i hi 0 (.int .u8 l[i]) rfl).eM
  simp only[aj,Nat.mul_one,Nat.add_zero]at h2
  have hg:=getD_at (show List Int from l) i hi
  rw[h3]at h2
  have h4:w.cell? ⟨b,0+i,none⟩=some (.int .u8 l[i]):=by simp[World.cell?,hh,h2]
  rw[h4]
  exact congrArg (fun z=>some (Value.int .u8 z)) hg.symm
theorem Un{src dst:TypeId}{x:A}{k:A->Option X}(h:jv P σ src dst x k=some r):∃ z,k z=some r/\∀ lab ρ a w,Rl w0 N lab ρ σ a w->∀ u,RA w w0.heap.size lab ρ x u->
  ∃ t',(convert src dst u).run P w = .ok t' w/\RA w w0.heap.size lab ρ z t':=by
 unfold jv at h
 split at h
 ·rename_i kk n
  split at h
  ·rename_i d1 kd hs hd
   refine⟨_,h,fun lab ρ a w _ u hu=>?_⟩
   obtain rfl:=hu.2.eM
   exact⟨_,by simp[convert,run_underlying hs,run_underlying hd,Conv.intToInt],rfl,.int _ _ _⟩
  ·cases h
 ·rename_i y _
  have key:∃ z,(∀ lab ρ a w,Rl w0 N lab ρ σ a w->∀ u,bB w w0.heap.size lab ρ y u->∃ q,RV w w0.heap.size lab q z u)/\pJ P src dst z k=some r:=by
   cases y with
   | v z=>exact⟨z,fun lab ρ a w _ u hu=>⟨[],hu.2⟩,h⟩
   | dead=>cases h
   | own q=>
    obtain⟨z,hz,h⟩:=mH q _ h
    refine⟨z,fun lab ρ a w hR u hu=>?_,h⟩
    obtain⟨v,hv,hr⟩:=hz.ok hR.root
    have h3:=hu.2
    rw[hv]at h3
    injection h3 with h3
    subst h3
    exact⟨q,hr⟩
  obtain⟨z,hz,h2⟩:=key
  clear h
  unfold pJ at h2
  split at h2
  ·rename_i o qn l
   cases ht:rY P src dst with
   | false=>rw[ht]at h2;cases h2
   | true=>
    rw[ht,cond_true]at h2
    obtain⟨e,e1,e2,e3⟩:=LK ht
    refine⟨_,h2,fun lab ρ a w hR u hu=>?_⟩
    obtain⟨q,hr⟩:=hz lab ρ a w hR u hu
    exact⟨_,hr.toStr e1 e2 e3,rfl,.str _ _⟩
  ·cases ht:rY P src dst with
   | false=>rw[ht]at h2;cases h2
   | true=>
    rw[ht,cond_true]at h2
    obtain⟨e,e1,e2,e3⟩:=LK ht
    refine⟨_,h2,fun lab ρ a w hR u hu=>?_⟩
    obtain⟨q,hr⟩:=hz lab ρ a w hR u hu
    cases hr
    exact⟨_,by rw[run_convert_bytes_nil w src e e1 e3 0 0 dst e2];rfl,rfl,.str _ _⟩
  ·cases h2
 ·cases h
theorem Uo{s:TypeId}{x:A}{f:Nat}{k:A->Option X}(h:pH P s x f k=some r):∃ z,k z=some r/\∀ (w:World) (B:Nat) (lab:aH) (ρ:Nat->Loc) (u:Value),RA w B lab ρ x u->
  ∃ t',(Instr.field s u f).run P w = .ok t' w/\RA w B lab ρ z t':=by
 unfold pH at h
 split at h
 ·rename_i fd cs jO
  have eV:∃ fs,P.underlying s=some (.struct fs)/\fs[f]?=some fd:=by
   unfold zz at jO
   split at jO
   ·rename_i fs hu;exact⟨fs,hu,jO⟩
   ·cases jO
  obtain⟨fs,cI,jw⟩:=eV
  split at h
  ·rename_i n hn ga
   split at h
   ·rename_i hle
    refine⟨_,h,fun w B lab ρ u hu=>?_⟩
    obtain⟨us,rfl,hR⟩:=hu
    have o4:(isAgg fd.type).run P w = .ok true w:=by
     unfold wq at ga
     split at ga
     ·rename_i fs' hu;unfold isAgg;rw[Sem.run_bind,run_underlying hu w];rfl
     ·rename_i c e hu;unfold isAgg;rw[Sem.run_bind,run_underlying hu w];rfl
     ·cases ga
     ·cases ga
    unfold fM at hn
    cases hi:P.info? fd.type with
    | none=>simp[hi]at hn
    | some i=>
     have b9:i.size=n:=by simpa [hi]using hn
     refine⟨.agg (us.extract fd.offset (fd.offset+n)),by simp[Instr.field,run_underlying cI,jw,asAgg,part,Sem.run_bind,o4,sizeOf,typeInfo,hi,b9],_,rfl,?_,fun j y hy=>?_⟩
     ·have:=hR.1
      simp
      omega
     ·obtain⟨hj,cD⟩:=Cg _ _ _ _ _ hy
      obtain⟨v,hv,hr⟩:=hR.2 _ y cD
      refine⟨v,?_,hr⟩
      rw[Array.getElem?_extract]
      have:=hR.1
      rw[if_pos (by omega)]
      exact hv
   ·cases h
  ·rename_i n hn ga
   split at h
   ·rename_i y hy
    refine⟨_,h,fun w B lab ρ u hu=>?_⟩
    obtain⟨us,rfl,hR⟩:=hu
    obtain⟨v,hv,hr⟩:=hR.2 _ y hy
    have o4:(isAgg fd.type).run P w = .ok false w:=by
     unfold wq at ga
     split at ga
     ·cases ga
     ·cases ga
     ·rename_i d hs ha hu
      unfold isAgg
      rw[Sem.run_bind,run_underlying hu w]
      cases d <;>first | rfl | (rename_i x;exact absurd rfl (hs x)) | (rename_i x y;exact absurd rfl (ha x y)) | simp_all
     ·cases ga
    exact⟨v,by simp[Instr.field,run_underlying cI,jw,asAgg,part,Sem.run_bind,o4,hv],hr⟩
   ·cases h
  ·cases h
 ·cases h
end
end Go.Proofs.YtjldnlbiefpekaaDoor
namespace Go.Proofs.YtjldnlbiefpekaaDoor
open Go.RowKit
set_option linter.unusedVariables false
def V.val:V->Value
 | .int k n=>.int k n
 | .bool b=>.bool b
 | .str s=>.string s
 | _=>undef
def Cs:TypeDesc->V->V->Option Bool
 | .int _,.int k a,.int k' b=>if k=k' then some (a==b)else none
 | .bool,.bool a,.bool b=>some (a==b)
 | .string,.str a,.str b=>some (a.toList==b.toList)
 | _,_,_=>none
def zI(P:Program)(g:TypeId->List V->List V->Option Bool)(xs ys:List V):List Field->Option Bool
 | []=>some true
 | f :: fs=>bif f.name == "_" then zI P g xs ys fs else (match fM P f.type with
  | some n=>bif Nat.ble (f.offset+n) xs.length then (match g f.type ((xs.drop f.offset).take n) ((ys.drop f.offset).take n),zI P g xs ys fs with
   | some a,some b=>some (a&&b)
   | _,_=>none)else none
  | none=>none)
def rZ(P:Program):Nat->TypeId->List V->List V->Option Bool
 | 0,_,_,_=>none
 | n+1,t,xs,ys=>match P.underlying t with
  | some (.struct fs)=>bif P.stoodInHeld t || !Nat.beq xs.length ys.length then none else zI P (rZ P n) xs ys fs.toList
  | some d=>(match xs,ys with
   | [x],[y]=>Cs d x y
   | _,_=>none)
  | none=>none
def Ct:BinOp->Option Bool
 | .eql=>some false
 | .neq=>some true
 | _=>none
def tG{α:Type}:List α->Bool
 | []=>true
 | _=>false
def isStr(P:Program)(t:TypeId):Bool:=match P.underlying t with
 | some (.struct _)=>true
 | _=>false
def gu{X:Type}(P:Program)(σ:S)(op:BinOp)(t:TypeId)(x y:A)(k:A->Option X):Option X:=
 match Ct op,x,y with
 | some ng,.agg cs,.agg ds=>(match o5 cs,o5 ds with
  | some xs,some ys=>bif P.eqGuardType P.depth t || !isStr P t then none else (match rZ P 20 t xs ys with
   | some b=>k (.lf (.v (.bool (bif ng then !b else b))))
   | none=>none)
  | _,_=>none)
 | some ng,.lf l,.lf (.v .nil)=>(match l8 P t with
  | some _=>eg σ l fun z=>(match z with
   | .nil=>k (.lf (.v (.bool (bif ng then false else true))))
   | .sl _ _ true _=>k (.lf (.v (.bool (bif ng then true else false))))
   | .sl _ _ false l=>bif tG l then none else k (.lf (.v (.bool (bif ng then true else false))))
   | _=>none)
  | none=>none)
 | _,_,_=>vK x fun a=>vK y fun b=>iq P t op a b fun z=>k (.lf (.v z))
section
variable {P:Program} {w w':World} {w0:Wd} {B N:Nat} {lab af:aH} {ρ ρ':Nat->Loc} {σ:S} {a:Act} {X:Type} {d:Nat} {r:X} {o:Oper}
theorem Up{ds:TypeDesc}{x y:V}{b:Bool}{t:TypeId}{n:Nat}(ht:P.underlying t=some ds)(h:Cs ds x y=some b):(Op.equalIn (n+1) t x.val y.val).run P w = .ok b w:=by
 unfold Cs at h
 split at h
 ·split at h
  ·rename_i k' _ a k b' hk
   subst hk
   injection h with h
   subst h
   exact run_equalIn_int w n t _ _ _ _ ht
  ·cases h
 ·injection h with h
  subst h
  exact run_equalIn_bool' w n t _ _ ht
 ·injection h with h
  subst h
  exact run_equalIn_string w n t _ _ ht
 ·cases h
def mL(P:Program)(t:TypeId)(xs:List V)(u:Value):Prop:=
 match P.underlying t with
 | some (.struct _)=>u = .agg (xs.map V.val).toArray
 | _=>∃ x,xs=[x]/\u=x.val
theorem LL{t:TypeId}{n off:Nat}{xs:List V}(hn:fM P t=some n)(hle:off+n<=xs.length)(hu:∃ d,P.underlying t=some d/\(∀ c e,d ≠ .array c e)/\((∀ fs,d ≠ .struct fs)->n=1)):
  ∃ u,(part t (xs.map V.val).toArray off).run P w = .ok u w/\mL P t ((xs.drop off).take n) u:=by
 obtain⟨d,hd,ha,h1⟩:=hu
 unfold fM at hn
 cases hi:P.info? t with
 | none=>simp[hi]at hn
 | some i=>
  have b9:i.size=n:=by simpa [hi]using hn
  by_cases hs:∃ fs,d = .struct fs
  ·obtain⟨fs,rfl⟩:=hs
   have o4:(isAgg t).run P w = .ok true w:=by
    unfold isAgg;rw[Sem.run_bind,run_underlying hd w];rfl
   refine⟨.agg ((xs.map V.val).toArray.extract off (off+n)),by simp[part,Sem.run_bind,o4,sizeOf,typeInfo,hi,b9],?_⟩
   unfold mL
   rw[hd]
   simp only
   congr 1
   apply Array.ext'
   simp[List.map_drop,List.map_take]
  ·have o4:(isAgg t).run P w = .ok false w:=by
    unfold isAgg
    rw[Sem.run_bind,run_underlying hd w]
    cases d <;>first | rfl | (exfalso;exact hs ⟨_,rfl⟩) | (exfalso;exact ha _ _ rfl)
   have r7:n=1:=h1 fun fs e=>hs ⟨fs,e⟩
   subst r7
   have aW:off<xs.length:=by omega
   have gI:(xs.map V.val).toArray[off]?=some (xs[off]).val:=by simp[aW]
   refine⟨(xs[off]).val,by simp[part,Sem.run_bind,o4,gI],?_⟩
   have e1:(xs.drop off).take 1=[xs[off]]:=by
    rw[List.drop_eq_getElem_cons aW];rfl
   unfold mL
   rw[hd]
   split
   ·rename_i fs e;injection e with e;exact absurd ⟨fs,e⟩ hs
   ·exact⟨_,e1,rfl⟩
theorem Uq{n:Nat}{t:TypeId}{xs ys:List V}{b:Bool}(h:rZ P n t xs ys=some b):∃ d,P.underlying t=some d/\(∀ c e,d ≠ .array c e)/\((∀ fs,d ≠ .struct fs)->xs.length=1):=by
 cases n with
 | zero=>cases h
 | succ n=>
  unfold rZ at h
  split at h
  ·rename_i fs jw
   exact⟨_,jw,(fun c e h=>by cases h),fun h=>absurd rfl (h fs)⟩
  ·rename_i d mG hd
   split at h
   ·rename_i x y
    exact⟨d,hd,(fun c e he=>by subst he;simp[Cs]at h),fun _=>rfl⟩
   ·cases h
  ·cases h
theorem Gw{n:Nat}{xs ys:List V}(hlen:xs.length=ys.length)(IH:∀ t xs ys b,rZ P n t xs ys=some b->∀ u v,mL P t xs u->mL P t ys v->∀ k,(Op.equalIn (k+n) t u v).run P w = .ok b w)(k:Nat):∀ (fs:List Field) (b:Bool),zI P (rZ P n) xs ys fs=some b->
  (Op.eqFields (k+n) (xs.map V.val).toArray (ys.map V.val).toArray fs).run P w = .ok b w
 | [],b,h=>by
  injection h with h
  subst h
  simp[Op.eqFields]
 | f :: fs,b,h=>by
  unfold zI at h
  cases b6:f.name == "_" with
  | true=>
   rw[b6,cond_true]at h
   have:f.name = "_":=by simpa using b6
   simp only[Op.eqFields,this,ne_eq,not_true,if_false]
   exact Gw hlen IH k fs b h
  | false=>
   rw[b6,cond_false]at h
   have aA:f.name ≠ "_":=by simpa using b6
   split at h
   ·rename_i s hs
    cases hle:Nat.ble (f.offset+s) xs.length with
    | false=>rw[hle]at h;cases h
    | true=>
     rw[hle,cond_true]at h
     have hle:=Nat.le_of_ble_eq_true hle
     split at h
     ·rename_i c e h1 h2
      injection h with h
      subst h
      obtain⟨d1,n6,LM,wB⟩:=Uq h1
      have pg:((xs.drop f.offset).take s).length=s:=by simp;omega
      obtain⟨u,n7,Gx⟩:=LL (w:=w) hs hle ⟨d1,n6,LM,fun h=>pg.symm.trans (wB h)⟩
      obtain⟨v,n8,pL⟩:=LL (w:=w) (xs:=ys) (off:=f.offset) hs (by omega) ⟨d1,n6,LM,fun h=>pg.symm.trans (wB h)⟩
      have hr:=IH _ _ _ c h1 u v Gx pL k
      have fk:=Gw hlen IH k fs e h2
      simp only[Op.eqFields,aA,ne_eq,not_false_eq_true,if_true,Sem.run_bind,n7,n8,hr,Result.andThen_ok]
      cases c
      ·simp
      ·simpa using fk
     ·cases h
   ·cases h
theorem LN:∀ (n:Nat) (t:TypeId) (xs ys:List V) (b:Bool),rZ P n t xs ys=some b->∀ u v,mL P t xs u->mL P t ys v->∀ k,(Op.equalIn (k+n) t u v).run P w = .ok b w
 | 0,t,xs,ys,b,h=>by cases h
 | n+1,t,xs,ys,b,h=>by
  intro u v hu hv k
  unfold rZ at h
  split at h
  ·rename_i fs jw
   cases hc:(P.stoodInHeld t || !Nat.beq xs.length ys.length)with
   | true=>rw[hc]at h;cases h
   | false=>
    rw[hc,cond_false]at h
    rw[Bool.or_eq_false_iff,Bool.not_eq_false']at hc
    have hlen:=Nat.eq_of_beq_eq_true hc.2
    unfold mL at hu hv
    rw[jw]at hu hv
    simp only at hu hv
    subst hu hv
    have hf:P.fieldsOf t=fs:=by simp[Program.fieldsOf,jw]
    rw[<-Nat.add_assoc,run_equalIn_struct w (k+n) t _ _ (by rw[hf];exact jw) hc.1,hf]
    exact Gw hlen (LN n) k fs.toList b h
  ·rename_i d mG hd
   split at h
   ·rename_i x y
    unfold mL at hu hv
    rw[hd]at hu hv
    split at hu
    ·rename_i fs e;injection e with e;exact absurd e (mG fs)
    ·split at hv
     ·rename_i fs e;injection e with e;exact absurd e (mG fs)
     ·obtain⟨x',e1,rfl⟩:=hu
      obtain⟨y',e2,rfl⟩:=hv
      injection e1 with e1
      injection e2 with e2
      subst e1 e2
      exact Up hd h
   ·cases h
  ·cases h
theorem LO{cs:List Lf}{xs:List V}(h:o5 cs=some xs){u:Value}(hu:RA w B lab ρ (.agg cs) u):u = .agg (xs.map V.val).toArray:=by
 obtain⟨e,hp⟩:=F5 _ _ h
 obtain⟨us,rfl,hs,hr⟩:=hu
 congr 1
 apply Array.ext'
 apply List.ext_getElem?
 intro j
 rw[List.toList_toArray,List.getElem?_map,Array.getElem?_toList]
 cases hx:xs[j]? with
 | none=>
  rw[Option.map_none]
  refine Array.getElem?_eq_none ?_
  rw[hs,e,List.length_map]
  exact List.getElem?_eq_none_iff.1 hx
 | some x=>
  obtain⟨v,hv,wC⟩:=hr j (.v x) (by rw[e,List.getElem?_map,hx];rfl)
  rw[hv,Option.map_some]
  congr 1
  have:=hp x (List.mem_of_getElem? hx)
  have h2:=wC.2
  cases h2 <;>first | rfl | cases this
theorem wD{op:BinOp}{ng:Bool}(cU:Ct op=some ng){t e:TypeId}(ht:P.underlying t=some (.slice e))(xo yo:Operand)(A:Option Addr)(n c:Nat):
  (do eqGuard op t xo yo (.slice A n c) (.slice none 0 0);binOp op t (.slice A n c) (.slice none 0 0):Sem Value).run P w = .ok (.bool (bif ng then !A.isNone else A.isNone)) w:=by
 have he:(Op.equal t (.slice A n c) (.slice none 0 0)).run P w = .ok A.isNone w:=by
  have h:∀ d,(Op.equalIn (d+1) t (.slice A n c) (.slice none 0 0)).run P w = .ok A.isNone w:=by
   intro d
   cases A <;>simp[Op.equalIn,run_underlying ht]
  exact h 9999
 cases op <;>simp[Ct]at cU <;>subst cU <;>simp[eqGuard,binOp,he]
theorem Ur{op:BinOp}{t:TypeId}{x y:A}{k:A->Option X}(h:gu P σ op t x y k=some r):∃ z,k z=some r/\∀ lab ρ a w,Rl w0 N lab ρ σ a w->∀ xo yo u v,RA w w0.heap.size lab ρ x u->RA w w0.heap.size lab ρ y v->
  ∃ t',(do eqGuard op t xo yo u v;binOp op t u v:Sem Value).run P w = .ok t' w/\RA w w0.heap.size lab ρ z t':=by
 unfold gu at h
 split at h
 ·rename_i ng cs ds cU
  split at h
  ·rename_i xs ys dO iW
   cases hg:(P.eqGuardType P.depth t || !isStr P t)with
   | true=>rw[hg]at h;cases h
   | false=>
    rw[hg,cond_false]at h
    rw[Bool.or_eq_false_iff,Bool.not_eq_false']at hg
    obtain⟨hg,eV⟩:=hg
    split at h
    ·rename_i b U
     refine⟨_,h,fun lab ρ a w hR xo yo u v hu hv=>?_⟩
     have hu:=LO dO hu
     have hv:=LO iW hv
     subst hu hv
     have hs:∃ fs,P.underlying t=some (.struct fs):=by
      unfold isStr at eV
      split at eV
      ·rename_i fs jw;exact⟨fs,jw⟩
      ·cases eV
     obtain⟨fs,jw⟩:=hs
     have hr:=LN (w:=w) 20 t xs ys b U (.agg (xs.map V.val).toArray) (.agg (ys.map V.val).toArray) (by unfold mL;rw[jw]) (by unfold mL;rw[jw]) 9980
     refine⟨.bool (bif ng then !b else b),?_,rfl,.bool _ _⟩
     rw[Sem.run_bind,run_eqGuard_agg w op t xo yo _ _ hg,Result.andThen_ok]
     cases op <;>simp[Ct]at cU <;>subst cU
     ·rw[run_eql_struct,hr];rfl
     ·rw[run_neq_struct,hr];rfl
    ·cases h
  ·cases h
 ·rename_i ng l cU
  split at h
  ·rename_i e he
   have ht:P.underlying t=some (.slice e):=by
    unfold l8 at he
    split at he
    ·rename_i e' hu;injection he with he;rw[<-he];exact hu
    ·cases he
   obtain⟨z,hz,h2⟩:=Gn (w0:=w0) (N:=N) h
   clear h
   split at h2
   ·refine⟨_,h2,fun lab ρ a w hR xo yo u v hu hv=>?_⟩
    obtain⟨q,hq⟩:=hz lab ρ a w hR u hu
    cases hq
    cases hv.2
    exact⟨_,wD cU ht xo yo none 0 0,rfl,by cases ng <;>exact .bool _ _⟩
   ·refine⟨_,h2,fun lab ρ a w hR xo yo u v hu hv=>?_⟩
    obtain⟨q,hq⟩:=hz lab ρ a w hR u hu
    cases hv.2
    cases hq with
    | av _ _ _ _ _ b off cap us ho hl U h1 hcap hc hr=>exact⟨_,wD cU ht xo yo _ _ _,rfl,by cases ng <;>exact .bool _ _⟩
    | own=>exact⟨_,wD cU ht xo yo _ _ _,rfl,by cases ng <;>exact .bool _ _⟩
    | bI=>exact⟨_,wD cU ht xo yo _ _ _,rfl,by cases ng <;>exact .bool _ _⟩
   ·rename_i t' o' l'
    cases hl:tG l' with
    | true=>rw[hl]at h2;cases h2
    | false=>
     rw[hl,cond_false]at h2
     refine⟨_,h2,fun lab ρ a w hR xo yo u v hu hv=>?_⟩
     obtain⟨q,hq⟩:=hz lab ρ a w hR u hu
     cases hv.2
     cases hq with
     | bg=>cases hl
     | bw=>cases hl
     | av _ _ _ _ _ b off cap us ho dc U h1 hcap hc hr=>exact⟨_,wD cU ht xo yo _ _ _,rfl,by cases ng <;>exact .bool _ _⟩
     | own=>exact⟨_,wD cU ht xo yo _ _ _,rfl,by cases ng <;>exact .bool _ _⟩
   ·cases h2
  ·cases h
 ·obtain⟨u0,hx,h1⟩:=Cf h
  obtain⟨v0,hy,h2⟩:=Cf h1
  obtain⟨z,h3,hp,hs⟩:=TK h2
  subst hx hy
  refine⟨_,h3,fun lab ρ a w hR xo yo u v hu hv=>?_⟩
  obtain⟨t',aD,hr⟩:=hs w _ lab xo yo [] [] _ _ hu.2 hv.2
  exact⟨t',aD,V.zy hp,hr⟩
/-! Parts of slices that nobody writes. -/
theorem wE{x:Option A}{mM:Int}{k:Int->Option X}(h:pI x mM k=some r):∃ n,k n=some r/\(∀ (X':Type) (k':Int->Option X'),pI x mM k'=k' n)/\((x=none/\n=mM)\/∃ kd,x=some (.lf (.v (.int kd n)))):=by
 unfold pI at h
 split at h
 ·exact⟨_,h,fun _ _=>rfl,.inl ⟨rfl,rfl⟩⟩
 ·exact⟨_,h,fun _ _=>rfl,.inr ⟨_,rfl⟩⟩
 ·cases h
theorem Us{t:TypeId}{x:A}{lo hi:Option A}{k:A->Option X}(h:rX P t x lo hi k=some r):∃ y,k y=some r/\(∀ (X':Type) (k':A->Option X'),rX P t x lo hi k'=k' y)/\
  ((∃ (s:ByteArray) (l h:Int),x = .lf (.v (.str s))/\P.underlying t=some .string/\((lo=none/\l=0)\/∃ kd,lo=some (.lf (.v (.int kd l))))/\((hi=none/\h=s.size)\/∃ kd,hi=some (.lf (.v (.int kd h))))/\0<=l/\l<=h/\h<=(s.size:Int)/\y = .lf (.v (.str (s.extract l.toNat h.toNat))))\/
   ∃ (tc:TC) (g:Nat) (qn:Bool) (xs:List (T tc)) (e:TypeId) (l h:Int),x = .lf (.v (.sl tc g qn xs))/\l8 P t=some e/\fM P e=some (aj tc)/\g<2/\((lo=none/\l=0)\/∃ kd,lo=some (.lf (.v (.int kd l))))/\((hi=none/\h=xs.length)\/∃ kd,hi=some (.lf (.v (.int kd h))))/\0<=l/\l<=h/\h<=(xs.length:Int)/\y = .lf (.v (.sl tc g false ((xs.take h.toNat).drop l.toNat)))):=by
 unfold rX at h
 split at h
 ·rename_i s
  split at h
  ·rename_i hu
   obtain⟨l,h1,d1,e1⟩:=wE h
   obtain⟨m,h2,d2,e2⟩:=wE h1
   split at h2
   ·rename_i U
    refine⟨_,h2,fun X' k'=>?_,.inl ⟨s,l,m,rfl,hu,e1,e2,U.1,U.2.1,U.2.2,rfl⟩⟩
    simp only[rX,hu]
    rw[d1,d2,if_pos U]
   ·cases h2
  ·cases h
 ·rename_i tc g qn xs
  split at h
  ·rename_i e he
   split at h
   ·rename_i n hn
    split at h
    ·rename_i gY
     subst gY
     cases hg:Nat.blt g 2 with
     | false=>rw[hg]at h;cases h
     | true=>
      rw[hg,cond_true]at h
      obtain⟨l,h1,d1,e1⟩:=wE h
      obtain⟨m,h2,d2,e2⟩:=wE h1
      split at h2
      ·rename_i U
       refine⟨_,h2,fun X' k'=>?_,.inr ⟨tc,g,qn,xs,e,l,m,rfl,he,hn,Nat.le_of_ble_eq_true hg,e1,e2,U.1,U.2.1,U.2.2,rfl⟩⟩
       simp only[rX,he,hn,if_true,hg,cond_true]
       rw[d1,d2,if_pos U]
      ·cases h2
    ·cases h
   ·cases h
  ·cases h
 ·cases h
theorem LP{t:TypeId}{x:A}{lo hi:Option A}{k:A->Option X}(h:rX P t x lo hi k=some r):∃ y,k y=some r/\(∀ (X':Type) (k':A->Option X'),rX P t x lo hi k'=k' y)/\
  ∀ (w:World) (B:Nat) (lab:aH) (ρ:Nat->Loc) (u:Value) (lv hv:Option Value),RA w B lab ρ x u->(∀ a,lo=some a->∃ v,lv=some v/\RA w B lab ρ a v)->(lo=none->lv=none)->(∀ a,hi=some a->∃ v,hv=some v/\RA w B lab ρ a v)->(hi=none->hv=none)->
   ∃ t',(Instr.sliceAt t u lv hv none).run P w = .ok t' w/\RA w B lab ρ y t':=by
 obtain⟨y,h1,hd,hc⟩:=Us h
 refine⟨y,h1,hd,fun w B lab ρ u lv hv hu pg ep Cu Cv=>?_⟩
 have bl:∀ {o:Option A} {ov:Option Value} {n mM:Int},(∀ a,o=some a->∃ v,ov=some v/\RA w B lab ρ a v)->(o=none->ov=none)->((o=none/\n=mM)\/∃ kd,o=some (.lf (.v (.int kd n))))->(ov=none/\n=mM)\/∃ kd,ov=some (.int kd n):=by
  intro o ov n mM g1 g2 g3
  rcases g3 with ⟨e,e'⟩ | ⟨kd,e⟩
  ·exact .inl ⟨g2 e,e'⟩
  ·obtain⟨v,hv,hr⟩:=g1 _ e
   exact .inr ⟨kd,by rw[hv,hr.2.eM]⟩
 rcases hc with ⟨s,l,m,rfl,cP,e1,e2,b1,b2,b3,rfl⟩ | ⟨tc,g,qn,xs,e,l,m,rfl,he,hn,hg,e1,e2,b1,b2,b3,rfl⟩
 ·have h5:=bl pg ep e1
  have h6:=bl Cu Cv e2
  obtain rfl:=hu.2.js
  have em:(m.toNat:Int)=m:=Int.toNat_of_nonneg (by omega)
  refine⟨.string (s.extract l.toNat m.toNat),?_,rfl,.str _ _⟩
  rw[run_sliceAt_string w t _ _ _ _ cP]
  have hb0:0<=m:=by omega
  rcases h5 with ⟨rfl,h7⟩ | ⟨kl,rfl⟩ <;>rcases h6 with ⟨rfl,h8⟩ | ⟨kh,rfl⟩
  all_goals simp_all [Instr.slice,run_underlying cP,Instr.sliceBounds,run_sliceBound]
 ·have h5:=bl pg ep e1
  have h6:=bl Cu Cv e2
  have cP:P.underlying t=some (.slice e):=by
   unfold l8 at he
   split at he
   ·rename_i e' gp;injection he with he;rw[<-he];exact gp
   ·cases he
  have iY:P.elem t=e:=by simp[Program.elem,cP]
  have mN:P.underlying t=some (.slice (P.elem t)):=by rw[iY];exact cP
  have pM:(sizeOf (P.elem t)).run P w = .ok (aj tc) w:=by
   unfold fM at hn
   cases hi:P.info? e with
   | none=>simp[hi]at hn
   | some i=>
    have:i.size=aj tc:=by simpa [hi]using hn
    simp[sizeOf,typeInfo,iY,hi,this]
  have cI:∃ A n c,u = .slice A n c:=by
   cases hu.2 with
   | bg=>exact⟨_,_,_,rfl⟩
   | bw=>exact⟨_,_,_,rfl⟩
   | bI=>exact⟨_,_,_,rfl⟩
   | av=>exact⟨_,_,_,rfl⟩
   | own=>exact⟨_,_,_,rfl⟩
  obtain⟨A,n,c,rfl⟩:=cI
  obtain⟨hp,r7,Cw⟩:=hu.2.part (a:=l.toNat) (h:=m.toNat) hg (by omega) (by omega)
  refine⟨_,?_,by simp[V.av,hg],hp⟩
  rw[run_sliceAt_slice w t _ _ _ _ mN]
  rcases h5 with ⟨rfl,rfl⟩ | ⟨kl,rfl⟩ <;>rcases h6 with ⟨rfl,rfl⟩ | ⟨kh,rfl⟩
  ·rw[run_slice_all w t A n c mN,pM,r7]
   simp
  ·rw[run_slice_h w t A n c mN kh m (by omega) (by omega),pM]
   simp
  ·rw[run_slice_l w t A n c mN kl l (by omega) (by omega),pM,r7]
   simp
  ·rw[run_slice_lh w t A n c mN kl kh l m (by omega) (by omega) (by omega),pM]
   simp
/-! Parts of slices that are owned. -/
def zJ{X:Type}(n:Nat)(q:List Nat)(lo hi:Option A)(y:V)(k:A->Option X):Option X:=
 match y with
 | .sl t' _ _ l=>if n=aj t' then pI lo 0 fun a=>pI hi (l.length:Int) fun b=>if 0<=a/\a<=b/\b<=(l.length:Int)then k (.view q n a.toNat b.toNat)else none else none
 | _=>none
def r8{X:Type}(P:Program)(σ:S)(t:TypeId)(q:List Nat)(lo hi:Option A)(k:A->Option X):Option X:=
 match l8 P t with
 | some e=>(match fM P e with
  | some n=>di σ.m q fun y=>zJ n q lo hi y k
  | none=>none)
 | none=>none
def kF{X:Type}(P:Program)(σ:S)(t:TypeId)(x:A)(lo hi:Option A)(k:A->Option X):Option X:=
 match x with
 | .lf (.own q)=>r8 P σ t q lo hi k
 | x=>rX P t x lo hi k
theorem LQ{n:Nat}{q:List Nat}{lo hi:Option A}{y:V}{k:A->Option X}(h:zJ n q lo hi y k=some r):∃ (tc:TC) (g:Nat) (qn:Bool) (xs:List (T tc)) (l h:Int),y = .sl tc g qn xs/\n=aj tc/\
  ((lo=none/\l=0)\/∃ kd,lo=some (.lf (.v (.int kd l))))/\((hi=none/\h=xs.length)\/∃ kd,hi=some (.lf (.v (.int kd h))))/\0<=l/\l<=h/\h<=(xs.length:Int)/\k (.view q n l.toNat h.toNat)=some r/\
  ∀ (X':Type) (k':A->Option X'),zJ n q lo hi y k'=k' (.view q n l.toNat h.toNat):=by
 unfold zJ at h
 split at h
 ·rename_i tc g qn xs
  split at h
  ·rename_i gY
   obtain⟨l,h1,d1,e1⟩:=wE h
   obtain⟨m,h2,d2,e2⟩:=wE h1
   split at h2
   ·rename_i U
    refine⟨tc,g,qn,xs,l,m,rfl,gY,e1,e2,U.1,U.2.1,U.2.2,h2,fun X' k'=>?_⟩
    simp only[zJ,if_pos gY]
    rw[d1,d2,if_pos U]
   ·cases h2
  ·cases h
 ·cases h
theorem Ut{t:TypeId}{x:A}{lo hi:Option A}{k:A->Option X}(h:kF P σ t x lo hi k=some r):∃ y,k y=some r/\
  ∀ lab ρ a w,Rl w0 N lab ρ σ a w->∀ (u:Value) (lv hv:Option Value),RA w w0.heap.size lab ρ x u->(∀ a,lo=some a->∃ v,lv=some v/\RA w w0.heap.size lab ρ a v)->(lo=none->lv=none)->(∀ a,hi=some a->∃ v,hv=some v/\RA w w0.heap.size lab ρ a v)->(hi=none->hv=none)->
   ∃ t',(Instr.sliceAt t u lv hv none).run P w = .ok t' w/\RA w w0.heap.size lab ρ y t':=by
 unfold kF at h
 split at h
 ·rename_i q
  unfold r8 at h
  split at h
  ·rename_i e he
   split at h
   ·rename_i n hn
    obtain⟨y0,Uu,h2⟩:=mH q _ h
    obtain⟨tc,g,qn,xs,l,m,rfl,gY,e1,e2,b1,b2,b3,h3,_⟩:=LQ h2
    refine⟨_,h3,fun lab ρ a w hR u lv hv hu pg ep Cu Cv=>?_⟩
    have bl:∀ {o:Option A} {ov:Option Value} {n mM:Int},(∀ a,o=some a->∃ v,ov=some v/\RA w w0.heap.size lab ρ a v)->(o=none->ov=none)->((o=none/\n=mM)\/∃ kd,o=some (.lf (.v (.int kd n))))->(ov=none/\n=mM)\/∃ kd,ov=some (.int kd n):=by
     intro o ov n mM g1 g2 g3
     rcases g3 with ⟨e,e'⟩ | ⟨kd,e⟩
     ·exact .inl ⟨g2 e,e'⟩
     ·obtain⟨v,hv,hr⟩:=g1 _ e
      exact .inr ⟨kd,by rw[hv,hr.2.eM]⟩
    have h5:=bl pg ep e1
    have h6:=bl Cu Cv e2
    have cP:P.underlying t=some (.slice e):=by
     unfold l8 at he
     split at he
     ·rename_i e' gp;injection he with he;rw[<-he];exact gp
     ·cases he
    have iY:P.elem t=e:=by simp[Program.elem,cP]
    have mN:P.underlying t=some (.slice (P.elem t)):=by rw[iY];exact cP
    have pM:(sizeOf (P.elem t)).run P w = .ok n w:=by
     unfold fM at hn
     cases hi:P.info? e with
     | none=>simp[hi]at hn
     | some i=>
      have:i.size=n:=by simpa [hi]using hn
      simp[sizeOf,typeInfo,iY,hi,this]
    obtain⟨v0,jP,aX⟩:=Uu.ok hR.root
    have r9:=hu.2
    rw[jP]at r9
    injection r9 with r9
    subst r9
    have hf:RV w 0 (fun _=>none) [] (.sl tc 0 qn xs) v0:=aX.fE
    have cI:∃ A n c,v0 = .slice A n c:=by
     cases hf with
     | bg=>exact⟨_,_,_,rfl⟩
     | bw=>exact⟨_,_,_,rfl⟩
     | bI=>exact⟨_,_,_,rfl⟩
     | av=>exact⟨_,_,_,rfl⟩
    obtain⟨A,n',c,rfl⟩:=cI
    obtain⟨hp,r7,Cw⟩:=hf.part (a:=l.toNat) (h:=m.toNat) (by omega) (by omega) (by omega)
    refine⟨sliced A l.toNat m.toNat c n,?_,A,n',c,jP,by omega,by omega,rfl⟩
    rw[run_sliceAt_slice w t _ _ _ _ mN]
    rcases h5 with ⟨rfl,rfl⟩ | ⟨kl,rfl⟩ <;>rcases h6 with ⟨rfl,rfl⟩ | ⟨kh,rfl⟩
    ·rw[run_slice_all w t A n' c mN,pM,r7]
     simp
    ·rw[run_slice_h w t A n' c mN kh m (by omega) (by omega),pM]
     simp
    ·rw[run_slice_l w t A n' c mN kl l (by omega) (by omega),pM,r7]
     simp
    ·rw[run_slice_lh w t A n' c mN kl kh l m (by omega) (by omega) (by omega),pM]
     simp
   ·cases h
  ·cases h
 ·obtain⟨y,h1,_,hs⟩:=LP h
  exact⟨y,h1,fun lab ρ a w _ u lv hv=>hs w _ lab ρ u lv hv⟩
end
end Go.Proofs.YtjldnlbiefpekaaDoor
namespace Go.Proofs.YtjldnlbiefpekaaDoor
open Go.RowKit
set_option linter.unusedVariables false
abbrev Pt:=Bool×List V
def PV(w:World)(B:Nat)(lab:aH)(key:Nat->List Nat)(p:Pt)(u:Value):Prop:=
 ∃ us:Array Value,(match p.1 with | true=>u = .agg us | false=>us = #[u])/\us.size=p.2.length/\∀ (j:Nat) x,p.2[j]?=some x->∃ v,us[j]?=some v/\RV w B lab (key j) x v
def sg(w:World)(cs:List V)(u:Value):Prop:=
 ∃ b off,u = .pointer (some ⟨b,off,none⟩)/\b<w.heap.size/\∀ (j:Nat) x,cs[j]?=some x->∃ v,w.cell? ⟨b,off+j,none⟩=some v/\RV w w.heap.size (fun _=>none) [] x v
inductive PA (w:World):Pt->Value->Prop
 | v (p:Pt) (u:Value) (h:PV w w.heap.size (fun _=>none) (fun _=>[]) p u):PA w p u
 | p (c:V) (cs:List V) (u:Value) (h:sg w (c :: cs) u):PA w (false,.bool true :: c :: cs) u
 | f (g:Nat) (c:V) (cs:List V) (u:Value) (h:sg w (c :: cs) u):PA w (false,.bool false :: .int .i64 (g:Int) :: c :: cs) (.func (.func g) #[] #[u])
def si(w:World)(args:List Pt)(aM:Array Value):Prop:=
 aM.size=args.length/\∀ (i:Nat) p,args[i]?=some p->∃ u,aM[i]?=some u/\PA w p u
theorem PA.pv{w:World}{x:V}{u:Value}(h:PA w (false,[x]) u):PV w w.heap.size (fun _=>none) (fun _=>[]) (false,[x]) u:=by
 cases h with
 | v _ _ h=>exact h
inductive dz where
 | one (p:Pt)
 | aU (ps:List Pt)
def sj(t:TC):Nat->Bool
 | 0=>false
 | 1=>true
 | o+2=>Nat.ble (full t) o || Nat.beq (o % 2) 1
def V.loc:V->Bool
 | .sl t o _ _=>sj t o
 | _=>true
def fm(w:World)(B:Nat)(lab:aH)(nm:Nat->Nat):Nat->List Pt->List Value->Prop
 | _,[],[]=>True
 | off,p :: ps,v :: vs=>(p.2.all V.loc=true/\PV w B lab (fun j=>[nm (off+j)]) p v)/\fm w B lab nm (off+p.2.length) ps vs
 | _,_,_=>False
def jx(w:World)(B:Nat)(lab:aH)(nm:Nat->Nat):dz->Value->Prop
 | .one p,v=>fm w B lab nm 0 [p] [v]
 | .aU ps,v=>∃ vs:Array Value,v = .tuple vs/\fm w B lab nm 0 ps vs.toList
structure cu where
 run:(X:Type)->List Pt->(dz->Option X)->Option X
def cw(P:Program)(f:Nat)(c:cu):Prop:=
 ∀ (X:Type) (args:List Pt) (k:dz->Option X) (r:X),c.run X args k=some r->∃ res,k res=some r/\(∀ (X':Type) (k':dz->Option X'),c.run X' args k'=k' res)/\∀ (nm:Nat->Nat) (w:World) (aM:Array Value),si w args aM->Hd w (fun _=>none)->
  Calls P f aM w fun e w'=>∃ v af,e = .returned v/\Below w.heap.size w w'/\(∀ b k,af b=some k->w.heap.size<=b/\b<w'.heap.size/\k≠[])/\jx w' w.heap.size af nm res v
def iZ{X:Type}(σ:S):List Lf->(List V->Option X)->Option X
 | [],k=>k []
 | x :: xs,k=>eg σ x fun y=>iZ σ xs fun ys=>k (y.fE :: ys)
def iu{X:Type}(σ:S)(x:A)(k:Pt->Option X):Option X:=
 match x with
 | .lf y=>iZ σ [y] fun vs=>k (false,vs)
 | .agg ys=>iZ σ ys fun vs=>k (true,vs)
 | .view q s i j=>l7 σ q s i j fun y=>k (false,[y])
 | .ec (c :: cs)=>k (false,.bool true :: c.fE :: cs.map V.fE)
 | _=>none
def pN{X:Type}(σ:S)(x:A)(k:Pt->Option X):Option X:=
 match x with
 | .ec (c :: cs)=>k (false,.bool true :: c.fE :: cs.map V.fE)
 | .ic f (c :: cs)=>k (false,.bool false :: .int .i64 (f:Int) :: c.fE :: cs.map V.fE)
 | .aF r j=>(match σ.m r with
  | some (.blk cs)=>iZ σ (cs.drop j) fun vs=>(match vs with
   | c :: cs=>k (false,.bool true :: c :: cs)
   | []=>none)
  | _=>none)
 | .fn f [(r,j)]=>(match σ.m r with
  | some (.blk cs)=>iZ σ (cs.drop j) fun vs=>(match vs with
   | c :: cs=>k (false,.bool false :: .int .i64 (f:Int) :: c :: cs)
   | []=>none)
  | _=>none)
 | x=>iu σ x k
def sn{X:Type}(σ:S):List Operand->(List Pt->Option X)->Option X
 | [],k=>k []
 | x :: xs,k=>pN σ (ah σ x) fun p=>sn σ xs fun ps=>k (p :: ps)
def fF{X:Type}(σ:S):List Operand->(List Pt->Option X)->Option X
 | [],k=>k []
 | x :: xs,k=>iu σ (ah σ x) fun p=>fF σ xs fun ps=>k (p :: ps)
def fO(c:Nat):List V->List Lf
 | []=>[]
 | x :: xs=>(bif x.av then .v x else .own [c]) :: fO (c+1) xs
def dF(c:Nat)(σ:S):List V->S
 | []=>σ
 | x :: xs=>dF (c+1) (bif x.av then σ else (σ.drop c).root c (.sl x)) xs
def gv(c:Nat):List Pt->List (Bool×List Lf)
 | []=>[]
 | p :: ps=>(p.1,fO c p.2) :: gv (c+p.2.length) ps
def eW(c:Nat)(σ:S):List Pt->S
 | []=>σ
 | p :: ps=>eW (c+p.2.length) (dF c σ p.2) ps
def so{X:Type}(N:Nat)(σ:S)(d:Nat)(c:cu)(args:List Operand)(k:S->Option X):Option X:=
 bif Nat.blt d N then sn σ args fun ps=>c.run X ps fun res=>(match res with
  | .one p=>(match mb (p.1,fO (1000000000100000+1000*d) p.2)with
   | some y=>k ((dF (1000000000100000+1000*d) σ p.2).set d y)
   | none=>none)
  | .aU ps=>k ((eW (1000000000100000+1000*d) σ ps).set d (.aU (gv (1000000000100000+1000*d) ps))))else none
def pO{X:Type}(N:Nat)(σ:S)(d:Nat)(c:cu)(args:List Operand)(k:S->Option X):Option X:=
 bif Nat.blt d N then fF σ args fun ps=>c.run X ps fun res=>(match res with
  | .one p=>(match mb (p.1,fO (1000000000100000+1000*d) p.2)with
   | some y=>k ((dF (1000000000100000+1000*d) σ p.2).set d y)
   | none=>none)
  | .aU ps=>k ((eW (1000000000100000+1000*d) σ ps).set d (.aU (gv (1000000000100000+1000*d) ps))))else none
section
variable {P:Program} {w w':World} {w0:Wd} {B N:Nat} {lab af:aH} {ρ ρ':Nat->Loc} {σ:S} {a:Act} {X:Type} {d:Nat} {r:X} {o:Oper}
theorem zK:∀ (xs:List Lf) (k:List V->Option X),iZ σ xs k=some r->∃ vs,k vs=some r/\vs.length=xs.length/\∀ lab ρ a w,Rl w0 N lab ρ σ a w->∀ (j:Nat) x y u,xs[j]?=some x->vs[j]?=some y->bB w w0.heap.size lab ρ x u->RV w w.heap.size (fun _=>none) [] y u
 | [],k,h=>⟨[],h,rfl,fun _ _ _ _ _ j x y u hx=>by simp at hx⟩
 | x :: xs,k,h=>by
  unfold iZ at h
  obtain⟨y,hy,h2⟩:=Gn (w0:=w0) (N:=N) h
  obtain⟨ys,h3,hl,hr⟩:=zK xs _ h2
  refine⟨y.fE :: ys,h3,by simp[hl],fun lab ρ a w hR j x' y' u bC cD hu=>?_⟩
  cases j with
  | zero=>
   simp at bC cD
   subst bC cD
   obtain⟨q,hq⟩:=hy lab ρ a w hR u hu
   exact hq.fE
  | succ j=>exact hr lab ρ a w hR j x' y' u (by simpa using bC) (by simpa using cD) hu
theorem LR{r' j':Nat}{cs:List Lf}{vs:List V}(hm:σ.m r'=some (.blk cs))(hl:vs.length=(cs.drop j').length)
  (hr:∀ lab ρ a w,Rl w0 N lab ρ σ a w->∀ (j:Nat) x y u,(cs.drop j')[j]?=some x->vs[j]?=some y->bB w w0.heap.size lab ρ x u->RV w w.heap.size (fun _=>none) [] y u)
  {lab:aH} {ρ:Nat->Loc} {a:Act} {w:World} {u:Value} (hR:Rl w0 N lab ρ σ a w) (hu:RA w w0.heap.size lab ρ (.aF r' j') u):sg w vs u:=by
 obtain⟨b,off,e1,rfl⟩:=hu
 cases hR.root r' _ hm with
 | blk b' lS cells e _ us au fP hh hs hc=>
  rw[e1]at au
  injection au with q1 q2
  subst q1 q2
  refine⟨b,off+j',rfl,(Array.getElem?_eq_some_iff.1 hh).1,fun j x hx=>?_⟩
  have hj:j<(cs.drop j').length:=by rw[<-hl];exact(List.getElem?_eq_some_iff.1 hx).1
  have LS:=List.getElem?_eq_getElem hj
  have Uv:cs[j'+j]?=some (cs.drop j')[j]:=by rw[<-List.getElem?_drop];exact LS
  obtain⟨k1,k2⟩:=hc _ _ Uv
  refine⟨us (j'+j),?_,hr lab ρ a w hR j _ x _ LS hx k2⟩
  rw[Nat.add_assoc,cell_of_row w b _ cells _ _ hh]
  exact k1
theorem Gy{cs:List V}{u:Value}(hu:RF w B lab cs u):sg w (cs.map V.fE) u:=by
 obtain⟨b,off,rfl,h1,h2,h3⟩:=hu
 refine⟨b,off,rfl,h1,fun j x hx=>?_⟩
 rw[List.getElem?_map]at hx
 cases hy:cs[j]? with
 | none=>rw[hy]at hx;cases hx
 | some y=>
  rw[hy]at hx
  injection hx with hx
  subst hx
  obtain⟨_,v,h4,h5⟩:=h3 j y hy
  exact⟨v,h4,h5.fE⟩
theorem LU{x:A}{k:Pt->Option X}(h:iu σ x k=some r):∃ p,k p=some r/\∀ lab ρ a w,Rl w0 N lab ρ σ a w->∀ u,RA w w0.heap.size lab ρ x u->PA w p u:=by
 unfold iu at h
 split at h
 ·rename_i y
  obtain⟨vs,h2,hl,hr⟩:=zK (w0:=w0) (N:=N) _ _ h
  refine⟨_,h2,fun lab ρ a w hR u hu=>.v _ _ ⟨#[u],rfl,by simp[hl],fun j x hx=>?_⟩⟩
  have hj:j=0:=by
   have:=(List.getElem?_eq_some_iff.1 hx).1
   simp only[hl]at this
   simpa using this
  subst hj
  exact⟨u,rfl,hr lab ρ a w hR 0 y x u rfl hx hu⟩
 ·rename_i ys
  obtain⟨vs,h2,hl,hr⟩:=zK (w0:=w0) (N:=N) _ _ h
  refine⟨_,h2,fun lab ρ a w hR u hu=>?_⟩
  obtain⟨us,rfl,hs⟩:=hu
  refine .v _ _ ⟨us,rfl,by rw[hl];exact hs.1,fun j x hx=>?_⟩
  have hj:j<ys.length:=by rw[<-hl];exact(List.getElem?_eq_some_iff.1 hx).1
  obtain⟨v,hv,bx⟩:=hs.2 j _ (List.getElem?_eq_getElem hj)
  exact⟨v,hv,hr lab ρ a w hR j _ x v (List.getElem?_eq_getElem hj) hx bx⟩
 ·obtain⟨z,h2,_,hz⟩:=Ll h
  refine⟨_,h2,fun lab ρ a w hR u hu=>.v _ _ ⟨#[u],rfl,rfl,fun j x hx=>?_⟩⟩
  cases j with
  | zero=>
   simp at hx
   subst hx
   exact⟨u,rfl,hz _ _ _ _ _ _ hR u hu _⟩
  | succ j=>simp at hx
 ·rename_i c cs
  exact⟨_,h,fun lab ρ a w hR u hu=>.p _ _ _ (Gy hu)⟩
 ·cases h
theorem Uw{x:A}{k:Pt->Option X}(h:pN σ x k=some r):∃ p,k p=some r/\∀ lab ρ a w,Rl w0 N lab ρ σ a w->∀ u,RA w w0.heap.size lab ρ x u->PA w p u:=by
 unfold pN at h
 split at h
 ·rename_i c cs
  refine⟨_,h,fun lab ρ a w hR u hu=>?_⟩
  exact .p _ _ _ (Gy hu)
 ·rename_i f c cs
  refine⟨_,h,fun lab ρ a w hR u hu=>?_⟩
  obtain⟨pv,rfl,hp⟩:=hu
  exact .f _ _ _ _ (Gy hp)
 ·rename_i r' j'
  split at h
  ·rename_i cs hm
   obtain⟨vs,h2,hl,hr⟩:=zK (w0:=w0) (N:=N) _ _ h
   split at h2
   ·rename_i c cZ
    refine⟨_,h2,fun lab ρ a w hR u hu=>?_⟩
    exact .p _ _ _ (LR hm hl hr hR hu)
   ·cases h2
  ·cases h
 ·rename_i f r' j'
  split at h
  ·rename_i cs hm
   obtain⟨vs,h2,hl,hr⟩:=zK (w0:=w0) (N:=N) _ _ h
   split at h2
   ·rename_i c cZ
    refine⟨_,h2,fun lab ρ a w hR u hu=>?_⟩
    obtain⟨ps,rfl,hs,hp⟩:=hu
    obtain⟨b,off,e1,e2⟩:=hp 0 _ rfl
    have e:ps = #[.pointer (some ⟨b,off+j',none⟩)]:=by
     apply Array.ext (by simpa using hs)
     intro i h1 h2
     have:i=0:=by simp at h2;omega
     subst this
     rw[Array.getElem?_eq_getElem h1]at e2
     injection e2
    subst e
    exact .f _ _ _ _ (LR hm hl hr hR ⟨b,off,e1,rfl⟩)
   ·cases h2
  ·cases h
 ·exact LU h
theorem LV:∀ (xs:List Operand) (k:List Pt->Option X),sn σ xs k=some r->∃ ps,k ps=some r/\∀ lab ρ a w,Rl w0 N lab ρ σ a w->si w ps (xs.map a.eval).toArray
 | [],k,h=>⟨[],h,fun _ _ _ _ _=>⟨rfl,fun i p hp=>by simp at hp⟩⟩
 | x :: xs,k,h=>by
  unfold sn at h
  obtain⟨p,h2,hp⟩:=Uw (w0:=w0) (N:=N) h
  obtain⟨ps,h3,dP⟩:=LV xs _ h2
  refine⟨p :: ps,h3,fun lab ρ a w hR=>⟨?_,fun i q hq=>?_⟩⟩
  ·have:=(dP lab ρ a w hR).1
   simp at this
   simp[this]
  ·cases i with
   | zero=>
    simp at hq
    subst hq
    exact⟨_,rfl,hp lab ρ a w hR _ (hR.ah x)⟩
   | succ i=>
    obtain⟨u,hu,hr⟩:=(dP lab ρ a w hR).2 i q (by simpa using hq)
    exact⟨u,by simpa using hu,hr⟩
theorem Gz:∀ (xs:List Operand) (k:List Pt->Option X),fF σ xs k=some r->∃ ps,k ps=some r/\∀ lab ρ a w,Rl w0 N lab ρ σ a w->si w ps (xs.map a.eval).toArray
 | [],k,h=>⟨[],h,fun _ _ _ _ _=>⟨rfl,fun i p hp=>by simp at hp⟩⟩
 | x :: xs,k,h=>by
  unfold fF at h
  obtain⟨p,h2,hp⟩:=LU (w0:=w0) (N:=N) h
  obtain⟨ps,h3,dP⟩:=Gz xs _ h2
  refine⟨p :: ps,h3,fun lab ρ a w hR=>⟨?_,fun i q hq=>?_⟩⟩
  ·have:=(dP lab ρ a w hR).1
   simp at this
   simp[this]
  ·cases i with
   | zero=>
    simp at hq
    subst hq
    exact⟨_,rfl,hp lab ρ a w hR _ (hR.ah x)⟩
   | succ i=>
    obtain⟨u,hu,hr⟩:=(dP lab ρ a w hR).2 i q (by simpa using hq)
    exact⟨u,by simpa using hu,hr⟩
theorem LW{t:TC}{o:Nat}(h:sj t (o+2)=true)(x:T t):∀ y∈enc t o x,y.loc=true:=by
 intro y hy
 have hg:=oW t o x y hy
 cases y with
 | sl t' o' q l=>
  have ho:o'=o:=by simpa [V.gr]using hg
  subst ho
  have hf:full t'+2<=full t:=Nat.le_of_ble_eq_true (B9 t o' x _ hy)
  show sj t' o'=true
  simp only[sj,Bool.or_eq_true]at h
  rcases h with h | h
  ·have h:=Nat.le_of_ble_eq_true h
   match o',h with
   | 0,h=>omega
   | 1,h=>rfl
   | n+2,h=>
    simp only[sj,Bool.or_eq_true]
    left
    exact Nat.ble_eq_true_of_le (by omega)
  ·have h:=Nat.eq_of_beq_eq_true h
   match o',h with
   | 0,h=>omega
   | 1,h=>rfl
   | n+2,h=>
    simp only[sj,Bool.or_eq_true]
    right
    have:n % 2=1:=by omega
    rw[this]
    rfl
 | _=>rfl
theorem RV.home{q:List Nat}{x:V}{v:Value}(h:RV w B lab q x v){B':Nat}(hB:B'<=B)(hl:∀ b,B<=b->af b=lab b)(hg:∀ b k,lab b=some k->B<=b)(hx:x.loc=true):RV w B' af q x v:=by
 induction h with
 | int=>exact .int _ _ _
 | bool=>exact .bool _ _
 | str=>exact .str _ _
 | nil=>exact .nil _
 | bg=>exact .bg _ _ _
 | bw=>exact .bw _ _ _ _ _ (by first | assumption | omega)
 | bI=>exact .bI _ _ _ _ _ (by first | assumption | omega)
 | av q t o qn l b off cap u ho bL U h1 hcap hc hr ih=>
  have pP:o=1:=by
   match o,ho,hx with
   | 0,_,hx=>cases hx
   | 1,_,_=>rfl
   | n+2,ho,_=>omega
  subst pP
  have zL:=h1 rfl
  refine .av _ _ _ _ _ _ _ _ u ho ((hl b zL).trans bL) U (fun _=>Nat.le_trans hB zL) hcap hc (fun i h j x bC=>ih i h j x bC ?_)
  have:=oW t 1 l[i] x (List.mem_of_getElem? bC)
  cases x with
  | sl t' o' q' l'=>
   have:o'=1:=by simpa [V.gr]using this
   subst this
   rfl
  | _=>rfl
 | own q t o qn l b cap cs u bL hh hs hn hm hc hr ih=>
  exact .own _ _ _ _ _ _ _ cs u ((hl b (hg b q bL)).trans bL) hh hs hn hm hc (fun i h j x bC=>ih i h j x bC (LW hx l[i] x (List.mem_of_getElem? bC)))
theorem GA:∀ (xs:List V) (c:Nat) (σ:S) (ρ:Nat->Loc) (us:List Value),60000<=c->Rl w0 N lab ρ σ a w->us.length=xs.length->(∀ (j:Nat) x u,xs[j]?=some x->us[j]?=some u->RV w w0.heap.size lab [c+j] x u)->
  ∃ ρ',Rl w0 N lab ρ' (dF c σ xs) a w/\(∀ r,r<c->ρ' r=ρ r)/\∀ (j:Nat) x u,(fO c xs)[j]?=some x->us[j]?=some u->bB w w0.heap.size lab ρ' x u
 | [],c,σ,ρ,us,_,h,hl,hr=>⟨ρ,h,fun _ _=>rfl,fun j x u hx=>by simp[fO]at hx⟩
 | x :: xs,c,σ,ρ,us,hc,h,hl,hr=>by
  cases us with
  | nil=>simp at hl
  | cons u us=>
   have aX:=hr 0 x u rfl rfl
   rw[Nat.add_zero]at aX
   have fk:∀ (j:Nat) x' u',xs[j]?=some x'->us[j]?=some u'->RV w w0.heap.size lab [c+1+j] x' u':=fun j x' u' hx hu=>by
    have:=hr (j+1) x' u' (by simpa using hx) (by simpa using hu)
    rw[show c+1+j=c+(j+1) by omega]
    exact this
   cases hf:x.av with
   | true=>
    obtain⟨ρ',aB,au,mO⟩:=GA xs (c+1) σ ρ us (by omega) h (by simpa using hl) fk
    refine⟨ρ',?_,fun r hr=>au r (by omega),fun j y v hy hv=>?_⟩
    ·simp only[dF,hf,cond_true]
     exact aB
    ·simp only[fO,hf,cond_true]at hy
     cases j with
     | zero=>
      simp at hy hv
      subst hy hv
      exact⟨hf,aX.key hf⟩
     | succ j=>exact mO j y v (by simpa using hy) (by simpa using hv)
   | false=>
    have dU:=aX.Ca hf
    obtain⟨ρ',aB,au,mO⟩:=GA xs (c+1) _ _ us (by omega) (h.new (d:=c) (x:=.sl x) (.bX u) (.sl u x (aK _ _ _) aX) (h.cF c (.inr hc))) (by simpa using hl) fk
    refine⟨ρ',?_,fun r hr=>?_,fun j y v hy hv=>?_⟩
    ·simp only[dF,hf,cond_false]
     exact aB
    ·rw[au r (by omega)]
     exact aQ _ _ _ (by omega)
    ·simp only[fO,hf,cond_false]at hy
     cases j with
     | zero=>
      simp at hy hv
      subst hy hv
      refine⟨dU,?_⟩
      have:ρ' c = .bX u:=by rw[au c (by omega)];exact aK _ _ _
      simp[aP,this]
     | succ j=>exact mO j y v (by simpa using hy) (by simpa using hv)
theorem Ux(xs:List V):∀ c,(fO c xs).length=xs.length:=by
 induction xs with
 | nil=>intro c;rfl
 | cons x xs ih=>intro c;simp[fO,ih]
end
end Go.Proofs.YtjldnlbiefpekaaDoor
namespace Go.Proofs.YtjldnlbiefpekaaDoor
open Go.RowKit
set_option linter.unusedVariables false
def enters(P:Program)(f:Nat):Prop:=∃ fn,P.funcs[f]?=some fn/\(fn.name == "runtime.NumGoroutine")=false/\fn.body.isNone=false
/-! What a function gives back. -/
def Cx:A->Option (Bool×List Lf)
 | .lf x=>some (false,[x])
 | .agg xs=>some (true,xs)
 | _=>none
def jQ{X:Type}(P:Program)(σ:S):List ResultVar->(List (Bool×List Lf)->Option X)->Option X
 | [],k=>k []
 | .tmp t :: rest,k=>(match Cx (σ.t t)with
  | some p=>jQ P σ rest fun ps=>k (p :: ps)
  | none=>none)
 | .cell p ty :: rest,k=>eN P σ ty (σ.t p) fun x=>(match Cx x with
  | some p=>jQ P σ rest fun ps=>k (p :: ps)
  | none=>none)
def GB(m:Nat->Option ax):Lf->Option (V×Option Nat)
 | .v x=>bif x.loc&&x.av then some (x,none)else none
 | .own [r]=>match m r with
  | some (.sl y)=>bif y.loc then some (y,some r)else none
  | _=>none
 | _=>none
def zM(m:Nat->Option ax)(off:Nat):List Lf->Option (List V×List (Nat×Nat))
 | []=>some ([],[])
 | x :: xs=>match GB m x,zM m (off+1) xs with
  | some (y,none),some (ys,rs)=>some (y :: ys,rs)
  | some (y,some r),some (ys,rs)=>some (y :: ys,(r,off) :: rs)
  | _,_=>none
def wF(m:Nat->Option ax)(off:Nat):List (Bool×List Lf)->Option (List Pt×List (Nat×Nat))
 | []=>some ([],[])
 | p :: ps=>match zM m off p.2,wF m (off+p.2.length) ps with
  | some (vs,rs),some (qs,ja)=>some ((p.1,vs) :: qs,rs++ja)
  | _,_=>none
def once(rs:List (Nat×Nat)):Bool:=rs.all fun p=>(rs.lookup p.1).any fun n=>Nat.beq n p.2
def zN{X:Type}(P:Program)(σ:S)(fn:Array ResultVar)(k:dz->Option X):Option X:=
 jQ P σ fn.toList fun ps=>match wF σ.m 0 ps with
  | some (qs,rs)=>bif once rs then (match qs with
   | [p]=>k (.one p)
   | qs=>k (.aU qs))else none
  | none=>none
section
variable {P:Program} {w w':World} {w0:Wd} {B N:Nat} {lab af:aH} {ρ ρ':Nat->Loc} {σ:S} {a:Act} {X:Type} {d:Nat} {r:X} {o:Oper}
theorem LX:∀ (xs:List V) (c:Nat) (j:Nat) x u,(fO c xs)[j]?=some x->bB w B lab ρ x u->(∀ r,r<c+xs.length->ρ' r=ρ r)->bB w B lab ρ' x u
 | [],c,j,x,u,hx,_,_=>by simp[fO]at hx
 | y :: ys,c,j,x,u,hx,hr,au=>by
  cases j with
  | zero=>
   simp only[fO,List.getElem?_cons_zero,Option.some.injEq]at hx
   subst hx
   cases hf:y.av with
   | true=>rw[hf,cond_true]at hr;simp only[cond_true];exact hr
   | false=>
    rw[hf,cond_false]at hr
    simp only[cond_false]
    refine⟨hr.1,?_⟩
    have:=hr.2
    simp only[aP,au c (by simp)]at this ⊢
    exact this
  | succ j=>
   simp only[fO,List.getElem?_cons_succ]at hx
   exact LX ys (c+1) j x u hx hr (fun r h=>au r (by simp;omega))
theorem PV.cells{key:Nat->List Nat}{p:Pt}{u:Value}(h:PV w B lab key p u):∃ us:List Value,us.length=p.2.length/\(∀ (j:Nat) x v,p.2[j]?=some x->us[j]?=some v->RV w B lab (key j) x v)/\
  ∀ (ρ:Nat->Loc) (ls:List Lf),ls.length=p.2.length->(∀ (j:Nat) x v,ls[j]?=some x->us[j]?=some v->bB w B lab ρ x v)->RP w B lab ρ (p.1,ls) u:=by
 obtain⟨us,hu,hs,hr⟩:=h
 obtain⟨b,xs⟩:=p
 refine⟨us.toList,by simpa using hs,fun j x v hx hv=>?_,fun ρ ls hl zO=>?_⟩
 ·obtain⟨v',bY,bx⟩:=hr j x hx
  have:v'=v:=by
   rw[Array.getElem?_toList]at hv
   rw[bY]at hv
   injection hv
  subst this
  exact bx
 ·have wC:bK w B lab ρ ls us:=⟨by rw[hs,hl],fun j x hx=>by
   have hj:j<us.size:=by rw[hs,<-hl];exact(List.getElem?_eq_some_iff.1 hx).1
   exact⟨us[j],Array.getElem?_eq_getElem hj,zO j x _ hx (by rw[Array.getElem?_toList,Array.getElem?_eq_getElem hj])⟩⟩
  cases b with
  | true=>exact⟨us,hu,wC⟩
  | false=>have hu:us = #[u]:=hu;subst hu;exact wC
theorem zQ:∀ (ps:List Pt) (c0 off:Nat) (σ:S) (ρ:Nat->Loc) (vs:List Value),60000<=c0->Rl w0 N lab ρ σ a w->fm w w0.heap.size lab (fun n=>c0+n) off ps vs->
  ∃ ρ',Rl w0 N lab ρ' (eW (c0+off) σ ps) a w/\(∀ r,r<c0+off->ρ' r=ρ r)/\vs.length=(gv (c0+off) ps).length/\∀ (i:Nat) p v,(gv (c0+off) ps)[i]?=some p->vs[i]?=some v->RP w w0.heap.size lab ρ' p v
 | [],c0,off,σ,ρ,vs,_,h,hr=>by
  cases vs with
  | nil=>exact⟨ρ,h,fun _ _=>rfl,rfl,fun i p v hp=>by simp[gv]at hp⟩
  | cons v vs=>exact hr.elim
 | p :: ps,c0,off,σ,ρ,vs,hc,h,hr=>by
  cases vs with
  | nil=>exact hr.elim
  | cons v vs=>
   obtain⟨⟨_,hp⟩,hr⟩:=hr
   obtain⟨us,hl,iT,ld⟩:=hp.cells
   obtain⟨pQ,h1,dN,mO⟩:=GA p.2 (c0+off) σ ρ us (by omega) h hl (fun j x u hx hu=>by
    have:RV w w0.heap.size lab [c0+(off+j)] x u:=iT j x u hx hu
    rw[<-Nat.add_assoc]at this
    exact this)
   obtain⟨cB,h2,n9,hlen,dP⟩:=zQ ps c0 (off+p.2.length) (dF (c0+off) σ p.2) pQ vs hc h1 hr
   rw[<-Nat.add_assoc]at h2 n9 hlen dP
   refine⟨cB,h2,fun r hr=>(n9 r (by omega)).trans (dN r hr),by simp[gv,hlen],fun i q u hq hu=>?_⟩
   cases i with
   | zero=>
    simp only[gv,List.getElem?_cons_zero,Option.some.injEq]at hq hu
    subst hq hu
    refine ld cB _ (Ux _ _) (fun j x u hx hu=>LX p.2 (c0+off) j x u hx (mO j x u hx hu) n9)
   | succ i=>
    simp only[gv,List.getElem?_cons_succ]at hq hu
    exact dP i q u hq hu
theorem fm.home{nm:Nat->Nat}:∀ (ps:List Pt) (off:Nat) (vs:List Value) {B':Nat},fm w B lab nm off ps vs->B'<=B->(∀ b,B<=b->af b=lab b)->(∀ b k,lab b=some k->B<=b)->fm w B' af nm off ps vs
 | [],_,[],_,h,_,_,_=>h
 | [],_,_ :: _,_,h,_,_,_=>h
 | _ :: _,_,[],_,h,_,_,_=>h
 | p :: ps,off,v :: vs,B',h,hB,hl,hg=>by
  obtain⟨⟨jb,us,hu,hs,hr⟩,fk⟩:=h
  refine⟨⟨jb,us,hu,hs,fun j x hx=>?_⟩,fm.home ps _ vs fk hB hl hg⟩
  obtain⟨v',bY,bx⟩:=hr j x hx
  exact⟨v',bY,bx.home hB hl hg (List.all_eq_true.1 jb x (List.mem_of_getElem? hx))⟩
theorem Cy(w:World)(o:Oper)(a:Act)(f:Nat)(args:Array Operand)(bG:Array TypeId)(ho:o.op = .call { callee:=.value (.func f),args,argTypes:=bG })(he:enters P f):(execOp a.eval o).run P w = .ok (.enter f (args.map a.eval)) w:=by
 obtain⟨fn,h1,h2,h3⟩:=he
 have zS:¬ fn.name = "runtime.NumGoroutine":=by simpa using h2
 have tH:¬ fn.body=none:=by intro e;rw[e]at h3;cases h3
 simp[execOp,ho,resolve,Act.eval,Deferred.ofValue,invoke,callFunc,Sem.run_bind,Sem.run,program,h1,zS,tH]
theorem LY{f:Nat}{args:Array Operand}{bG:Array TypeId}{c:cu}{k:S->Option X}(ho:o.op = .call { callee:=.value (.func f),args,argTypes:=bG })(hd:o.dst=some d)(he:enters P f)(hc:cw P f c)(pR:d<N){ps:List Pt}(cR:∀ lab ρ a w,Rl w0 N lab ρ σ a w->si w ps (args.toList.map a.eval).toArray)
  (h2:(c.run X ps fun res=>(match res with
  | .one p=>(match mb (p.1,fO (1000000000100000+1000*d) p.2)with
   | some y=>k ((dF (1000000000100000+1000*d) σ p.2).set d y)
   | none=>none)
  | .aU ps=>k ((eW (1000000000100000+1000*d) σ ps).set d (.aU (gv (1000000000100000+1000*d) ps)))))=some r):∃ aa,k aa=some r/\gH P w0 N o σ aa:=by
 obtain⟨res,h3,_,zT⟩:=hc X ps _ r h2
 have step:∀ a w K Q lab ρ,Rl w0 N lab ρ σ a w->(∀ v w' af,Below w.heap.size w w'->Rl w0 N af ρ σ a w'->jx w' w0.heap.size af (fun n=>1000000000100000+1000*d+n) res v->K (a.put o.dst v) w')->o.wp P a w K Q:=by
  intro a w K Q lab ρ hR hK
  unfold Oper.wp
  rw[Cy w o a f args bG ho he,Oper.upon_enter]
  have jR:(args.map a.eval)=(args.toList.map a.eval).toArray:=by apply Array.ext';rw[Array.toList_map]
  rw[jR]
  refine(zT (fun n=>1000000000100000+1000*d+n) w _ (cR lab ρ a w hR) (w0.on hR.below (fun _ _ h=>by cases h))).mono fun e w' fG=>?_
  obtain⟨v,gx,rfl,dj,fP,er⟩:=fG
  have hB:=hR.below.size
  let bH:aH:=fun b=>if b<w.heap.size then lab b else gx b
  have e1:∀ b,b<w.heap.size->bH b=lab b:=fun b U=>if_pos U
  have e2:∀ b,w.heap.size<=b->bH b=gx b:=fun b U=>if_neg (by omega)
  refine hK v w' bH dj (hR.grow dj e1 (fun b k U hk=>?_)) ?_
  ·rw[e2 b U]at hk
   exact(fP b k hk).2
  ·cases res with
   | one p=>exact fm.home [p] 0 [v] er hB e2 (fun b k hk=>(fP b k hk).1)
   | aU jS=>
    obtain⟨vs,e,hv⟩:=er
    exact⟨vs,e,fm.home jS 0 vs.toList hv hB e2 (fun b k hk=>(fP b k hk).1)⟩
 cases res with
 | one p=>
  simp only at h3
  split at h3
  ·rename_i y hy
   refine⟨_,h3,fun a w K Q hR hK=>?_⟩
   obtain⟨lab,ρ,hR⟩:=hR
   refine step a w K Q lab ρ hR fun v w' af dj aB er=>?_
   obtain⟨ρ',gb,_,_,dP⟩:=zQ [p] (1000000000100000+1000*d) 0 σ ρ [v] (by omega) aB er
   rw[hd]
   have GC:=dP 0 _ v rfl rfl
   exact hK _ _ ⟨af,ρ',gb.set (Gc hy GC) pR⟩
  ·cases h3
 | aU jS=>
  refine⟨_,h3,fun a w K Q hR hK=>?_⟩
  obtain⟨lab,ρ,hR⟩:=hR
  refine step a w K Q lab ρ hR fun v w' af dj aB er=>?_
  obtain⟨vs,rfl,hv⟩:=er
  obtain⟨ρ',gb,_,hlen,dP⟩:=zQ jS (1000000000100000+1000*d) 0 σ ρ vs.toList (by omega) aB hv
  rw[hd]
  refine hK _ _ ⟨af,ρ',gb.set ⟨vs,rfl,by simpa using hlen,fun j p hp=>?_⟩ pR⟩
  have hj:j<vs.size:=by
   have:=(List.getElem?_eq_some_iff.1 hp).1
   rw[Nat.add_zero]at hlen
   rw[<-hlen]at this
   simpa using this
  exact⟨vs[j],Array.getElem?_eq_getElem hj,dP j p _ hp (by rw[Array.getElem?_toList,Array.getElem?_eq_getElem hj])⟩
theorem Uy{f:Nat}{args:Array Operand}{bG:Array TypeId}{c:cu}{k:S->Option X}(ho:o.op = .call { callee:=.value (.func f),args,argTypes:=bG })(hd:o.dst=some d)(he:enters P f)(hc:cw P f c)(h:pO N σ d c args.toList k=some r):∃ aa,k aa=some r/\gH P w0 N o σ aa:=by
 unfold pO at h
 cases hN:Nat.blt d N with
 | false=>rw[hN]at h;cases h
 | true=>
  rw[hN,cond_true]at h
  obtain⟨ps,h2,cR⟩:=Gz (w0:=w0) (N:=N) _ _ h
  exact LY ho hd he hc (Nat.le_of_ble_eq_true hN) cR h2
theorem Uz{f:Nat}{args:Array Operand}{bG:Array TypeId}{c:cu}{k:S->Option X}(ho:o.op = .call { callee:=.value (.func f),args,argTypes:=bG })(hd:o.dst=some d)(he:enters P f)(hc:cw P f c)(h:so N σ d c args.toList k=some r):∃ aa,k aa=some r/\gH P w0 N o σ aa:=by
 unfold so at h
 cases hN:Nat.blt d N with
 | false=>rw[hN]at h;cases h
 | true=>
  rw[hN,cond_true]at h
  obtain⟨ps,h2,cR⟩:=LV (w0:=w0) (N:=N) _ _ h
  exact LY ho hd he hc (Nat.le_of_ble_eq_true hN) cR h2
end
end Go.Proofs.YtjldnlbiefpekaaDoor
namespace Go.Proofs.YtjldnlbiefpekaaDoor
open Go.RowKit
set_option linter.unusedVariables false
def cA(lab:aH)(rs:List (Nat×Nat))(nm:Nat->Nat):aH:=fun b=>
 match lab b with
 | none=>none
 | some k=>match k.getLast? with
  | none=>none
  | some r=>(rs.lookup r).map fun n=>k.dropLast++[nm n]
section
variable {P:Program} {w w':World} {w0:Wd} {B N:Nat} {lab af:aH} {ρ ρ':Nat->Loc} {σ:S} {a:Act} {X:Type} {d:Nat} {r:X} {rs:List (Nat×Nat)} {nm:Nat->Nat}
theorem RV.zU{q:List Nat}{x:V}{v:Value}(h:RV w B lab q x v)(hf:x.av=true)(hl:∀ b,lab b=none->af b=none):RV w B af q x v:=by
 induction h with
 | int=>exact .int _ _ _
 | bool=>exact .bool _ _
 | str=>exact .str _ _
 | nil=>exact .nil _
 | bg=>exact .bg _ _ _
 | bw=>exact .bw _ _ _ _ _ (by first | assumption | omega)
 | bI=>exact .bI _ _ _ _ _ (by first | assumption | omega)
 | av q t o qn l b off cap u ho bL U h1 hcap hc hr ih=>
  exact .av _ _ _ _ _ _ _ _ u ho (hl b bL) U h1 hcap hc (fun i h j x hx=>ih i h j x hx (fY t o l[i] ho j x hx))
 | own q t o qn l b cap cs u bL hh hs hn hm hc hr ih=>simp[V.av]at hf;omega
theorem pS{b:Nat}(h:lab b=none):cA lab rs nm b=none:=by simp[cA,h]
theorem RV.cA{p:List Nat}{r n:Nat}{x:V}{v:Value}(h:RV w B lab (p++[r]) x v)(hr:rs.lookup r=some n):RV w B (cA lab rs nm) (p++[nm n]) x v:=by
 generalize hq:p++[r]=q at h
 induction h generalizing p with
 | int=>exact .int _ _ _
 | bool=>exact .bool _ _
 | str=>exact .str _ _
 | nil=>exact .nil _
 | bg=>exact .bg _ _ _
 | bw=>exact .bw _ _ _ _ _ (by first | assumption | omega)
 | bI=>exact .bI _ _ _ _ _ (by first | assumption | omega)
 | av q t o qn l b off cap u ho bL U h1 hcap hc bx ih=>
  exact .av _ _ _ _ _ _ _ _ u ho (pS bL) U h1 hcap hc (fun i h j x hx=>(bx i h j x hx).zU (fY t o l[i] ho j x hx) (fun b=>pS))
 | own q t o qn l b cap cs u bL hh hs hn hm hc bx ih=>
  subst hq
  refine .own _ _ _ _ _ _ _ cs u ?_ hh hs hn hm hc (fun i h j x hx=>ih i h j x hx (p:=j :: i :: aj t :: p) rfl)
  simp[Proofs.YtjldnlbiefpekaaDoor.cA,bL,hr]
theorem GD{m:Nat->Option ax}:∀ (xs:List Lf) (off:Nat) (ys:List V) (fQ:List (Nat×Nat)),zM m off xs=some (ys,fQ)->ys.length=xs.length/\∀ (j:Nat) x,xs[j]?=some x->∃ y,ys[j]?=some y/\y.loc=true/\((x = .v y/\y.av=true)\/∃ r,x = .own [r]/\m r=some (.sl y)/\(r,off+j)∈fQ)
 | [],off,ys,fQ,h=>by
  simp only[zM,Option.some.injEq,Prod.mk.injEq]at h
  obtain⟨rfl,rfl⟩:=h
  exact⟨rfl,fun j x hx=>by simp at hx⟩
 | x :: xs,off,ys,fQ,h=>by
  have hc:∀ y z,GB m x=some (y,z)->y.loc=true/\((z=none/\x = .v y/\y.av=true)\/∃ r,z=some r/\x = .own [r]/\m r=some (.sl y)):=by
   intro y z hz
   unfold GB at hz
   split at hz
   ·rename_i x'
    cases hl:(x'.loc&&x'.av)with
    | false=>rw[hl]at hz;cases hz
    | true=>
     rw[hl,cond_true]at hz
     simp only[Option.some.injEq,Prod.mk.injEq]at hz
     obtain⟨rfl,rfl⟩:=hz
     rw[Bool.and_eq_true]at hl
     exact⟨hl.1,.inl ⟨rfl,rfl,hl.2⟩⟩
   ·rename_i r
    split at hz
    ·rename_i y' cD
     cases hl:y'.loc with
     | false=>rw[hl]at hz;cases hz
     | true=>
      rw[hl,cond_true]at hz
      simp only[Option.some.injEq,Prod.mk.injEq]at hz
      obtain⟨rfl,rfl⟩:=hz
      exact⟨hl,.inr ⟨r,rfl,rfl,cD⟩⟩
    ·cases hz
   ·cases hz
  unfold zM at h
  split at h
  ·rename_i y tI ja hy iW
   simp only[Option.some.injEq,Prod.mk.injEq]at h
   obtain⟨rfl,rfl⟩:=h
   obtain⟨h1,h2⟩:=GD xs (off+1) tI ja iW
   refine⟨by simp[h1],fun j x' hx=>?_⟩
   cases j with
   | zero=>
    simp at hx
    subst hx
    obtain⟨hl,hz | ⟨r,hz,_⟩⟩:=hc y none hy
    ·exact⟨y,rfl,hl,.inl hz.2⟩
    ·cases hz
   | succ j=>
    obtain⟨y',cD,hl,hz⟩:=h2 j x' (by simpa using hx)
    refine⟨y',by simpa using cD,hl,hz.imp id fun⟨r,e1,e2,e3⟩=>⟨r,e1,e2,by rw[show off+(j+1)=off+1+j by omega];exact e3⟩⟩
  ·rename_i y r tI ja hy iW
   simp only[Option.some.injEq,Prod.mk.injEq]at h
   obtain⟨rfl,rfl⟩:=h
   obtain⟨h1,h2⟩:=GD xs (off+1) tI ja iW
   refine⟨by simp[h1],fun j x' hx=>?_⟩
   cases j with
   | zero=>
    simp at hx
    subst hx
    obtain⟨hl,hz | ⟨r',hz,e1,e2⟩⟩:=hc y (some r) hy
    ·cases hz.1
    ·injection hz with hz
     subst hz
     exact⟨y,rfl,hl,.inr ⟨r,e1,e2,.head _⟩⟩
   | succ j=>
    obtain⟨y',cD,hl,hz⟩:=h2 j x' (by simpa using hx)
    refine⟨y',by simpa using cD,hl,hz.imp id fun⟨r,e1,e2,e3⟩=>⟨r,e1,e2,by rw[show off+(j+1)=off+1+j by omega];exact .tail _ e3⟩⟩
  ·cases h
theorem GF{m:Nat->Option ax}(hm:∀ r x,m r=some x->bU w B lab ρ r x):∀ (ps:List (Bool×List Lf)) (off:Nat) (qs:List Pt) (fQ:List (Nat×Nat)) (vs:List Value),wF m off ps=some (qs,fQ)->(∀ p∈fQ,rs.lookup p.1=some p.2)->vs.length=ps.length->
  (∀ (i:Nat) p v,ps[i]?=some p->vs[i]?=some v->RP w B lab ρ p v)->fm w B (cA lab rs nm) nm off qs vs
 | [],off,qs,fQ,vs,h,_,hl,_=>by
  have:vs=[]:=List.eq_nil_of_length_eq_zero hl
  subst this
  simp only[wF,Option.some.injEq,Prod.mk.injEq]at h
  obtain⟨rfl,rfl⟩:=h
  trivial
 | p :: ps,off,qs,fQ,vs,h,cK,hl,hp=>by
  cases vs with
  | nil=>simp at hl
  | cons v vs=>
   unfold wF at h
   split at h
   ·rename_i ys UA UB tJ h1 h2
    simp only[Option.some.injEq,Prod.mk.injEq]at h
    obtain⟨rfl,rfl⟩:=h
    obtain⟨hlen,hcells⟩:=GD _ _ _ _ h1
    have fk:=GF hm ps _ UB tJ vs h2 (fun q hq=>cK q (List.mem_append_right _ hq)) (by simpa using hl) (fun i q u hq hu=>hp (i+1) q u (by simpa using hq) (by simpa using hu))
    have kG:=hp 0 p v rfl rfl
    have key:∀ us:Array Value,bK w B lab ρ p.2 us->(us.size=ys.length/\∀ (j:Nat) x,ys[j]?=some x->∃ u,us[j]?=some u/\RV w B (cA lab rs nm) [nm (off+j)] x u):=by
     intro us cI
     refine⟨by rw[hlen];exact cI.1,fun j y hy=>?_⟩
     have hj:j<p.2.length:=by rw[<-hlen];exact(List.getElem?_eq_some_iff.1 hy).1
     obtain⟨y',cD,jb,hz⟩:=hcells j _ (List.getElem?_eq_getElem hj)
     rw[hy]at cD
     injection cD with cD
     subst cD
     obtain⟨u,hu,hr⟩:=cI.2 j _ (List.getElem?_eq_getElem hj)
     refine⟨u,hu,?_⟩
     rcases hz with ⟨e,hf⟩ | ⟨r,e,UC,sr⟩
     ·rw[e]at hr
      exact(hr.2.zU hf (fun b=>pS)).key hf
     ·rw[e]at hr
      have bE:=hm r _ UC
      generalize he:ax.sl y=z at bE
      cases bE with
      | blk=>cases he
      | mp=>cases he
      | gh=>cases he
      | sl v' y' au iT=>
       injection he with he
       subst he
       have r9:v'=u:=by
        have h4:=hr.2
        simp only[aP,au]at h4
        injection h4
       subst r9
       exact RV.cA (p:=[]) iT (cK (r,off+j) (List.mem_append_left _ sr))
    refine⟨⟨?_,?_⟩,?_⟩
    ·rw[List.all_eq_true]
     intro y hy
     obtain⟨j,hj⟩:=List.mem_iff_getElem?.1 hy
     have oZ:j<p.2.length:=by rw[<-hlen];exact(List.getElem?_eq_some_iff.1 hj).1
     obtain⟨y',cD,jb,_⟩:=hcells j _ (List.getElem?_eq_getElem oZ)
     rw[hj]at cD
     injection cD with cD
     subst cD
     exact jb
    ·obtain⟨b,xs⟩:=p
     cases b with
     | true=>
      obtain⟨us,e,cI⟩:=kG
      obtain⟨k1,k2⟩:=key us cI
      exact⟨us,e,k1,k2⟩
     | false=>
      obtain⟨k1,k2⟩:=key #[v] kG
      exact⟨#[v],rfl,k1,k2⟩
    ·rw[hlen]
     exact fk
   ·cases h
theorem UD{t:TypeId}{x:A}{k:A->Option X}(h:eN P σ t x k=some r){u:Value}(hu:RA w B lab ρ x u):∃ ad,u = .pointer (some ad):=by
 unfold eN at h
 split at h
 ·cases h
 ·split at h
  ·obtain⟨b,off,_,rfl⟩:=hu;exact⟨_,rfl⟩
  ·obtain⟨b,off,rfl,_⟩:=hu;exact⟨_,rfl⟩
  ·obtain⟨ad,rfl,_⟩:=hu;exact⟨_,rfl⟩
  ·cases h
theorem LZ{x:A}{p:Bool×List Lf}(h:Cx x=some p){u:Value}(hu:RA w B lab ρ x u):RP w B lab ρ p u:=by
 unfold Cx at h
 split at h
 ·injection h with h
  subst h
  refine⟨rfl,fun j y hy=>?_⟩
  cases j with
  | zero=>simp at hy;subst hy;exact⟨u,rfl,hu⟩
  | succ j=>simp at hy
 ·injection h with h
  subst h
  exact hu
 ·cases h
def pT(tmps:Array Value):ResultVar->Sem Value
 | .tmp t=>pure (tmps.getD t undef)
 | .cell a t=>do loadVar t (<-asAddr (tmps.getD a undef))
theorem zV:∀ (l:List ResultVar) (k:List (Bool×List Lf)->Option X),jQ P σ l k=some r->∃ ps,k ps=some r/\∀ lab ρ a w,Rl w0 N lab ρ σ a w->∃ vs,(l.mapM (pT a.tmps)).run P w = .ok vs w/\vs.length=ps.length/\∀ (i:Nat) p v,ps[i]?=some p->vs[i]?=some v->RP w w0.heap.size lab ρ p v
 | [],k,h=>⟨[],h,fun _ _ _ _ _=>⟨[],rfl,rfl,fun i p v hp=>by simp at hp⟩⟩
 | .tmp t :: rest,k,h=>by
  simp only[jQ]at h
  split at h
  ·rename_i p hp
   obtain⟨ps,h2,dP⟩:=zV rest _ h
   refine⟨p :: ps,h2,fun lab ρ a w hR=>?_⟩
   obtain⟨vs,aD,hl,hv⟩:=dP lab ρ a w hR
   refine⟨a.tmps.getD t undef :: vs,?_,by simp[hl],fun i q u hq hu=>?_⟩
   ·rw[List.mapM_cons,Sem.run_bind]
    simp only[pT,Sem.run_pure,Result.andThen_ok,Sem.run_bind,aD]
   ·cases i with
    | zero=>simp only[List.getElem?_cons_zero,Option.some.injEq]at hq hu;subst hq hu;exact LZ hp (hR.tmp t)
    | succ i=>exact hv i q u (by simpa using hq) (by simpa using hu)
  ·cases h
 | .cell c ty :: rest,k,h=>by
  simp only[jQ]at h
  obtain⟨y,hy,lg⟩:=Ln (w0:=w0) (N:=N) h
  split at hy
  ·rename_i p hp
   obtain⟨ps,h2,dP⟩:=zV rest _ hy
   refine⟨p :: ps,h2,fun lab ρ a w hR=>?_⟩
   obtain⟨vs,aD,hl,hv⟩:=dP lab ρ a w hR
   obtain⟨v,n8,pL⟩:=lg lab ρ a w hR _ (hR.tmp c)
   obtain⟨ad,fe⟩:=UD h (hR.tmp c)
   rw[fe]at n8
   have n8:(loadVar ty ad).run P w = .ok v w:=by
    simpa [Instr.loadAt,Instr.sureAddr]using n8
   refine⟨v :: vs,?_,by simp[hl],fun i q u hq hu=>?_⟩
   ·rw[List.mapM_cons,Sem.run_bind]
    simp only[pT,fe,asAddr,Sem.run_pure,Result.andThen_ok,Sem.run_bind,aD,n8]
   ·cases i with
    | zero=>simp only[List.getElem?_cons_zero,Option.some.injEq]at hq hu;subst hq hu;exact LZ hp pL
    | succ i=>exact hv i q u (by simpa using hq) (by simpa using hu)
  ·cases hy
theorem UE{fn:Func}{k:dz->Option X}(h:zN P σ fn.results k=some r):∃ res,k res=some r/\∀ lab ρ a w,Rl w0 N lab ρ σ a w->∀ nm,∃ v af,(results fn a.tmps).run P w = .ok v w/\(∀ b k,af b=some k->(w0.heap.size<=b\/w0.L b≠none)/\b<w.heap.size/\k≠[])/\jx w w0.heap.size af nm res v:=by
 unfold zN at h
 obtain⟨ps,h2,dP⟩:=zV (w0:=w0) (N:=N) _ _ h
 clear h
 split at h2
 ·rename_i qs rs GG
  cases ho:once rs with
  | false=>rw[ho]at h2;cases h2
  | true=>
   rw[ho,cond_true]at h2
   have cK:∀ p∈rs,rs.lookup p.1=some p.2:=by
    intro p hp
    have:=List.all_eq_true.1 ho p hp
    obtain⟨n,hn,he⟩:=(Option.any_eq_true _ _).1 this
    rw[hn,Nat.eq_of_beq_eq_true he]
   have core:∀ lab ρ a w,Rl w0 N lab ρ σ a w->∀ nm:Nat->Nat,∃ vs:List Value,(fn.results.mapM (pT a.tmps)).run P w = .ok vs.toArray w/\(∀ b k,cA lab rs nm b=some k->(w0.heap.size<=b\/w0.L b≠none)/\b<w.heap.size/\k≠[])/\fm w w0.heap.size (cA lab rs nm) nm 0 qs vs:=by
    intro lab ρ a w hR nm
    obtain⟨vs,aD,hl,hv⟩:=dP lab ρ a w hR
    refine⟨vs,?_,fun b k hk=>?_,GF hR.root ps 0 qs rs vs GG cK hl hv⟩
    ·rw[Array.mapM_eq_mapM_toList]
     simp[aD]
    ·unfold cA at hk
     split at hk
     ·cases hk
     ·rename_i k' cm
      have:=hR.bh b k' cm
      split at hk
      ·cases hk
      ·cases mP:rs.lookup _ with
       | none=>rw[mP]at hk;cases hk
       | some n=>
        rw[mP]at hk
        injection hk with hk
        subst hk
        exact⟨this.1,this.2.1,by simp⟩
   have er:∀ (tmps:Array Value),results fn tmps=(do let vs <-fn.results.mapM (pT tmps);pure (if h:vs.size=1 then vs[0]else .tuple vs)):=fun tmps=>by
    unfold results
    congr 1
   split at h2
   ·rename_i p
    refine⟨_,h2,fun lab ρ a w hR nm=>?_⟩
    obtain⟨vs,aD,fP,aB⟩:=core lab ρ a w hR nm
    match vs,aB with
    | [v],aB=>exact⟨v,_,by rw[er,Sem.run_bind,aD];rfl,fP,aB⟩
    | [],aB=>exact aB.elim
    | _ :: _ :: _,aB=>exact aB.2.elim
   ·rename_i aA
    refine⟨_,h2,fun lab ρ a w hR nm=>?_⟩
    obtain⟨vs,aD,fP,aB⟩:=core lab ρ a w hR nm
    have hsz:vs.toArray.size≠1:=by
     intro e
     match qs,vs,aB,aA with
     | [q],[v],_,aA=>exact aA q rfl
     | [],[v],aB,_=>exact aB.elim
     | _ :: _ :: _,[v],aB,_=>exact aB.2.elim
    refine⟨.tuple vs.toArray,_,?_,fP,vs.toArray,rfl,aB⟩
    rw[er,Sem.run_bind,aD,Result.andThen_ok]
    simp only[hsz,dif_neg,not_false_eq_true,Sem.run_pure]
 ·cases h2
end
end Go.Proofs.YtjldnlbiefpekaaDoor
namespace Go.Proofs.YtjldnlbiefpekaaDoor
open Go.RowKit
set_option linter.unusedVariables false
inductive In where
 | blk (cs:List V)
 | sl (y:V)
def nF(i:Nat):Nat:=20000+1000*i
def nC(i j:Nat)(x:V):Nat:=bif x.av then 20001+1000*i+j else 60000+1000*i+j
def su(i j:Nat)(x:V):Lf:=bif x.plain then .v x else .own [nC i j x]
def sw(i:Nat):Nat->List V->List Lf
 | _,[]=>[]
 | j,x :: xs=>su i j x :: sw i (j+1) xs
def Cz(i:Nat):Nat->List V->(Nat->Option ax)->(Nat->Option ax)
 | _,[],m=>m
 | j,x :: xs,m=>Cz i (j+1) xs (bif x.plain then m else aI m (nC i j x) (some (.sl x)))
def CA:Nat->List In->(Nat->Option ax)->(Nat->Option ax)
 | _,[],m=>m
 | i,.blk cs :: r,m=>CA (i+1) r (Cz i 0 cs (aI m (nF i) (some (.blk (sw i 0 cs)))))
 | i,.sl y :: r,m=>CA (i+1) r (aI m (nF i) (some (.sl y)))
inductive Ar where
 | pt (p:Pt)
 | mut (i off:Nat)
def GH(ins:List In):Ar->A
 | .pt (false,[x])=>.lf (.v x)
 | .pt (true,xs)=>.agg (xs.map .v)
 | .pt _=>.undef
 | .mut i off=>match ins[i]? with
  | some (.blk _)=>.aF (nF i) off
  | some (.sl _)=>.lf (.own [nF i])
  | none=>.undef
def sx(ins:List In)(args:List Ar):S:=⟨fun k=>match args[k]? with
 | some x=>GH ins x
 | none=>.undef,CA 0 ins (fun _=>none)⟩
def lp(w w':World)(af:aH)(ρ:Nat->Loc)(nm:Nat->Nat):Nat->Nat->List In->List In->Prop
 | _,_,[],[]=>True
 | i,pos,.blk cs :: r,.blk cZ :: r'=>(∃ b off cells jc e e',ρ (nF i) = .blk b off/\w.heap[b]?=some (.cells cells e (0,0))/\w'.heap[b]?=some (.cells jc e' (0,0))/\af b=some [nm pos]/\off+cZ.length<=jc.size/\cZ.length=cs.length/\
   ∀ (j:Nat) x',cZ[j]?=some x'->∃ u,jc[off+j]?=some u/\((x'.plain=true/\∀ (w:World) (B:Nat) (lab:aH) (q:List Nat),RV w B lab q x' u)\/(x' = .nil/\u = .slice none 0 0/\∃ x0,cs[j]?=some x0/\x0.av=false)\/(x'.plain=false/\x'.av=true/\x'.fK=true/\(∃ x0,cs[j]?=some x0/\Wk x0 x')/\cells[off+j]?=some u)\/(x'.av=false/\RV w' w.heap.size af [nm (pos+1+j)] x' u)))/\
   lp w w' af ρ nm (i+1) (pos+1+cs.length) r r'
 | i,pos,.sl y :: r,.sl y' :: r'=>(y' = .nil\/∃ v,ρ (nF i) = .bX v/\RV w' w.heap.size af [nm pos] y' v)/\lp w w' af ρ nm (i+1) (pos+1) r r'
 | _,_,_,_=>False
def zW(w w':World)(af:aH)(ρ:Nat->Loc)(nm:Nat->Nat):Nat->Nat->List In->List In->Prop
 | _,_,[],[]=>True
 | i,pos,.blk cs :: r,.blk cZ :: r'=>(∃ b off cells jc e e',ρ (nF i) = .blk b off/\w.heap[b]?=some (.cells cells e (0,0))/\w'.heap[b]?=some (.cells jc e' (0,0))/\af b=some [nm pos]/\off+cZ.length<=jc.size/\cZ.length=cs.length/\
   ∀ (j:Nat) x',cZ[j]?=some x'->∃ u,jc[off+j]?=some u/\((x'.plain=true/\∀ (w:World) (B:Nat) (lab:aH) (q:List Nat),RV w B lab q x' u)\/(x'.plain=false/\x'.av=true/\cells[off+j]?=some u)\/(x'.av=false/\RV w' w.heap.size af [nm (pos+1+j)] x' u)))/\
   zW w w' af ρ nm (i+1) (pos+1+cs.length) r r'
 | i,pos,.sl y :: r,.sl y' :: r'=>(y' = .nil\/∃ v,ρ (nF i) = .bX v/\RV w' w.heap.size af [nm pos] y' v)/\zW w w' af ρ nm (i+1) (pos+1) r r'
 | _,_,_,_=>False
def dz.len:dz->Nat
 | .one p=>p.2.length
 | .aU ps=>(ps.map fun p=>p.2.length).sum
def jT(w:World)(B:Nat)(lab:aH)(ρ:Nat->Loc):Nat->List In->Prop
 | _,[]=>True
 | i,.blk cs :: r=>bU w B lab ρ (nF i) (.blk (sw i 0 cs))/\(∀ (j:Nat) x,cs[j]?=some x->x.plain=false->bU w B lab ρ (nC i j x) (.sl x))/\jT w B lab ρ (i+1) r
 | i,.sl y :: r=>bU w B lab ρ (nF i) (.sl y)/\jT w B lab ρ (i+1) r
/-! The end: what is given back,and what the written parameters hold. -/
def GI(m:Nat->Option ax)(i j:Nat)(x0:V):Lf->Option (V×Option Nat)
 | .v x=>bif x.plain then some (x,none)else (bif !x.fK && !x0.av then some (.nil,none)else none)
 | .own [r]=>match m r with
  | some (.sl y)=>bif y.av then (bif !x0.plain&&(x0.av&&x0.fK)&&Nat.beq r (20001+1000*i+j)&&Nat.blt r 60000 then some (x0,none)else none)else (bif y.loc then some (y,some r)else none)
  | _=>none
 | _=>none
def tK(m:Nat->Option ax)(i pos:Nat):Nat->List V->List Lf->Option (List V×List (Nat×Nat))
 | _,[],[]=>some ([],[])
 | j,x0 :: xs,l :: ls=>match GI m i j x0 l,tK m i pos (j+1) xs ls with
  | some (y,none),some (ys,rs)=>some (y :: ys,rs)
  | some (y,some r),some (ys,rs)=>some (y :: ys,(r,pos+1+j) :: rs)
  | _,_=>none
 | _,_,_=>none
def V.gone:V->Bool
 | .sl _ o _ _=>Nat.ble 1000000 o
 | _=>false
def sy(m:Nat->Option ax):Nat->Nat->List In->Option (List In×List (Nat×Nat))
 | _,_,[]=>some ([],[])
 | i,pos,.blk cs :: r=>match bif Nat.blt (nF i) 60000 then m (nF i)else none with
  | some (.blk ls)=>match tK m i pos 0 cs ls,sy m (i+1) (pos+1+cs.length) r with
   | some (cZ,rs),some (os,ja)=>some (.blk cZ :: os,(nF i,pos) :: (rs++ja))
   | _,_=>none
  | _=>none
 | i,pos,.sl y0 :: r=>bif y0.gone then (match sy m (i+1) (pos+1) r with
   | some (os,ja)=>some (.sl .nil :: os,ja)
   | none=>none)else match bif Nat.blt (nF i) 60000 then m (nF i)else none with
  | some (.sl y')=>bif y'.loc && !y'.av then (match sy m (i+1) (pos+1) r with
   | some (os,ja)=>some (.sl y' :: os,(nF i,pos) :: ja)
   | none=>none)else none
  | _=>none
def zX{X:Type}(P:Program)(σ:S)(fn:Array ResultVar)(ins:List In)(k:List In->dz->Option X):Option X:=
 jQ P σ fn.toList fun ps=>match wF σ.m 0 ps with
  | some (qs,rs)=>match sy σ.m 0 (qs.map fun p=>p.2.length).sum ins with
   | some (os,ja)=>bif once (rs++ja)then (match qs with
    | [p]=>k os (.one p)
    | qs=>k os (.aU qs))else none
   | none=>none
  | none=>none
/-! Types of parameters and results. -/
def iw:List (Bool×TC×Nat)->Type
 | []=>Unit
 | [(_,t,_)]=>T t
 | (_,t,_) :: r=>T t×iw r
def mQ:(l:List (Bool×TC×Nat))->iw l->List Pt
 | [],_=>[]
 | [(b,t,g)],x=>[(b,enc t g x)]
 | (b,t,g) :: q :: r,x=>(b,enc t g x.1) :: mQ (q :: r) x.2
def iy:(l:List (Bool×TC×Nat))->List Pt->Option (iw l)
 | [],[]=>some ()
 | [(b,t,g)],[(b',vs)]=>bif b==b' then dec t g vs else none
 | (b,t,g) :: q :: r,(b',vs) :: ps=>bif b==b' then (match dec t g vs,iy (q :: r) ps with
  | some x,some xs=>some (x,xs)
  | _,_=>none)else none
 | _,_=>none
def pU(l:List (Bool×TC×Nat)):dz->Option (iw l)
 | .one p=>iy l [p]
 | .aU ps=>bif Nat.beq ps.length 1 then none else iy l ps
def cG(l:List (Bool×TC×Nat))(x:iw l):dz:=
 match mQ l x with
 | [p]=>.one p
 | ps=>.aU ps
inductive PK where
 | v (b:Bool) (t:TC)
 | p (t:TC) (g off:Nat)
 | s (t:TC) (g:Nat)
def jd:List PK->Type
 | []=>Unit
 | .v _ t :: r=>T t×jd r
 | .p t _ _ :: r=>T t×jd r
 | .s t _ :: r=>List (T t)×jd r
def pV:List (Bool×TC×Nat)->Type
 | []=>Unit
 | (true,t,_) :: r=>T t×pV r
 | (false,t,_) :: r=>List (T t)×pV r
def eA:(l:List (Bool×TC×Nat))->pV l->List In
 | [],_=>[]
 | (true,t,g) :: r,x=>.blk (enc t g x.1) :: eA r x.2
 | (false,t,g) :: r,x=>.sl (bif Nat.ble 1000000 g then .nil else .sl t (g+2) false x.1) :: eA r x.2
def cJ:List PK->List (Bool×TC×Nat)
 | []=>[]
 | .v _ _ :: r=>cJ r
 | .p t g _ :: r=>(true,t,g) :: cJ r
 | .s t g :: r=>(false,t,g) :: cJ r
def lq:(l:List PK)->jd l->List In
 | [],_=>[]
 | .v _ _ :: r,x=>lq r x.2
 | .p t g _ :: r,x=>.blk (enc t g x.1) :: lq r x.2
 | .s t g :: r,x=>.sl (.sl t (g+2) false x.1) :: lq r x.2
def iz:(l:List PK)->Nat->jd l->List Ar
 | [],_,_=>[]
 | .v b t :: r,i,x=>.pt (b,enc t 0 x.1) :: iz r i x.2
 | .p _ _ off :: r,i,x=>.mut i off :: iz r (i+1) x.2
 | .s _ _ :: r,i,x=>.mut i 0 :: iz r (i+1) x.2
structure gy where
 ps:List PK
 ro:List (Bool×TC×Nat)
 F:jd ps->Option (iw ro×pV (cJ ps))
def mR(P:Program)(f:Nat)(c:gy):Prop:=
 ∀ x y,c.F x=some y->∀ (nm:Nat->Nat) (w:World) (lab:aH) (ρ:Nat->Loc) (aM:Array Value),jT w w.heap.size lab ρ 0 (lq c.ps x)->(∀ b k,lab b=some k->b<w.heap.size/\k≠[])->
     aM.size=c.ps.length->(∀ i,RA w w.heap.size lab ρ ((sx (lq c.ps x) (iz c.ps 0 x)).t i) (aM.getD i undef))->∀ hQ:Hd w lab,
     Calls P f aM w fun e w'=>∃ v af,e = .returned v/\eL ⟨w,lab,fun _=>none,hQ,fun _ _=>rfl⟩ w w'/\(∀ b k,af b=some k->(w.heap.size<=b\/lab b≠none)/\b<w'.heap.size/\k≠[])/\jx w' w.heap.size af nm (cG c.ro y.1) v/\zW w w' af ρ nm 0 (cG c.ro y.1).len (lq c.ps x) (eA (cJ c.ps) y.2)
end Go.Proofs.YtjldnlbiefpekaaDoor
namespace Go.Proofs.YtjldnlbiefpekaaDoor
open Go.RowKit
set_option linter.unusedVariables false
def zY(w:World)(ρ:Nat->Loc):Nat->List In->Prop
 | _,[]=>True
 | i,.blk cs :: r=>(∃ b off cells e,ρ (nF i) = .blk b off/\w.heap[b]?=some (.cells cells e (0,0))/\∀ (j:Nat) x,cs[j]?=some x->x.plain=false->x.av=true->∃ u,cells[off+j]?=some u/\ρ (20001+1000*i+j) = .bX u)/\zY w ρ (i+1) r
 | i,.sl y :: r=>(∃ v,ρ (nF i) = .bX v)/\zY w ρ (i+1) r
section
variable {P:Program} {w w':World} {w0:Wd} {B N:Nat} {lab af:aH} {ρ ρ':Nat->Loc} {σ:S} {a:Act} {X:Type} {d:Nat} {r:X} {rs:List (Nat×Nat)} {nm:Nat->Nat}
theorem GJ{m:Nat->Option ax}{i pos:Nat}:∀ (xs:List V) (ls:List Lf) (j0:Nat) (ys:List V) (fQ:List (Nat×Nat)),tK m i pos j0 xs ls=some (ys,fQ)->ys.length=xs.length/\ls.length=xs.length/\
  ∀ (j:Nat) y,ys[j]?=some y->∃ l x0,ls[j]?=some l/\xs[j]?=some x0/\((l = .v y/\y.plain=true)\/(l = .v .nil/\y = .nil/\x0.av=false)\/(l = .own [20001+1000*i+(j0+j)]/\y=x0/\y.plain=false/\(y.av&&y.fK)=true/\20001+1000*i+(j0+j)<60000)\/(∃ q,l = .own [q]/\m q=some (.sl y)/\y.av=false/\(q,pos+1+(j0+j))∈fQ))
 | [],[],j0,ys,fQ,h=>by
  simp only[tK,Option.some.injEq,Prod.mk.injEq]at h
  obtain⟨rfl,rfl⟩:=h
  exact⟨rfl,rfl,fun j y hy=>by simp at hy⟩
 | [],_ :: _,j0,ys,fQ,h=>by simp[tK]at h
 | _ :: _,[],j0,ys,fQ,h=>by simp[tK]at h
 | x0 :: xs,l :: ls,j0,ys,fQ,h=>by
  have hc:∀ y z,GI m i j0 x0 l=some (y,z)->(z=none/\l = .v y/\y.plain=true)\/(z=none/\l = .v .nil/\y = .nil/\x0.av=false)\/(z=none/\l = .own [20001+1000*i+j0]/\y=x0/\y.plain=false/\(y.av&&y.fK)=true/\20001+1000*i+j0<60000)\/(∃ q,z=some q/\l = .own [q]/\m q=some (.sl y)/\y.av=false):=by
   intro y z hz
   unfold GI at hz
   split at hz
   ·rename_i x
    cases hp:x.plain with
    | false=>
     rw[hp,cond_false]at hz
     cases U:(!x.fK && !x0.av)with
     | false=>rw[U]at hz;cases hz
     | true=>
      rw[U,cond_true]at hz
      simp only[Option.some.injEq,Prod.mk.injEq]at hz
      obtain⟨rfl,rfl⟩:=hz
      rw[Bool.and_eq_true,Bool.not_eq_true',Bool.not_eq_true']at U
      have hx:x = .nil:=by
       cases x <;>first | rfl | (exact absurd U.1 (by simp[V.fK]))
      subst hx
      exact .inr (.inl ⟨rfl,rfl,rfl,U.2⟩)
    | true=>
     rw[hp,cond_true]at hz
     simp only[Option.some.injEq,Prod.mk.injEq]at hz
     obtain⟨rfl,rfl⟩:=hz
     exact .inl ⟨rfl,rfl,hp⟩
   ·rename_i q
    split at hz
    ·rename_i y1 UF
     cases hf:y1.av with
     | true=>
      rw[hf,cond_true]at hz
      cases U:(!x0.plain&&(x0.av&&x0.fK)&&Nat.beq q (20001+1000*i+j0)&&Nat.blt q 60000)with
      | false=>rw[U]at hz;cases hz
      | true=>
       rw[U,cond_true]at hz
       simp only[Option.some.injEq,Prod.mk.injEq]at hz
       obtain⟨rfl,rfl⟩:=hz
       rw[Bool.and_eq_true,Bool.and_eq_true,Bool.and_eq_true,Bool.not_eq_true']at U
       obtain⟨⟨⟨b1,b2⟩,b3⟩,b4⟩:=U
       obtain rfl:=Nat.eq_of_beq_eq_true b3
       exact .inr (.inr (.inl ⟨rfl,rfl,rfl,b1,b2,by have:=Nat.le_of_ble_eq_true b4;omega⟩))
     | false=>
      rw[hf,cond_false]at hz
      cases hl:y1.loc with
      | false=>rw[hl]at hz;cases hz
      | true=>
       rw[hl,cond_true]at hz
       simp only[Option.some.injEq,Prod.mk.injEq]at hz
       obtain⟨rfl,rfl⟩:=hz
       exact .inr (.inr (.inr ⟨q,rfl,rfl,UF,hf⟩))
    ·cases hz
   ·cases hz
  unfold tK at h
  split at h
  ·rename_i y tI ja hy iW
   simp only[Option.some.injEq,Prod.mk.injEq]at h
   obtain⟨rfl,rfl⟩:=h
   obtain⟨h1,h2,h3⟩:=GJ xs ls (j0+1) tI ja iW
   refine⟨by simp[h1],by simp[h2],fun j y' cD=>?_⟩
   cases j with
   | zero=>
    simp at cD
    subst cD
    refine⟨l,x0,rfl,rfl,?_⟩
    rcases hc y none hy with ⟨_,e1,e2⟩ | ⟨_,e1,e2,e3⟩ | ⟨_,e1,e2,e3,e4,e5⟩ | ⟨q,hq,_⟩
    ·exact .inl ⟨e1,e2⟩
    ·exact .inr (.inl ⟨e1,e2,e3⟩)
    ·exact .inr (.inr (.inl ⟨e1,e2,e3,e4,e5⟩))
    ·cases hq
   | succ j=>
    obtain⟨l',x',g1,g2,g3⟩:=h3 j y' (by simpa using cD)
    rw[show j0+1+j=j0+(j+1) by omega]at g3
    exact⟨l',x',by simpa using g1,by simpa using g2,g3⟩
  ·rename_i y q tI ja hy iW
   simp only[Option.some.injEq,Prod.mk.injEq]at h
   obtain⟨rfl,rfl⟩:=h
   obtain⟨h1,h2,h3⟩:=GJ xs ls (j0+1) tI ja iW
   refine⟨by simp[h1],by simp[h2],fun j y' cD=>?_⟩
   cases j with
   | zero=>
    simp at cD
    subst cD
    refine⟨l,x0,rfl,rfl,?_⟩
    rcases hc y (some q) hy with ⟨e0,_⟩ | ⟨e0,_⟩ | ⟨e0,_⟩ | ⟨q',hq,e1,e2,e3⟩
    ·cases e0
    ·cases e0
    ·cases e0
    ·injection hq with hq
     subst hq
     exact .inr (.inr (.inr ⟨q,e1,e2,e3,.head _⟩))
   | succ j=>
    obtain⟨l',x',g1,g2,g3⟩:=h3 j y' (by simpa using cD)
    rw[show j0+1+j=j0+(j+1) by omega]at g3
    exact⟨l',x',by simpa using g1,by simpa using g2,g3.imp id (fun g=>g.imp id (fun g=>g.imp id fun⟨q',e1,e2,e3,e4⟩=>⟨q',e1,e2,e3,.tail _ e4⟩))⟩
  ·cases h
theorem CB{w1:World}{oa:Nat->Loc}{m:Nat->Option ax}(wG:∀ r,20000<=r->r<60000->ρ r=oa r)(hm:∀ r x,m r=some x->bU w w1.heap.size lab ρ r x):
  ∀ (ins:List In) (i pos:Nat) (outs:List In) (fQ:List (Nat×Nat)),sy m i pos ins=some (outs,fQ)->(∀ p∈fQ,rs.lookup p.1=some p.2)->zY w1 oa i ins->lp w1 w (cA lab rs nm) oa nm i pos ins outs
 | [],i,pos,outs,fQ,h,cK,he=>by
  simp only[sy,Option.some.injEq,Prod.mk.injEq]at h
  obtain⟨rfl,rfl⟩:=h
  trivial
 | .blk cs :: r,i,pos,outs,fQ,h,cK,he=>by
  unfold sy at h
  cases hi:Nat.blt (nF i) 60000 with
  | false=>rw[hi]at h;cases h
  | true=>
   rw[hi,cond_true]at h
   have hi:=Nat.le_of_ble_eq_true hi
   split at h
   ·rename_i ls zO
    split at h
    ·rename_i cZ UA os tJ h1 h2
     simp only[Option.some.injEq,Prod.mk.injEq]at h
     obtain⟨rfl,rfl⟩:=h
     obtain⟨⟨b,off,cells,e,L0,UG,tL⟩,tM⟩:=he
     obtain⟨k1,k2,k3⟩:=GJ _ _ _ _ _ h1
     refine⟨?_,CB wG hm r (i+1) _ os tJ h2 (fun p hp=>cK p (.tail _ (List.mem_append_right _ hp))) tM⟩
     have bE:=hm _ _ zO
     have GK:=wG (nF i) (by unfold nF;omega) (by omega)
     generalize hx:ax.blk ls=x at bE
     cases bE with
     | sl=>cases hx
     | mp=>cases hx
     | gh=>cases hx
     | blk b' lS jc e' ls' us au hl hh hs hc=>
      injection hx with hx
      subst hx
      rw[GK,L0]at au
      injection au with e1 e2
      subst e1 e2
      refine⟨b,off,cells,jc,e,e',L0,UG,hh,?_,by rw[k1,<-k2];exact hs,k1,fun j y hy=>?_⟩
      ·have:=cK _ (List.Mem.head _)
       simp[cA,hl,this]
      ·obtain⟨l,x0,g1,g2,g3⟩:=k3 j y hy
       obtain⟨c1,c2⟩:=hc j l g1
       refine⟨_,c1,?_⟩
       rw[Nat.zero_add]at g3
       rcases g3 with ⟨rfl,hp⟩ | ⟨rfl,rfl,UH⟩ | ⟨rfl,rfl,hp,jw,aW⟩ | ⟨q,rfl,hq,hf,sr⟩
       ·exact .inl ⟨hp,fun _ _ _ _=>c2.2.rQ hp⟩
       ·exact .inr (.inl ⟨rfl,by have h9:=c2.2;generalize us j=u9 at h9 ⊢;cases h9;rfl,x0,g2,UH⟩)
       ·rw[Bool.and_eq_true]at jw
        obtain⟨hf,UI⟩:=jw
        obtain⟨u,hu,UJ⟩:=tL j y g2 hp hf
        refine .inr (.inr (.inl ⟨hp,hf,UI,⟨y,g2,.same _⟩,?_⟩))
        have h3:=c2.2
        have GL:=wG (20001+1000*i+j) (by omega) aW
        simp only[aP,GL,UJ]at h3
        injection h3 with h3
        rw[<-h3]
        exact hu
       ·refine .inr (.inr (.inr ⟨hf,?_⟩))
        have bE:=hm _ _ hq
        generalize hx:ax.sl y=x at bE
        cases bE with
        | blk=>cases hx
        | mp=>cases hx
        | gh=>cases hx
        | sl v y' au hr=>
         injection hx with hx
         subst hx
         have h3:=c2.2
         simp only[aP,au]at h3
         injection h3 with h3
         rw[<-h3]
         exact RV.cA (p:=[]) hr (cK _ (.tail _ (List.mem_append_left _ sr)))
    ·cases h
   ·cases h
 | .sl y :: r,i,pos,outs,fQ,h,cK,he=>by
  unfold sy at h
  cases hg:y.gone with
  | true=>
   rw[hg,cond_true]at h
   split at h
   ·rename_i os tJ h2
    simp only[Option.some.injEq,Prod.mk.injEq]at h
    obtain⟨rfl,rfl⟩:=h
    exact⟨.inl rfl,CB wG hm r (i+1) _ os tJ h2 cK he.2⟩
   ·cases h
  | false=>
  rw[hg,cond_false]at h
  cases hi:Nat.blt (nF i) 60000 with
  | false=>rw[hi]at h;cases h
  | true=>
   rw[hi,cond_true]at h
   have hi:=Nat.le_of_ble_eq_true hi
   split at h
   ·rename_i y' cD
    cases hl:(y'.loc && !y'.av)with
    | false=>rw[hl]at h;cases h
    | true=>
     rw[hl,cond_true]at h
     split at h
     ·rename_i os tJ h2
      simp only[Option.some.injEq,Prod.mk.injEq]at h
      obtain⟨rfl,rfl⟩:=h
      obtain⟨⟨v,hv⟩,tM⟩:=he
      refine⟨.inr ⟨v,hv,?_⟩,CB wG hm r (i+1) _ os tJ h2 (fun p hp=>cK p (.tail _ hp)) tM⟩
      have GK:=wG (nF i) (by unfold nF;omega) (by omega)
      have bE:=hm _ _ cD
      generalize hx:ax.sl y'=x at bE
      cases bE with
      | blk=>cases hx
      | mp=>cases hx
      | gh=>cases hx
      | sl v' UK au hr=>
       injection hx with hx
       subst hx
       rw[GK,hv]at au
       injection au with au
       subst au
       exact RV.cA (p:=[]) hr (cK _ (.head _))
     ·cases h
   ·cases h
theorem UL{w1:World}{oa:Nat->Loc}{fn:Func}{ins:List In}{k:List In->dz->Option X}(hw:w0.w=w1)(hF:∀ r,20000<=r->r<60000->w0.F r=some (oa r))(he:zY w1 oa 0 ins)(h:zX P σ fn.results ins k=some r):
  ∃ outs res,k outs res=some r/\∀ lab ρ a w,Rl w0 N lab ρ σ a w->∀ nm,∃ v af,(results fn a.tmps).run P w = .ok v w/\(∀ b k,af b=some k->(w0.heap.size<=b\/w0.L b≠none)/\b<w.heap.size/\k≠[])/\jx w w0.heap.size af nm res v/\lp w1 w af oa nm 0 res.len ins outs:=by
 unfold zX at h
 obtain⟨ps,h2,dP⟩:=zV (w0:=w0) (N:=N) _ _ h
 clear h
 split at h2
 ·rename_i qs GM GG
  split at h2
  ·rename_i os GN UM
   cases ho:once (GM++GN)with
   | false=>rw[ho]at h2;cases h2
   | true=>
    rw[ho,cond_true]at h2
    generalize L1:GM++GN=rs at ho
    have cK:∀ p∈rs,rs.lookup p.1=some p.2:=by
     intro p hp
     have:=List.all_eq_true.1 ho p hp
     obtain⟨n,hn,he⟩:=(Option.any_eq_true _ _).1 this
     rw[hn,Nat.eq_of_beq_eq_true he]
    have core:∀ lab ρ a w,Rl w0 N lab ρ σ a w->∀ nm:Nat->Nat,∃ vs:List Value,(fn.results.mapM (pT a.tmps)).run P w = .ok vs.toArray w/\(∀ b k,cA lab rs nm b=some k->(w0.heap.size<=b\/w0.L b≠none)/\b<w.heap.size/\k≠[])/\fm w w0.heap.size (cA lab rs nm) nm 0 qs vs/\
      lp w1 w (cA lab rs nm) oa nm 0 (qs.map fun p=>p.2.length).sum ins os:=by
     intro lab ρ a w hR nm
     obtain⟨vs,aD,hl,hv⟩:=dP lab ρ a w hR
     refine⟨vs,?_,fun b k hk=>?_,GF hR.root ps 0 qs GM vs GG (fun p hp=>cK p (by rw[<-L1];exact List.mem_append_left _ hp)) hl hv,
      CB (fun r h1 h2=>hR.fix r _ (hF r h1 h2)) (by rw[<-hw];exact hR.root) ins 0 _ os GN UM (fun p hp=>cK p (by rw[<-L1];exact List.mem_append_right _ hp)) he⟩
     ·rw[Array.mapM_eq_mapM_toList]
      simp[aD]
     ·unfold cA at hk
      split at hk
      ·cases hk
      ·rename_i k' cm
       have:=hR.bh b k' cm
       split at hk
       ·cases hk
       ·cases mP:rs.lookup _ with
        | none=>rw[mP]at hk;cases hk
        | some n=>
         rw[mP]at hk
         injection hk with hk
         subst hk
         exact⟨this.1,this.2.1,by simp⟩
    have er:∀ (tmps:Array Value),results fn tmps=(do let vs <-fn.results.mapM (pT tmps);pure (if h:vs.size=1 then vs[0]else .tuple vs)):=fun tmps=>by
     unfold results
     congr 1
    split at h2
    ·rename_i p
     refine⟨_,_,h2,fun lab ρ a w hR nm=>?_⟩
     obtain⟨vs,aD,fP,aB,hO⟩:=core lab ρ a w hR nm
     have hO:lp w1 w (cA lab rs nm) oa nm 0 (dz.one p).len ins os:=by simpa [dz.len]using hO
     match vs,aB with
     | [v],aB=>exact⟨v,_,by rw[er,Sem.run_bind,aD];rfl,fP,aB,hO⟩
     | [],aB=>exact aB.elim
     | _ :: _ :: _,aB=>exact aB.2.elim
    ·rename_i aA
     refine⟨_,_,h2,fun lab ρ a w hR nm=>?_⟩
     obtain⟨vs,aD,fP,aB,hO⟩:=core lab ρ a w hR nm
     have hsz:vs.toArray.size≠1:=by
      intro e
      clear hO
      have e:vs.length=1:=by simpa using e
      match qs,vs,aB,aA,e with
      | [q],[v],_,aA,_=>exact aA q rfl
      | [],[v],aB,_,_=>exact aB.elim
      | _ :: _ :: _,[v],aB,_,_=>exact aB.2.elim
     refine⟨.tuple vs.toArray,_,?_,fP,⟨vs.toArray,rfl,aB⟩,hO⟩
     rw[er,Sem.run_bind,aD,Result.andThen_ok]
     simp only[hsz,dif_neg,not_false_eq_true,Sem.run_pure]
  ·cases h2
 ·cases h2
theorem L2{i:Nat}:∀ (cs:List V) (j0:Nat) (m:Nat->Option ax) (r:Nat) (x:ax),Cz i j0 cs m r=some x->m r=some x\/∃ j y,cs[j]?=some y/\y.plain=false/\r=nC i (j0+j) y/\x = .sl y
 | [],j0,m,r,x,h=>.inl h
 | c :: cs,j0,m,r,x,h=>by
  unfold Cz at h
  rcases L2 cs (j0+1) _ r x h with h1 | ⟨j,y,h1,h2,h3,h4⟩
  ·cases hp:c.plain with
   | true=>rw[hp]at h1;exact .inl h1
   | false=>
    rw[hp,cond_false]at h1
    by_cases hr:r=nC i j0 c
    ·subst hr
     rw[aK]at h1
     injection h1 with h1
     exact .inr ⟨0,c,rfl,hp,rfl,h1.symm⟩
    ·rw[aQ _ _ _ hr]at h1
     exact .inl h1
  ·exact .inr ⟨j+1,y,by simpa using h1,h2,by rw[h3];congr 1;omega,h4⟩
theorem jT.roots:∀ (ins:List In) (i:Nat) (m:Nat->Option ax),jT w B lab ρ i ins->(∀ r x,m r=some x->bU w B lab ρ r x)->∀ r x,CA i ins m r=some x->bU w B lab ρ r x
 | [],i,m,_,hm,r,x,h=>hm r x h
 | .blk cs :: ins,i,m,he,hm,r,x,h=>by
  obtain⟨h1,h2,h3⟩:=he
  refine jT.roots ins (i+1) _ h3 (fun r x hx=>?_) r x h
  rcases L2 cs 0 _ r x hx with h4 | ⟨j,y,g1,g2,g3,g4⟩
  ·by_cases hr:r=nF i
   ·subst hr
    rw[aK]at h4
    injection h4 with h4
    subst h4
    exact h1
   ·rw[aQ _ _ _ hr]at h4
    exact hm r x h4
  ·rw[Nat.zero_add]at g3
   subst g3 g4
   exact h2 j y g1 g2
 | .sl y :: ins,i,m,he,hm,r,x,h=>by
  obtain⟨h1,h3⟩:=he
  refine jT.roots ins (i+1) _ h3 (fun r x hx=>?_) r x h
  by_cases hr:r=nF i
  ·subst hr
   rw[aK]at hx
   injection hx with hx
   subst hx
   exact h1
  ·rw[aQ _ _ _ hr]at hx
   exact hm r x hx
theorem GO{i:Nat}:∀ (cs:List V) (j0 j:Nat) x,cs[j]?=some x->(sw i j0 cs)[j]?=some (su i (j0+j) x)
 | [],j0,j,x,h=>by simp at h
 | c :: cs,j0,0,x,h=>by simp at h;subst h;rfl
 | c :: cs,j0,j+1,x,h=>by
  simp only[sw,List.getElem?_cons_succ]
  rw[GO cs (j0+1) j x (by simpa using h)]
  congr 2
  omega
theorem jT.GP:∀ (ins:List In) (i:Nat),jT w B lab ρ i ins->zY w ρ i ins
 | [],_,_=>trivial
 | .blk cs :: ins,i,he=>by
  obtain⟨h1,_,h3⟩:=he
  refine⟨?_,jT.GP ins (i+1) h3⟩
  generalize hx:ax.blk (sw i 0 cs)=x at h1
  cases h1 with
  | sl=>cases hx
  | mp=>cases hx
  | gh=>cases hx
  | blk b off cells e ls us au hl hh hs hc=>
   injection hx with hx
   subst hx
   refine⟨b,off,cells,e,au,hh,fun j x hj hp hf=>?_⟩
   obtain⟨c1,c2⟩:=hc j _ (GO cs 0 j x hj)
   rw[Nat.zero_add]at c2
   refine⟨_,c1,?_⟩
   have e1:su i j x = .own [20001+1000*i+j]:=by simp[su,hp,nC,hf]
   rw[e1]at c2
   have h4:=c2.2
   simp only[aP]at h4
   split at h4
   ·rename_i v hv
    injection h4 with h4
    rw[<-h4]
    exact hv
   ·cases h4
 | .sl y :: ins,i,he=>by
  obtain⟨h1,h3⟩:=he
  refine⟨?_,jT.GP ins (i+1) h3⟩
  cases h1 with
  | sl v y' au hr=>exact⟨v,au⟩
end
end Go.Proofs.YtjldnlbiefpekaaDoor
namespace Go.Proofs.YtjldnlbiefpekaaDoor
open Go.RowKit
set_option linter.unusedVariables false
def aN(n:Nat):List Nat->Bool
 | []=>false
 | m :: l=>Nat.beq n m || aN n l
theorem mS{n:Nat}:∀ {l:List Nat},aN n l=true ↔ n∈l
 | []=>by simp[aN]
 | m :: l=>by
  simp only[aN,Bool.or_eq_true,List.mem_cons,mS (l:=l)]
  constructor
  ·rintro(h | h)
   ·exact .inl (Nat.eq_of_beq_eq_true h)
   ·exact .inr h
  ·rintro(h | h)
   ·left;subst h;exact Nat.beq_refl n
   ·exact .inr h
theorem L3{n:Nat}{l:List Nat}(h:aN n l=false):n ∉ l:=fun k=>by rw[mS.2 k]at h;cases h
def aT(k:List Nat)(l:List Nat):Bool:=match k.getLast? with
 | some r=>aN r l
 | none=>false
def Lf.aG(ns cn:List Nat):Lf->Lf
 | .own k=>bif aT k cn || (aT k ns && !(Nat.beq k.length 1))then .dead else .own k
 | x=>x
def A.aG(ns cn:List Nat):A->A
 | .lf x=>.lf (x.aG ns cn)
 | .agg cs=>.agg (cs.map (Lf.aG ns cn))
 | .aU xs=>.aU (xs.map fun p=>(p.1,p.2.map (Lf.aG ns cn)))
 | .ptr k=>bif aT k cn || aT k ns then .undef else .ptr k
 | .aF r j=>bif aN r cn then .undef else .aF r j
 | .pk r n=>bif aN r cn then .undef else .pk r n
 | .view k s i j=>bif aT k cn || aT k ns then .undef else .view k s i j
 | .fn f cap=>bif cap.any (fun p=>aN p.1 cn)then .undef else .fn f cap
 | x=>x
def ax.aG(ns cn:List Nat):ax->ax
 | .blk cs=>.blk (cs.map (Lf.aG ns cn))
 | .gh xs=>.gh (xs.map (A.aG ns cn))
 | x=>x
def S.aG(σ:S)(ns cn:List Nat)(nr:List (Nat×ax)):S:=⟨fun k=>(σ.t k).aG ns cn,fun r=>match nr.lookup r with
 | some x=>some x
 | none=>bif aN r ns || aN r cn then none else (σ.m r).map (ax.aG ns cn)⟩
structure lu (w w':World) (lab bH:aH) (ρ cB:Nat->Loc) (ns cn:List Nat):Prop where
 size:w.heap.size<=w'.heap.size
 same:∀ b,b<w.heap.size->(∀ k,lab b=some k->aT k ns=false)->w'.heap[b]?=w.heap[b]?/\bH b=lab b
 b8:∀ r,aN r cn=false->cB r=ρ r
 lab:∀ b k,lab b=some k->b<w.heap.size/\k≠[]
section
variable {P:Program} {w w':World} {w0:Wd} {B N:Nat} {lab bH af:aH} {ρ cB:Nat->Loc} {σ:S} {a:Act} {X:Type} {d:Nat} {r:X} {ns cn:List Nat}
theorem tN{j i s:Nat}{q:List Nat}{l:List Nat}(h:q≠[]):aT (j :: i :: s :: q) l=aT q l:=by
 cases q with
 | nil=>exact absurd rfl h
 | cons x q=>simp[aT,List.getLast?_cons_cons]
theorem RV.eX(hv:lu w w' lab bH ρ cB ns cn){q:List Nat}{x:V}{v:Value}(h:RV w B lab q x v)(hq:aT q ns=false\/x.av=true):RV w' B bH q x v:=by
 induction h with
 | int=>exact .int _ _ _
 | bool=>exact .bool _ _
 | str=>exact .str _ _
 | nil=>exact .nil _
 | bg=>exact .bg _ _ _
 | bw=>exact .bw _ _ _ _ _ (by first | assumption | omega)
 | bI=>exact .bI _ _ _ _ _ (by first | assumption | omega)
 | av q t o qn l b off cap u ho hl U h1 hcap hc hr ih=>
  obtain⟨e1,e2⟩:=hv.same b U (fun k hk=>by rw[hl]at hk;cases hk)
  exact .av _ _ _ _ _ _ _ _ u ho (e2.trans hl) (Nat.lt_of_lt_of_le U hv.size) h1 hcap (fun i h j x hx=>(World.cell?_of_block (a:=⟨b,_,none⟩) e1).trans (hc i h j x hx)) (fun i h j x hx=>ih i h j x hx (.inr (fY t o l[i] ho j x hx)))
 | own q t o qn l b cap cs u hl hh hs hn hm hc hr ih=>
  have gG:aT q ns=false:=by
   rcases hq with hq | hq
   ·exact hq
   ·simp[V.av]at hq;omega
  have aA:q≠[]:=(hv.lab b q hl).2
  obtain⟨e1,e2⟩:=hv.same b (hv.lab b q hl).1 (fun k hk=>by rw[hl]at hk;injection hk with hk;subst hk;exact gG)
  exact .own _ _ _ _ _ _ _ cs u (e2.trans hl) (e1.trans hh) hs hn hm hc (fun i h j x hx=>ih i h j x hx (.inl (by rw[tN aA];exact gG)))
theorem GQ(hv:lu w w' lab bH ρ cB ns cn):∀ (k:List Nat) (ad:Addr),aT k ns=false->aT k cn=false->addrAt w lab ρ k=some ad->addrAt w' bH cB k=some ad
 | [],_,_,_,h=>by simp[addrAt]at h
 | [_],_,_,_,h=>by simp[addrAt]at h
 | [_,_],_,_,_,h=>by simp[addrAt]at h
 | [_,_,_],_,_,_,h=>by simp[addrAt]at h
 | [j,i,s,r],_,h1,h2,h=>by
  have h1:aT [r] ns=false:=by rwa [tN (by simp)]at h1
  have h2:aN r cn=false:=by rw[tN (by simp)]at h2;exact h2
  simp only[addrAt]at h ⊢
  rw[hv.b8 r h2]
  split at h
  ·rename_i v b n c hr
   split at h
   ·rename_i hl
    obtain⟨_,e2⟩:=hv.same b (hv.lab b _ hl).1 (fun k hk=>by rw[hl]at hk;injection hk with hk;subst hk;exact h1)
    rw[if_pos (e2.trans hl)]
    exact h
   ·cases h
  ·cases h
 | j :: i :: s :: x :: y :: q,ad,h1,h2,h=>by
  rw[tN (by simp)]at h1 h2
  simp only[addrAt]at h ⊢
  cases ha:addrAt w lab ρ (x :: y :: q)with
  | none=>rw[ha]at h;cases h
  | some jK=>
   rw[GQ hv _ _ h1 h2 ha]
   rw[ha]at h
   cases hc:w.cell? jK with
   | none=>simp[hc]at h
   | some v=>
    obtain⟨j',i',s',q',hk,dc,_,_⟩:=rP _ _ ha
    have aA:q'≠[]:=(hv.lab _ _ dc).2
    have gG:aT q' ns=false:=by
     rw[hk,tN aA]at h1
     exact h1
    obtain⟨e1,_⟩:=hv.same jK.block (hv.lab _ _ dc).1 (fun k hk=>by rw[dc]at hk;injection hk with hk;subst hk;exact gG)
    have e:w'.cell? jK=some v:=(World.cell?_of_block e1).trans hc
    simp only[Option.bind_some,hc]at h
    simp only[Option.bind_some,e]
    split at h
    ·split at h
     ·rename_i hl
      obtain⟨_,e2⟩:=hv.same _ (hv.lab _ _ hl).1 (fun k hk=>by rw[hl]at hk;injection hk with hk;subst hk;exact h1)
      rw[if_pos (e2.trans hl)]
      exact h
     ·cases h
    ·cases h
theorem L4(hv:lu w w' lab bH ρ cB ns cn)(k:List Nat)(u:Value)(h1:k.length=1\/aT k ns=false)(h2:aT k cn=false)(h:aP w lab ρ k=some u):aP w' bH cB k=some u:=by
 match k,h1,h2,h with
 | [],_,_,h=>simp[aP,addrAt]at h
 | [r],_,h2,h=>
  simp only[aP]at h ⊢
  rw[hv.b8 r h2]
  exact h
 | x :: y :: q,h1,h2,h=>
  have h1:aT (x :: y :: q) ns=false:=by
   rcases h1 with h1 | h1
   ·simp at h1
   ·exact h1
  simp only[aP]at h ⊢
  cases ha:addrAt w lab ρ (x :: y :: q)with
  | none=>rw[ha]at h;cases h
  | some ad=>
   rw[GQ hv _ _ h1 h2 ha]
   rw[ha]at h
   have h:w.cell? ad=some u:=h
   obtain⟨j',i',s',q',hk,dc,_,_⟩:=rP _ _ ha
   have aA:q'≠[]:=(hv.lab _ _ dc).2
   rw[hk,tN aA]at h1
   obtain⟨e1,_⟩:=hv.same ad.block (hv.lab _ _ dc).1 (fun k hk=>by rw[dc]at hk;injection hk with hk;subst hk;exact h1)
   exact(World.cell?_of_block e1).trans h
theorem bB.eX(hv:lu w w' lab bH ρ cB ns cn){x:Lf}{u:Value}(h:bB w B lab ρ x u):bB w' B bH cB (x.aG ns cn) u:=by
 cases x with
 | v x=>exact⟨h.1,h.2.eX hv (.inr h.1)⟩
 | dead=>trivial
 | own k=>
  have e:Lf.aG ns cn (.own k)=(bif aT k cn || (aT k ns && !(Nat.beq k.length 1))then .dead else .own k):=rfl
  rw[e]
  cases U:(aT k cn || (aT k ns && !(Nat.beq k.length 1)))with
  | true=>trivial
  | false=>
   rw[Bool.or_eq_false_iff]at U
   refine⟨h.1,L4 hv k u ?_ U.1 h.2⟩
   have U:=U.2
   cases hn:aT k ns with
   | false=>exact .inr rfl
   | true=>
    rw[hn,Bool.true_and,Bool.not_eq_false']at U
    exact .inl (Nat.eq_of_beq_eq_true U)
theorem bK.eX(hv:lu w w' lab bH ρ cB ns cn){cs:List Lf}{us:Array Value}(h:bK w B lab ρ cs us):bK w' B bH cB (cs.map (Lf.aG ns cn)) us:=by
 refine⟨by rw[List.length_map];exact h.1,fun j x hx=>?_⟩
 rw[List.getElem?_map]at hx
 cases hy:cs[j]? with
 | none=>rw[hy]at hx;cases hx
 | some y=>
  rw[hy]at hx
  injection hx with hx
  subst hx
  obtain⟨u,hu,r⟩:=h.2 j y hy
  exact⟨u,hu,r.eX hv⟩
theorem RP.eX(hv:lu w w' lab bH ρ cB ns cn){p:Bool×List Lf}{u:Value}(h:RP w B lab ρ p u):RP w' B bH cB (p.1,p.2.map (Lf.aG ns cn)) u:=by
 obtain⟨b,cs⟩:=p
 cases b with
 | true=>obtain⟨us,e,h⟩:=h;exact⟨us,e,h.eX hv⟩
 | false=>exact bK.eX hv h
theorem RA.eX(hv:lu w w' lab bH ρ cB ns cn){x:A}{u:Value}(h:RA w B lab ρ x u):RA w' B bH cB (x.aG ns cn) u:=by
 cases x with
 | undef=>trivial
 | skip=>exact h
 | lf x=>exact bB.eX hv h
 | agg cs=>exact RP.eX hv (p:=(true,cs)) h
 | aU xs=>
  obtain⟨us,e,hs,h⟩:=h
  refine⟨us,e,by rw[List.length_map];exact hs,fun j p hp=>?_⟩
  rw[List.getElem?_map]at hp
  cases hy:xs[j]? with
  | none=>rw[hy]at hp;cases hp
  | some y=>
   rw[hy]at hp
   injection hp with hp
   subst hp
   obtain⟨v,bY,r⟩:=h j y hy
   exact⟨v,bY,r.eX hv⟩
 | ptr k=>
  have e:A.aG ns cn (.ptr k)=(bif aT k cn || aT k ns then .undef else .ptr k):=rfl
  rw[e]
  cases U:(aT k cn || aT k ns)with
  | true=>trivial
  | false=>
   rw[Bool.or_eq_false_iff]at U
   obtain⟨ad,e,h⟩:=h
   exact⟨ad,e,GQ hv k ad U.2 U.1 h⟩
 | view k s i j=>
  have e:A.aG ns cn (.view k s i j)=(bif aT k cn || aT k ns then .undef else .view k s i j):=rfl
  rw[e]
  cases U:(aT k cn || aT k ns)with
  | true=>trivial
  | false=>
   rw[Bool.or_eq_false_iff]at U
   obtain⟨A,n,c,h,g⟩:=h
   exact⟨A,n,c,L4 hv k _ (.inr U.2) U.1 h,g⟩
 | pk r n=>
  have e:A.aG ns cn (.pk r n)=(bif aN r cn then .undef else .pk r n):=rfl
  rw[e]
  cases U:aN r cn with
  | true=>trivial
  | false=>
   obtain⟨b,e,h⟩:=h
   exact⟨b,(hv.b8 r U).trans e,h⟩
 | aF r j=>
  have e:A.aG ns cn (.aF r j)=(bif aN r cn then .undef else .aF r j):=rfl
  rw[e]
  cases U:aN r cn with
  | true=>trivial
  | false=>
   obtain⟨b,off,e,h⟩:=h
   exact⟨b,off,(hv.b8 r U).trans e,h⟩
 | ec cs=>
  obtain⟨b,off,e,U,hl,h⟩:=h
  obtain⟨e1,e2⟩:=hv.same b U (fun k hk=>by rw[hl]at hk;cases hk)
  refine⟨b,off,e,Nat.lt_of_lt_of_le U hv.size,e2.trans hl,fun j x hx=>?_⟩
  obtain⟨hf,v,bY,hr⟩:=h j x hx
  exact⟨hf,v,(World.cell?_of_block (a:=⟨b,_,none⟩) e1).trans bY,hr.eX hv (.inr hf)⟩
 | ic f cs=>
  obtain⟨pv,e0,h⟩:=h
  refine⟨pv,e0,?_⟩
  obtain⟨b,off,e,U,hl,h⟩:=h
  obtain⟨e1,e2⟩:=hv.same b U (fun k hk=>by rw[hl]at hk;cases hk)
  refine⟨b,off,e,Nat.lt_of_lt_of_le U hv.size,e2.trans hl,fun j x hx=>?_⟩
  obtain⟨hf,v,bY,hr⟩:=h j x hx
  exact⟨hf,v,(World.cell?_of_block (a:=⟨b,_,none⟩) e1).trans bY,hr.eX hv (.inr hf)⟩
 | fn f cap=>
  have e:A.aG ns cn (.fn f cap)=(bif cap.any (fun p=>aN p.1 cn)then .undef else .fn f cap):=rfl
  rw[e]
  cases U:cap.any (fun p=>aN p.1 cn)with
  | true=>trivial
  | false=>
   obtain⟨vs,e,hs,h⟩:=h
   refine⟨vs,e,hs,fun j p hp=>?_⟩
   obtain⟨b,off,e2,h2⟩:=h j p hp
   have:=List.any_eq_false.1 U p (List.mem_of_getElem? hp)
   exact⟨b,off,(hv.b8 _ (by simpa using this)).trans e2,h2⟩
theorem bU.eX(hv:lu w w' lab bH ρ cB ns cn){n:Nat}{x:ax}(h:bU w B lab ρ n x)(h1:aN n ns=false)(h2:aN n cn=false):bU w' B bH cB n (x.aG ns cn):=by
 cases h with
 | blk b off cells e cs us au hl hh hs hc=>
  obtain⟨e1,e2⟩:=hv.same b (hv.lab b _ hl).1 (fun k hk=>by rw[hl]at hk;injection hk with hk;subst hk;exact h1)
  refine .blk b off cells e _ us ((hv.b8 n h2).trans au) (e2.trans hl) (e1.trans hh) (by rw[List.length_map];exact hs) (fun j x hx=>?_)
  rw[List.getElem?_map]at hx
  cases hy:cs[j]? with
  | none=>rw[hy]at hx;cases hx
  | some y=>
   rw[hy]at hx
   injection hx with hx
   subst hx
   exact⟨(hc j y hy).1,(hc j y hy).2.eX hv⟩
 | sl v y au hr=>exact .sl v y ((hv.b8 n h2).trans au) (hr.eX hv (.inl h1))
 | mp b c es l au hl hh he=>
  obtain⟨e1,e2⟩:=hv.same b (hv.lab b _ hl).1 (fun k hk=>by rw[hl]at hk;injection hk with hk;subst hk;exact h1)
  exact .mp b c es l ((hv.b8 n h2).trans au) (e2.trans hl) (e1.trans hh) he
 | gh us xs au hx=>
  refine .gh us _ ((hv.b8 n h2).trans au) (fun j x hj=>?_)
  rw[List.getElem?_map]at hj
  cases hy:xs[j]? with
  | none=>rw[hy]at hj;cases hj
  | some y=>
   rw[hy]at hj
   injection hj with hj
   subst hj
   exact(hx j y hy).eX hv
theorem Rl.eX(h:Rl w0 N lab ρ σ a w)(hv:lu w w' lab bH ρ cB ns cn)(U:eL w0 w w')(hl:∀ b k,bH b=some k->(w0.heap.size<=b\/w0.L b≠none)/\b<w'.heap.size/\k≠[])(hF:∀ r,aN r cn=true->w0.F r=none){nr:List (Nat×ax)}
  (ju:∀ r x,nr.lookup r=some x->bU w' w0.heap.size bH cB r x):Rl w0 N bH cB (σ.aG ns cn nr) a w':=by
 refine⟨h.below.trans U,hl,fun r x hx=>?_,fun k=>(h.tmp k).eX hv,h.size,h.defers,fun r l hr=>?_,h.cF⟩
 ·simp only[S.aG]at hx
  split at hx
  ·rename_i y hy
   injection hx with hx
   subst hx
   exact ju r y hy
  ·cases hm:(aN r ns || aN r cn)with
   | true=>rw[hm]at hx;cases hx
   | false=>
    rw[hm,cond_false]at hx
    rw[Bool.or_eq_false_iff]at hm
    cases hy:σ.m r with
    | none=>rw[hy]at hx;cases hx
    | some y=>
     rw[hy]at hx
     injection hx with hx
     subst hx
     exact(h.root r y hy).eX hv hm.1 hm.2
 ·have hc:aN r cn=false:=by
   cases hc:aN r cn with
   | false=>rfl
   | true=>rw[hF r hc]at hr;cases hr
  exact(hv.b8 r hc).trans (h.fix r l hr)
end
end Go.Proofs.YtjldnlbiefpekaaDoor
namespace Go.Proofs.YtjldnlbiefpekaaDoor
open Go.RowKit
set_option linter.unusedVariables false
inductive Mu where
 | blk (r:Nat) (cs:List Lf) (vs:List (V×Option Nat))
 | sl (q:Nat) (y:V)
def Mu.root:Mu->Nat
 | .blk r _ _=>r
 | .sl q _=>q
def oc(m:Nat->Option ax):Lf->Option (V×Option Nat)
 | .v x=>some (x.fE,none)
 | .own [q]=>match m q with
  | some (.sl y)=>bif y.av then some (y.fE,none)else some (y,some q)
  | _=>none
 | _=>none
def lz(m:Nat->Option ax):List Lf->Option (List (V×Option Nat))
 | []=>some []
 | l :: ls=>match oc m l,lz m ls with
  | some v,some vs=>some (v :: vs)
  | _,_=>none
def od(σ:S):PK->A->Option (Option Mu)
 | .v _ _,_=>some none
 | .p _ _ off,.aF r j=>(match (bif Nat.beq j off then σ.m r else none)with
  | some (.blk cs)=>(match lz σ.m cs with
   | some vs=>bif Nat.blt cs.length 999 then some (some (.blk r cs vs))else none
   | none=>none)
  | _=>none)
 | .s _ _,.lf (.own [q])=>(match σ.m q with
  | some (.sl y)=>bif y.av then none else some (some (.sl q y))
  | _=>none)
 | _,_=>none
def fo(σ:S):List PK->List Operand->Option (List Mu)
 | [],[]=>some []
 | p :: ps,x :: xs=>(match od σ p (ah σ x),fo σ ps xs with
  | some (some mu),some aq=>some (mu :: aq)
  | some none,some aq=>some aq
  | _,_=>none)
 | _,_=>none
def wH(i:Nat):Nat->List (V×Option Nat)->List (Nat×Nat)
 | _,[]=>[]
 | j,(_,some q) :: vs=>(q,60000+1000*i+j) :: wH i (j+1) vs
 | j,(_,none) :: vs=>wH i (j+1) vs
def gf:Nat->List Mu->List (Nat×Nat)
 | _,[]=>[]
 | i,.blk r _ vs :: aq=>(r,nF i) :: (wH i 0 vs++gf (i+1) aq)
 | i,.sl q _ :: aq=>(q,nF i) :: gf (i+1) aq
def CC(ns:List Nat):Lf->Bool
 | .own k=>!aT k ns
 | _=>true
def jU{X:Type}(σ:S)(ns:List Nat):List Lf->(List V->Option X)->Option X
 | [],k=>k []
 | x :: xs,k=>bif CC ns x then eg σ x fun y=>jU σ ns xs fun ys=>k (y.fE :: ys)else none
def kH{X:Type}(σ:S)(ns:List Nat)(x:A)(k:Pt->Option X):Option X:=
 match x with
 | .lf y=>jU σ ns [y] fun vs=>k (false,vs)
 | .agg ys=>jU σ ns ys fun vs=>k (true,vs)
 | _=>none
def eB{X:Type}(σ:S)(ns:List Nat):(ps:List PK)->List Operand->List Mu->(jd ps->Option X)->Option X
 | [],[],[],k=>k ()
 | .v b t :: ps,x :: xs,aq,k=>kH σ ns (ah σ x) fun p=>bif p.1==b then (match dec t 0 p.2 with
  | some y=>eB σ ns ps xs aq fun ys=>k (y,ys)
  | none=>none)else none
 | .p t g _ :: ps,_ :: xs,.blk _ _ vs :: aq,k=>(match (bif Nat.beq (g % 2) 0 then dec t g (vs.map (·.1))else none)with
  | some y=>eB σ ns ps xs aq fun ys=>k (y,ys)
  | none=>none)
 | .s t g :: ps,_ :: xs,.sl _ y :: aq,k=>(match (bif Nat.beq (g % 2) 0 then y.bS t (g+2)else none)with
  | some z=>eB σ ns ps xs aq fun ys=>k (z,ys)
  | none=>none)
 | _,_,_,_=>none
def pW(w:World)(ρ:Nat->Loc)(rs:List Nat):Nat->Loc:=fun n=>
 if n<60000 then (if (n-20000) % 1000=0 then ρ (rs.getD ((n-20000) / 1000) 0)else (match ρ (rs.getD ((n-20000) / 1000) 0)with
  | .blk b off=>.bX ((w.cell? ⟨b,off+((n-20000) % 1000-1),none⟩).getD undef)
  | .bX v=>.bX v
  | .aM us=>.aM us))
 else (match ρ (rs.getD ((n-60000) / 1000) 0)with
  | .blk b off=>.bX ((w.cell? ⟨b,off+(n-60000) % 1000,none⟩).getD undef)
  | .bX v=>.bX v
  | .aM us=>.aM us)
theorem zZ{w:World}{ρ:Nat->Loc}{rs:List Nat}{i r:Nat}(h:rs[i]?=some r)(hi:i<40):pW w ρ rs (nF i)=ρ r:=by
 have h1:nF i<60000:=by unfold nF;omega
 have h2:(nF i-20000) % 1000=0:=by unfold nF;omega
 have h3:(nF i-20000) / 1000=i:=by unfold nF;omega
 have h4:rs.getD i 0=r:=by rw[List.getD_eq_getElem?_getD,h];rfl
 unfold pW
 rw[if_pos h1,if_pos h2,h3,h4]
theorem UN{w:World}{ρ:Nat->Loc}{rs:List Nat}{i j r b off:Nat}{u:Value}{x:V}(h:rs[i]?=some r)(hi:i<40)(hj:j<999)(au:ρ r = .blk b off)(hu:w.cell? ⟨b,off+j,none⟩=some u):pW w ρ rs (nC i j x) = .bX u:=by
 have h4:rs.getD i 0=r:=by rw[List.getD_eq_getElem?_getD,h];rfl
 unfold pW nC
 cases x.av with
 | true=>
  have h1:20001+1000*i+j<60000:=by omega
  have h2:¬ (20001+1000*i+j-20000) % 1000=0:=by omega
  have h3:(20001+1000*i+j-20000) / 1000=i:=by omega
  have h5:(20001+1000*i+j-20000) % 1000-1=j:=by omega
  simp only[cond_true]
  rw[if_pos h1,if_neg h2,h3,h4,au,h5]
  simp[hu]
 | false=>
  have h1:¬ 60000+1000*i+j<60000:=by omega
  have h3:(60000+1000*i+j-60000) / 1000=i:=by omega
  have h5:(60000+1000*i+j-60000) % 1000=j:=by omega
  simp only[cond_false]
  rw[if_neg h1,h3,h4,au,h5]
  simp[hu]
def V.CD:V->Bool
 | .sl _ o _ _=>Nat.beq (o % 2) 0
 | _=>true
section
variable {P:Program} {w w':World} {w0:Wd} {B N:Nat} {lab bH af:aH} {ρ cB:Nat->Loc} {σ:S} {a:Act} {X:Type} {d:Nat} {r:X} {ns cn:List Nat}
theorem RV.L5{B':Nat}{q:List Nat}{x:V}{v:Value}(h:RV w B lab q x v)(hx:x.CD=true):RV w B' lab q x v:=by
 induction h with
 | int=>exact .int _ _ _
 | bool=>exact .bool _ _
 | str=>exact .str _ _
 | nil=>exact .nil _
 | bg=>exact .bg _ _ _
 | bw=>exact .bw _ _ _ _ _ (by first | assumption | omega)
 | bI=>exact .bI _ _ _ _ _ (by first | assumption | omega)
 | av q t o qn l b off cap u ho hl U h1 hcap hc hr ih=>
  have hx:=Nat.eq_of_beq_eq_true hx
  have UO:o=0:=by omega
  subst UO
  refine .av _ _ _ _ _ _ _ _ u ho hl U (by omega) hcap hc (fun i h j x bC=>ih i h j x bC ?_)
  have:=oW t 0 l[i] x (List.mem_of_getElem? bC)
  cases x with
  | sl t' o' q' l'=>
   have:o'=0:=by simpa [V.gr]using this
   subst this
   rfl
  | _=>rfl
 | own q t o qn l b cap cs u hl hh hs hn hm hc hr ih=>
  have hx:=Nat.eq_of_beq_eq_true hx
  refine .own _ _ _ _ _ _ _ cs u hl hh hs hn hm hc (fun i h j x bC=>ih i h j x bC ?_)
  have:=oW t o l[i] x (List.mem_of_getElem? bC)
  cases x with
  | sl t' o' q' l'=>
   have:o'=o:=by simpa [V.gr]using this
   subst this
   show Nat.beq (o' % 2) 0=true
   rw[show o' % 2=0 by omega]
   rfl
  | _=>rfl
theorem RV.out{q q':List Nat}{x:V}{v:Value}(h:RV w B lab q x v)(h1:∀ b,lab b=none->af b=none)(h2:∀ b k,lab b=some k->k≠[]/\(aT k ns=false->af b=none))(hq:x.av=true\/aT q ns=false){B':Nat}:RV w B' af q' x.fE v:=by
 induction h generalizing q' with
 | int=>exact .int _ _ _
 | bool=>exact .bool _ _
 | str=>exact .str _ _
 | nil=>exact .nil _
 | bg=>exact .bg _ _ _
 | bw=>exact .bw _ _ _ _ _ (by first | assumption | omega)
 | bI=>exact .bI _ _ _ _ _ (by first | assumption | omega)
 | av q t o qn l b off cap u ho hl U h1' hcap hc hr ih=>
  refine .av _ _ _ _ _ _ _ _ u (by omega) (h1 b hl) U (by omega) hcap (fun i h j x hx=>?_) (fun i h j x hx=>?_)
  ·obtain⟨y,hy,_⟩:=oX t o l[i] j x hx
   exact hc i h j y hy
  ·obtain⟨y,hy,rfl⟩:=oX t o l[i] j x hx
   exact ih i h j y hy (.inl (fY t o l[i] ho j y hy))
 | own q t o qn l b cap cs u hl hh hs hn hm hc hr ih=>
  have gG:aT q ns=false:=by
   rcases hq with hq | hq
   ·simp[V.av]at hq;omega
   ·exact hq
  obtain⟨aA,bL⟩:=h2 b q hl
  refine .av _ _ _ _ _ _ _ _ u (by omega) (bL gG) (Array.getElem?_eq_some_iff.1 hh).1 (by omega) hn (fun i h j x hx=>?_) (fun i h j x hx=>?_)
  ·obtain⟨y,hy,_⟩:=oX t o l[i] j x hx
   have:=hc i h j y hy
   rw[Nat.zero_add,cell_of_row w b _ cs _ _ hh]
   exact this
  ·obtain⟨y,hy,rfl⟩:=oX t o l[i] j x hx
   exact ih i h j y hy (.inr (by rw[tN aA];exact gG))
theorem UP{x:Lf}{k:V->Option X}(h:eg σ x k=some r):∃ y,k y=some r/\∀ lab ρ a w,Rl w0 N lab ρ σ a w->∀ u,bB w w0.heap.size lab ρ x u->∃ q,(x = .own q\/y.av=true)/\RV w w0.heap.size lab q y u:=by
 cases x with
 | v y=>exact⟨y,h,fun lab ρ a w hR u hu=>⟨[],.inr hu.1,hu.2⟩⟩
 | dead=>cases h
 | own q=>
  obtain⟨y,hy,h'⟩:=mH q k h
  refine⟨y,h',fun lab ρ a w hR u hu=>⟨q,.inl rfl,?_⟩⟩
  obtain⟨v,hv,hr⟩:=hy.ok hR.root
  have:v=u:=by
   have h2:=hu.2
   rw[hv]at h2
   injection h2
  subst this
  exact hr
structure tO (ns:List Nat) (lab af:aH):Prop where
 none:∀ b,lab b=none->af b=none
 rest:∀ b k,lab b=some k->k≠[]/\(aT k ns=false->af b=Option.none)
theorem GR:∀ (xs:List Lf) (k:List V->Option X),jU σ ns xs k=some r->∃ vs,k vs=some r/\vs.length=xs.length/\∀ lab ρ a w af,Rl w0 N lab ρ σ a w->tO ns lab af->∀ (j:Nat) x y u,xs[j]?=some x->vs[j]?=some y->bB w w0.heap.size lab ρ x u->RV w w.heap.size af [] y u
 | [],k,h=>⟨[],h,rfl,fun _ _ _ _ _ _ _ j x y u hx=>by simp at hx⟩
 | x :: xs,k,h=>by
  unfold jU at h
  cases ho:CC ns x with
  | false=>rw[ho]at h;cases h
  | true=>
   rw[ho,cond_true]at h
   obtain⟨y,h2,hy⟩:=UP (w0:=w0) (N:=N) h
   obtain⟨ys,h3,hl,hr⟩:=GR xs _ h2
   refine⟨y.fE :: ys,h3,by simp[hl],fun lab ρ a w af hR hS j x' y' u bC cD hu=>?_⟩
   cases j with
   | zero=>
    simp at bC cD
    subst bC cD
    obtain⟨q,hq,iT⟩:=hy lab ρ a w hR u hu
    refine iT.out hS.none hS.rest ?_
    rcases hq with rfl | hq
    ·exact .inr (by simpa [CC]using ho)
    ·exact .inl hq
   | succ j=>exact hr lab ρ a w af hR hS j x' y' u (by simpa using bC) (by simpa using cD) hu
theorem UQ{x:A}{k:Pt->Option X}(h:kH σ ns x k=some r):∃ p,k p=some r/\∀ lab ρ a w af,Rl w0 N lab ρ σ a w->tO ns lab af->∀ u,RA w w0.heap.size lab ρ x u->PV w w.heap.size af (fun _=>[]) p u:=by
 unfold kH at h
 split at h
 ·rename_i y
  obtain⟨vs,h2,hl,hr⟩:=GR (w0:=w0) (N:=N) _ _ h
  refine⟨_,h2,fun lab ρ a w af hR hS u hu=>⟨#[u],rfl,by simp[hl],fun j x hx=>?_⟩⟩
  have hj:j=0:=by
   have:=(List.getElem?_eq_some_iff.1 hx).1
   simp only[hl]at this
   simpa using this
  subst hj
  exact⟨u,rfl,hr lab ρ a w af hR hS 0 y x u rfl hx hu⟩
 ·rename_i ys
  obtain⟨vs,h2,hl,hr⟩:=GR (w0:=w0) (N:=N) _ _ h
  refine⟨_,h2,fun lab ρ a w af hR hS u hu=>?_⟩
  obtain⟨us,rfl,hs⟩:=hu
  refine⟨us,rfl,by rw[hl];exact hs.1,fun j x hx=>?_⟩
  have hj:j<ys.length:=by rw[<-hl];exact(List.getElem?_eq_some_iff.1 hx).1
  obtain⟨v,hv,bx⟩:=hs.2 j _ (List.getElem?_eq_getElem hj)
  exact⟨v,hv,hr lab ρ a w af hR hS j _ x v (List.getElem?_eq_getElem hj) hx bx⟩
 ·cases h
def sA(σ:S):Mu->Prop
 | .blk r cs vs=>σ.m r=some (.blk cs)/\lz σ.m cs=some vs/\cs.length<999
 | .sl q y=>σ.m q=some (.sl y)/\y.av=false
def Aa:List Mu->List In->Prop
 | [],[]=>True
 | .blk _ _ vs :: aq,.blk xs :: ins=>(aL (vs.map (·.1)) xs/\∀ x∈xs,x.fK=true/\x.CD=true)/\Aa aq ins
 | .sl _ y :: aq,.sl y' :: ins=>(Wk y y'/\y'.CD=true)/\Aa aq ins
 | _,_=>False
def wI(w:World)(B:Nat)(lab:aH)(ρ:Nat->Loc)(ins:List In):List Ar->List Value->Prop
 | [],[]=>True
 | x :: xs,v :: vs=>RA w B lab ρ (GH ins x) v/\wI w B lab ρ ins xs vs
 | _,_=>False
theorem wI.get{ins:List In}:∀ (xs:List Ar) (vs:List Value),wI w B lab ρ ins xs vs->vs.length=xs.length/\∀ i,RA w B lab ρ ((sx ins xs).t i) (vs.toArray.getD i undef)
 | [],[],_=>⟨rfl,fun i=>trivial⟩
 | [],_ :: _,h=>h.elim
 | _ :: _,[],h=>h.elim
 | x :: xs,v :: vs,h=>by
  obtain⟨h1,h2⟩:=wI.get xs vs h.2
  refine⟨by simp[h1],fun i=>?_⟩
  cases i with
  | zero=>exact h.1
  | succ i=>
   have:=h2 i
   simp only[sx,List.getElem?_cons_succ,Array.getD_eq_getD_getElem?,List.getElem?_toArray]at this ⊢
   exact this
theorem UR{t:TC}{g:Nat}{x:T t}(hg:Nat.beq (g % 2) 0=true):∀ y∈enc t g x,y.fK=true/\y.CD=true:=by
 intro y hy
 refine⟨FQ t g x y hy,?_⟩
 have:=oW t g x y hy
 cases y with
 | sl t' o' q' l'=>
  have:o'=g:=by simpa [V.gr]using this
  subst this
  exact hg
 | _=>rfl
def US(σ:S):PK->A->Option Mu->Prop
 | .v _ _,_,none=>True
 | .p _ _ off,x,some (.blk r cs vs)=>x = .aF r off/\sA σ (.blk r cs vs)
 | .s _ _,x,some (.sl q y)=>x = .lf (.own [q])/\sA σ (.sl q y)
 | _,_,_=>False
theorem oe{p:PK}{x:A}{z:Option Mu}(h:od σ p x=some z):US σ p x z:=by
 cases p with
 | v b t=>
  have h:(some none:Option (Option Mu))=some z:=h
  injection h with h
  subst h
  trivial
 | p t g off=>
  cases x with
  | aF r j=>
   have h:(match (bif Nat.beq j off then σ.m r else none)with
    | some (.blk cs)=>(match lz σ.m cs with
     | some vs=>bif Nat.blt cs.length 999 then some (some (.blk r cs vs))else none
     | none=>none)
    | _=>none)=some z:=h
   cases hj:Nat.beq j off with
   | false=>rw[hj]at h;cases h
   | true=>
    obtain rfl:=Nat.eq_of_beq_eq_true hj
    rw[hj,cond_true]at h
    split at h
    ·rename_i cs bZ
     split at h
     ·rename_i vs cT
      cases hl:Nat.blt cs.length 999 with
      | false=>rw[hl]at h;cases h
      | true=>
       rw[hl,cond_true]at h
       injection h with h
       subst h
       exact⟨rfl,bZ,cT,by have:=Nat.le_of_ble_eq_true hl;omega⟩
     ·cases h
    ·cases h
  | _=>cases h
 | s t g=>
  have hx:(∃ q,x = .lf (.own [q])):=by
   unfold od at h
   split at h
   ·rename_i e;cases e
   ·rename_i e;cases e
   ·exact⟨_,rfl⟩
   ·cases h
  obtain⟨q,rfl⟩:=hx
  have h:(match σ.m q with
   | some (.sl y)=>bif y.av then none else some (some (.sl q y))
   | _=>none)=some z:=h
  split at h
  ·rename_i y hy
   cases hf:y.av with
   | true=>rw[hf]at h;cases h
   | false=>
    rw[hf,cond_false]at h
    injection h with h
    subst h
    exact⟨rfl,hy,hf⟩
  ·cases h
theorem CE:∀ (ps:List PK) (xs:List Operand) (aq:List Mu),fo σ ps xs=some aq->∀ mu∈aq,sA σ mu
 | [],[],aq,h=>by injection h with h;subst h;simp
 | p :: ps,x :: xs,aq,h=>by
  unfold fo at h
  split at h
  ·rename_i mu fH h1 h2
   injection h with h
   subst h
   have ih:=CE ps xs fH h2
   have h1:=oe h1
   intro z hz
   rcases List.mem_cons.1 hz with rfl | hz
   ·cases p with
    | v=>exact h1.elim
    | p=>
     cases z with
     | blk=>exact h1.2
     | sl=>exact h1.elim
    | s=>
     cases z with
     | blk=>exact h1.elim
     | sl=>exact h1.2
   ·exact ih z hz
  ·rename_i fH h1 h2
   injection h with h
   subst h
   exact CE ps xs fH h2
  ·cases h
 | [],_ :: _,aq,h=>by cases h
 | _ :: _,[],aq,h=>by cases h
theorem Ab:∀ {ps:List PK} (i i':Nat) (x:jd ps),(iz ps i x).length=(iz ps i' x).length
 | [],_,_,_=>rfl
 | .v _ _ :: ps,i,i',x=>by simp only[iz,List.length_cons];rw[Ab i i']
 | .p _ _ _ :: ps,i,i',x=>by simp only[iz,List.length_cons];rw[Ab (i+1) (i'+1)]
 | .s _ _ :: ps,i,i',x=>by simp only[iz,List.length_cons];rw[Ab (i+1) (i'+1)]
theorem CF:∀ (ps:List PK) (xs:List Operand) (aq:List Mu) (k:jd ps->Option X),fo σ ps xs=some aq->eB σ ns ps xs aq k=some r->∃ x,k x=some r/\Aa aq (lq ps x)/\(iz ps 0 x).length=xs.length/\
  ∀ lab ρ a w af ρ',Rl w0 N lab ρ σ a w->tO ns lab af->∀ (ins:List In) (i:Nat),(∀ j z,(lq ps x)[j]?=some z->ins[i+j]?=some z)->(∀ j mu,aq[j]?=some mu->ρ' (nF (i+j))=ρ mu.root)->wI w w.heap.size af ρ' ins (iz ps i x) (xs.map a.eval)
 | [],[],aq,k,hm,h=>by
  injection hm with hm
  subst hm
  exact⟨(),h,trivial,rfl,fun _ _ _ _ _ _ _ _ _ _ _ _=>trivial⟩
 | .v b t :: ps,x :: xs,aq,k,hm,h=>by
  have iV:fo σ ps xs=some aq:=by
   unfold fo at hm
   split at hm
   ·rename_i mu fH h1 h2;exact(oe h1).elim
   ·rename_i fH h1 h2;rw[h2];exact hm
   ·cases hm
  unfold eB at h
  obtain⟨p,h2,hp⟩:=UQ (w0:=w0) (N:=N) h
  cases U:p.1==b with
  | false=>rw[U]at h2;cases h2
  | true=>
   rw[U,cond_true]at h2
   have U:p.1=b:=by simpa using U
   subst U
   split at h2
   ·rename_i y hy
    obtain⟨ys,h3,h4,h5,h6⟩:=CF ps xs aq _ iV h2
    refine⟨(y,ys),h3,h4,?_,fun lab ρ a w af ρ' hR hS ins i hi au=>⟨?_,h6 lab ρ a w af ρ' hR hS ins i hi au⟩⟩
    ·simp[iz,h5]
    ·have mT:=hp lab ρ a w af hR hS _ (hR.ah x)
     obtain⟨us,hu,hs,hr⟩:=mT
     have hk:=hU t 0 p.2 y hy
     have og:∀ (j:Nat) z,(enc t 0 y)[j]?=some z->∃ v,us[j]?=some v/\z.av=true/\RV w w.heap.size af [] z v:=by
      intro j z hz
      have hj:j<p.2.length:=by rw[hk.1];exact(List.getElem?_eq_some_iff.1 hz).1
      obtain⟨v,hv,bx⟩:=hr j _ (List.getElem?_eq_getElem hj)
      exact⟨v,hv,fY t 0 y (by omega) j z hz,bx.wk (hk.2 j _ z (List.getElem?_eq_getElem hj) hz)⟩
     have hlen:us.size=(enc t 0 y).length:=hs.trans hk.1
     obtain⟨b,vs⟩:=p
     cases b with
     | true=>
      show RA _ _ _ _ (.agg ((enc t 0 y).map .v)) _
      refine⟨us,hu,by rw[List.length_map];exact hlen,fun j z hz=>?_⟩
      rw[List.getElem?_map]at hz
      cases wu:(enc t 0 y)[j]? with
      | none=>rw[wu]at hz;cases hz
      | some z'=>
       rw[wu]at hz
       injection hz with hz
       subst hz
       obtain⟨v,hv,g1,g2⟩:=og j z' wu
       exact⟨v,hv,g1,g2⟩
     | false=>
      have hu:us = #[a.eval x]:=hu
      subst hu
      show RA _ _ _ _ (GH ins (.pt (false,enc t 0 y))) _
      match he:enc t 0 y,og,hlen with
      | [z],og,_=>
       obtain⟨v,hv,g1,g2⟩:=og 0 z rfl
       have:a.eval x=v:=by simpa using hv
       rw[this]
       exact⟨g1,g2⟩
      | [],_,_=>trivial
      | _ :: _ :: _,_,_=>trivial
   ·cases h2
 | .p t g off :: ps,x :: xs,aq,k,hm,h=>by
  unfold fo at hm
  split at hm
  ·rename_i mu fH h1 h2
   injection hm with hm
   subst hm
   have h1:=oe h1
   cases mu with
   | sl=>exact h1.elim
   | blk r cs vs=>
    have h1:ah σ x = .aF r off/\sA σ (.blk r cs vs):=h1
    unfold eB at h
    split at h
    ·rename_i y hy
     cases hg:Nat.beq (g % 2) 0 with
     | false=>rw[hg]at hy;cases hy
     | true=>
      rw[hg,cond_true]at hy
      obtain⟨ys,h3,h4,h5,h6⟩:=CF ps xs fH _ h2 h
      refine⟨(y,ys),h3,⟨⟨hU t g _ y hy,UR hg⟩,h4⟩,by simp[iz,Ab 1 0,h5],fun lab ρ a w af ρ' hR hS ins i hi au=>⟨?_,?_⟩⟩
      ·have Ac:=hi 0 _ rfl
       rw[Nat.add_zero]at Ac
       have hx:=hR.ah x
       rw[h1.1]at hx
       obtain⟨b,o,e1,e2⟩:=hx
       show RA _ _ _ _ (match ins[i]? with | some (.blk _)=>.aF (nF i) off | some (.sl _)=>.lf (.own [nF i]) | none=>.undef) _
       rw[Ac]
       have aX:=au 0 _ rfl
       rw[Nat.add_zero]at aX
       exact⟨b,o,aX.trans e1,e2⟩
      ·refine h6 lab ρ a w af ρ' hR hS ins (i+1) (fun j z hz=>?_) (fun j mu dA=>?_)
       ·rw[show i+1+j=i+(j+1) by omega]
        exact hi (j+1) z hz
       ·rw[show i+1+j=i+(j+1) by omega]
        exact au (j+1) mu dA
    ·cases h
  ·rename_i fH h1 h2
   exact(oe h1).elim
  ·cases hm
 | .s t g :: ps,x :: xs,aq,k,hm,h=>by
  unfold fo at hm
  split at hm
  ·rename_i mu fH h1 h2
   injection hm with hm
   subst hm
   have h1:=oe h1
   cases mu with
   | blk=>exact h1.elim
   | sl q y0=>
    have h1:ah σ x = .lf (.own [q])/\sA σ (.sl q y0):=h1
    unfold eB at h
    split at h
    ·rename_i y hy
     cases hg:Nat.beq (g % 2) 0 with
     | false=>rw[hg]at hy;cases hy
     | true=>
      rw[hg,cond_true]at hy
      obtain⟨ys,h3,h4,h5,h6⟩:=CF ps xs fH _ h2 h
      refine⟨(y,ys),h3,⟨⟨V.bW hy,?_⟩,h4⟩,by simp[iz,Ab 1 0,h5],fun lab ρ a w af ρ' hR hS ins i hi au=>⟨?_,?_⟩⟩
      ·show Nat.beq ((g+2) % 2) 0=true
       rw[show (g+2) % 2=g % 2 by omega]
       exact hg
      ·have Ac:=hi 0 _ rfl
       rw[Nat.add_zero]at Ac
       have hx:=hR.ah x
       rw[h1.1]at hx
       show RA _ _ _ _ (match ins[i]? with | some (.blk _)=>.aF (nF i) 0 | some (.sl _)=>.lf (.own [nF i]) | none=>.undef) _
       rw[Ac]
       have aX:=au 0 _ rfl
       rw[Nat.add_zero]at aX
       refine⟨hx.1,?_⟩
       have h2:=hx.2
       simp only[aP]at h2 ⊢
       rw[aX]
       exact h2
      ·refine h6 lab ρ a w af ρ' hR hS ins (i+1) (fun j z hz=>?_) (fun j mu dA=>?_)
       ·rw[show i+1+j=i+(j+1) by omega]
        exact hi (j+1) z hz
       ·rw[show i+1+j=i+(j+1) by omega]
        exact au (j+1) mu dA
    ·cases h
  ·rename_i fH h1 h2
   exact(oe h1).elim
  ·cases hm
 | [],_ :: _,aq,k,hm,h=>by cases hm
 | _ :: _,[],aq,k,hm,h=>by cases hm
end
end Go.Proofs.YtjldnlbiefpekaaDoor
namespace Go.Proofs.YtjldnlbiefpekaaDoor
open Go.RowKit
set_option linter.unusedVariables false
def iA(c0:Nat):Nat->List (V×Option Nat)->List Nat
 | _,[]=>[]
 | n,(_,some q) :: vs=>q :: iA c0 (n+1) vs
 | n,(_,none) :: vs=>(c0+n) :: iA c0 (n+1) vs
def sB(c0:Nat):Nat->List Mu->List Nat
 | _,[]=>[]
 | pos,.blk r _ vs :: aq=>r :: (iA c0 (pos+1) vs++sB c0 (pos+1+vs.length) aq)
 | pos,.sl q _ :: aq=>q :: sB c0 (pos+1) aq
def oh:List Nat->List V->List Nat
 | n :: bR,x :: xs=>bif x.av then oh bR xs else n :: oh bR xs
 | _,_=>[]
def iB(c0:Nat):Nat->List Mu->List In->List Nat
 | pos,.blk _ _ vs :: aq,.blk xs :: outs=>oh (iA c0 (pos+1) vs) xs++iB c0 (pos+1+vs.length) aq outs
 | pos,.sl _ _ :: aq,.sl _ :: outs=>iB c0 (pos+1) aq outs
 | _,_,_=>[]
def jV(ns cn:List Nat):List Nat->List Lf->List V->List Lf
 | n :: bR,l :: ls,x :: xs=>(bif x.plain then .v x else bif x.av then l.aG ns cn else .own [n]) :: jV ns cn bR ls xs
 | _,_,_=>[]
def mU:List Nat->List V->List (Nat×ax)
 | n :: bR,x :: xs=>bif x.av then mU bR xs else (n,.sl x) :: mU bR xs
 | _,_=>[]
def gz(ns cn:List Nat)(c0:Nat):Nat->List Mu->List In->List (Nat×ax)
 | pos,.blk r cs vs :: aq,.blk xs :: outs=>(r,.blk (jV ns cn (iA c0 (pos+1) vs) cs xs)) :: (mU (iA c0 (pos+1) vs) xs++gz ns cn c0 (pos+1+vs.length) aq outs)
 | pos,.sl q _ :: aq,.sl y :: outs=>bif y.fK then (q,.sl y) :: gz ns cn c0 (pos+1) aq outs else gz ns cn c0 (pos+1) aq outs
 | _,_,_=>[]
def CG:List Nat->Bool
 | []=>true
 | n :: l=>!aN n l&&CG l
def L6:In->Bool
 | .blk xs=>xs.all fun x=>x.av || x.loc
 | .sl y=>y.loc
def dW:Option Tmp->Nat
 | some d=>1000000000100000+1000*d
 | none=>90000
def iC{X:Type}(N:Nat)(σ:S)(dst:Option Tmp)(res:dz)(k:S->Option X):Option X:=
 match dst with
 | none=>k σ
 | some d=>bif Nat.blt d N then (match res with
  | .one p=>(match mb (p.1,fO (1000000000100000+1000*d) p.2)with
   | some y=>k ((dF (1000000000100000+1000*d) σ p.2).set d y)
   | none=>none)
  | .aU ps=>k ((eW (1000000000100000+1000*d) σ ps).set d (.aU (gv (1000000000100000+1000*d) ps))))else none
def tP(N:Nat)(aq:List Mu)(outs:List In)(cn:List Nat):Bool:=
 CG cn&&(aq.all fun mu=>!aN mu.root cn)&&(cn.all fun n=>Nat.blt n N || Nat.ble 60000 n)&&outs.all L6
def sC{X:Type}(N:Nat)(σ:S)(dst:Option Tmp)(aq:List Mu)(ns cn:List Nat)(res:dz)(outs:List In)(k:S->Option X):Option X:=
 bif tP N aq outs cn then iC N (σ.aG ns cn (gz ns cn (dW dst) res.len aq outs)) dst res k else none
def gM{X:Type}(N:Nat)(σ:S)(dst:Option Tmp)(c:gy)(args:List Operand)(k:S->Option X):Option X:=
 match fo σ c.ps args with
 | some aq=>bif once (gf 0 aq)&&Nat.ble aq.length 40 then
   eB σ ((gf 0 aq).map (·.1)) c.ps args aq fun x=>(match c.F x with
    | some y=>sC N σ dst aq ((gf 0 aq).map (·.1)) (iB (dW dst) (cG c.ro y.1).len aq (eA (cJ c.ps) y.2)) (cG c.ro y.1) (eA (cJ c.ps) y.2) k
    | none=>none)else none
 | none=>none
section
variable {P:Program} {w w':World} {w0:Wd} {B N:Nat} {lab bH af:aH} {ρ cB ρ':Nat->Loc} {σ:S} {a:Act} {X:Type} {d:Nat} {r:X} {ns cn:List Nat} {o:Oper} {rs:List Nat} {cq:List (Nat×Nat)}
theorem L7{n:Nat}:∀ {l:List (Nat×Nat)},aN n (l.map (·.1))=false->l.lookup n=none
 | [],_=>rfl
 | p :: l,h=>by
  simp only[List.map_cons,aN,Bool.or_eq_false_iff]at h
  rw[List.lookup_cons]
  have:(n==p.1)=false:=by
   cases U:n==p.1 with
   | false=>rfl
   | true=>
    have e:n=p.1:=by simpa using U
    have h1:=h.1
    rw[<-e,Nat.beq_refl]at h1
    cases h1
  rw[this]
  exact L7 h.2
theorem UT{b:Nat}{k:List Nat}{n m:Nat}(h:lab b=some k)(hk:k.getLast?=some n)(hm:cq.lookup n=some m):cA lab cq id b=some (k.dropLast++[m]):=by
 simp[cA,h,hk,hm]
theorem UU(aA:∀ b k,lab b=some k->k≠[]):tO (cq.map (·.1)) lab (cA lab cq id):=by
 refine⟨fun b h=>pS h,fun b k h=>⟨aA b k h,fun hl=>?_⟩⟩
 simp only[cA,h]
 cases hk:k.getLast? with
 | none=>rfl
 | some n=>
  simp only[aT,hk]at hl
  simp[L7 hl]
theorem GS{m:Nat->Option ax}:∀ (cs:List Lf) (vs:List (V×Option Nat)),lz m cs=some vs->vs.length=cs.length/\∀ (j:Nat) l,cs[j]?=some l->∃ v,vs[j]?=some v/\oc m l=some v
 | [],vs,h=>by injection h with h;subst h;exact⟨rfl,fun j l hl=>by simp at hl⟩
 | c :: cs,vs,h=>by
  unfold lz at h
  split at h
  ·rename_i v tw h1 h2
   injection h with h
   subst h
   obtain⟨k1,k2⟩:=GS cs tw h2
   refine⟨by simp[k1],fun j l hl=>?_⟩
   cases j with
   | zero=>simp at hl;subst hl;exact⟨v,rfl,h1⟩
   | succ j=>exact k2 j l (by simpa using hl)
  ·cases h
theorem UW{l:Lf}{v:V}{qo:Option Nat}(h:oc σ.m l=some (v,qo))(hR:Rl w0 N lab ρ σ a w)(hS:tO ns lab af){u:Value}(hu:bB w w0.heap.size lab ρ l u):
  (qo=none/\∀ B' q',RV w B' af q' v u)\/(∃ q,qo=some q/\v.av=false/\RV w w0.heap.size lab [q] v u):=by
 unfold oc at h
 split at h
 ·simp only[Option.some.injEq,Prod.mk.injEq]at h
  obtain⟨rfl,rfl⟩:=h
  exact .inl ⟨rfl,fun B' q'=>hu.2.out hS.none hS.rest (.inl hu.1)⟩
 ·rename_i q
  split at h
  ·rename_i y hy
   have bE:=hR.root q _ hy
   generalize hx:ax.sl y=x at bE
   cases bE with
   | blk=>cases hx
   | mp=>cases hx
   | gh=>cases hx
   | sl v' y' au hr=>
    injection hx with hx
    subst hx
    have r9:v'=u:=by
     have h2:=hu.2
     simp only[aP,au]at h2
     injection h2
    subst r9
    cases hf:y.av with
    | true=>
     rw[hf,cond_true]at h
     simp only[Option.some.injEq,Prod.mk.injEq]at h
     obtain⟨rfl,rfl⟩:=h
     exact .inl ⟨rfl,fun B' q'=>hr.out hS.none hS.rest (.inl hf)⟩
    | false=>
     rw[hf,cond_false]at h
     simp only[Option.some.injEq,Prod.mk.injEq]at h
     obtain⟨rfl,rfl⟩:=h
     exact .inr ⟨q,rfl,hf,hr⟩
  ·cases h
 ·cases h
theorem L8{i:Nat}{v:V}{q:Nat}:∀ (vs:List (V×Option Nat)) (j0 j:Nat),vs[j]?=some (v,some q)->(q,60000+1000*i+(j0+j))∈wH i j0 vs
 | [],j0,j,h=>by simp at h
 | (v',qo) :: vs,j0,j,h=>by
  cases j with
  | zero=>
   simp at h
   obtain⟨rfl,rfl⟩:=h
   exact .head _
  | succ j=>
   have:=L8 (i:=i) vs (j0+1) j (by simpa using h)
   rw[show j0+1+j=j0+(j+1) by omega]at this
   cases qo with
   | none=>exact this
   | some q'=>exact .tail _ this
theorem GU{i:Nat}:∀ (cs:List V) (j0:Nat),(sw i j0 cs).length=cs.length
 | [],_=>rfl
 | c :: cs,j0=>by simp[sw,GU cs]
theorem RV.ia{q:List Nat}{x:V}{u:Value}(h:RV w B lab q x u)(hp:x.plain=false)(hn:x.fK=true):ia u=true:=by
 cases h <;>first | rfl | cases hp | cases hn
theorem Wk.GV{x y:V}(h:Wk x y)(hx:x.av=false):y.av=false:=by
 cases h with
 | same=>exact hx
 | nil=>cases hx
 | q=>exact hx
 | gr t o o' qn l h1 h2=>simp[V.av];omega
theorem GW(hR:Rl w0 N lab ρ σ a w)(hS:tO ns lab (cA lab cq id)):∀ (aq:List Mu) (ins:List In) (i:Nat),(∀ p∈gf i aq,cq.lookup p.1=some p.2)->(∀ j mu,aq[j]?=some mu->rs[i+j]?=some mu.root)->(∀ mu∈aq,sA σ mu)->Aa aq ins->i+aq.length<=40->
  jT w w.heap.size (cA lab cq id) (pW w ρ rs) i ins
 | [],[],_,_,_,_,_,_=>trivial
 | [],_ :: _,_,_,_,_,h,_=>h.elim
 | .blk _ _ _ :: _,[],_,_,_,_,h,_=>h.elim
 | .sl _ _ :: _,[],_,_,_,_,h,_=>h.elim
 | .blk _ _ _ :: _,.sl _ :: _,_,_,_,_,h,_=>h.elim
 | .sl _ _ :: _,.blk _ :: _,_,_,_,_,h,_=>h.elim
 | .blk r cs vs :: aq,.blk xs :: ins,i,pX,cK,dA,gA,hi=>by
  obtain⟨hm,hg,hlen⟩:=dA _ (.head _)
  obtain⟨⟨hw,hx⟩,tQ⟩:=gA
  obtain⟨g1,g2⟩:=GS cs vs hg
  have fh:=cK 0 _ rfl
  rw[Nat.add_zero]at fh
  simp only[List.length_cons]at hi
  have dO:xs.length=cs.length:=by rw[<-hw.1,List.length_map,g1]
  have bE:=hR.root r _ hm
  generalize hz:ax.blk cs=z at bE
  cases bE with
  | sl=>cases hz
  | mp=>cases hz
  | gh=>cases hz
  | blk b off cells e cZ us au hl hh hs hc=>
   injection hz with hz
   subst hz
   have og:∀ (j:Nat) x,xs[j]?=some x->cells[off+j]?=some (us j)/\RV w w.heap.size (cA lab cq id) [nC i j x] x (us j)/\(x.plain=false->pW w ρ rs (nC i j x) = .bX (us j)):=by
    intro j x hj
    have oZ:j<cs.length:=by rw[<-dO];exact(List.getElem?_eq_some_iff.1 hj).1
    obtain⟨v,hv,Ad⟩:=g2 j _ (List.getElem?_eq_getElem oZ)
    obtain⟨c1,c2⟩:=hc j _ (List.getElem?_eq_getElem oZ)
    obtain⟨v,qo⟩:=v
    have GX:Wk v x:=hw.2 j v x (by rw[List.getElem?_map,hv];rfl) hj
    obtain⟨tu,F7⟩:=hx x (List.mem_of_getElem? hj)
    refine⟨c1,?_,fun hp=>?_⟩
    ·rcases UW Ad hR hS c2 with ⟨rfl,h1⟩ | ⟨q,rfl,hf,h1⟩
     ·exact(h1 _ _).wk GX
     ·have GL:=GX.GV hf
      have hq:=pX (q,60000+1000*i+(0+j)) (.tail _ (List.mem_append_left _ (L8 vs 0 j hv)))
      rw[Nat.zero_add]at hq
      have h2:=(RV.cA (nm:=id) (p:=[]) h1 hq).wk GX
      have e1:nC i j x=60000+1000*i+j:=by simp[nC,GL]
      rw[e1]
      exact h2.L5 F7
    ·exact UN fh (by omega) (by omega) au (by rw[cell_of_row w b _ cells _ _ hh];exact c1)
   refine⟨.blk b off cells e _ us ((zZ fh (by omega)).trans au) ?_ hh (by rw[GU,dO];exact hs) (fun j z hz=>?_),fun j x hj hp=>?_,GW hR hS aq ins (i+1) (fun p hp=>pX p (.tail _ (List.mem_append_right _ hp))) (fun j mu tR=>?_) (fun mu h=>dA mu (.tail _ h)) tQ (by omega)⟩
   ·exact UT hl rfl (pX _ (.head _))
   ·have hj:j<xs.length:=by rw[<-GU (i:=i) xs 0];exact(List.getElem?_eq_some_iff.1 hz).1
    have CH:=GO (i:=i) xs 0 j _ (List.getElem?_eq_getElem hj)
    rw[hz]at CH
    injection CH with CH
    subst CH
    rw[Nat.zero_add]
    obtain⟨c1,c2,c3⟩:=og j _ (List.getElem?_eq_getElem hj)
    refine⟨c1,?_⟩
    cases hp:(xs[j]).plain with
    | true=>
     have e1:su i j xs[j] = .v xs[j]:=by simp[su,hp]
     rw[e1]
     exact⟨V.zy hp,c2.rQ hp⟩
    | false=>
     have e1:su i j xs[j] = .own [nC i j xs[j]]:=by simp[su,hp]
     rw[e1]
     exact⟨c2.ia hp (hx _ (List.getElem_mem _)).1,by simp only[aP,c3 hp]⟩
   ·obtain⟨c1,c2,c3⟩:=og j x hj
    exact .sl _ x (c3 hp) c2
   ·have:=cK (j+1) mu (by simpa using tR)
    rw[show i+(j+1)=i+1+j by omega]at this
    exact this
 | .sl q y :: aq,.sl y' :: ins,i,pX,cK,dA,gA,hi=>by
  obtain⟨hm,hf⟩:=dA _ (.head _)
  obtain⟨⟨hw,hx⟩,tQ⟩:=gA
  have fh:=cK 0 _ rfl
  rw[Nat.add_zero]at fh
  simp only[List.length_cons]at hi
  have bE:=hR.root q _ hm
  generalize hz:ax.sl y=z at bE
  cases bE with
  | blk=>cases hz
  | mp=>cases hz
  | gh=>cases hz
  | sl v y0 au hr=>
   injection hz with hz
   subst hz
   refine⟨.sl v y' ((zZ fh (by omega)).trans au) ?_,GW hR hS aq ins (i+1) (fun p hp=>pX p (.tail _ hp)) (fun j mu tR=>?_) (fun mu h=>dA mu (.tail _ h)) tQ (by omega)⟩
   ·exact((RV.cA (nm:=id) (p:=[]) hr (pX _ (.head _))).wk hw).L5 hx
   ·have:=cK (j+1) mu (by simpa using tR)
    rw[show i+(j+1)=i+1+j by omega]at this
    exact this
end
end Go.Proofs.YtjldnlbiefpekaaDoor
namespace Go.Proofs.YtjldnlbiefpekaaDoor
open Go.RowKit
set_option linter.unusedVariables false
def GY:Loc->Nat×Nat
 | .blk b off=>(b,off)
 | .bX _=>(0,0)
 | .aM _=>(0,0)
def sD(w:World)(b off:Nat):Nat->List Nat->List V->List (Nat×Value)
 | j,n :: bR,x :: xs=>bif x.av then sD w b off (j+1) bR xs else (n,(w.cell? ⟨b,off+j,none⟩).getD undef) :: sD w b off (j+1) bR xs
 | _,_,_=>[]
def me(w:World)(ρ:Nat->Loc)(c0:Nat):Nat->List Mu->List In->List (Nat×Value)
 | pos,.blk r _ vs :: aq,.blk xs :: outs=>sD w (GY (ρ r)).1 (GY (ρ r)).2 0 (iA c0 (pos+1) vs) xs++me w ρ c0 (pos+1+vs.length) aq outs
 | pos,.sl _ _ :: aq,.sl _ :: outs=>me w ρ c0 (pos+1) aq outs
 | _,_,_=>[]
def L9(l:List (Nat×Value))(ρ:Nat->Loc):Nat->Loc:=fun n=>match l.lookup n with
 | some v=>.bX v
 | none=>ρ n
theorem GZ{w:World}{b off:Nat}:∀ (bR:List Nat) (xs:List V) (j:Nat),(sD w b off j bR xs).map (·.1)=oh bR xs
 | [],[],_=>rfl
 | [],_ :: _,_=>rfl
 | _ :: _,[],_=>rfl
 | n :: bR,x :: xs,j=>by
  simp only[sD,oh]
  cases x.av with
  | true=>exact GZ bR xs (j+1)
  | false=>simp only[cond_false,List.map_cons];rw[GZ bR xs (j+1)]
theorem CI{w:World}{ρ:Nat->Loc}{c0:Nat}:∀ (aq:List Mu) (outs:List In) (pos:Nat),(me w ρ c0 pos aq outs).map (·.1)=iB c0 pos aq outs
 | .blk r _ vs :: aq,.blk xs :: outs,pos=>by
  simp only[me,iB,List.map_append]
  rw[GZ,CI aq outs]
 | .sl _ _ :: aq,.sl _ :: outs,pos=>by
  simp only[me,iB]
  exact CI aq outs _
 | [],_,_=>by simp[me,iB]
 | .blk _ _ _ :: _,[],_=>rfl
 | .sl _ _ :: _,[],_=>rfl
 | .blk _ _ _ :: _,.sl _ :: _,_=>rfl
 | .sl _ _ :: _,.blk _ :: _,_=>rfl
theorem Ma{n:Nat}:∀ {l:List (Nat×Value)},aN n (l.map (·.1))=false->l.lookup n=none
 | [],_=>rfl
 | p :: l,h=>by
  simp only[List.map_cons,aN,Bool.or_eq_false_iff]at h
  rw[List.lookup_cons]
  cases U:n==p.1 with
  | false=>exact Ma h.2
  | true=>
   have e:n=p.1:=by simpa using U
   have h1:=h.1
   rw[<-e,Nat.beq_refl]at h1
   cases h1
theorem Mb:∀ {l:List (Nat×Value)},CG (l.map (·.1))=true->∀ p∈l,l.lookup p.1=some p.2
 | [],_,p,hp=>by cases hp
 | q :: l,h,p,hp=>by
  simp only[List.map_cons,CG,Bool.and_eq_true,Bool.not_eq_true']at h
  rw[List.lookup_cons]
  rcases List.mem_cons.1 hp with rfl | hp
  ·simp
  ·cases U:p.1==q.1 with
   | false=>exact Mb h.2 p hp
   | true=>
    have e:p.1=q.1:=by simpa using U
    exact absurd (List.mem_map_of_mem (f:=(·.1)) hp) (by rw[e];exact L3 h.1)
theorem Ae{c0:Nat}:∀ (vs:List (V×Option Nat)) (n:Nat),(iA c0 n vs).length=vs.length
 | [],_=>rfl
 | (_,some _) :: vs,n=>by simp[iA,Ae vs]
 | (_,none) :: vs,n=>by simp[iA,Ae vs]
theorem Mc{ns cn:List Nat}:∀ (bR:List Nat) (ls:List Lf) (xs:List V),bR.length=ls.length->xs.length=ls.length->(jV ns cn bR ls xs).length=ls.length/\
  ∀ (j:Nat) z,(jV ns cn bR ls xs)[j]?=some z->∃ n l x,bR[j]?=some n/\ls[j]?=some l/\xs[j]?=some x/\z=(bif x.plain then .v x else bif x.av then l.aG ns cn else .own [n])
 | [],[],[],_,_=>⟨rfl,fun j z hz=>by simp[jV]at hz⟩
 | n :: bR,l :: ls,x :: xs,h1,h2=>by
  obtain⟨k1,k2⟩:=Mc (ns:=ns) (cn:=cn) bR ls xs (by simpa using h1) (by simpa using h2)
  refine⟨by simp[jV,k1],fun j z hz=>?_⟩
  cases j with
  | zero=>simp only[jV,List.getElem?_cons_zero,Option.some.injEq]at hz;exact⟨n,l,x,rfl,rfl,rfl,hz.symm⟩
  | succ j=>exact k2 j z (by simpa [jV]using hz)
 | [],_ :: _,_,h1,_=>by simp at h1
 | _ :: _,[],_,h1,_=>by simp at h1
 | _ :: _,_ :: _,[],_,h2=>by simp at h2
 | [],[],_ :: _,_,h2=>by simp at h2
theorem Md:∀ (bR:List Nat) (xs:List V),∀ p∈mU bR xs,∃ (j:Nat) (x:V),bR[j]?=some p.1/\xs[j]?=some x/\x.av=false/\p.2 = .sl x
 | [],[],p,hp=>by cases hp
 | [],_ :: _,p,hp=>by cases hp
 | _ :: _,[],p,hp=>by cases hp
 | n :: bR,x :: xs,p,hp=>by
  simp only[mU]at hp
  have rest:p∈mU bR xs->∃ (j:Nat) (y:V),(n :: bR)[j]?=some p.1/\(x :: xs)[j]?=some y/\y.av=false/\p.2 = .sl y:=fun hp=>by
   obtain⟨j,y,h1,h2,h3,h4⟩:=Md bR xs p hp
   exact⟨j+1,y,by simpa using h1,by simpa using h2,h3,h4⟩
  cases hf:x.av with
  | true=>rw[hf]at hp;exact rest hp
  | false=>
   rw[hf,cond_false]at hp
   rcases List.mem_cons.1 hp with rfl | hp
   ·exact⟨0,x,rfl,rfl,hf,rfl⟩
   ·exact rest hp
theorem Me{w:World}{b off n:Nat}{x:V}:∀ (bR:List Nat) (xs:List V) (j0 j:Nat),bR[j]?=some n->xs[j]?=some x->x.av=false->(n,(w.cell? ⟨b,off+(j0+j),none⟩).getD undef)∈sD w b off j0 bR xs
 | [],_,_,j,h,_,_=>by simp at h
 | _ :: _,[],_,j,_,h,_=>by simp at h
 | m :: bR,y :: xs,j0,j,h1,h2,hf=>by
  cases j with
  | zero=>
   simp at h1 h2
   subst h1 h2
   simp only[sD,hf,cond_false]
   exact .head _
  | succ j=>
   have:=Me (w:=w) (b:=b) (off:=off) bR xs (j0+1) j (by simpa using h1) (by simpa using h2) hf
   rw[show j0+1+j=j0+(j+1) by omega]at this
   simp only[sD]
   cases y.av with
   | true=>exact this
   | false=>exact .tail _ this
section
variable {P:Program} {w w':World} {w0:Wd} {B N:Nat} {lab bH af:aH} {ρ cB ρ':Nat->Loc} {σ:S} {a:Act} {X:Type} {d:Nat} {r:X} {ns cn:List Nat} {o:Oper} {rs:List Nat} {cq:List (Nat×Nat)} {nm CJ:Nat->Nat} {c0:Nat}
theorem RV.tS{q:List Nat}{x:V}{v:Value}(h:RV w B lab q x v){B':Nat}(hB:B'<=B)(hl:∀ b,B<=b->af b=lab b)(hg:∀ b k,lab b=some k->af b=some k)(hx:x.loc=true):RV w B' af q x v:=by
 induction h with
 | int=>exact .int _ _ _
 | bool=>exact .bool _ _
 | str=>exact .str _ _
 | nil=>exact .nil _
 | bg=>exact .bg _ _ _
 | bw=>exact .bw _ _ _ _ _ (by first | assumption | omega)
 | bI=>exact .bI _ _ _ _ _ (by first | assumption | omega)
 | av q t o qn l b off cap u ho bL U h1 hcap hc hr ih=>
  have pP:o=1:=by
   match o,ho,hx with
   | 0,_,hx=>cases hx
   | 1,_,_=>rfl
   | n+2,ho,_=>omega
  subst pP
  have zL:=h1 rfl
  refine .av _ _ _ _ _ _ _ _ u ho ((hl b zL).trans bL) U (fun _=>Nat.le_trans hB zL) hcap hc (fun i h j x bC=>ih i h j x bC ?_)
  have:=oW t 1 l[i] x (List.mem_of_getElem? bC)
  cases x with
  | sl t' o' q' l'=>
   have:o'=1:=by simpa [V.gr]using this
   subst this
   rfl
  | _=>rfl
 | own q t o qn l b cap cs u bL hh hs hn hm hc hr ih=>
  exact .own _ _ _ _ _ _ _ cs u (hg b q bL) hh hs hn hm hc (fun i h j x bC=>ih i h j x bC (LW hx l[i] x (List.mem_of_getElem? bC)))
theorem fm.tS{nm:Nat->Nat}:∀ (ps:List Pt) (off:Nat) (vs:List Value) {B':Nat},fm w B lab nm off ps vs->B'<=B->(∀ b,B<=b->af b=lab b)->(∀ b k,lab b=some k->af b=some k)->(∀ n,off<=n->n<off+(ps.map fun p=>p.2.length).sum->nm n=CJ n)->fm w B' af CJ off ps vs
 | [],_,[],_,h,_,_,_,_=>h
 | [],_,_ :: _,_,h,_,_,_,_=>h
 | _ :: _,_,[],_,h,_,_,_,_=>h
 | p :: ps,off,v :: vs,B',h,hB,hl,hg,hn=>by
  obtain⟨⟨jb,us,hu,hs,hr⟩,fk⟩:=h
  simp only[List.map_cons,List.sum_cons]at hn
  refine⟨⟨jb,us,hu,hs,fun j x hx=>?_⟩,fm.tS ps _ vs fk hB hl hg (fun n h1 h2=>hn n (by omega) (by omega))⟩
  obtain⟨v',bY,bx⟩:=hr j x hx
  have hj:j<p.2.length:=(List.getElem?_eq_some_iff.1 hx).1
  refine⟨v',bY,?_⟩
  show RV w B' af [CJ (off+j)] x v'
  rw[<-hn (off+j) (by omega) (by omega)]
  exact bx.tS hB hl hg (List.all_eq_true.1 jb x (List.mem_of_getElem? hx))
theorem G0(hR:Rl w0 N lab ρ σ a w)(hv:lu w w' lab bH ρ cB ns cn)(fP:∀ b k,af b=some k->bH b=some k)(jL:∀ b,w.heap.size<=b->bH b=af b)(hB:w0.heap.size<=w.heap.size):
  ∀ (aq:List Mu) (ins outs:List In) (i pos:Nat),(∀ j mu,aq[j]?=some mu->rs[i+j]?=some mu.root)->(∀ mu∈aq,sA σ mu)->Aa aq ins->i+aq.length<=40->zW w w' af (pW w ρ rs) nm i pos ins outs->
  (∀ k n,(sB c0 pos aq)[k]?=some n->nm (pos+k)=n)->(∀ p∈me w' ρ c0 pos aq outs,cB p.1 = .bX p.2)->(∀ mu∈aq,aN mu.root cn=false)->outs.all L6=true->∀ p∈gz ns cn c0 pos aq outs,bU w' w0.heap.size bH cB p.1 p.2
 | [],[],[],_,_,_,_,_,_,_,_,_,_,_,p,hp=>by simp[gz]at hp
 | [],[],_ :: _,_,_,_,_,_,_,h,_,_,_,_,_,_=>h.elim
 | [],_ :: _,_,_,_,_,_,h,_,_,_,_,_,_,_,_=>h.elim
 | .blk _ _ _ :: _,[],_,_,_,_,_,h,_,_,_,_,_,_,_,_=>h.elim
 | .sl _ _ :: _,[],_,_,_,_,_,h,_,_,_,_,_,_,_,_=>h.elim
 | .blk _ _ _ :: _,.sl _ :: _,_,_,_,_,_,h,_,_,_,_,_,_,_,_=>h.elim
 | .sl _ _ :: _,.blk _ :: _,_,_,_,_,_,h,_,_,_,_,_,_,_,_=>h.elim
 | .blk _ _ _ :: _,.blk _ :: _,[],_,_,_,_,_,_,h,_,_,_,_,_,_=>h.elim
 | .sl _ _ :: _,.sl _ :: _,[],_,_,_,_,_,_,h,_,_,_,_,_,_=>h.elim
 | .blk _ _ _ :: _,.blk _ :: _,.sl _ :: _,_,_,_,_,_,_,h,_,_,_,_,_,_=>h.elim
 | .sl _ _ :: _,.sl _ :: _,.blk _ :: _,_,_,_,_,_,_,h,_,_,_,_,_,_=>h.elim
 | .blk r cs vs :: aq,.blk UX :: ins,.blk xs :: outs,i,pos,cK,dA,gA,hi,hO,b6,tT,mg,jb,p,hp=>by
  obtain⟨hm,hg,hlen⟩:=dA _ (.head _)
  obtain⟨⟨hw,hx⟩,tQ⟩:=gA
  obtain⟨g1,g2⟩:=GS cs vs hg
  have fh:=cK 0 _ rfl
  rw[Nat.add_zero]at fh
  simp only[List.length_cons]at hi
  have G1:UX.length=cs.length:=by rw[<-hw.1,List.length_map,g1]
  obtain⟨⟨b,off,cells,jc,e,e',h1,h2,h3,h4,h5,h6,h7⟩,G2⟩:=hO
  have bE:=hR.root r _ hm
  generalize hz:ax.blk cs=z at bE
  cases bE with
  | sl=>cases hz
  | mp=>cases hz
  | gh=>cases hz
  | blk b0 om Mf e0 cZ us au hl hh hs hc=>
   injection hz with hz
   subst hz
   rw[zZ fh (by omega)]at h1
   have h1:ρ r = .blk b off:=h1
   rw[au]at h1
   injection h1 with e1 e2
   subst e1 e2
   have UY:Mf=cells:=by
    rw[hh]at h2
    injection h2 with h2
    injection h2
   subst UY
   have aX:=mg _ (.head _)
   have n9:cB r = .blk b0 om:=(hv.b8 r aX).trans au
   have Af:nm pos=r:=by have:=b6 0 r rfl;rwa [Nat.add_zero]at this
   have UZ:∀ (j:Nat) n,(iA c0 (pos+1) vs)[j]?=some n->nm (pos+1+j)=n:=by
    intro j n hn
    have hj:j<(iA c0 (pos+1) vs).length:=(List.getElem?_eq_some_iff.1 hn).1
    have:=b6 (j+1) n (by simp only[sB,List.getElem?_cons_succ];rw[List.getElem?_append_left hj];exact hn)
    rw[show pos+1+j=pos+(j+1) by omega]
    exact this
   have og:∀ (j:Nat) x,xs[j]?=some x->∃ u,jc[om+j]?=some u/\w'.cell? ⟨b0,om+j,none⟩=some u/\((x.plain=true/\∀ (w:World) (B:Nat) (lab:aH) (q:List Nat),RV w B lab q x u)\/(x.plain=false/\x.av=true/\Mf[om+j]?=some u)\/(x.av=false/\RV w' w.heap.size af [nm (pos+1+j)] x u)):=by
    intro j x hj
    obtain⟨u,hu,hd⟩:=h7 j x hj
    exact⟨u,hu,by rw[cell_of_row w' b0 _ jc _ _ h3];exact hu,hd⟩
   have eH:∀ (j:Nat) n x u,(iA c0 (pos+1) vs)[j]?=some n->xs[j]?=some x->x.av=false->w'.cell? ⟨b0,om+j,none⟩=some u->cB n = .bX u:=by
    intro j n x u hn U0 hf hu
    have sr:=Me (w:=w') (b:=b0) (off:=om) _ xs 0 j hn U0 hf
    rw[Nat.zero_add,hu]at sr
    exact tT (n,u) (by simp only[me,au,GY];exact List.mem_append_left _ sr)
   simp only[gz]at hp
   rcases List.mem_cons.1 hp with rfl | hp
   ·obtain⟨k1,k2⟩:=Mc (ns:=ns) (cn:=cn) (iA c0 (pos+1) vs) cs xs (by rw[Ae,g1]) (by rw[h6,G1])
    refine .blk b0 om jc e' _ (fun j=>jc.getD (om+j) undef) n9 (fP _ _ (by rw[h4,Af])) h3 (by show om+(jV _ _ _ _ _).length<=_;rw[k1,<-G1,<-h6];exact h5) (fun j z hz=>?_)
    obtain⟨n,l,x,n1,n2,n3,rfl⟩:=k2 j z hz
    obtain⟨u,hu,G3,hd⟩:=og j x n3
    have eu:jc.getD (om+j) undef=u:=by rw[Array.getD_eq_getD_getElem?,hu];rfl
    rw[eu]
    refine⟨hu,?_⟩
    rcases hd with ⟨d1,d2⟩ | ⟨d1,d2,d3⟩ | ⟨d1,d2⟩
    ·rw[d1,cond_true]
     exact⟨V.zy d1,d2 _ _ _ _⟩
    ·rw[d1,d2,cond_false,cond_true]
     obtain⟨c1,c2⟩:=hc j l n2
     rw[c1]at d3
     injection d3 with d3
     rw[<-d3]
     exact c2.eX hv
    ·have kG:x.plain=false:=by
      cases kG:x.plain with
      | false=>rfl
      | true=>rw[V.zy kG]at d1;cases d1
     rw[kG,d1,cond_false,cond_false]
     exact⟨d2.Ca d1,by simp only[aP,eH j n x u n1 n3 d1 G3]⟩
   ·rcases List.mem_append.1 hp with hp | hp
    ·obtain⟨j,x,n1,n2,n3,n4⟩:=Md _ _ p hp
     obtain⟨u,hu,G3,hd⟩:=og j x n2
     rw[n4]
     refine .sl u x (eH j p.1 x u n1 n2 n3 G3) ?_
     rcases hd with ⟨d1,d2⟩ | ⟨d1,d2,d3⟩ | ⟨d1,d2⟩
     ·exact d2 _ _ _ _
     ·rw[n3]at d2;cases d2
     ·rw[UZ j _ n1]at d2
      refine d2.tS hB jL fP ?_
      rw[List.all_cons,Bool.and_eq_true]at jb
      have:=List.all_eq_true.1 jb.1 x (List.mem_of_getElem? n2)
      rwa [n3,Bool.false_or]at this
    ·rw[List.all_cons,Bool.and_eq_true]at jb
     refine G0 hR hv fP jL hB aq ins outs (i+1) (pos+1+vs.length) (fun j mu tR=>?_) (fun mu h=>dA mu (.tail _ h)) tQ (by omega) ?_ (fun k n hn=>?_) (fun p hp=>tT p ?_) (fun mu h=>mg mu (.tail _ h)) jb.2 p hp
     ·have:=cK (j+1) mu (by simpa using tR)
      rw[show i+(j+1)=i+1+j by omega]at this
      exact this
     ·rw[g1,<-G1]
      exact G2
     ·have:=b6 (1+vs.length+k) n (by
       rw[show 1+vs.length+k=(vs.length+k)+1 by omega]
       simp only[sB,List.getElem?_cons_succ]
       rw[List.getElem?_append_right (by rw[Ae];omega),Ae]
       rw[show vs.length+k-vs.length=k by omega]
       exact hn)
      rw[show pos+1+vs.length+k=pos+(1+vs.length+k) by omega]
      exact this
     ·simp only[me]
      exact List.mem_append_right _ hp
 | .sl q y0 :: aq,.sl y1 :: ins,.sl y :: outs,i,pos,cK,dA,gA,hi,hO,b6,tT,mg,jb,p,hp=>by
  obtain⟨hm,hf⟩:=dA _ (.head _)
  obtain⟨_,tQ⟩:=gA
  have fh:=cK 0 _ rfl
  rw[Nat.add_zero]at fh
  simp only[List.length_cons]at hi
  obtain⟨U1,G2⟩:=hO
  rw[List.all_cons,Bool.and_eq_true]at jb
  have Af:nm pos=q:=by have:=b6 0 q rfl;rwa [Nat.add_zero]at this
  have hp:(p=(q,.sl y)/\y.fK=true)\/p∈gz ns cn c0 (pos+1) aq outs:=by
   simp only[gz]at hp
   cases hy:y.fK with
   | false=>rw[hy]at hp;exact .inr hp
   | true=>
    rw[hy]at hp
    rcases List.mem_cons.1 hp with h | h
    ·exact .inl ⟨h,rfl⟩
    ·exact .inr h
  rcases hp with ⟨rfl,hy⟩ | hp
  ·obtain⟨v,h1,h2⟩:=U1.resolve_left (by rintro rfl;cases hy)
   rw[zZ fh (by omega)]at h1
   rw[Af]at h2
   exact .sl v y ((hv.b8 q (mg _ (.head _))).trans h1) (h2.tS hB jL fP jb.1)
  ·refine G0 hR hv fP jL hB aq ins outs (i+1) (pos+1) (fun j mu tR=>?_) (fun mu h=>dA mu (.tail _ h)) tQ (by omega) G2 (fun k n hn=>?_) (fun p hp=>tT p hp) (fun mu h=>mg mu (.tail _ h)) jb.2 p hp
   ·have:=cK (j+1) mu (by simpa using tR)
    rw[show i+(j+1)=i+1+j by omega]at this
    exact this
   ·have:=b6 (k+1) n (by simpa [sB]using hn)
    rw[show pos+1+k=pos+(k+1) by omega]
    exact this
end
end Go.Proofs.YtjldnlbiefpekaaDoor
namespace Go.Proofs.YtjldnlbiefpekaaDoor
open Go.RowKit
set_option linter.unusedVariables false
section
variable {P:Program} {w w':World} {w0:Wd} {B N:Nat} {lab bH af:aH} {ρ cB ρ':Nat->Loc} {σ:S} {a:Act} {X:Type} {d:Nat} {r:X} {ns cn:List Nat} {o:Oper} {rs:List Nat} {cq:List (Nat×Nat)} {nm CJ:Nat->Nat} {c0:Nat}
theorem U2{dst:Option Tmp}{res:dz}{k:S->Option X}(h:iC N σ dst res k=some r):∃ aa,k aa=some r/\∀ lab ρ a w v,Rl w0 N lab ρ σ a w->jx w w0.heap.size lab (fun n=>dW dst+n) res v->∃ ρ',Rl w0 N lab ρ' aa (a.put dst v) w/\∀ r,r<dW dst->ρ' r=ρ r:=by
 unfold iC at h
 cases dst with
 | none=>exact⟨σ,h,fun lab ρ a w v hR _=>⟨ρ,hR,fun _ _=>rfl⟩⟩
 | some d=>
  have h:(bif Nat.blt d N then (match res with
   | .one p=>(match mb (p.1,fO (1000000000100000+1000*d) p.2)with
    | some y=>k ((dF (1000000000100000+1000*d) σ p.2).set d y)
    | none=>none)
   | .aU ps=>k ((eW (1000000000100000+1000*d) σ ps).set d (.aU (gv (1000000000100000+1000*d) ps))))else none)=some r:=h
  cases hN:Nat.blt d N with
  | false=>rw[hN]at h;cases h
  | true=>
   rw[hN,cond_true]at h
   have pR:d<N:=Nat.le_of_ble_eq_true hN
   cases res with
   | one p=>
    simp only at h
    split at h
    ·rename_i y hy
     refine⟨_,h,fun lab ρ a w v hR er=>?_⟩
     obtain⟨ρ',gb,dV,_,dP⟩:=zQ [p] (1000000000100000+1000*d) 0 σ ρ [v] (by omega) hR er
     have GC:=dP 0 _ v rfl rfl
     exact⟨ρ',gb.set (Gc hy GC) pR,dV⟩
    ·cases h
   | aU jS=>
    refine⟨_,h,fun lab ρ a w v hR er=>?_⟩
    obtain⟨vs,rfl,hv⟩:=er
    obtain⟨ρ',gb,dV,hlen,dP⟩:=zQ jS (1000000000100000+1000*d) 0 σ ρ vs.toList (by omega) hR hv
    refine⟨ρ',gb.set ⟨vs,rfl,by simpa using hlen,fun j p hp=>?_⟩ pR,dV⟩
    have hj:j<vs.size:=by
     have:=(List.getElem?_eq_some_iff.1 hp).1
     rw[Nat.add_zero]at hlen
     rw[<-hlen]at this
     simpa using this
    exact⟨vs[j],Array.getElem?_eq_getElem hj,dP j p _ hp (by rw[Array.getElem?_toList,Array.getElem?_eq_getElem hj])⟩
theorem G4{f:Nat}{args:Array Operand}{bG:Array TypeId}{c:gy}{k:S->Option X}(ho:o.op = .call { callee:=.value (.func f),args,argTypes:=bG })(he:enters P f)(hc:mR P f c)(h:gM N σ o.dst c args.toList k=some r):∃ aa aq cn,k aa=some r/\fo σ c.ps args.toList=some aq/\(∀ n,aN n cn=true->n<N\/60000<=n)/\(∀ mu∈aq,aN mu.root cn=false)/\
  ∀ a w K Q lab ρ,Rl w0 N lab ρ σ a w->(∀ v w' bH cB mh,Rl w0 N bH mh aa (a.put o.dst v) w'->lu w w' lab bH ρ cB ((gf 0 aq).map (·.1)) cn->eL w0 w w'->(∀ r,r<dW o.dst->mh r=cB r)->K (a.put o.dst v) w')->o.wp P a w K Q:=by
 unfold gM at h
 split at h
 ·rename_i aq iF
  generalize pX:gf 0 aq=cq at h
  cases eO:(once cq&&Nat.ble aq.length 40)with
  | false=>rw[eO]at h;cases h
  | true=>
   rw[eO,cond_true]at h
   rw[Bool.and_eq_true]at eO
   have acZ:=Nat.le_of_ble_eq_true eO.2
   have mP:∀ p∈gf 0 aq,cq.lookup p.1=some p.2:=by
    intro p hp
    rw[pX]at hp
    have:=List.all_eq_true.1 eO.1 p hp
    obtain⟨n,hn,he⟩:=(Option.any_eq_true _ _).1 this
    rw[hn,Nat.eq_of_beq_eq_true he]
   obtain⟨x,h2,gA,ac0,cR⟩:=CF (w0:=w0) (N:=N) _ _ aq _ iF h
   clear h
   split at h2
   ·rename_i y hy
    unfold sC at h2
    generalize mg:iB (dW o.dst) (cG c.ro y.1).len aq (eA (cJ c.ps) y.2)=cn at h2
    generalize mG:cq.map (·.1)=ns at h2 cR
    cases bM:tP N aq (eA (cJ c.ps) y.2) cn with
    | false=>rw[bM]at h2;cases h2
    | true=>
     rw[bM,cond_true]at h2
     simp only[tP,Bool.and_eq_true]at bM
     obtain⟨⟨⟨U3,Mg⟩,Mh⟩,U4⟩:=bM
     obtain⟨aa,h3,CK⟩:=U2 (w0:=w0) h2
     refine⟨aa,aq,cn,h3,iF,fun n hn=>?_,fun mu dA=>by simpa using List.all_eq_true.1 Mg mu dA,fun a w K Q lab ρ hR hK=>?_⟩
     ·have:=List.all_eq_true.1 Mh n (mS.1 hn)
      rw[Bool.or_eq_true]at this
      rcases this with h | h
      ·exact .inl (by have:=Nat.le_of_ble_eq_true h;omega)
      ·exact .inr (Nat.le_of_ble_eq_true h)
     have hS:tO ns lab (cA lab cq id):=by rw[<-mG];exact UU (fun b k U=>(hR.bh b k U).2.2)
     have Mi:=CE _ _ _ iF
     let rs:=aq.map Mu.root
     have cK:∀ j mu,aq[j]?=some mu->rs[0+j]?=some mu.root:=by
      intro j mu hj
      rw[Nat.zero_add,List.getElem?_map,hj]
      rfl
     have hE:=GW (rs:=rs) hR hS aq (lq c.ps x) 0 mP cK Mi gA (by omega)
     have hA:=cR lab ρ a w (cA lab cq id) (pW w ρ rs) hR hS (lq c.ps x) 0 (fun j z hz=>by rw[Nat.zero_add];exact hz) (fun j mu hj=>by
      have h1:=cK j mu hj
      rw[Nat.zero_add]at h1 ⊢
      exact zZ h1 (by have:=(List.getElem?_eq_some_iff.1 hj).1;omega))
     obtain⟨U5,U6⟩:=wI.get _ _ hA
     let nm:Nat->Nat:=fun n=>if n<(cG c.ro y.1).len then dW o.dst+n else (sB (dW o.dst) (cG c.ro y.1).len aq).getD (n-(cG c.ro y.1).len) 0
     have dP:∀ (ps:List PK) (i:Nat) (x:jd ps),(iz ps i x).length=ps.length:=by
      intro ps
      induction ps with
      | nil=>intro i x;rfl
      | cons p ps ih=>
       intro i x
       cases p with
       | v=>exact congrArg (· + 1) (ih _ _)
       | p=>exact congrArg (· + 1) (ih _ _)
       | s=>exact congrArg (· + 1) (ih _ _)
     unfold Oper.wp
     rw[Cy w o a f args bG ho he,Oper.upon_enter]
     have jR:(args.map a.eval)=(args.toList.map a.eval).toArray:=by apply Array.ext';rw[Array.toList_map]
     rw[jR]
     have CL:∀ b k,cA lab cq id b=some k->(∃ k',lab b=some k'/\aT k' ns=true)/\k≠[]:=by
      intro b k U
      cases hl:lab b with
      | none=>rw[hS.none b hl]at U;cases U
      | some k'=>
       refine⟨⟨k',rfl,?_⟩,?_⟩
       ·cases hq:aT k' ns with
        | true=>rfl
        | false=>rw[(hS.rest b k' hl).2 hq]at U;cases U
       ·simp only[cA,hl]at U
        split at U
        ·cases U
        ·cases Mj:cq.lookup _ with
         | none=>rw[Mj]at U;cases U
         | some n=>rw[Mj]at U;injection U with U;subst U;simp
     have hQ:Hd w (cA lab cq id):=w0.on hR.below (fun b k U=>by obtain⟨⟨k',hl,_⟩,_⟩:=CL b k U;exact(hR.bh b k' hl).1)
     refine(hc x y hy nm w (cA lab cq id) (pW w ρ rs) _ hE (fun b k U=>⟨?_,(CL b k U).2⟩) ?_ U6 hQ).mono fun e w' fG=>?_
     ·obtain⟨⟨k',hl,_⟩,_⟩:=CL b k U
      exact(hR.bh b k' hl).2.1
     ·rw[List.size_toArray,U5,dP]
     ·obtain⟨v,gx,rfl,dj,wJ,er,G5⟩:=fG
      have hB:=hR.below.size
      let bH:aH:=fun b=>match cA lab cq id b with
       | none=>if b<w.heap.size then lab b else gx b
       | some _=>gx b
      have e1:∀ b k,gx b=some k->bH b=some k:=by
       intro b k U
       show (match cA lab cq id b with | none=>if b<w.heap.size then lab b else gx b | some _=>gx b)=some k
       split
       ·rename_i aX
        have:=(wJ b k U).1
        have jL:w.heap.size<=b:=this.resolve_right (fun h=>h aX)
        rw[if_neg (by omega)]
        exact U
       ·exact U
      have e2:∀ b,w.heap.size<=b->bH b=gx b:=by
       intro b U
       show (match cA lab cq id b with | none=>if b<w.heap.size then lab b else gx b | some _=>gx b)=gx b
       split
       ·rw[if_neg (by omega)]
       ·rfl
      have Mk:∀ p∈me w' ρ (dW o.dst) (cG c.ro y.1).len aq (eA (cJ c.ps) y.2),(me w' ρ (dW o.dst) (cG c.ro y.1).len aq (eA (cJ c.ps) y.2)).lookup p.1=some p.2:=
       Mb (by rw[CI,mg];exact U3)
      generalize tT:me w' ρ (dW o.dst) (cG c.ro y.1).len aq (eA (cJ c.ps) y.2)=hd at Mk
      have U7:hd.map (·.1)=cn:=by rw[<-tT,CI,mg]
      have hv:lu w w' lab bH ρ (L9 hd ρ) ns cn:=by
       refine⟨dj.size,fun b U hk=>?_,fun n hn=>?_,fun b k U=>(hR.bh b k U).2⟩
       ·have aX:cA lab cq id b=none:=by
         cases hl:lab b with
         | none=>exact hS.none b hl
         | some k=>exact(hS.rest b k hl).2 (hk k hl)
        refine⟨dj.block b U aX,?_⟩
        show (match cA lab cq id b with | none=>if b<w.heap.size then lab b else gx b | some _=>gx b)=lab b
        rw[aX]
        exact if_pos U
       ·show (match hd.lookup n with | some v=>Loc.bX v | none=>ρ n)=ρ n
        rw[Ma (by rw[U7];exact hn)]
      have sE:∀ mu∈aq,aN mu.root cn=false:=fun mu dA=>by simpa using List.all_eq_true.1 Mg mu dA
      have Ag:=G0 (c0:=dW o.dst) (nm:=nm) hR hv e1 e2 hB aq (lq c.ps x) (eA (cJ c.ps) y.2) 0 (cG c.ro y.1).len cK Mi gA (by omega) G5 (fun k n hn=>?_) (fun p hp=>?_) sE U4
      ·have Ml:eL w0 w w':=by
        refine⟨dj.os,dj.tape,dj.output,dj.size,fun k hk hL=>dj.block k (Nat.lt_of_lt_of_le hk hB) ?_⟩
        cases hl:lab k with
        | none=>exact hS.none k hl
        | some k'=>exact absurd hL ((hR.bh k k' hl).1.resolve_left (by omega))
       have gb:Rl w0 N bH (L9 hd ρ) (σ.aG ns cn (gz ns cn (dW o.dst) (cG c.ro y.1).len aq (eA (cJ c.ps) y.2))) a w':=by
        refine hR.eX hv Ml (fun b k U=>?_) (fun n hn=>?_) (fun n z hz=>?_)
        ·have U:(match cA lab cq id b with | none=>if b<w.heap.size then lab b else gx b | some _=>gx b)=some k:=U
         have Mm:gx b=some k->(w0.heap.size<=b\/w0.L b≠none)/\b<w'.heap.size/\k≠[]:=by
          intro h1
          obtain⟨g1,g2,g3⟩:=wJ b k h1
          refine⟨?_,g2,g3⟩
          rcases g1 with g1 | g1
          ·exact .inl (Nat.le_trans hB g1)
          ·cases aX:cA lab cq id b with
           | none=>exact absurd aX g1
           | some k2=>
            obtain⟨⟨k',hl,_⟩,_⟩:=CL b k2 aX
            exact(hR.bh b k' hl).1
         split at U
         ·split at U
          ·have:=hR.bh b k U
           exact⟨this.1,Nat.lt_of_lt_of_le this.2.1 dj.size,this.2.2⟩
          ·exact Mm U
         ·exact Mm U
        ·have:=List.all_eq_true.1 Mh n (mS.1 hn)
         rw[Bool.or_eq_true]at this
         refine hR.cF n ?_
         rcases this with h | h
         ·exact .inl (by have:=Nat.le_of_ble_eq_true h;omega)
         ·exact .inr (Nat.le_of_ble_eq_true h)
        ·have sr:(n,z)∈gz ns cn (dW o.dst) (cG c.ro y.1).len aq (eA (cJ c.ps) y.2):=by
          clear Ag
          generalize gz ns cn (dW o.dst) (cG c.ro y.1).len aq (eA (cJ c.ps) y.2)=l at hz
          induction l with
          | nil=>cases hz
          | cons p l ih=>
           rw[List.lookup_cons]at hz
           cases U:n==p.1 with
           | true=>
            rw[U]at hz
            have e:n=p.1:=by simpa using U
            injection hz with hz
            rw[e,<-hz]
            exact .head _
           | false=>
            rw[U]at hz
            exact .tail _ (ih hz)
         exact Ag (n,z) sr
       have U8:jx w' w0.heap.size bH (fun n=>dW o.dst+n) (cG c.ro y.1) v:=?_
       ·obtain⟨mh,Ah,pY⟩:=CK bH _ a w' v gb U8
        exact hK v w' bH _ mh Ah (by rw[pX,mG];exact hv) Ml pY
       have G6:∀ (L:Nat),L=(cG c.ro y.1).len->∀ n,n<L->nm n=dW o.dst+n:=fun L hL n hn=>if_pos (by omega)
       generalize ac1:cG c.ro y.1=res at er G6
       cases res with
       | one p=>
        have er:fm w' w.heap.size gx nm 0 [p] [v]:=er
        exact fm.tS [p] 0 [v] er hB e2 e1 (fun n _ hn=>G6 _ rfl n (by simpa [dz.len]using hn))
       | aU jS=>
        obtain⟨vs,e,cT⟩:=er
        exact⟨vs,e,fm.tS jS 0 vs.toList cT hB e2 e1 (fun n _ hn=>G6 _ rfl n (by simpa [dz.len]using hn))⟩
      ·show (if (cG c.ro y.1).len+k<(cG c.ro y.1).len then dW o.dst+((cG c.ro y.1).len+k)else (sB (dW o.dst) (cG c.ro y.1).len aq).getD ((cG c.ro y.1).len+k-(cG c.ro y.1).len) 0)=n
       rw[if_neg (by omega),show (cG c.ro y.1).len+k-(cG c.ro y.1).len=k by omega,List.getD_eq_getElem?_getD,hn]
       rfl
      ·rw[tT]at hp
       show (match hd.lookup p.1 with | some v=>Loc.bX v | none=>ρ p.1) = .bX p.2
       rw[Mk p hp]
   ·cases h2
 ·cases h
theorem U9{f:Nat}{args:Array Operand}{bG:Array TypeId}{c:gy}{k:S->Option X}(ho:o.op = .call { callee:=.value (.func f),args,argTypes:=bG })(he:enters P f)(hc:mR P f c)(h:gM N σ o.dst c args.toList k=some r):∃ aa,k aa=some r/\gH P w0 N o σ aa:=by
 obtain⟨aa,aq,cn,h1,_,_,_,h2⟩:=G4 (w0:=w0) ho he hc h
 refine⟨aa,h1,fun a w K Q hR hK=>?_⟩
 obtain⟨lab,ρ,hR⟩:=hR
 exact h2 a w K Q lab ρ hR fun v w' bH cB mh aB _ _ _=>hK _ _ ⟨bH,mh,aB⟩
end
end Go.Proofs.YtjldnlbiefpekaaDoor
