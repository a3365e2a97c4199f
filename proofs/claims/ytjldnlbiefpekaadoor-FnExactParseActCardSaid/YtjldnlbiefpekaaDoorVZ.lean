/-
  Running the program over pure contents, and that it follows (part Z). Nothing here is a claim.
-/
import Derived.Test.YtjldnlbiefpekaaDoorV4
set_option linter.unusedSimpArgs false
namespace Go.Proofs.YtjldnlbiefpekaaDoor
open Go.RowKit
set_option linter.unusedVariables false
section
variable {P:Program} {w w':World} {w0:Wd} {B N:Nat} {lab af:aG} {ρ ρ':Nat->Loc} {σ:S} {a:Act} {X:Type} {d e:Nat} {r:X} {o:Oper} {Φ:b5} {x:au} {u:A}
def cJ(e:Nat)(σ:S):Prop:=σ.drop e=σ
theorem cJ.t_(h:cJ e σ)(k:Nat):(σ.t k).drop e=σ.t k:=congrFun (congrArg S.t h) k
theorem cJ.m_(h:cJ e σ)(r:Nat):(bif Nat.beq r e then none else (σ.m r).map (au.drop e))=σ.m r:=congrFun (congrArg S.m h) r
theorem cJ.ki(h:cJ e σ)(y:Operand):(ah σ y).drop e=ah σ y:=by
 cases y with
 | tmp t=>exact h.t_ t
 | const v=>
  show (vb v).drop e=vb v
  unfold vb
  split <;>rfl
 | global g=>rfl
 | func f=>rfl
def jj(e n:Nat):Bool:=Nat.beq n e
theorem Co(e:Nat):jj e e=true:=Nat.beq_refl e
theorem GK{k:List Nat}(h:aD e k=false):cg (jj e) k=true:=by
 unfold cg
 unfold aD at h
 split
 ·rename_i r hr
  rw[hr]at h
  unfold jj
  cases U:Nat.beq r e with
  | false=>rfl
  | true=>
   have:=Nat.eq_of_beq_eq_true U
   subst this
   simp at h
 ·rfl
theorem Lf.vU{l:Lf}(h:l.drop e=l):l.nr (jj e)=true:=by
 cases l with
 | own k=>
  have h:(bif aD e k then Lf.dead else .own k) = .own k:=h
  cases hl:aD e k with
  | true=>rw[hl]at h;cases h
  | false=>exact GK hl
 | v z=>rfl
 | dead=>rfl
theorem dM.of_map{cs:List Lf}(h:cs.map (Lf.drop e)=cs):∀ c∈cs,c.drop e=c:=by
 induction cs with
 | nil=>intro c hc;cases hc
 | cons c cs ih=>
  rw[List.map_cons]at h
  injection h with h1 h2
  intro c' hc
  rcases List.mem_cons.1 hc with rfl | hc
  ·exact h1
  ·exact ih h2 c' hc
theorem dM.Me{cs:List Lf}(h:∀ c∈cs,c.drop e=c):cs.map (Lf.drop e)=cs:=by
 rw[List.map_congr_left h,List.map_id']
theorem A.vU{y:A}(h:y.drop e=y):y.nr (jj e)=true:=by
 cases y with
 | lf l=>injection h with h;exact Lf.vU h
 | agg cs=>
  injection h with h
  exact List.all_eq_true.2 fun c hc=>Lf.vU (dM.of_map h c hc)
 | aU xs=>
  injection h with h
  refine List.all_eq_true.2 fun q hq=>List.all_eq_true.2 fun c hc=>Lf.vU ?_
  have h2:∀ q∈xs,(q.1,q.2.map (Lf.drop e))=q:=by
   clear hq
   induction xs with
   | nil=>intro q hq;cases hq
   | cons z zs ih=>
    rw[List.map_cons]at h
    injection h with h1 h2
    intro q hq
    rcases List.mem_cons.1 hq with rfl | hq
    ·exact h1
    ·exact ih h2 q hq
  exact dM.of_map (congrArg Prod.snd (h2 q hq)) c hc
 | ptr k=>
  have h:(bif aD e k then A.undef else .ptr k) = .ptr k:=h
  cases hl:aD e k with
  | true=>rw[hl]at h;cases h
  | false=>exact GK hl
 | view k s i j=>
  have h:(bif aD e k then A.undef else .view k s i j) = .view k s i j:=h
  cases hl:aD e k with
  | true=>rw[hl]at h;cases h
  | false=>exact GK hl
 | aE r j=>
  have h:(bif Nat.beq r e then A.undef else .aE r j) = .aE r j:=h
  cases hl:Nat.beq r e with
  | true=>rw[hl]at h;cases h
  | false=>show (!jj e r)=true;unfold jj;rw[hl];rfl
 | pk r j=>
  have h:(bif Nat.beq r e then A.undef else .pk r j) = .pk r j:=h
  cases hl:Nat.beq r e with
  | true=>rw[hl]at h;cases h
  | false=>show (!jj e r)=true;unfold jj;rw[hl];rfl
 | fn f cap=>
  have h:(bif cap.any (fun p=>Nat.beq p.1 e)then A.undef else .fn f cap) = .fn f cap:=h
  cases hl:cap.any (fun p=>Nat.beq p.1 e)with
  | true=>rw[hl]at h;cases h
  | false=>
   refine List.all_eq_true.2 fun q hq=>?_
   have:=List.any_eq_false.1 hl q hq
   show (!jj e q.1)=true
   unfold jj
   cases U:Nat.beq q.1 e with
   | false=>rfl
   | true=>exact absurd U this
 | _=>rfl
theorem Lf.mM(l:Lf):(l.drop e).drop e=l.drop e:=by
 cases l with
 | own k=>
  show Lf.drop e (bif aD e k then Lf.dead else .own k)=(bif aD e k then Lf.dead else .own k)
  cases hl:aD e k with
  | true=>rfl
  | false=>
   show (bif aD e k then Lf.dead else .own k)=_
   rw[hl,cond_false]
 | _=>rfl
theorem dM.mM(cs:List Lf):(cs.map (Lf.drop e)).map (Lf.drop e)=cs.map (Lf.drop e):=by
 rw[List.map_map]
 exact List.map_congr_left fun c _=>Lf.mM c
theorem A.mM(y:A):(y.drop e).drop e=y.drop e:=by
 cases y with
 | lf l=>exact congrArg A.lf (Lf.mM l)
 | agg cs=>exact congrArg A.agg (dM.mM cs)
 | aU xs=>
  show A.aU ((xs.map fun p=>(p.1,p.2.map (Lf.drop e))).map fun p=>(p.1,p.2.map (Lf.drop e)))=A.aU (xs.map fun p=>(p.1,p.2.map (Lf.drop e)))
  rw[List.map_map]
  refine congrArg A.aU (List.map_congr_left fun p _=>?_)
  exact congrArg (Prod.mk p.1) (dM.mM p.2)
 | ptr k=>
  show A.drop e (bif aD e k then A.undef else .ptr k)=(bif aD e k then A.undef else .ptr k)
  cases hl:aD e k with
  | true=>rfl
  | false=>show (bif aD e k then A.undef else .ptr k)=_;rw[hl,cond_false]
 | view k s i j=>
  show A.drop e (bif aD e k then A.undef else .view k s i j)=(bif aD e k then A.undef else .view k s i j)
  cases hl:aD e k with
  | true=>rfl
  | false=>show (bif aD e k then A.undef else .view k s i j)=_;rw[hl,cond_false]
 | aE r j=>
  show A.drop e (bif Nat.beq r e then A.undef else .aE r j)=(bif Nat.beq r e then A.undef else .aE r j)
  cases hl:Nat.beq r e with
  | true=>rfl
  | false=>show (bif Nat.beq r e then A.undef else .aE r j)=_;rw[hl,cond_false]
 | pk r j=>
  show A.drop e (bif Nat.beq r e then A.undef else .pk r j)=(bif Nat.beq r e then A.undef else .pk r j)
  cases hl:Nat.beq r e with
  | true=>rfl
  | false=>show (bif Nat.beq r e then A.undef else .pk r j)=_;rw[hl,cond_false]
 | fn f cap=>
  show A.drop e (bif cap.any (fun p=>Nat.beq p.1 e)then A.undef else .fn f cap)=(bif cap.any (fun p=>Nat.beq p.1 e)then A.undef else .fn f cap)
  cases hl:cap.any (fun p=>Nat.beq p.1 e)with
  | true=>rfl
  | false=>show (bif cap.any (fun p=>Nat.beq p.1 e)then A.undef else .fn f cap)=_;rw[hl,cond_false]
 | _=>rfl
theorem au.mM(y:au):(y.drop e).drop e=y.drop e:=by
 cases y with
 | blk cs=>exact congrArg au.blk (dM.mM cs)
 | sl y=>rfl
 | mp l=>rfl
 | gh xs=>
  refine congrArg au.gh ?_
  rw[List.map_map]
  exact List.map_congr_left fun x _=>A.mM x
theorem cJ.drop(σ:S):cJ e (σ.drop e):=by
 refine S.ext' (fun k=>A.mM _) fun n=>?_
 show (bif Nat.beq n e then none else ((bif Nat.beq n e then none else (σ.m n).map (au.drop e))).map (au.drop e))=(bif Nat.beq n e then none else (σ.m n).map (au.drop e))
 cases Nat.beq n e with
 | true=>rfl
 | false=>
  simp only[cond_false]
  cases σ.m n with
  | none=>rfl
  | some y=>simp only[Option.map_some,au.mM]
theorem cJ.set(h:cJ e σ){v:A}(hv:v.drop e=v)(d:Nat):cJ e (σ.set d v):=by
 refine S.ext' (fun k=>?_) fun n=>h.m_ n
 show (aH σ.t d v k).drop e=aH σ.t d v k
 by_cases hk:k=d
 ·subst hk;rw[aJ,hv]
 ·rw[aQ _ _ _ hk,h.t_]
theorem cJ.put(h:cJ e σ){v:A}(hv:v.drop e=v)(dst:Option Tmp):cJ e (cR σ dst v):=by
 cases dst with
 | none=>exact h
 | some d=>exact h.set hv d
theorem cJ.sl(h:cJ e σ){c:Nat}(z:V)(hc:e≠c):cJ e ((σ.drop c).root c (.sl z)):=by
 refine S.ext' (fun k=>?_) fun n=>?_
 ·show ((σ.t k).drop c).drop e=(σ.t k).drop c
  rw[A.jF,h.t_]
 ·show (bif Nat.beq n e then none else (((σ.drop c).root c (.sl z)).m n).map (au.drop e))=((σ.drop c).root c (.sl z)).m n
  rw[Gr]
  by_cases hn:n=c
  ·rw[if_pos hn,Ce (by rintro rfl;exact hc hn),cond_false];rfl
  ·rw[if_neg hn]
   have hm:=h.m_ n
   cases U:Nat.beq n e with
   | true=>
    rw[U,cond_true]at hm
    rw[<-hm];rfl
   | false=>
    rw[U,cond_false]at hm
    rw[cond_false]
    cases hz:σ.m n with
    | none=>rfl
    | some y=>
     rw[hz]at hm
     injection hm with hm
     simp only[Option.map_some]
     rw[au.jF,hm]
theorem cJ.dw(hc:e<d):∀ (xs:List V) (c:Nat) (σ:S),d<=c->cJ e σ->cJ e (dw c σ xs)
 | [],c,σ,_,h=>h
 | x :: xs,c,σ,hd,h=>by
  simp only[Go.Proofs.YtjldnlbiefpekaaDoor.dw]
  refine cJ.dw hc xs (c+1) _ (by omega) ?_
  cases x.av with
  | true=>exact h
  | false=>exact h.sl x (by omega)
theorem cJ.eN(hc:e<d):∀ (ps:List Pt) (c:Nat) (σ:S),d<=c->cJ e σ->cJ e (eN c σ ps)
 | [],c,σ,_,h=>h
 | q :: ps,c,σ,hd,h=>cJ.eN hc ps _ _ (by omega) (cJ.dw hc q.2 c σ hd h)
/-! Values. -/
theorem cJ.V7(y:Operand):ah (σ.root e x) y=ah σ y:=by cases y <;>rfl
theorem cJ.Mf{l:Lf}(hl:l.nr (jj e)=true)(k:V->Option X):dP (σ.root e x) l k=dP σ l k:=by
 cases l with
 | own q=>exact pF (Co e) q k hl
 | v z=>rfl
 | dead=>rfl
theorem cJ.val(h:cJ e σ){op:Op}(cO:BX op=true)(k:A->Option X):aX P (σ.root e x) op k=aX P σ op k:=by
 have ho:∀ y,ah (σ.root e x) y=ah σ y:=cJ.V7
 have hn:∀ y,(ah σ y).nr (jj e)=true:=fun y=>A.vU (h.ki y)
 cases op with
 | move y=>simp only[aX,ho]
 | assign y=>simp only[aX,ho]
 | unOp f t y=>simp only[aX,ho]
 | field s y f=>simp only[aX,ho]
 | fieldAddr s y f=>simp only[aX,ho]
 | index t y i=>simp only[aX,ho]
 | load t y=>
  simp only[aX,ho]
  have h1:=hn y
  generalize ah σ y=u at h1
  unfold eF
  split
  ·rfl
  ·split
   ·rename_i r j
    have hr:r≠e:=by
     rintro rfl
     have h1:(!jj r r)=true:=h1
     rw[Co]at h1
     cases h1
    have:(σ.root e x).m r=σ.m r:=aQ _ _ _ hr
    rw[this]
   ·rfl
   ·rename_i j i s q
    have hk:cg (jj e) (j :: i :: s :: q)=true:=h1
    cases q with
    | nil=>rfl
    | cons q0 q=>
     refine pF (Co e) _ _ ?_
     simpa [cg,List.getLast?_cons_cons]using hk
   ·rfl
 | binOp f t y z yt=>
  simp only[aX,ho]
  refine BZ fun l hl k=>cJ.Mf ?_ k
  have h1:=hn y
  rw[hl]at h1
  exact h1
 | call c=>
  obtain⟨callee,⟨args⟩,⟨bD⟩⟩:=c
  cases callee with
  | builtin b=>
   cases b <;>try (cases cO)
   match args,bD with
   | [y],[t]=>
    simp only[aX,ho]
    have h1:=hn y
    generalize ah σ y=u at h1
    unfold gY
    split
    ·exact cJ.Mf h1 _
    ·rfl
    ·rfl
   | [],_=>rfl
   | [_],[]=>rfl
   | [_],_ :: _ :: _=>rfl
   | _ :: _ :: _,_=>rfl
  | _=>cases cO
 | _=>cases cO
theorem GL{t:TypeId}{cs:List Lf}{v:A}(h:fF P t cs some=some v)(hc:∀ c∈cs,c.drop e=c):v.drop e=v:=by
 unfold fF at h
 split at h
 ·split at h
  ·split at h
   ·injection h with h;subst h;exact congrArg A.agg (dM.Me hc)
   ·split at h
    ·injection h with h;subst h;exact congrArg A.lf (hc _ (.head _))
    ·cases h
   ·cases h
  ·cases h
 ·cases h
theorem V8{op:BinOp}{t:TypeId}{y z:A}{v:A}(h:gb P σ op t y z some=some v):v.drop e=v:=by
 have fin:∀ (a b:A),(vK a fun a=>vK b fun b=>gX P t op a b fun z=>some (A.lf (.v z)))=some v->v.drop e=v:=by
  intro a b h
  obtain⟨_,h1,_⟩:=vu h
  obtain⟨_,h2,_⟩:=vu h1
  obtain⟨_,h3,_⟩:=KZ h2
  injection h3 with h3
  subst h3
  rfl
 unfold gb at h
 split at h
 ·split at h
  ·rename_i cs ds xs ys _ _
   cases U:(P.eqGuardType P.depth t || !isStr P t)with
   | true=>rw[U]at h;cases h
   | false=>
    rw[U,cond_false]at h
    split at h
    ·injection h with h;subst h;rfl
    ·cases h
  ·cases h
 ·split at h
  ·obtain⟨z,h1,hz⟩:=rL h
   clear hz
   split at h1
   ·injection h1 with h1;subst h1;rfl
   ·injection h1 with h1;subst h1;rfl
   ·rename_i l
    cases U:sL l with
    | true=>rw[U]at h1;cases h1
    | false=>rw[U]at h1;injection h1 with h1;subst h1;rfl
   ·cases h1
  ·cases h
 ·exact fin _ _ h
theorem cJ.res(h:cJ e σ){op:Op}(cO:BX op=true){v:A}(hv:aX P σ op some=some v):v.drop e=v:=by
 cases op with
 | move y=>simp only[aX]at hv;injection hv with hv;subst hv;exact h.ki y
 | assign y=>simp only[aX]at hv;injection hv with hv;subst hv;exact h.ki y
 | unOp f t y=>
  simp only[aX]at hv
  obtain⟨_,h1,_⟩:=vu hv
  obtain⟨_,h2,_⟩:=K0 h1
  injection h2 with h2
  subst h2
  rfl
 | field s y f=>
  simp only[aX]at hv
  have h1:=h.ki y
  generalize ah σ y=u at h1 hv
  unfold oK at hv
  split at hv
  ·rename_i fd cs _
   injection h1 with h1
   have hc:=dM.of_map h1
   split at hv
   ·split at hv
    ·injection hv with hv
     subst hv
     exact congrArg A.agg (dM.Me fun c hm=>hc c (List.mem_of_mem_drop (List.mem_of_mem_take hm)))
    ·cases hv
   ·split at hv
    ·rename_i z hz
     injection hv with hv
     subst hv
     exact congrArg A.lf (hc _ (List.mem_of_getElem? hz))
    ·cases hv
   ·cases hv
  ·cases hv
 | fieldAddr s y f=>
  simp only[aX]at hv
  have h1:=h.ki y
  generalize ah σ y=u at h1 hv
  unfold l7 at hv
  split at hv
  ·cases hv
  ·split at hv
   ·split at hv
    ·rename_i r j
     injection hv with hv
     subst hv
     have h1:(bif Nat.beq r e then A.undef else .aE r j) = .aE r j:=h1
     cases hl:Nat.beq r e with
     | true=>rw[hl]at h1;cases h1
     | false=>show (bif Nat.beq r e then A.undef else _)=_;rw[hl,cond_false]
    ·injection hv with hv;subst hv;rfl
    ·rename_i j i s' q
     injection hv with hv
     subst hv
     have h1:(bif aD e (j :: i :: s' :: q)then A.undef else .ptr (j :: i :: s' :: q)) = .ptr (j :: i :: s' :: q):=h1
     cases hl:aD e (j :: i :: s' :: q)with
     | true=>rw[hl]at h1;cases h1
     | false=>
      have ez:∀ j',aD e (j' :: i :: s' :: q)=false:=by
       intro j'
       unfold aD at hl ⊢
       simpa [List.getLast?_cons_cons]using hl
      show (bif aD e _ then A.undef else _)=_
      rw[ez,cond_false]
    ·cases hv
   ·cases hv
 | index t y i=>
  simp only[aX]at hv
  unfold qW at hv
  split at hv
  ·split at hv
   ·split at hv
    ·injection hv with hv;subst hv;rfl
    ·cases hv
   ·cases hv
  ·cases hv
 | load t y=>
  simp only[aX]at hv
  have h1:=h.ki y
  generalize ah σ y=u at h1 hv
  unfold eF at hv
  split at hv
  ·cases hv
  ·split at hv
   ·rename_i r j
    split at hv
    ·rename_i cs bU
     have hm:=h.m_ r
     rw[bU]at hm
     have hc:cs.map (Lf.drop e)=cs:=by
      cases U:Nat.beq r e with
      | true=>rw[U]at hm;cases hm
      | false=>
       rw[U]at hm
       injection hm with hm
       injection hm
     exact GL hv fun c hm=>dM.of_map hc c (List.mem_of_mem_drop (List.mem_of_mem_take hm))
    ·cases hv
   ·refine GL hv fun c hm=>?_
    obtain⟨z,_,rfl⟩:=List.mem_map.1 hm
    rfl
   ·rename_i j i s q
    obtain⟨y,h2,hg,_⟩:=lT _ _ hv
    have hq:∀ j',aD e (j' :: i :: s :: q)=false:=by
     have h1:(bif aD e (j :: i :: s :: q)then A.undef else .ptr (j :: i :: s :: q)) = .ptr (j :: i :: s :: q):=h1
     have hl:aD e (j :: i :: s :: q)=false:=by
      cases hl:aD e (j :: i :: s :: q)with
      | false=>rfl
      | true=>rw[hl]at h1;cases h1
     intro j'
     unfold aD at hl ⊢
     simpa [List.getLast?_cons_cons]using hl
    split at h2
    ·split at h2
     ·split at h2
      ·refine GL h2 fun c hm=>?_
       obtain⟨n,hn⟩:=List.getElem?_of_mem hm
       rw[EE]at hn
       obtain⟨z,_,rfl⟩:=Option.map_eq_some_iff.1 hn
       cases z.av with
       | true=>rfl
       | false=>
        show (bif aD e _ then Lf.dead else _)=_
        rw[hq]
        rfl
      ·cases h2
     ·cases h2
    ·cases h2
   ·cases hv
 | binOp f t y z yt=>exact V8 (by simpa only [aX]using hv)
 | call c=>
  obtain⟨callee,⟨args⟩,⟨bD⟩⟩:=c
  cases callee with
  | builtin b=>
   cases b <;>try (cases cO)
   match args,bD,hv with
   | [y],[t],hv=>
    simp only[aX]at hv
    unfold gY at hv
    split at hv
    ·obtain⟨_,h1,_⟩:=rL hv
     split at h1
     ·split at h1
      ·injection h1 with h1;subst h1;rfl
      ·cases h1
     ·split at h1
      ·injection h1 with h1;subst h1;rfl
      ·cases h1
     ·split at h1
      ·injection h1 with h1;subst h1;rfl
      ·cases h1
     ·cases h1
    ·split at hv
     ·injection hv with hv;subst hv;rfl
     ·cases hv
    ·cases hv
   | [],_,hv=>cases hv
   | [_],[],hv=>cases hv
   | [_],_ :: _ :: _,hv=>cases hv
   | _ :: _ :: _,_,hv=>cases hv
  | _=>cases cO
 | _=>cases cO
theorem V9{op:Op}(h:BX op=true):cP op=true:=by
 cases op with
 | call c=>
  obtain⟨callee,args,bD⟩:=c
  cases callee with
  | builtin b=>cases b <;>first | rfl | cases h
  | _=>cases h
 | _=>first | rfl | cases h
theorem Wa[Inhabited Wd](aI:dn P Φ){ops:Array Oper}{oj:Oper}{τ:S}(hx:jh x)(hu:iy e u)(he:e<20000)(U:F7 Φ oj=true)(hl:e ∉ oj.looksAt ops)(hd:oj.dst≠some e)(h:cJ e σ)
  (cc:bL P N Φ ops (aR e x u σ) oj some=some τ):∃ aa,bL P N Φ ops σ oj some=some aa/\τ=aR e x u aa/\cJ e aa:=by
 have kN:aR e x u σ=(σ.root e x).set e u:=by
  unfold aR
  rw[show σ.drop e=σ from h]
 have aO:∀ y∈oj.op.operands,ah (aR e x u σ) y=ah (σ.root e x) y:=fun y hy=>by
  rw[kN];exact zA hl u hy
 have hw:cQ (aR e x u σ) ops oj=cQ σ ops oj:=by
  rw[kN]
  exact(pG (B3 (σ:=σ.root e x) hl u)).trans rfl
 unfold bL at cc ⊢
 rw[hw]at cc
 split at cc
 ·unfold F7 at U
  rw[Bool.or_eq_true]at U
  rcases U with U | U
  ·have bA:∀ (k:A->Option S),aX P (aR e x u σ) oj.op k=aX P σ oj.op k:=fun k=>
    (vG (σ:=σ.root e x) (σ2:=aR e x u σ) oj.op (by rw[kN];rfl) aO k).trans (h.val U k)
   have aC:∀ σ2:S,bC P N Φ σ2 oj some=aX P σ2 oj.op fun v=>eK N σ2 oj.dst v some:=by
    intro σ2
    unfold bC
    rw[V9 U,cond_true]
   rw[aC,bA]at cc
   obtain⟨v,h1,zH,_⟩:=vE (w0:=default) (N:=N) cc
   obtain⟨h2,h3⟩:=fL h1
   injection h2 with h2
   have hv:=h.res U (zH.at_ (X:=A) some)
   refine⟨cR σ oj.dst v,?_,?_,h.put hv _⟩
   ·rw[aC]
    exact(zH.at_ _).trans ((h3 σ).at_ _)
   ·rw[<-h2,Gs hd hv]
  ·split at U
   ·rename_i f args bD ho
    split at U
    ·rename_i c hc
     have aC:∀ σ2,bC P N Φ σ2 oj some=ck oj fun d=>oR N σ2 d c args.toList some:=by
      intro σ2
      unfold bC
      rw[show cP oj.op=false by rw[ho];rfl,cond_false]
      simp only[dV,ho,hc]
     rw[aC]at cc
     obtain⟨d,dz,cc⟩:=c9 cc
     have mJ:d≠e:=by rintro rfl;exact hd dz
     obtain⟨res,dr,h1,h2,h3⟩:=vw (aI f _ hc).2 cc
     injection h2 with h2
     subst h2
     have cX:∀ y∈args.toList,(ah σ y).nr (jj e)=true/\y ≠ .tmp e:=by
      intro y hy
      have cA:y∈oj.op.operands:=by
       rw[ho]
       simp only[Op.operands,Call.operands]
       simp only[Array.mem_append]
       first
        | exact .inr (by simpa using hy)
        | exact .inl (by simpa using hy)
      refine⟨A.vU (h.ki y),?_⟩
      rintro rfl
      exact hl (List.mem_append_left _ (List.mem_filterMap.2 ⟨.tmp e,by simpa using cA,rfl⟩))
     have Mg:∀ (X:Type) (k:List Pt->Option X),fo σ args.toList k=fo (aR e x u σ) args.toList k:=fun X k=>(Gw (Co e) _ k cX).symm
     unfold nJ at h1 h3
     cases res with
     | one q=>
      simp only at h1 h3
      split at h1
      ·rename_i y hy
       injection h1 with h1
       refine⟨(dw (1000000000100000+1000*d) σ q.2).set d y,?_,?_,?_⟩
       ·rw[aC]
        unfold ck
        rw[dz]
        exact(h3 σ _ Mg (by rw[hy])).at_ _
       ·rw[<-h1,vN hx hu _ _ _ (by omega),rX mJ (Ci hy (vO _ _ (by omega)))]
       ·exact(cJ.dw (d:=20000) he _ _ _ (by omega) h).set (Ci hy (vO _ _ (by omega))) d
      ·cases h1
     | aU ps=>
      simp only at h1 h3
      injection h1 with h1
      refine⟨(eN (1000000000100000+1000*d) σ ps).set d (.aU (gf (1000000000100000+1000*d) ps)),?_,?_,?_⟩
      ·rw[aC]
       unfold ck
       rw[dz]
       exact(h3 σ _ Mg rfl).at_ _
      ·rw[<-h1,Cf hx hu _ _ _ (by omega),rX mJ (Cj _ _ (by omega))]
      ·exact(cJ.eN (d:=20000) he _ _ _ (by omega) h).set (Cj _ _ (by omega)) d
    ·cases U
   ·cases U
 ·obtain⟨h2,h3⟩:=fL cc
  injection h2 with h2
  refine⟨cR σ oj.dst .skip,(h3 σ).at_ _,?_,h.put rfl _⟩
  rw[<-h2,Gs hd rfl]
 ·cases cc
theorem Rl.GM(h:Rl w0 N lab ρ σ a w)(d:Nat):Rl w0 N lab ρ (σ.drop d) a w:=by
 refine⟨h.below,h.bf,fun r y hy=>?_,fun k=>(h.tmp k).bY fun _ _=>rfl,h.size,h.defers,h.fix,h.cB⟩
 have hy:(bif Nat.beq r d then none else (σ.m r).map (au.drop d))=some y:=hy
 cases U:Nat.beq r d with
 | true=>rw[U]at hy;cases hy
 | false=>
  rw[U,cond_false]at hy
  obtain⟨z,hz,rfl⟩:=Option.map_eq_some_iff.1 hy
  exact(h.root r z hz).bY (fun _ _=>rfl) (by rintro rfl;simp at U)
theorem R.GM(h:R w0 N σ a w)(d:Nat):R w0 N (σ.drop d) a w:=by
 obtain⟨lab,ρ,h⟩:=h
 exact⟨lab,ρ,h.GM d⟩
theorem Wb[Inhabited Wd](aI:dn P Φ){ops:Array Oper}{k:S->Option X}(h:pz P N Φ ops σ k=some r):∃ GN,(∀ w0 a w,R w0 N σ a w->R w0 N GN a w)/\Any P N Φ ops (fun τ=>k τ=some r) ops.size 0 GN:=by
 unfold pz at h
 split at h
 ·rename_i i hf
  have hc:=List.find?_some hf
  have hi:=List.mem_range.1 (List.mem_of_find?_eq_some hf)
  split at h
  ·rename_i o ho
   split at h
   ·rename_i e he
    unfold early at hc
    rw[ho]at hc
    simp only[Bool.and_eq_true]at hc
    obtain⟨⟨⟨⟨⟨⟨_,c1⟩,c2⟩,c3⟩,c4⟩,c5⟩,c6⟩:=hc
    have mD:=Cl _ _ c6
    have c5:=Nat.eq_of_beq_eq_true c5
    have tH:∀ j,(waits ops i ops.size 0 0).testBit j=true->(0 ||| 2 ^ i).testBit j=false:=by
     intro j hj
     have:((0 ||| 2 ^ i) &&& waits ops i ops.size 0 0).testBit j=false:=by rw[c5];exact Nat.zero_testBit j
     rw[Nat.testBit_and,hj,Bool.and_true]at this
     exact this
    have hg:o.guard=none:=Option.isNone_iff_eq_none.1 c2
    have pI:∀ σ2,cQ σ2 ops o=some true:=fun σ2=>by unfold cQ;rw[hg]
    obtain⟨τ,h1,h2⟩:=Gb aI h
    obtain⟨e',x,u,hd,sU,hx,hu,cc,eH⟩:=zD c1 (pI _) h2
    rw[he]at hd
    injection hd with hd
    subst hd
    obtain⟨n,hn⟩:∃ n,ops.size=n+1:=⟨ops.size-1,by omega⟩
    have hconst:∀ σ2 y,y∈o.op.operands->ah σ2 y=ah (σ.drop e) y:=by
     intro σ2 y hy
     have:=List.all_eq_true.1 c4 y (by simpa using hy)
     cases y with
     | const v=>rfl
     | _=>cases this
    refine⟨σ.drop e,fun w0 a w hR=>hR.GM e,?_⟩
    have hA:=zL aI _ _ _ k h1
    rw[cc]at hA
    have hsz:ops.size-1=n:=by omega
    rw[hsz]at hA
    rw[hn]
    refine Gn (W:=waits ops i ops.size 0 0) ho (fun j oj bG hj=>?_) (fun σ=>aR e x u σ) (fun _ σ=>cJ e σ) (fun L aa _=>eH aa (pI _) (hconst aa)) (fun L aa j oj dr hF bG cD cU cI tF=>?_) n 0 (σ.drop e) (fun j _=>Nat.zero_testBit j) c3 (cJ.drop σ) hA
    ·have aV:=(Array.getElem?_eq_some_iff.1 bG).1
     rcases mD j (by omega) (by omega)with e1 | e1 | e1 | e1
     ·subst e1
      have:=tH j hj
      rw[lW]at this
      simp at this
     ·rw[Nat.zero_testBit]at e1;cases e1
     ·exact GH bG e1.2
     ·rw[hj]at e1;cases e1.1
    ·have aV:=(Array.getElem?_eq_some_iff.1 bG).1
     rcases mD j (by omega) (by omega)with e1 | e1 | e1 | e1
     ·exact absurd e1 cD
     ·rw[Nat.zero_testBit]at e1;cases e1
     ·rw[cI]at e1;cases e1.1
     ·obtain⟨b1,b2⟩:=e1.2 oj bG
      obtain⟨a1,a2,a3⟩:=Oper.apart_spec b2
      exact Wa aI hx hu sU b1 (a1 e he) (fun hd=>a2 e he hd) hF tF
   ·cases h
  ·cases h
 ·exact⟨σ,fun _ _ _ h=>h,zL aI _ _ _ _ h⟩
theorem Wc[Inhabited Wd](aI:dn P Φ){ops:Array Oper}{id:Nat}{k:S->Option X}(hm:P.follows .mixedOrders=true)(h:pz P N Φ ops σ k=some r){Q:Exit->Act->World->Prop}(hQ:∀ τ,k τ=some r->∀ a w,R w0 N τ a w->Q .normal a w)(hR:R w0 N σ a w):
  (Code.region id ops true).wp P Q a w:=by
 obtain⟨GN,h1,h2⟩:=Wb aI h
 exact wp_region_any hm (Md aI hQ _ _ _ _ h2 mL.start a _ (h1 _ _ _ hR).drawn)
end
end Go.Proofs.YtjldnlbiefpekaaDoor
namespace Go.Proofs.YtjldnlbiefpekaaDoor
open Go.RowKit
set_option linter.unusedVariables false
section
variable {P:Program} {w w':World} {w0:Wd} {B N:Nat} {lab af:aG} {ρ ρ':Nat->Loc} {σ:S} {a:Act} {X:Type} {d:Nat} {r:X} {o:Oper} {Φ:b5} {Λ:jg}
theorem We{dst:Option Tmp}{g:Bool}{k:S->Option X}(h:splitK σ dst g k=some r):∃ aa,k aa=some r/\∀ a w,R w0 N σ a w->R w0 N aa a w:=by
 unfold splitK at h
 cases g with
 | false=>exact⟨σ,h,fun _ _ h=>h⟩
 | true=>
  rw[cond_true]at h
  split at h
  ·rename_i d
   split at h
   ·rename_i b U
    have key:∀ c:Bool,b=c->∀ a w,R w0 N σ a w->R w0 N (σ.set d (.lf (.v (.bool c)))) a w:=by
     rintro c rfl a w ⟨lab,ρ,hR⟩
     refine⟨lab,ρ,hR.below,hR.bf,hR.root,fun k=>?_,hR.size,hR.defers,hR.fix,hR.cB⟩
     show RA w w0.heap.size lab ρ (aH σ.t d (.lf (.v (.bool b))) k) _
     by_cases hk:k=d
     ·subst hk
      rw[aJ,<-U]
      exact hR.tmp k
     ·rw[aQ _ _ _ hk]
      exact hR.tmp k
    cases b with
    | true=>exact⟨_,h,key true rfl⟩
    | false=>exact⟨_,h,key false rfl⟩
   ·exact⟨σ,h,fun _ _ h=>h⟩
  ·exact⟨σ,h,fun _ _ h=>h⟩
theorem Cp(aI:dn P Φ)(ops:Array Oper):∀ (rest:List Oper) (j:Nat) (σ:S) (k:S->Option X),nN P N Φ ops j rest σ k=some r->∃ aa,k aa=some r/\∀ a w,R w0 N σ a w->∀ Q,(∀ a' w',R w0 N aa a' w'->Q Exit.normal a' w')->wpList P ops Q rest a w
 | [],j,σ,k,h=>⟨σ,h,fun a w hR Q hQ=>hQ a w hR⟩
 | o :: rest,j,σ,k,h=>by
  unfold nN at h
  split at h
  ·rename_i pI
   obtain⟨je,h1,cO⟩:=UT (w0:=w0) aI h
   obtain⟨σ2,h2,gy⟩:=We (w0:=w0) (N:=N) h1
   obtain⟨zN,h3,eW⟩:=Cp aI ops rest (j+1) σ2 k h2
   refine⟨zN,h3,fun a w hR Q hQ=>?_⟩
   obtain⟨lab,ρ,aA⟩:=hR
   simp only[wpList,vS pI aA,if_true]
   exact .inl (cO a w _ Q ⟨lab,ρ,aA⟩ fun a' w' ke=>eW a' w' (gy a' w' ke) Q hQ)
  ·rename_i pI
   unfold eK at h
   split at h
   ·rename_i hd
    obtain⟨zN,h3,eW⟩:=Cp aI ops rest (j+1) σ k h
    refine⟨zN,h3,fun a w hR Q hQ=>?_⟩
    obtain⟨lab,ρ,aA⟩:=hR
    simp only[wpList,vS pI aA,hd]
    exact eW a w ⟨lab,ρ,aA⟩ Q hQ
   ·rename_i d hd
    cases hN:Nat.blt d N with
    | false=>rw[hN]at h;cases h
    | true=>
     rw[hN,cond_true]at h
     obtain⟨zN,h3,eW⟩:=Cp aI ops rest (j+1) _ k h
     refine⟨zN,h3,fun a w hR Q hQ=>?_⟩
     obtain⟨lab,ρ,aA⟩:=hR
     simp only[wpList,vS pI aA,hd]
     exact eW _ w ⟨lab,ρ,aA.set rfl (by have:=Nat.le_of_ble_eq_true hN;omega)⟩ Q hQ
  ·cases h
theorem Cq(aI:dn P Φ):∀ (c:Code) (σ:S) (k:Exit->S->Option X),dF P N Φ Λ c σ k=some r->nR P N Λ (occs c)->AW P w0 N c σ fun e aa=>k e aa=some r:=by
 intro c
 induction c with
 | skip=>exact fun σ k h _ a w hR=>wp_skip ⟨σ,h,hR⟩
 | label l=>exact fun σ k h _ a w hR=>wp_label ⟨σ,h,hR⟩
 | ret=>exact fun σ k h _ a w hR=>wp_ret ⟨σ,h,hR⟩
 | exit id=>exact fun σ k h _ a w hR=>wp_exit ⟨σ,h,hR⟩
 | region id ops draw=>
  intro σ k h _ a w hR
  cases draw with
  | true=>
   simp only[dF]at h
   cases hm:P.follows .mixedOrders with
   | false=>rw[hm]at h;cases h
   | true=>
    rw[hm,cond_true]at h
    haveI:Inhabited Wd:=⟨w0⟩
    exact Wc aI hm h (fun τ cc a w hR=>⟨τ,cc,hR⟩) hR
  | false=>
   simp only[dF]at h
   obtain⟨aa,h',hw⟩:=Cp (w0:=w0) aI ops _ _ _ _ h
   exact wp_region_list (hw a w hR _ fun a' w' aA=>⟨aa,h',aA⟩)
 | seq x y tJ tK=>
  intro σ k h fM a w hR
  simp only[dF]at h
  have h1:=tJ σ _ h (fun p hp=>fM p (List.mem_append_left _ hp))
  refine wp_seq (wp_mono (h1 a w hR) fun e a' w' he=>?_)
  obtain⟨aa,hk,aA⟩:=he
  cases e with
  | normal=>exact tK aa k hk (fun p hp=>fM p (List.mem_append_right _ hp)) a' w' aA
  | _=>exact⟨aa,hk,aA⟩
 | cond c x y tJ tK=>
  intro σ k h fM a w hR
  simp only[dF]at h
  split at h
  ·rename_i b U
   obtain⟨lab,ρ,aA⟩:=hR
   have hc:=aA.ah c
   rw[U]at hc
   have Mh:=hc.2.qR
   cases b with
   | true=>exact wp_cond_true Mh (tJ σ k h (fun p hp=>fM p (List.mem_append_left _ hp)) a w ⟨lab,ρ,aA⟩)
   | false=>exact wp_cond_false Mh (tK σ k h (fun p hp=>fM p (List.mem_append_right _ hp)) a w ⟨lab,ρ,aA⟩)
  ·cases h
 | block id c ih=>
  intro σ k h fM a w hR
  simp only[dF]at h
  split at h
  ·rename_i b U
   exact fM (id,c) (.head _) b U X σ k r w0 h a w hR
  ·have h1:=ih σ _ h (fun p hp=>fM p (.tail _ hp))
   refine wp_block (wp_mono (h1 a w hR) fun e a' w' he=>?_)
   obtain⟨aa,hk,aA⟩:=he
   cases e with
   | exit kV=>
    simp only[Exit.inBlock]
    by_cases hid:kV=id
    ·simp only[hid,if_true]at hk ⊢
     exact⟨aa,hk,aA⟩
    ·simp only[hid,if_false]at hk ⊢
     exact⟨aa,hk,aA⟩
   | _=>exact⟨aa,hk,aA⟩
 | _=>exact fun σ k h=>by simp[dF]at h
end
/-! What a loop carries. -/
inductive Lm where
 | int (k:IntKind)
 | bool
 | str
 | own (r:Nat)
 | av (t:TC) (o:Nat)
def Lm.T:Lm->Type
 | .int _=>Int
 | .bool=>Bool
 | .str=>ByteArray
 | .own _=>Unit
 | .av t _=>List (Proofs.YtjldnlbiefpekaaDoor.T t)
def Lm.mk:(m:Lm)->m.T->Lf
 | .int k,n=>.v (.int k n)
 | .bool,b=>.v (.bool b)
 | .str,s=>.v (.str s)
 | .own r,_=>.own [r]
 | .av t o,l=>.v (.sl t o false l)
def Lm.rd:(m:Lm)->Lf->Option m.T
 | .int k,.v (.int k' n)=>if k'=k then some n else none
 | .bool,.v (.bool b)=>some b
 | .str,.v (.str s)=>some s
 | .own r,.own [r']=>bif Nat.beq r' r then some ()else none
 | .av t o,.v x=>bif Nat.blt o 2 then x.bN t o else none
 | _,_=>none
inductive Tm where
 | lf (m:Lm)
 | aE (r j:Nat)
 | fp (t:TC) (o:Nat)
 | fc (f:Nat) (t:TC)
 | ag (t:TC)
 | pk (r n:Nat)
def Tm.T:Tm->Type
 | .lf m=>m.T
 | .aE _ _=>Unit
 | .fp t _=>Proofs.YtjldnlbiefpekaaDoor.T t
 | .fc _ t=>Proofs.YtjldnlbiefpekaaDoor.T t
 | .ag t=>Proofs.YtjldnlbiefpekaaDoor.T t
 | .pk _ _=>Unit
def Tm.mk:(m:Tm)->m.T->A
 | .lf m,x=>.lf (m.mk x)
 | .aE r j,_=>.aE r j
 | .fp t o,x=>.dO (enc t o x)
 | .fc f t,x=>.gU f (enc t 0 x)
 | .ag t,x=>.agg ((enc t 0 x).map .v)
 | .pk r n,_=>.pk r n
def Tm.rd:(m:Tm)->A->Option m.T
 | .lf m,.lf x=>m.rd x
 | .aE r j,.aE r' j'=>bif Nat.beq r' r&&Nat.beq j' j then some ()else none
 | .fp t o,.dO cs=>bif Nat.blt o 2 then dec t o cs else none
 | .fc f t,.gU f' cs=>bif Nat.beq f' f then dec t 0 cs else none
 | .ag t,.agg cs=>(match nt cs with
  | some vs=>dec t 0 vs
  | none=>none)
 | .pk r n,.pk r' n'=>bif Nat.beq r' r&&Nat.beq n' n then some ()else none
 | _,_=>none
def zO:List Lm->Type
 | []=>Unit
 | m :: ms=>m.T×zO ms
def pJ:(ms:List Lm)->zO ms->List Lf
 | [],_=>[]
 | m :: ms,x=>m.mk x.1 :: pJ ms x.2
def vV:(ms:List Lm)->List Lf->Option (zO ms)
 | [],[]=>some ()
 | m :: ms,x :: xs=>match m.rd x,vV ms xs with
  | some y,some ys=>some (y,ys)
  | _,_=>none
 | _,_=>none
inductive Rm where
 | sl (t:TC) (o:Nat)
 | st (t:TC)
 | blk (ms:List Lm)
 | mp
def Rm.T:Rm->Type
 | .sl t _=>List (Proofs.YtjldnlbiefpekaaDoor.T t)
 | .st t=>Proofs.YtjldnlbiefpekaaDoor.T t
 | .blk ms=>zO ms
 | .mp=>List (Int×Bool)
def Rm.mk:(m:Rm)->m.T->au
 | .sl t o,l=>.sl (.sl t o false l)
 | .st t,x=>.blk ((enc t 0 x).map .v)
 | .blk ms,x=>.blk (pJ ms x)
 | .mp,l=>.mp l
def Rm.rd:(m:Rm)->au->Option m.T
 | .sl t o,.sl y=>y.bN t o
 | .st t,.blk cs=>(match nt cs with
  | some vs=>dec t 0 vs
  | none=>none)
 | .blk ms,.blk cs=>vV ms cs
 | .mp,.mp l=>some l
 | _,_=>none
def vW:List (Nat×Tm)->Type
 | []=>Unit
 | (_,m) :: ms=>m.T×vW ms
def pK:(ms:List (Nat×Tm))->vW ms->Nat->A
 | [],_,_=>.undef
 | (n,m) :: ms,x,k=>bif Nat.beq k n then m.mk x.1 else pK ms x.2 k
def zQ:(ms:List (Nat×Tm))->(Nat->A)->Option (vW ms)
 | [],_=>some ()
 | (n,m) :: ms,t=>match m.rd (t n),zQ ms t with
  | some x,some xs=>some (x,xs)
  | _,_=>none
def pL:List (Nat×Rm)->Type
 | []=>Unit
 | (_,m) :: ms=>m.T×pL ms
def pM:(ms:List (Nat×Rm))->pL ms->Nat->Option au
 | [],_,_=>none
 | (n,m) :: ms,x,k=>bif Nat.beq k n then some (m.mk x.1)else pM ms x.2 k
def vX:(ms:List (Nat×Rm))->(Nat->Option au)->Option (pL ms)
 | [],_=>some ()
 | (n,m) :: ms,t=>match (t n).bind m.rd,vX ms t with
  | some x,some xs=>some (x,xs)
  | _,_=>none
structure ff where
 ts:List (Nat×Tm)
 rs:List (Nat×Rm)
def ff.St(τ:ff):Type:=vW τ.ts×pL τ.rs
def ff.mk'(τ:ff)(x:τ.St):S:=⟨pK τ.ts x.1,pM τ.rs x.2⟩
def ff.Cr(τ:ff)(σ:S):Option τ.St:=match zQ τ.ts σ.t,vX τ.rs σ.m with
 | some x,some y=>some (x,y)
 | _,_=>none
/-! Roots by other names. -/
abbrev Rn:=List (Nat×Nat)
def Rn.inv(rs:Rn)(n:Nat):Option Nat:=(rs.find? fun p=>Nat.beq p.2 n).map (·.1)
def Rn.add(rs:Rn)(r n:Nat):Rn:=bif rs.any (fun p=>Nat.beq p.1 r&&Nat.beq p.2 n)then rs else (r,n) :: rs
def GO(n:Nat):Option Nat->Bool
 | some m=>Nat.beq m n
 | none=>false
def Rn.ok(rs:Rn):Bool:=rs.all fun p=>(Nat.beq p.1 p.2 || Nat.ble 60000 p.2)&&GO p.2 (rs.lookup p.1)&&GO p.1 (rs.inv p.2)
def Lf.b9(rs:Rn):Lf->Lf
 | .v x=>.v x
 | .own [r]=>(match rs.lookup r with
  | some n=>.own [n]
  | none=>.dead)
 | _=>.dead
def A.b9(rs:Rn):A->A
 | .lf x=>.lf (x.b9 rs)
 | .aE r j=>(match rs.lookup r with
  | some n=>.aE n j
  | none=>.undef)
 | .dO cs=>.dO cs
 | .gU f cs=>.gU f cs
 | .agg cs=>.agg (cs.map (Lf.b9 rs))
 | _=>.undef
def au.b9(rs:Rn):au->au
 | .blk cs=>.blk (cs.map (Lf.b9 rs))
 | .sl y=>.sl y
 | .mp l=>.mp l
 | .gh _=>.gh []
def S.b9(rs:Rn)(σ:S):S:=⟨fun k=>(σ.t k).b9 rs,fun n=>match rs.inv n with
 | some r=>(σ.m r).map (au.b9 rs)
 | none=>none⟩
def Mi:Lm->Lf->Rn->Rn
 | .own n,.own [r],rs=>rs.add r n
 | _,_,rs=>rs
def GP:List Lm->List Lf->Rn->Rn
 | m :: ms,x :: xs,rs=>GP ms xs (Mi m x rs)
 | _,_,rs=>rs
def Wf:Tm->A->Rn->Rn
 | .lf m,.lf x,rs=>Mi m x rs
 | .aE n j,.aE r j',rs=>rs.add r n
 | _,_,rs=>rs
def Mj(t:Nat->A):List (Nat×Tm)->Rn->Rn
 | [],rs=>rs
 | (k,m) :: ms,rs=>Mj t ms (Wf m (t k) rs)
def Mk(m:Nat->Option au):List (Nat×Rm)->Rn->Rn
 | [],rs=>rs
 | (n,x) :: xs,rs=>Mk m xs (match x,rs.inv n with
  | .blk ms,some r=>(match m r with
   | some (.blk cs)=>GP ms cs rs
   | _=>rs)
  | .blk ms,none=>(match m n with
   | some (.blk cs)=>GP ms cs (rs.add n n)
   | _=>rs)
  | _,some _=>rs
  | _,none=>rs.add n n)
def ff.rn(τ:ff)(σ:S):Rn:=Mk σ.m τ.rs (Mj σ.t τ.ts [])
def GQ(rs:List (Nat×Rm))(p:Nat×Tm)(σ:S):S:=match p.2,σ.t p.1 with
 | .lf (.own n),.lf (.v .nil)=>(match rs.lookup n with
  | some (.sl t o)=>bif Nat.ble 60000 n then ⟨aH ((σ.drop n).root n (.sl (.sl t o false []))).t p.1 (.lf (.own [n])),((σ.drop n).root n (.sl (.sl t o false []))).m⟩else σ
  | _=>σ)
 | _,_=>σ
def Cs(rs:List (Nat×Rm)):List (Nat×Tm)->S->S
 | [],σ=>σ
 | p :: ps,σ=>Cs rs ps (GQ rs p σ)
def GR(n j r:Nat)(σ:S):S:=match σ.m r with
 | some (.blk cs)=>(match cs[j]? with
  | some (.v .nil)=>⟨σ.t,aH σ.m r (some (.blk (cs.set j (.own [n]))))⟩
  | _=>σ)
 | _=>σ
def GS(rs:List (Nat×Rm))(n j r:Nat)(σ:S):S:=match rs.lookup n with
 | some (.sl t o)=>bif Nat.ble 60000 n then GR n j r ((σ.drop n).root n (.sl (.sl t o false [])))else σ
 | _=>σ
def tL(rs:List (Nat×Rm))(r:Nat):Nat->List Lm->List Lf->S->S
 | j,.own n :: ms,.v .nil :: cs,σ=>tL rs r (j+1) ms cs (GS rs n j r σ)
 | j,_ :: ms,_ :: cs,σ=>tL rs r (j+1) ms cs σ
 | _,_,_,σ=>σ
def zS(rs:List (Nat×Rm)):List (Nat×Rm)->S->S
 | [],σ=>σ
 | (r,.blk ms) :: ps,σ=>zS rs ps (match σ.m r with
  | some (.blk cs)=>tL rs r 0 ms cs σ
  | _=>σ)
 | _ :: ps,σ=>zS rs ps σ
def ff.Ml(τ:ff)(σ:S):Option τ.St:=bif (τ.rn σ).ok then τ.Cr (zS τ.rs τ.rs (σ.b9 (τ.rn σ)))else none
def ff.rd(τ:ff)(σ:S):Option τ.St:=match τ.Cr σ with
 | some x=>some x
 | none=>τ.Ml (Cs τ.rs τ.ts σ)
section
variable {P:Program} {w w':World} {w0:Wd} {B N:Nat} {lab af:aG} {ρ ρ':Nat->Loc} {σ:S} {a:Act} {X:Type} {d:Nat} {r:X} {o:Oper} {Φ:b5} {Λ:jg}
theorem Lm.kq{m:Lm}{x:Lf}{y:m.T}(h:m.rd x=some y){u:Value}(hu:bw w B lab ρ x u):bw w B lab ρ (m.mk y) u:=by
 unfold Lm.rd at h
 split at h
 ·split at h
  ·rename_i hk;subst hk;injection h with h;subst h;exact hu
  ·cases h
 ·injection h with h;subst h;exact hu
 ·injection h with h;subst h;exact hu
 ·rename_i r' Wg
  cases U:Nat.beq Wg r' with
  | false=>rw[U]at h;cases h
  | true=>obtain rfl:=Nat.eq_of_beq_eq_true U;exact hu
 ·rename_i t o x
  cases U:Nat.blt o 2 with
  | false=>rw[U]at h;cases h
  | true=>
   rw[U]at h
   have h:V.bN t o x=some y:=h
   have:=Nat.le_of_ble_eq_true U
   exact⟨by simp[V.av];omega,hu.2.wk (V.bR h)⟩
 ·cases h
theorem Tm.kq{m:Tm}{x:A}{y:m.T}(h:m.rd x=some y){u:Value}(hu:RA w B lab ρ x u):RA w B lab ρ (m.mk y) u:=by
 cases m with
 | lf m=>
  cases x with
  | lf x=>exact Lm.kq (m:=m) h hu
  | _=>cases h
 | aE r j=>
  cases x with
  | aE r' j'=>
   have h:(bif Nat.beq r' r&&Nat.beq j' j then some ()else none)=some y:=h
   cases U:(Nat.beq r' r&&Nat.beq j' j)with
   | false=>rw[U]at h;cases h
   | true=>
    rw[Bool.and_eq_true]at U
    obtain rfl:=Nat.eq_of_beq_eq_true U.1
    obtain rfl:=Nat.eq_of_beq_eq_true U.2
    exact hu
  | _=>cases h
 | fp t o=>
  cases x with
  | dO cs=>
   have h:(bif Nat.blt o 2 then dec t o cs else none)=some y:=h
   cases U:Nat.blt o 2 with
   | false=>rw[U]at h;cases h
   | true=>
    rw[U,cond_true]at h
    have ho:=Nat.le_of_ble_eq_true U
    have hk:=gS t o cs y h
    obtain⟨b,off,h1,h2,h3,h4⟩:=hu
    refine⟨b,off,h1,h2,h3,fun j z hz=>?_⟩
    have hj:j<cs.length:=by rw[hk.1];exact(List.getElem?_eq_some_iff.1 hz).1
    have hv:=List.getElem?_eq_getElem hj
    obtain⟨g1,v,g2,g3⟩:=h4 j _ hv
    exact⟨fP t o y (by omega) j z hz,v,g2,g3.wk (hk.2 j _ z hv hz)⟩
  | _=>cases h
 | fc f t=>
  cases x with
  | gU f' cs=>
   have h:(bif Nat.beq f' f then dec t 0 cs else none)=some y:=h
   cases U:Nat.beq f' f with
   | false=>rw[U]at h;cases h
   | true=>
    rw[U,cond_true]at h
    obtain rfl:=Nat.eq_of_beq_eq_true U
    have hk:=gS t 0 cs y h
    obtain⟨pv,e0,b,off,h1,h2,h3,h4⟩:=hu
    refine⟨pv,e0,b,off,h1,h2,h3,fun j z hz=>?_⟩
    have hj:j<cs.length:=by rw[hk.1];exact(List.getElem?_eq_some_iff.1 hz).1
    have hv:=List.getElem?_eq_getElem hj
    obtain⟨g1,v,g2,g3⟩:=h4 j _ hv
    exact⟨fP t 0 y (by omega) j z hz,v,g2,g3.wk (hk.2 j _ z hv hz)⟩
  | _=>cases h
 | ag t=>
  cases x with
  | agg cs=>
   have h:(match nt cs with | some vs=>dec t 0 vs | none=>none)=some y:=h
   cases cN:nt cs with
   | none=>rw[cN]at h;cases h
   | some vs=>
    rw[cN]at h
    have h:dec t 0 vs=some y:=h
    have bU:=Bh _ _ cN
    have hk:=gS t 0 vs y h
    obtain⟨us,h1,h2,h3⟩:=hu
    refine⟨us,h1,?_,fun j x hx=>?_⟩
    ·rw[h2,bU,List.length_map,List.length_map,hk.1]
    ·rw[List.getElem?_map]at hx
     cases hz:(enc t 0 y)[j]? with
     | none=>rw[hz]at hx;cases hx
     | some z=>
      rw[hz]at hx
      injection hx with hx
      subst hx
      have hj:j<vs.length:=by rw[hk.1];exact(List.getElem?_eq_some_iff.1 hz).1
      have hv:=List.getElem?_eq_getElem hj
      obtain⟨v,g1,g2⟩:=h3 j (.v vs[j]) (by rw[bU,List.getElem?_map,hv];rfl)
      exact⟨v,g1,fP t 0 y (by omega) j z hz,g2.2.wk (hk.2 j _ z hv hz)⟩
  | _=>cases h
 | pk r n=>
  cases x with
  | pk r' n'=>
   have h:(bif Nat.beq r' r&&Nat.beq n' n then some ()else none)=some y:=h
   cases U:(Nat.beq r' r&&Nat.beq n' n)with
   | false=>rw[U]at h;cases h
   | true=>
    rw[Bool.and_eq_true]at U
    obtain rfl:=Nat.eq_of_beq_eq_true U.1
    obtain rfl:=Nat.eq_of_beq_eq_true U.2
    exact hu
  | _=>cases h
theorem Mm:∀ (ms:List Lm) (cs:List Lf) (y:zO ms),vV ms cs=some y->(pJ ms y).length=cs.length/\∀ (j:Nat) x,(pJ ms y)[j]?=some x->∃ z,cs[j]?=some z/\(∀ (w:World) (B:Nat) (lab:aG) (ρ:Nat->Loc) (u:Value),bw w B lab ρ z u->bw w B lab ρ x u)
 | [],[],y,h=>⟨rfl,fun j x hx=>by simp[pJ]at hx⟩
 | m :: ms,c :: cs,y,h=>by
  unfold vV at h
  split at h
  ·rename_i y1 ys h1 h2
   injection h with h
   subst h
   obtain⟨k1,k2⟩:=Mm ms cs ys h2
   refine⟨by simp[pJ,k1],fun j x hx=>?_⟩
   cases j with
   | zero=>simp[pJ]at hx;subst hx;exact⟨c,rfl,fun w B lab ρ u hu=>Lm.kq h1 hu⟩
   | succ j=>exact k2 j x (by simpa [pJ]using hx)
  ·cases h
 | [],_ :: _,y,h=>by simp[vV]at h
 | _ :: _,[],y,h=>by simp[vV]at h
theorem Rm.kq{m:Rm}{x:au}{y:m.T}(h:m.rd x=some y){n:Nat}(hx:bP w B lab ρ n x):bP w B lab ρ n (m.mk y):=by
 cases m with
 | sl t o=>
  cases hx with
  | sl v y' aq hr=>exact .sl v _ aq (hr.wk (V.bR h))
  | blk=>cases h
  | mp=>cases h
  | gh=>cases h
 | mp=>
  cases hx with
  | gh=>cases h
  | sl=>cases h
  | blk=>cases h
  | mp b c es l aq hl hh he=>injection h with h;subst h;exact .mp b c es _ aq hl hh he
 | st t=>
  cases hx with
  | sl=>cases h
  | mp=>cases h
  | gh=>cases h
  | blk b off cells e cs us aq hl hh hs hc=>
   have h:(match nt cs with | some vs=>dec t 0 vs | none=>none)=some y:=h
   cases cN:nt cs with
   | none=>rw[cN]at h;cases h
   | some vs=>
    rw[cN]at h
    have h:dec t 0 vs=some y:=h
    have bU:=Bh _ _ cN
    have hk:=gS t 0 vs y h
    refine .blk b off cells e _ us aq hl hh (by rw[List.length_map,<-hk.1];rw[bU,List.length_map]at hs;exact hs) fun j x hx=>?_
    rw[List.getElem?_map]at hx
    cases hz:(enc t 0 y)[j]? with
    | none=>rw[hz]at hx;cases hx
    | some z=>
     rw[hz]at hx
     injection hx with hx
     subst hx
     have hj:j<vs.length:=by rw[hk.1];exact(List.getElem?_eq_some_iff.1 hz).1
     have hv:=List.getElem?_eq_getElem hj
     obtain⟨h1,h2⟩:=hc j (.v vs[j]) (by rw[bU,List.getElem?_map,hv];rfl)
     exact⟨h1,fP t 0 y (by omega) j z hz,h2.2.wk (hk.2 j _ z hv hz)⟩
 | blk ms=>
  cases hx with
  | sl=>cases h
  | mp=>cases h
  | gh=>cases h
  | blk b off cells e cs us aq hl hh hs hc=>
   obtain⟨k1,k2⟩:=Mm ms cs y h
   refine .blk b off cells e _ us aq hl hh (by show off+(pJ ms y).length<=_;rw[k1];exact hs) fun j x hx=>?_
   obtain⟨z,hz,hm⟩:=k2 j x hx
   exact⟨(hc j z hz).1,hm _ _ _ _ _ (hc j z hz).2⟩
theorem GU:∀ (ms:List (Nat×Tm)) (t:Nat->A) (y:vW ms),zQ ms t=some y->∀ k,pK ms y k = .undef\/∃ m z,(Tm.rd m (t k)=some z/\pK ms y k=m.mk z)
 | [],t,y,h,k=>.inl rfl
 | (n,m) :: ms,t,y,h,k=>by
  unfold zQ at h
  split at h
  ·rename_i x xs h1 h2
   injection h with h
   subst h
   by_cases hk:k=n
   ·subst hk
    exact .inr ⟨m,x,h1,by simp[pK]⟩
   ·have U:Nat.beq k n=false:=by
     cases U:Nat.beq k n with
     | false=>rfl
     | true=>exact absurd (Nat.eq_of_beq_eq_true U) hk
    simp only[pK,U,cond_false]
    exact GU ms t xs h2 k
  ·cases h
theorem GV:∀ (ms:List (Nat×Rm)) (t:Nat->Option au) (y:pL ms),vX ms t=some y->∀ k,pM ms y k=none\/∃ m x z,t k=some x/\Rm.rd m x=some z/\pM ms y k=some (m.mk z)
 | [],t,y,h,k=>.inl rfl
 | (n,m) :: ms,t,y,h,k=>by
  unfold vX at h
  split at h
  ·rename_i x xs h1 h2
   injection h with h
   subst h
   by_cases hk:k=n
   ·subst hk
    cases ht:t k with
    | none=>rw[ht]at h1;cases h1
    | some z=>rw[ht]at h1;exact .inr ⟨m,z,x,rfl,h1,by simp[pM]⟩
   ·have U:Nat.beq k n=false:=by
     cases U:Nat.beq k n with
     | false=>rfl
     | true=>exact absurd (Nat.eq_of_beq_eq_true U) hk
    simp only[pM,U,cond_false]
    exact GV ms t xs h2 k
  ·cases h
theorem ff.Mn{τ:ff}{x:τ.St}(h:τ.Cr σ=some x)(hR:R w0 N σ a w):R w0 N (τ.mk' x) a w:=by
 unfold ff.Cr at h
 split at h
 ·rename_i u v h1 h2
  injection h with h
  subst h
  obtain⟨lab,ρ,hR⟩:=hR
  refine⟨lab,ρ,hR.below,hR.bf,fun n y hy=>?_,fun k=>?_,hR.size,hR.defers,hR.fix,hR.cB⟩
  ·have hy:pM τ.rs v n=some y:=hy
   rcases GV τ.rs σ.m v h2 n with e | ⟨m,x,z,e1,e2,e3⟩
   ·rw[e]at hy;cases hy
   ·rw[e3]at hy
    injection hy with hy
    subst hy
    exact Rm.kq e2 (hR.root n x e1)
  ·show RA _ _ _ _ (pK τ.ts u k) _
   rcases GU τ.ts σ.t u h1 k with e | ⟨m,z,e1,e2⟩
   ·rw[e];trivial
   ·rw[e2];exact Tm.kq e1 (hR.tmp k)
 ·cases h
theorem Mo{n:Nat}{o:Option Nat}(h:GO n o=true):o=some n:=by
 cases o with
 | none=>cases h
 | some m=>rw[Nat.eq_of_beq_eq_true h]
theorem Mp{rs:Rn}{r n:Nat}(h:rs.lookup r=some n):(r,n)∈rs:=by
 induction rs with
 | nil=>cases h
 | cons p rs ih=>
  obtain⟨x,y⟩:=p
  rw[List.lookup_cons]at h
  split at h
  ·rename_i U
   injection h with h
   subst h
   rw[eq_of_beq U]
   exact .head _
  ·exact .tail _ (ih h)
theorem Mq{rs:Rn}{r n:Nat}(h:rs.inv n=some r):(r,n)∈rs:=by
 unfold Rn.inv at h
 cases hf:rs.find? (fun p=>Nat.beq p.2 n)with
 | none=>rw[hf]at h;cases h
 | some p=>
  rw[hf]at h
  injection h with h
  subst h
  have h1:=List.find?_some hf
  have h2:=List.mem_of_find?_eq_some hf
  rw[<-Nat.eq_of_beq_eq_true h1]
  exact h2
def Rn.bY(rs:Rn)(ρ:Nat->Loc):Nat->Loc:=fun n=>match rs.inv n with
 | some r=>ρ r
 | none=>ρ n
theorem Rn.Ct{rs:Rn}(h:rs.ok=true){r n:Nat}(hm:(r,n)∈rs):(r=n\/60000<=n)/\rs.lookup r=some n/\rs.inv n=some r:=by
 have:=List.all_eq_true.1 h _ hm
 rw[Bool.and_eq_true,Bool.and_eq_true,Bool.or_eq_true]at this
 refine⟨?_,Mo this.1.2,Mo this.2⟩
 rcases this.1.1 with h | h
 ·exact .inl (Nat.eq_of_beq_eq_true h)
 ·exact .inr (Nat.le_of_ble_eq_true h)
theorem bw.b9{rs:Rn}(cG:rs.ok=true){x:Lf}{u:Value}(h:bw w B lab ρ x u):bw w B (cr lab rs id) (rs.bY ρ) (x.b9 rs) u:=by
 unfold Lf.b9
 split
 ·exact⟨h.1,h.2.yG h.1 fun b=>oV⟩
 ·rename_i r
  split
  ·rename_i n hn
   have hi:=(Rn.Ct cG (Mp hn)).2.2
   refine⟨h.1,?_⟩
   have h2:=h.2
   simp only[aP]at h2 ⊢
   unfold Rn.bY
   rw[hi]
   exact h2
  ·trivial
 ·trivial
theorem Rl.b9{rs:Rn}(cG:rs.ok=true)(h:Rl w0 N lab ρ σ a w):Rl w0 N (cr lab rs id) (rs.bY ρ) (σ.b9 rs) a w:=by
 have hl:∀ b r n,lab b=some [r]->rs.lookup r=some n->cr lab rs id b=some [n]:=by
  intro b r n h1 h2
  simp[cr,h1,h2]
 refine⟨h.below,fun b k hk=>?_,fun n x hx=>?_,fun k=>?_,h.size,h.defers,fun r l hr=>?_,h.cB⟩
 ·unfold cr at hk
  split at hk
  ·cases hk
  ·rename_i k0 yU
   split at hk
   ·cases hk
   ·rename_i r hr
    cases hn:rs.lookup r with
    | none=>rw[hn]at hk;cases hk
    | some n=>
     rw[hn]at hk
     injection hk with hk
     subst hk
     obtain⟨h1,h2,_⟩:=h.bf b k0 yU
     exact⟨h1,h2,by simp⟩
 ·have hx:(match rs.inv n with | some r=>(σ.m r).map (au.b9 rs) | none=>none)=some x:=hx
  cases hi:rs.inv n with
  | none=>rw[hi]at hx;cases hx
  | some r=>
   rw[hi]at hx
   have hx:(σ.m r).map (au.b9 rs)=some x:=hx
   have mh:=(Rn.Ct cG (Mq hi)).2.1
   have aq:rs.bY ρ n=ρ r:=by unfold Rn.bY;rw[hi]
   cases hm:σ.m r with
   | none=>rw[hm]at hx;cases hx
   | some y=>
    rw[hm]at hx
    injection hx with hx
    subst hx
    cases h.root r y hm with
    | blk b off cells e cs us h1 h2 hh hs hc=>
     refine .blk b off cells e _ us (aq.trans h1) (hl b r n h2 mh) hh (by rw[List.length_map];exact hs) fun j x hx=>?_
     rw[List.getElem?_map]at hx
     cases hz:cs[j]? with
     | none=>rw[hz]at hx;cases hx
     | some z=>
      rw[hz]at hx
      injection hx with hx
      subst hx
      exact⟨(hc j z hz).1,(hc j z hz).2.b9 cG⟩
    | sl v y h1 h2=>
     exact .sl v y (aq.trans h1) (RV.cr (p:=[]) (nm:=id) h2 mh)
    | mp b c es l h1 h2 hh he=>exact .mp b c es l (aq.trans h1) (hl b r n h2 mh) hh he
    | gh us xs h1 hx=>exact .gh us _ (aq.trans h1) fun j x hj=>by simp at hj
 ·show RA _ _ _ _ ((σ.t k).b9 rs) _
  have hk:=h.tmp k
  generalize σ.t k=x at hk
  unfold A.b9
  split
  ·exact hk.b9 cG
  ·rename_i r j
   split
   ·rename_i n hn
    have hi:=(Rn.Ct cG (Mp hn)).2.2
    obtain⟨b,off,h1,h2⟩:=hk
    exact⟨b,off,by unfold Rn.bY;rw[hi];exact h1,h2⟩
   ·trivial
  ·obtain⟨b,off,g1,g2,g3,g4⟩:=hk
   refine⟨b,off,g1,g2,oV g3,fun j x hx=>?_⟩
   obtain⟨f1,v,f2,f3⟩:=g4 j x hx
   exact⟨f1,v,f2,f3.yG f1 fun b=>oV⟩
  ·obtain⟨pv,e0,b,off,g1,g2,g3,g4⟩:=hk
   refine⟨pv,e0,b,off,g1,g2,oV g3,fun j x hx=>?_⟩
   obtain⟨f1,v,f2,f3⟩:=g4 j x hx
   exact⟨f1,v,f2,f3.yG f1 fun b=>oV⟩
  ·obtain⟨us,g1,g2,g3⟩:=hk
   refine⟨us,g1,by rw[List.length_map];exact g2,fun j x hx=>?_⟩
   rw[List.getElem?_map]at hx
   rename_i cs
   cases hz:cs[j]? with
   | none=>rw[hz]at hx;cases hx
   | some z=>
    rw[hz]at hx
    injection hx with hx
    subst hx
    obtain⟨v,f1,f2⟩:=g3 j z hz
    exact⟨v,f1,f2.b9 cG⟩
  ·trivial
 ·show rs.bY ρ r=l
  unfold Rn.bY
  split
  ·rename_i r0 hi
   rcases(Rn.Ct cG (Mq hi)).1 with e | e
   ·rw[e];exact h.fix r l hr
   ·rw[h.cB r (.inr e)]at hr;cases hr
  ·exact h.fix r l hr
theorem Wh{rs:List (Nat×Rm)}{p:Nat×Tm}(hR:R w0 N σ a w):R w0 N (GQ rs p σ) a w:=by
 unfold GQ
 split
 ·rename_i n hp hk
  split
  ·rename_i t o hl
   cases U:Nat.ble 60000 n with
   | false=>exact hR
   | true=>
    have hn:=Nat.le_of_ble_eq_true U
    obtain⟨lab,ρ,hR⟩:=hR
    have hu:=hR.tmp p.1
    rw[hk]at hu
    have E6:a.tmps.getD p.1 undef = .slice none 0 0:=by
     have h2:=hu.2
     generalize a.tmps.getD p.1 undef=u at h2
     cases h2
     rfl
    have h1:=hR.new (d:=n) (x:=.sl (.sl t o false [])) (.bS (.slice none 0 0)) (.sl _ _ (aJ _ _ _) (.aY _ _ _)) (hR.cB n (.inr hn))
    refine⟨lab,_,h1.below,h1.bf,h1.root,fun k=>?_,h1.size,h1.defers,h1.fix,h1.cB⟩
    show RA _ _ _ _ (aH ((σ.drop n).root n (.sl (.sl t o false []))).t p.1 (.lf (.own [n])) k) _
    by_cases BO:k=p.1
    ·subst BO
     rw[aJ,E6]
     exact⟨rfl,by simp only[aP,aJ]⟩
    ·rw[aQ _ _ _ BO]
     exact h1.tmp k
  ·exact hR
 ·exact hR
theorem Wi{n j r:Nat}{y:V}(hR:Rl w0 N lab ρ σ a w)(hn:ρ n = .bS (.slice none 0 0)):Rl w0 N lab ρ (GR n j r σ) a w:=by
 unfold GR
 split
 ·rename_i cs hm
  split
  ·rename_i hj
   refine⟨hR.below,hR.bf,fun r' x hx=>?_,hR.tmp,hR.size,hR.defers,hR.fix,hR.cB⟩
   have hx:aH σ.m r (some (.blk (cs.set j (.own [n])))) r'=some x:=hx
   by_cases hr:r'=r
   ·subst hr
    rw[aJ]at hx
    injection hx with hx
    subst hx
    cases hR.root r' _ hm with
    | blk b off cells e cs us h1 h2 hh hs hc=>
     refine .blk b off cells e _ us h1 h2 hh (by rw[List.length_set];exact hs) fun i z hz=>?_
     rw[List.getElem?_set]at hz
     by_cases hi:j=i
     ·subst hi
      have aV:j<cs.length:=(List.getElem?_eq_some_iff.1 hj).1
      rw[if_pos rfl,if_pos aV]at hz
      injection hz with hz
      subst hz
      obtain⟨k1,k2⟩:=hc j _ hj
      refine⟨k1,?_⟩
      have hu:us j = .slice none 0 0:=by
       have h2:=k2.2
       generalize us j=u at h2
       cases h2
       rfl
      rw[hu]
      exact⟨rfl,by simp only[aP,hn]⟩
     ·rw[if_neg hi]at hz
      exact hc i z hz
   ·rw[aQ _ _ _ hr]at hx
    exact hR.root r' x hx
  ·exact hR
 ·exact hR
theorem Wj{rs:List (Nat×Rm)}{n j r:Nat}(hR:R w0 N σ a w):R w0 N (GS rs n j r σ) a w:=by
 unfold GS
 split
 ·rename_i t o hl
  cases U:Nat.ble 60000 n with
  | false=>exact hR
  | true=>
   have hn:=Nat.le_of_ble_eq_true U
   obtain⟨lab,ρ,hR⟩:=hR
   exact⟨lab,_,Wi (y:=.nil) (hR.new (d:=n) (x:=.sl (.sl t o false [])) (.bS (.slice none 0 0)) (.sl _ _ (aJ _ _ _) (.aY _ _ _)) (hR.cB n (.inr hn))) (aJ _ _ _)⟩
 ·exact hR
theorem GW{rs:List (Nat×Rm)}{r:Nat}:∀ (ms:List Lm) (cs:List Lf) (j:Nat) (σ:S),R w0 N σ a w->R w0 N (tL rs r j ms cs σ) a w
 | [],cs,j,σ,h=>by unfold tL;exact h
 | m :: ms,[],j,σ,h=>by
  unfold tL
  split <;>first | exact h | contradiction
 | m :: ms,c :: cs,j,σ,h=>by
  unfold tL
  split
  ·rename_i e1 e2;cases e1;cases e2;exact GW ms cs _ _ (Wj h)
  ·rename_i e1 e2;cases e1;cases e2;exact GW ms cs _ _ h
  ·exact h
theorem zT{rs:List (Nat×Rm)}:∀ (ps:List (Nat×Rm)) (σ:S),R w0 N σ a w->R w0 N (zS rs ps σ) a w
 | [],σ,h=>h
 | (r,.sl t o) :: ps,σ,h=>zT ps σ h
 | (r,.st t) :: ps,σ,h=>zT ps σ h
 | (r,.mp) :: ps,σ,h=>zT ps σ h
 | (r,.blk ms) :: ps,σ,h=>by
  unfold zS
  refine zT ps _ ?_
  split
  ·exact GW ms _ 0 σ h
  ·exact h
theorem Mr{rs:List (Nat×Rm)}:∀ (ps:List (Nat×Tm)) (σ:S),R w0 N σ a w->R w0 N (Cs rs ps σ) a w
 | [],σ,h=>h
 | p :: ps,σ,h=>Mr ps _ (Wh h)
theorem ff.kq{τ:ff}{x:τ.St}(h:τ.rd σ=some x)(hR:R w0 N σ a w):R w0 N (τ.mk' x) a w:=by
 unfold ff.rd at h
 split at h
 ·rename_i y hy
  injection h with h
  subst h
  exact ff.Mn hy hR
 ·have hR:=Mr (rs:=τ.rs) τ.ts σ hR
  revert h hR
  generalize Cs τ.rs τ.ts σ=aa
  intro h hR
  unfold ff.Ml at h
  cases U:(τ.rn aa).ok with
  | false=>rw[U]at h;cases h
  | true=>
   rw[U,cond_true]at h
   obtain⟨lab,ρ,hR⟩:=hR
   exact ff.Mn h (zT τ.rs _ ⟨_,_,hR.b9 U⟩)
end
end Go.Proofs.YtjldnlbiefpekaaDoor
namespace Go.Proofs.YtjldnlbiefpekaaDoor
open Go.RowKit
set_option linter.unusedVariables false
def pN:List V->List Nat->List Lf
 | [],_=>[]
 | x :: xs,ns=>bif x.plain then .v x :: pN xs ns else (match ns with
  | n :: ns=>.own [n] :: pN xs ns
  | []=>.dead :: pN xs [])
def tM:List V->List Nat->(Nat->Option au)->Nat->Option au
 | [],_,m,k=>m k
 | x :: xs,ns,m,k=>bif x.plain then tM xs ns m k else (match ns with
  | n :: ns=>bif Nat.beq k n then some (.sl x)else tM xs ns m k
  | []=>tM xs [] m k)
def fU(m:Nat->Option au):List Lf->List Nat->Option (List V)
 | [],[]=>some []
 | .v x :: cs,ns=>bif x.plain then (match fU m cs ns with
  | some vs=>some (x :: vs)
  | none=>none)else none
 | .own [r] :: cs,n :: ns=>bif Nat.beq r n then (match m n with
  | some (.sl y)=>bif y.plain then none else (match fU m cs ns with
   | some vs=>some (y :: vs)
   | none=>none)
  | _=>none)else none
 | _,_=>none
abbrev Gp:=Nat×TC×Nat×List Nat
def zU:List Gp->Type->Type
 | [],X=>X
 | g :: gs,X=>T g.2.1×zU gs X
def Cu:(gs:List Gp)->(rs:List (Nat×Rm))->zU gs (pL rs)->Nat->Option au
 | [],rs,x,k=>pM rs x k
 | (n,t,o,ns) :: gs,rs,x,k=>bif Nat.beq k n then some (.blk (pN (enc t o x.1) ns))else tM (enc t o x.1) ns (Cu gs rs x.2) k
def Cv:(gs:List Gp)->(rs:List (Nat×Rm))->(Nat->Option au)->Option (zU gs (pL rs))
 | [],rs,m=>vX rs m
 | (n,t,o,ns) :: gs,rs,m=>match m n with
  | some (.blk cs)=>(match fU m cs ns with
   | some vs=>(match dec t o vs,Cv gs rs m with
    | some x,some y=>some (x,y)
    | _,_=>none)
   | none=>none)
  | _=>none
def vY:List V->List Nat->List Lm
 | [],_=>[]
 | .int k _ :: xs,ns=>.int k :: vY xs ns
 | .bool _ :: xs,ns=>.bool :: vY xs ns
 | .str _ :: xs,ns=>.str :: vY xs ns
 | _ :: xs,n :: ns=>.own n :: vY xs ns
 | _ :: xs,[]=>.bool :: vY xs []
def GX:List V->List Nat->List (Nat×Rm)
 | .sl t o _ _ :: xs,n :: ns=>(n,.sl t o) :: GX xs ns
 | _ :: xs,ns=>GX xs ns
 | [],_=>[]
def GY:List Gp->List (Nat×Rm)->List (Nat×Rm)
 | [],rs=>rs
 | (n,t,o,ns) :: gs,rs=>(n,.blk (vY (Ju t o) ns)) :: (GX (Ju t o) ns++GY gs rs)
structure aZ where
 ts:List (Nat×Tm)
 rs:List (Nat×Rm)
 gs:List Gp
def aZ.St(τ:aZ):Type:=vW τ.ts×zU τ.gs (pL τ.rs)
def aZ.mk'(τ:aZ)(x:τ.St):S:=⟨pK τ.ts x.1,Cu τ.gs τ.rs x.2⟩
def aZ.Cw(τ:aZ)(σ:S):Option τ.St:=match zQ τ.ts σ.t,Cv τ.gs τ.rs σ.m with
 | some x,some y=>some (x,y)
 | _,_=>none
def aZ.rd(τ:aZ)(σ:S):Option τ.St:=match τ.Cw σ with
 | some x=>some x
 | none=>match ff.rd ⟨τ.ts,GY τ.gs τ.rs⟩ σ with
  | some z=>τ.Cw (ff.mk' ⟨τ.ts,GY τ.gs τ.rs⟩ z)
  | none=>none
section
variable {P:Program} {w w':World} {w0:Wd} {B N:Nat} {lab af:aG} {ρ ρ':Nat->Loc} {σ:S} {a:Act} {m:Nat->Option au}
theorem aK.inv{x:V}{xs ys:List V}(k:aK (x :: xs) ys):∃ y zs,ys=y :: zs/\Wk x y/\aK xs zs:=by
 obtain⟨k1,k2⟩:=k
 cases ys with
 | nil=>simp at k1
 | cons y zs=>exact⟨y,zs,rfl,k2 0 x y rfl rfl,by simpa using k1,fun j a b ha U=>k2 (j+1) a b (by simpa using ha) (by simpa using U)⟩
theorem Wk.Ms{x y:V}(h:Wk x y)(hp:x.plain=true):y=x:=by
 cases h <;>first | rfl | cases hp
theorem Wk.Mt{x y:V}(h:Wk x y)(hp:x.plain=false):y.plain=false:=by
 cases h <;>first | exact hp | rfl
theorem GZ:∀ (cs:List Lf) (ns:List Nat) (vs ys:List V),fU m cs ns=some vs->aK vs ys->(pN ys ns).length=cs.length/\∀ (j:Nat) z,(pN ys ns)[j]?=some z->cs[j]?=some z
 | [],[],vs,ys,h,hw=>by
  simp only[fU,Option.some.injEq]at h
  subst h
  have:ys=[]:=List.eq_nil_of_length_eq_zero hw.1.symm
  subst this
  exact⟨rfl,fun j z hz=>by simp[pN]at hz⟩
 | .v x :: cs,ns,vs,ys,h,hw=>by
  unfold fU at h
  cases hp:x.plain with
  | false=>rw[hp]at h;cases h
  | true=>
   rw[hp,cond_true]at h
   split at h
   ·rename_i us cE
    injection h with h
    subst h
    obtain⟨y,zs,rfl,k1,k2⟩:=hw.inv
    obtain rfl:=k1.Ms hp
    obtain⟨e1,e2⟩:=GZ cs ns us zs cE k2
    simp only[pN,hp,cond_true]
    refine⟨by simp[e1],fun j z hz=>?_⟩
    cases j with
    | zero=>simpa using hz
    | succ j=>exact e2 j z (by simpa using hz)
   ·cases h
 | .own [r] :: cs,n :: ns,vs,ys,h,hw=>by
  unfold fU at h
  cases U:Nat.beq r n with
  | false=>rw[U]at h;cases h
  | true=>
   rw[U,cond_true]at h
   obtain rfl:=Nat.eq_of_beq_eq_true U
   split at h
   ·rename_i y hy
    cases hp:y.plain with
    | true=>rw[hp]at h;cases h
    | false=>
     rw[hp,cond_false]at h
     split at h
     ·rename_i us cE
      injection h with h
      subst h
      obtain⟨y',zs,rfl,k1,k2⟩:=hw.inv
      have hq:=k1.Mt hp
      obtain⟨e1,e2⟩:=GZ cs ns us zs cE k2
      simp only[pN,hq,cond_false]
      refine⟨by simp[e1],fun j z hz=>?_⟩
      cases j with
      | zero=>simpa using hz
      | succ j=>exact e2 j z (by simpa using hz)
     ·cases h
   ·cases h
 | [],_ :: _,vs,ys,h,_=>by simp[fU]at h
 | .dead :: _,_,vs,ys,h,_=>by simp[fU]at h
 | .own [] :: _,_,vs,ys,h,_=>by simp[fU]at h
 | .own (_ :: _ :: _) :: _,_,vs,ys,h,_=>by simp[fU]at h
 | .own [_] :: _,[],vs,ys,h,_=>by simp[fU]at h
theorem G0{f:Nat->Option au}{k:Nat}{x:au}:∀ (cs:List Lf) (ns:List Nat) (vs ys:List V),fU m cs ns=some vs->aK vs ys->tM ys ns f k=some x->f k=some x\/∃ v y,m k=some (.sl v)/\x = .sl y/\Wk v y
 | [],[],vs,ys,h,hw,hx=>by
  simp only[fU,Option.some.injEq]at h
  subst h
  have:ys=[]:=List.eq_nil_of_length_eq_zero hw.1.symm
  subst this
  exact .inl hx
 | .v x' :: cs,ns,vs,ys,h,hw,hx=>by
  unfold fU at h
  cases hp:x'.plain with
  | false=>rw[hp]at h;cases h
  | true=>
   rw[hp,cond_true]at h
   split at h
   ·rename_i us cE
    injection h with h
    subst h
    obtain⟨y,zs,rfl,k1,k2⟩:=hw.inv
    obtain rfl:=k1.Ms hp
    simp only[tM,hp,cond_true]at hx
    exact G0 cs ns us zs cE k2 hx
   ·cases h
 | .own [r] :: cs,n :: ns,vs,ys,h,hw,hx=>by
  unfold fU at h
  cases U:Nat.beq r n with
  | false=>rw[U]at h;cases h
  | true=>
   rw[U,cond_true]at h
   obtain rfl:=Nat.eq_of_beq_eq_true U
   split at h
   ·rename_i y hy
    cases hp:y.plain with
    | true=>rw[hp]at h;cases h
    | false=>
     rw[hp,cond_false]at h
     split at h
     ·rename_i us cE
      injection h with h
      subst h
      obtain⟨y',zs,rfl,k1,k2⟩:=hw.inv
      have hq:=k1.Mt hp
      simp only[tM,hq,cond_false]at hx
      cases hk:Nat.beq k r with
      | true=>
       rw[hk,cond_true]at hx
       injection hx with hx
       obtain rfl:=Nat.eq_of_beq_eq_true hk
       exact .inr ⟨y,y',hy,hx.symm,k1⟩
      | false=>
       rw[hk,cond_false]at hx
       exact G0 cs ns us zs cE k2 hx
     ·cases h
   ·cases h
 | [],_ :: _,vs,ys,h,_,_=>by simp[fU]at h
 | .dead :: _,_,vs,ys,h,_,_=>by simp[fU]at h
 | .own [] :: _,_,vs,ys,h,_,_=>by simp[fU]at h
 | .own (_ :: _ :: _) :: _,_,vs,ys,h,_,_=>by simp[fU]at h
 | .own [_] :: _,[],vs,ys,h,_,_=>by simp[fU]at h
theorem Mv:∀ (gs:List Gp) (rs:List (Nat×Rm)) (y:zU gs (pL rs)),Cv gs rs m=some y->∀ k x,Cu gs rs y k=some x->∃ x0,m k=some x0/\∀ (w:World) (B:Nat) (lab:aG) (ρ:Nat->Loc),bP w B lab ρ k x0->bP w B lab ρ k x
 | [],rs,y,h,k,x,hx=>by
  have h:vX rs m=some y:=h
  have hx:pM rs y k=some x:=hx
  rcases GV rs m y h k with e | ⟨m',x0,z,e1,e2,e3⟩
  ·rw[e]at hx;cases hx
  ·rw[e3]at hx
   injection hx with hx
   subst hx
   exact⟨x0,e1,fun w B lab ρ hr=>Rm.kq e2 hr⟩
 | (n,t,o,ns) :: gs,rs,y,h,k,x,hx=>by
  unfold Cv at h
  split at h
  ·rename_i cs hm
   split at h
   ·rename_i vs cN
    split at h
    ·rename_i x1 y1 h1 h2
     injection h with h
     subst h
     have hw:=gS t o vs x1 h1
     simp only[Cu]at hx
     cases hk:Nat.beq k n with
     | true=>
      rw[hk,cond_true]at hx
      injection hx with hx
      subst hx
      obtain rfl:=Nat.eq_of_beq_eq_true hk
      obtain⟨e1,e2⟩:=GZ cs ns vs _ cN hw
      refine⟨_,hm,fun w B lab ρ hr=>?_⟩
      cases hr with
      | blk b off cells e _ us aq hl hh hs hc=>exact .blk b off cells e _ us aq hl hh (by rw[e1];exact hs) fun j z hz=>hc j z (e2 j z hz)
     | false=>
      rw[hk,cond_false]at hx
      rcases G0 cs ns vs _ cN hw hx with e | ⟨v,y',e1,rfl,e2⟩
      ·exact Mv gs rs y1 h2 k x e
      ·refine⟨_,e1,fun w B lab ρ hr=>?_⟩
       cases hr with
       | sl u _ aq hr=>exact .sl u _ aq (hr.wk e2)
    ·cases h
   ·cases h
  ·cases h
theorem aZ.Mw{τ:aZ}{x:τ.St}(h:τ.Cw σ=some x)(hR:R w0 N σ a w):R w0 N (τ.mk' x) a w:=by
 unfold aZ.Cw at h
 split at h
 ·rename_i u v h1 h2
  injection h with h
  subst h
  obtain⟨lab,ρ,hR⟩:=hR
  refine⟨lab,ρ,hR.below,hR.bf,fun n y hy=>?_,fun k=>?_,hR.size,hR.defers,hR.fix,hR.cB⟩
  ·obtain⟨x0,e1,e2⟩:=Mv τ.gs τ.rs v h2 n y hy
   exact e2 _ _ _ _ (hR.root n x0 e1)
  ·show RA _ _ _ _ (pK τ.ts u k) _
   rcases GU τ.ts σ.t u h1 k with e | ⟨m,z,e1,e2⟩
   ·rw[e];trivial
   ·rw[e2];exact Tm.kq e1 (hR.tmp k)
 ·cases h
theorem aZ.kq{τ:aZ}{x:τ.St}(h:τ.rd σ=some x)(hR:R w0 N σ a w):R w0 N (τ.mk' x) a w:=by
 unfold aZ.rd at h
 split at h
 ·rename_i y hy
  injection h with h
  subst h
  exact aZ.Mw hy hR
 ·split at h
  ·rename_i z hz
   exact aZ.Mw h (ff.kq hz hR)
  ·cases h
end
end Go.Proofs.YtjldnlbiefpekaaDoor
namespace Go.Proofs.YtjldnlbiefpekaaDoor
open Go.RowKit
set_option linter.unusedVariables false
def vZ:Exit->Option Nat
 | .normal=>some 0
 | .ret=>some 1
 | .exit n=>some (n+2)
 | _=>none
def G1:Nat->Exit
 | 0=>.normal
 | 1=>.ret
 | n+2=>.exit n
theorem rY{e:Exit}{n:Nat}(h:vZ e=some n):e=G1 n:=by
 cases e <;>simp[vZ]at h <;>subst h <;>rfl
def rZ:List (Nat×aZ)->Type
 | []=>Empty
 | (_,τ) :: r=>τ.St⊕rZ r
def Cx:(l:List (Nat×aZ))->Nat->S->Option (rZ l)
 | [],_,_=>none
 | (n,τ) :: r,e,σ=>bif Nat.beq n e then (match τ.rd σ with
  | some x=>some (.inl x)
  | none=>none)else (match Cx r e σ with
  | some x=>some (.inr x)
  | none=>none)
def G2{X:Type}:(l:List (Nat×aZ))->rZ l->(Exit->S->Option X)->Option X
 | [],z,_=>nomatch z
 | (n,τ) :: r,z,k=>match z with
  | .inl x=>k (G1 n) (τ.mk' x)
  | .inr z=>G2 r z k
def iter{α β:Type}(step:α->Option (α⊕β)):Nat->α->Option β
 | 0,_=>none
 | n+1,x=>match step x with
  | some (.inl y)=>iter step n y
  | some (.inr z)=>some z
  | none=>none
def Cy(P:Program)(N:Nat)(Φ:b5)(Λ:jg)(body:Code)(τ:aZ)(jH:List (Nat×aZ))(x:τ.St):Option (τ.St⊕rZ jH):=
 dF P N Φ Λ body (τ.mk' x) fun e σ=>match vZ e with
  | some 0=>(match τ.rd σ with
   | some x=>some (.inl x)
   | none=>none)
  | some n=>(match Cx jH n σ with
   | some x=>some (.inr x)
   | none=>none)
  | none=>none
def G3{X:Type}(id:Nat)(k:Exit->S->Option X)(e:Exit)(σ:S):Option X:=
 match e with
 | .exit kV=>if kV=id then k .normal σ else k (.exit kV) σ
 | e=>k e σ
def fy(id:Nat)(τ:aZ)(jH:List (Nat×aZ))(F:τ.St->Option (τ.St⊕rZ jH))(fuel:τ.St->Nat):eg:=
 ⟨fun X σ k=>match τ.rd σ with
  | some x=>(match iter F (fuel x) x with
   | some z=>G2 jH z (G3 id k)
   | none=>none)
  | none=>none⟩
def kZ:List (Bool×TC)->Type
 | []=>Unit
 | (_,t) :: r=>T t×kZ r
def gL:(l:List (Bool×TC))->kZ l->List Pt
 | [],_=>[]
 | (b,t) :: r,x=>(b,enc t 0 x.1) :: gL r x.2
def tN:(l:List (Bool×TC))->List Pt->Option (kZ l)
 | [],[]=>some ()
 | (b,t) :: r,(b',vs) :: ps=>bif b==b' then (match dec t 0 vs,tN r ps with
  | some x,some xs=>some (x,xs)
  | _,_=>none)else none
 | _,_=>none
def cz(ai:List (Bool×TC))(ro:List (Bool×TC×Nat))(F:kZ ai->Option (hG ro)):cx:=
 ⟨fun X args k=>match tN ai args with
  | some x=>(match F x with
   | some y=>k (cC ro y)
   | none=>none)
  | none=>none⟩
def G4:Pt->A
 | (false,[x])=>.lf (.v x)
 | (true,xs)=>.agg (xs.map .v)
 | (false,.bool true :: c :: cs)=>.dO (c :: cs)
 | (false,.bool false :: .int .i64 (.ofNat g) :: c :: cs)=>.gU g (c :: cs)
 | _=>.undef
def Mx(args:List Pt):S:=⟨fun k=>match args[k]? with
 | some p=>G4 p
 | none=>.undef,fun _=>none⟩
def Cz{X:Type}(P:Program)(N:Nat)(Φ:b5)(Λ:jg)(code:Code)(rv:Array ResultVar)(args:List Pt)(k:dj->Option X):Option X:=
 dF P N Φ Λ code (Mx args) fun e σ=>match vZ e with
  | some 0=>yB P σ rv k
  | some 1=>yB P σ rv k
  | _=>none
section
variable {P:Program} {w w':World} {w0:Wd} {B N:Nat} {lab af:aG} {ρ ρ':Nat->Loc} {σ:S} {a:Act} {X:Type} {d:Nat} {r:X} {o:Oper} {Φ:b5} {Λ:jg}
theorem My:∀ (l:List (Nat×aZ)) (e:Nat) (z:rZ l),Cx l e σ=some z->∀ (X:Type) (k:Exit->S->Option X),∃ aa,G2 l z k=k (G1 e) aa/\∀ a w,R w0 N σ a w->R w0 N aa a w
 | [],e,z,h=>by cases h
 | (n,τ) :: l,e,z,h=>by
  intro X k
  unfold Cx at h
  cases U:Nat.beq n e with
  | true=>
   obtain rfl:=Nat.eq_of_beq_eq_true U
   rw[U,cond_true]at h
   split at h
   ·rename_i x hx
    injection h with h
    subst h
    exact⟨τ.mk' x,rfl,fun a w hR=>aZ.kq hx hR⟩
   ·cases h
  | false=>
   rw[U,cond_false]at h
   split at h
   ·rename_i x hx
    injection h with h
    subst h
    exact My l e x hx X k
   ·cases h
theorem Wl{id:Nat}{body:Code}{τ:aZ}{jH:List (Nat×aZ)}{F:τ.St->Option (τ.St⊕rZ jH)}{fuel:τ.St->Nat}(aI:dn P Φ)(fM:nR P N Λ (occs body))(hF:∀ x,Cy P N Φ Λ body τ jH x=F x):fe P N (.block id (.loop body)) (fy id τ jH F fuel):=by
 intro X σ k r w0 h a w hR
 simp only[fy]at h
 split at h
 ·rename_i x hx
  split at h
  ·rename_i z hz
   refine wp_block ?_
   have key:∀ (n:Nat) (x:τ.St),iter F n x=some z->∀ (a:Act) (w:World),R w0 N (τ.mk' x) a w->∀ (b:Frame) (kk:List Item) (cs:List Frame),
     ∃ e a' w',Exit.inBlock id (fun e a' w'=>∃ aa,k e aa=some r/\R w0 N aa a' w') e a' w'/\Arrives P (lone (b.at a (.code body :: .inLoop body :: kk)) cs w) b kk cs e a' w':=by
    intro n
    induction n with
    | zero=>intro x hx;simp[iter]at hx
    | succ n ih=>
     intro x hx a w hR b kk cs
     simp only[iter]at hx
     have eM:∃ y,Cy P N Φ Λ body τ jH x=some y/\(match y with | .inl y=>iter F n y=some z | .inr z'=>z'=z):=by
      rw[hF]
      split at hx
      ·rename_i y hy;exact⟨_,hy,hx⟩
      ·rename_i y hy;exact⟨_,hy,by injection hx⟩
      ·cases hx
     obtain⟨y,hy,CA⟩:=eM
     unfold Cy at hy
     have Wm:=Cq (w0:=w0) aI body _ _ hy fM a w hR
     obtain⟨e,a1,w1,⟨je,ko,ke⟩,CB⟩:=Wm b (.inLoop body :: kk) cs
     split at ko
     ·rename_i he
      have he:=rY he
      subst he
      split at ko
      ·rename_i x1 sC
       injection ko with ko
       subst ko
       obtain⟨e2,a2,w2,nH,Wn⟩:=ih x1 CA a1 w1 (aZ.kq sC ke) b kk cs
       exact⟨e2,a2,w2,nH,.of_steps (Steps.trans CB (.one step_inLoop)) Wn⟩
      ·cases ko
     ·rename_i n' az he
      have he:=rY he
      split at ko
      ·rename_i z1 Wo
       injection ko with ko
       subst ko
       have CA:z1=z:=CA
       subst CA
       obtain⟨σ2,iH,fS⟩:=My (w0:=w0) (N:=N) jH n' z1 Wo X (G3 id k)
       rw[iH]at h
       rw[<-he]at h
       refine⟨e,a1,w1,?_,?_⟩
       ·cases e with
        | exit kV=>
         simp only[G3]at h
         simp only[Exit.inBlock]
         split at h
         ·rename_i hid;rw[if_pos hid];exact⟨σ2,h,fS a1 w1 ke⟩
         ·rename_i hid;rw[if_neg hid];exact⟨σ2,h,fS a1 w1 ke⟩
        | _=>exact⟨σ2,h,fS a1 w1 ke⟩
       ·refine .pass (x:=.inLoop body) rfl (fun _ _=>.inl ?_) CB
        intro e'
        rw[e']at he
        match n',az,he with
        | 0,az,_=>exact az rfl
        | 1,_,he=>cases he
        | n+2,_,he=>cases he
      ·cases ko
     ·cases ko
   intro b kk cs
   obtain⟨e,a',w',hq,CB⟩:=key (fuel x) x hz a w (aZ.kq hx hR) b kk cs
   exact⟨e,a',w',hq,.of_steps (.one step_loop) CB⟩
  ·cases h
 ·cases h
theorem PV.nU{key:Nat->List Nat}{b:Bool}{xs ys:List V}{u:Value}(h:PV w B lab key (b,xs) u)(k:aK xs ys):PV w B lab key (b,ys) u:=by
 obtain⟨us,hu,hs,hr⟩:=h
 refine⟨us,hu,hs.trans k.1,fun j y hy=>?_⟩
 have hj:j<xs.length:=by rw[k.1];exact(List.getElem?_eq_some_iff.1 hy).1
 obtain⟨v,hv,bq⟩:=hr j _ (List.getElem?_eq_getElem hj)
 exact⟨v,hv,bq.wk (k.2 j _ y (List.getElem?_eq_getElem hj) hy)⟩
theorem rm.nU{cs ds:List V}{u:Value}(h:rm w cs u)(k:aK cs ds):rm w ds u:=by
 obtain⟨b,off,hu,U,hr⟩:=h
 refine⟨b,off,hu,U,fun j y hy=>?_⟩
 have hj:j<cs.length:=by rw[k.1];exact(List.getElem?_eq_some_iff.1 hy).1
 obtain⟨v,hv,bq⟩:=hr j _ (List.getElem?_eq_getElem hj)
 exact⟨v,hv,bq.wk (k.2 j _ y (List.getElem?_eq_getElem hj) hy)⟩
theorem PA.nU{b:Bool}{xs ys:List V}{u:Value}(h:PA w (b,xs) u)(k:aK xs ys):PA w (b,ys) u:=by
 cases h with
 | v _ _ h=>exact .v _ _ (h.nU k)
 | p c cs _ h=>
  obtain⟨y,zs,rfl,k1,k2⟩:=k.inv
  cases k1
  have h:=h.nU k2
  obtain⟨c',cS,rfl,_,_⟩:=k2.inv
  exact .p _ _ _ h
 | f g c cs u h=>
  obtain⟨y,zs,rfl,k1,k2⟩:=k.inv
  cases k1
  obtain⟨y,zs,rfl,k1,k3⟩:=k2.inv
  cases k1
  have h:=h.nU k3
  obtain⟨c',cS,rfl,_,_⟩:=k3.inv
  exact .f _ _ _ _ h
theorem PA.ra{p:Pt}{u:Value}(h:PA w p u)(hf:∀ y∈p.2,y.av=true):RA w w.heap.size (fun _=>none) ρ (G4 p) u:=by
 have Mz:∀ {cs:List V} {u:Value},rm w cs u->(∀ y∈cs,y.av=true)->RF w w.heap.size (fun _=>none) cs u:=by
  rintro cs u ⟨b,off,rfl,U,hr⟩ hf
  refine⟨b,off,rfl,U,rfl,fun j x hx=>⟨hf x (List.mem_of_getElem? hx),hr j x hx⟩⟩
 cases h with
 | v _ _ h=>
  obtain⟨us,hu,hs,hr⟩:=h
  obtain⟨b,xs⟩:=p
  cases b with
  | true=>
   refine⟨us,hu,by rw[List.length_map];exact hs,fun i y hy=>?_⟩
   rw[List.getElem?_map]at hy
   cases hz:xs[i]? with
   | none=>rw[hz]at hy;cases hy
   | some z=>
    rw[hz]at hy
    injection hy with hy
    subst hy
    obtain⟨v,hv,bq⟩:=hr i z hz
    exact⟨v,hv,hf z (List.mem_of_getElem? hz),bq⟩
  | false=>
   have hu:us = #[u]:=hu
   subst hu
   have h1:xs.length=1:=hs.symm
   obtain⟨x,rfl⟩:=List.length_eq_one_iff.1 h1
   obtain⟨v,hv,bq⟩:=hr 0 x rfl
   have:u=v:=by simpa using hv
   subst this
   exact⟨hf x (by simp),bq⟩
 | p c cs _ h=>exact Mz h fun y hy=>hf y (.tail _ hy)
 | f g c cs u h=>exact⟨u,rfl,Mz h fun y hy=>hf y (.tail _ (.tail _ hy))⟩
theorem CC:∀ (l:List (Bool×TC)) (ps:List Pt) (x:kZ l),tN l ps=some x->(gL l x).length=ps.length/\∀ (i:Nat) p,(gL l x)[i]?=some p->∃ q,ps[i]?=some q/\q.1=p.1/\aK q.2 p.2
 | [],[],x,h=>⟨rfl,fun i p hp=>by simp[gL]at hp⟩
 | (b,t) :: r,(b',vs) :: ps,x,h=>by
  unfold tN at h
  cases U:b==b' with
  | false=>rw[U]at h;cases h
  | true=>
   rw[U,cond_true]at h
   have U:b=b':=by simpa using U
   subst U
   split at h
   ·rename_i y ys h1 h2
    injection h with h
    subst h
    obtain⟨k1,k2⟩:=CC r ps ys h2
    refine⟨by simp[gL,k1],fun i p hp=>?_⟩
    cases i with
    | zero=>simp[gL]at hp;subst hp;exact⟨(b,vs),rfl,rfl,gS t 0 vs y h1⟩
    | succ i=>exact k2 i p (by simpa [gL]using hp)
   ·cases h
 | [],_ :: _,x,h=>by simp[tN]at h
 | _ :: _,[],x,h=>by simp[tN]at h
def pO(l:List (Bool×TC×Nat)):Bool:=l.all fun p=>Nat.ble (full p.2.1) p.2.2
theorem MA(t:TC)(g:Nat)(x:T t)(h:full t<=g):(enc t g x).all V.loc=true:=by
 rw[List.all_eq_true]
 intro y hy
 have hg:=om t g x y hy
 have hl:=AY t g x y hy
 cases y with
 | sl t' o' q l=>
  have ho:o'=g:=by simpa [V.gr]using hg
  subst ho
  have hl:full t'+2<=full t:=Nat.le_of_ble_eq_true hl
  show ru t' o'=true
  match o',h with
  | 0,h=>omega
  | 1,h=>omega
  | n+2,h=>
   simp only[ru,Bool.or_eq_true]
   left
   exact Nat.ble_eq_true_of_le (by omega)
 | _=>rfl
theorem G5:∀ (l:List (Bool×TC×Nat)) (ps:List Pt) (x:hG l),pO l=true->hJ l ps=some x->(mj l x).length=ps.length/\∀ (nm:Nat->Nat) (off:Nat) (vs:List Value),eX w B lab nm off ps vs->eX w B lab nm off (mj l x) vs
 | [],[],x,_,h=>⟨rfl,fun nm off vs hr=>hr⟩
 | [(b,t,g)],[(b',vs)],x,ho,h=>by
  unfold hJ at h
  cases U:b==b' with
  | false=>rw[U]at h;cases h
  | true=>
   rw[U]at h
   have h:dec t g vs=some x:=h
   have U:b=b':=by simpa using U
   subst U
   have hg:full t<=g:=by simpa [pO]using ho
   refine⟨rfl,fun nm off us hr=>?_⟩
   match us,hr with
   | [u],⟨⟨_,h1⟩,_⟩=>exact⟨⟨MA t g x hg,h1.nU (gS t g vs x h)⟩,trivial⟩
 | (b,t,g) :: q :: r,(b',vs) :: ps,x,ho,h=>by
  unfold hJ at h
  cases U:b==b' with
  | false=>rw[U]at h;cases h
  | true=>
   rw[U,cond_true]at h
   have U:b=b':=by simpa using U
   subst U
   have mK:full t<=g/\pO (q :: r)=true:=by
    simp only[pO,List.all_cons,Bool.and_eq_true]at ho ⊢
    exact⟨Nat.le_of_ble_eq_true ho.1,ho.2⟩
   split at h
   ·rename_i y ys h1 h2
    injection h with h
    subst h
    obtain⟨k1,k2⟩:=G5 (q :: r) ps ys mK.2 h2
    refine⟨by simp[mj,k1],fun nm off us hr=>?_⟩
    match us,hr with
    | u :: us,⟨⟨_,hp⟩,eW⟩=>
     have hlen:vs.length=(enc t g y).length:=(gS t g vs y h1).1
     refine⟨⟨MA t g y mK.1,hp.nU (gS t g vs y h1)⟩,?_⟩
     have oI:off+vs.length=off+(enc t g y).length:=by rw[hlen]
     have eW:eX w B lab nm (off+vs.length) ps us:=eW
     rw[oI]at eW
     exact k2 nm _ us eW
   ·cases h
 | [],_ :: _,x,_,h=>by simp[hJ]at h
 | [_],[],x,_,h=>by simp[hJ]at h
 | [_],_ :: _ :: _,x,_,h=>by simp[hJ]at h
 | _ :: _ :: _,[],x,_,h=>by simp[hJ]at h
theorem MB{l:List (Bool×TC×Nat)}{res:dj}{x:hG l}(ho:pO l=true)(h:oX l res=some x){nm:Nat->Nat}{v:Value}(hr:jy w B lab nm res v):jy w B lab nm (cC l x) v:=by
 cases res with
 | one p=>
  obtain⟨k1,k2⟩:=G5 (w:=w) (B:=B) (lab:=lab) l [p] x ho h
  have hr:eX w B lab nm 0 [p] [v]:=hr
  have:=k2 nm 0 [v] hr
  unfold cC
  match hm:mj l x,k1,this with
  | [q],_,this=>exact this
  | [],k1,_=>cases k1
  | _ :: _ :: _,k1,_=>simp at k1
 | aU ps=>
  simp only[oX]at h
  cases U:Nat.beq ps.length 1 with
  | true=>rw[U]at h;cases h
  | false=>
   rw[U,cond_false]at h
   obtain⟨k1,k2⟩:=G5 (w:=w) (B:=B) (lab:=lab) l ps x ho h
   obtain⟨vs,e,hr⟩:=hr
   have:=k2 nm 0 _ hr
   unfold cC
   match hm:mj l x,k1,this with
   | [q],k1,this=>simp only[List.length_singleton]at k1;rw[<-k1]at U;cases U
   | [],_,this=>exact⟨vs,e,this⟩
   | _ :: _ :: _,_,this=>exact⟨vs,e,this⟩
theorem MC:∀ (l:List (Bool×TC)) (x:kZ l),(gL l x).length=l.length
 | [],x=>rfl
 | (b,t) :: l,x=>by simp[gL,MC l]
theorem MD:∀ (l:List (Bool×TC)) (x:kZ l) (j:Nat) (p:Pt),(gL l x)[j]?=some p->∀ y∈p.2,y.av=true
 | [],x,j,p,hp,_,_=>by simp[gL]at hp
 | (b,t) :: l,x,0,p,hp,y,hy=>by
  simp[gL]at hp
  subst hp
  obtain⟨i,hi⟩:=List.mem_iff_getElem?.1 hy
  exact fP t 0 x.1 (by omega) i y hi
 | (b,t) :: l,x,j+1,p,hp,y,hy=>MD l x.2 j p (by simpa [gL]using hp) y hy
theorem Wp{f:Nat}{fn:Func}{code:Code}{tO:List Pt}{ro:List (Bool×TC×Nat)}{y:hG ro}(hf:P.funcs[f]?=some fn)(U:fn.body=some code)(hN:fn.ntmps=N)(hle:tO.length<=N)(bB:pO ro=true)
  (aI:dn P Φ) (fM:nR P N Λ (occs code)) (Wq:∀ (j:Nat) p,tO[j]?=some p->∀ y∈p.2,y.av=true) (hy:Cz P N Φ Λ code fn.results tO (oX ro)=some y) (nm:Nat->Nat) (w:World) (aN:Array Value) (cX:rq w tO aN) (hQ:Hd w (fun _=>none)):
  Calls P f aN w fun e w'=>∃ v af,e = .returned v/\Below w.heap.size w w'/\(∀ b k,af b=some k->w.heap.size<=b/\b<w'.heap.size/\k≠[])/\jy w' w.heap.size af nm (cC ro y) v:=by
 have hle:aN.size<=N:=by rw[cX.1];exact hle
 refine calls_of_wp hf U ?_
 unfold Cz at hy
 have hR:R (.of w hQ) N (Mx tO) { tmps:=aN++Array.replicate (fn.ntmps-aN.size) undef,defers:=[] } w:=by
  refine⟨fun _=>none,fun _=>.blk 0 0,.of (Below.refl w.heap.size w) (Nat.le_refl _),(fun b k hk=>by cases hk),(fun n y hy=>by cases hy),fun j=>?_,by simp[hN];omega,rfl,(fun r l h=>by cases h),(fun _ _=>rfl)⟩
  show RA w w.heap.size _ _ (match tO[j]? with | some p=>G4 p | none=>.undef) _
  cases hp:tO[j]? with
  | none=>trivial
  | some p=>
   obtain⟨u,hu,o3⟩:=cX.2 j p hp
   have hj:j<aN.size:=(Array.getElem?_eq_some_iff.1 hu).1
   have e:(aN++Array.replicate (fn.ntmps-aN.size) undef).getD j undef=u:=by rw[Array.getD_eq_getD_getElem?,Array.getElem?_append_left hj,hu];rfl
   rw[e]
   exact o3.ra (Wq j p hp)
 refine wp_mono (Cq (w0:=.of w hQ) aI code _ _ hy fM _ w hR) fun e a' w' he=>?_
 obtain⟨aa,hk,lab,ρ,aA⟩:=he
 have fin:yB P aa fn.results (oX ro)=some y->a'.defers=[]/\∃ v,(results fn a'.tmps).run P w' = .ok v w'/\∃ r7 af,Ending.returned v=Ending.returned r7/\Below w.heap.size w w'/\(∀ b k,af b=some k->w.heap.size<=b/\b<w'.heap.size/\k≠[])/\jy w' w.heap.size af nm (cC ro y) r7:=by
  intro tP
  obtain⟨res,dU,aC⟩:=SV (w0:=.of w hQ) (N:=N) (fn:=fn) tP
  obtain⟨v,af,h1,h2,h3⟩:=aC lab ρ a' w' aA nm
  exact⟨aA.defers,v,h1,v,af,rfl,⟨aA.below.os,aA.below.tape,aA.below.output,aA.below.size,fun k hk=>aA.below.block k hk rfl⟩,fun b k U=>⟨(h2 b k U).1.resolve_right (fun h=>h rfl),(h2 b k U).2⟩,MB bB dU h3⟩
 split at hk
 ·rename_i he
  have he:=rY he
  subst he
  exact fin hk
 ·rename_i he
  have he:=rY he
  subst he
  exact fin hk
 ·cases hk
theorem Wr{f:Nat}{fn:Func}{code:Code}{ai:List (Bool×TC)}{ro:List (Bool×TC×Nat)}{F:kZ ai->Option (hG ro)}(hf:P.funcs[f]?=some fn)(U:fn.body=some code)(hN:fn.ntmps=N)(pP:(fn.name == "runtime.NumGoroutine")=false)(zV:Nat.ble ai.length N=true)(bB:pO ro=true)
  (aI:dn P Φ) (fM:nR P N Λ (occs code)) (hF:∀ x,Cz P N Φ Λ code fn.results (gL ai x) (oX ro)=F x):enters P f/\cy P f (cz ai ro F):=by
 refine⟨⟨fn,hf,pP,by rw[U];rfl⟩,fun X args k r h=>?_⟩
 simp only[cz]at h
 split at h
 ·rename_i x hx
  split at h
  ·rename_i y hy
   refine⟨_,h,fun X' k'=>by simp only[cz,hx,hy],fun nm w aN cX hQ=>?_⟩
   obtain⟨k1,k2⟩:=CC ai args x hx
   refine Wp hf U hN (by rw[MC];exact Nat.le_of_ble_eq_true zV) bB aI fM (MD ai x) ((hF x).trans hy) nm w aN ⟨cX.1.trans k1.symm,fun j p hp=>?_⟩ hQ
   obtain⟨q,hq,mq,nH⟩:=k2 j p hp
   obtain⟨u,hu,o3⟩:=cX.2 j q hq
   refine⟨u,hu,?_⟩
   obtain⟨b,ys⟩:=p
   obtain⟨b',xs⟩:=q
   simp only at mq
   subst mq
   exact o3.nU nH
  ·cases h
 ·cases h
end
end Go.Proofs.YtjldnlbiefpekaaDoor
namespace Go.Proofs.YtjldnlbiefpekaaDoor
open Go.RowKit
set_option linter.unusedVariables false
def G6{X:Type}(P:Program)(N:Nat)(Φ:b5)(Λ:jg)(code:Code)(rv:Array ResultVar)(ins:List In)(args:List Ar)(k:List In->dj->Option X):Option X:=
 dF P N Φ Λ code (rE ins args) fun e σ=>match vZ e with
  | some 0=>yJ P σ rv ins k
  | some 1=>yJ P σ rv ins k
  | _=>none
section
variable {P:Program} {w w':World} {w0:Wd} {B N:Nat} {lab af:aG} {ρ ρ':Nat->Loc} {σ:S} {a:Act} {X:Type} {d:Nat} {r:X} {o:Oper} {Φ:b5} {Λ:jg}
theorem fnM_core{f:Nat}{fn:Func}{code:Code}{ins:List In}{args:List Ar}{k:List In->dj->Option X}(hf:P.funcs[f]?=some fn)(U:fn.body=some code)(hN:fn.ntmps=N)(ME:N<=20000)(hlen:args.length<=N)
  (aI:dn P Φ) (fM:nR P N Λ (occs code)) (h:G6 P N Φ Λ code fn.results ins args k=some r) (nm:Nat->Nat) (w:World) (lab:aG) (ρ:Nat->Loc) (aN:Array Value)
  (hE:jB w w.heap.size lab ρ 0 ins) (fH:∀ b k,lab b=some k->b<w.heap.size/\k≠[]) (hsz:aN.size=args.length) (hv:∀ i,RA w w.heap.size lab ρ ((rE ins args).t i) (aN.getD i undef)) (hQ:Hd w lab):
  Calls P f aN w fun e w'=>∃ v af outs res,k outs res=some r/\e = .returned v/\eD ⟨w,lab,fun _=>none,hQ,fun _ _=>rfl⟩ w w'/\(∀ b k,af b=some k->(w.heap.size<=b\/lab b≠none)/\b<w'.heap.size/\k≠[])/\jy w' w.heap.size af nm res v/\kQ w w' af ρ nm 0 res.len ins outs:=by
 let W:Wd:=⟨w,lab,fun r=>if 20000<=r/\r<60000 then some (ρ r)else none,hQ,fun r hr=>if_neg (by omega)⟩
 refine calls_of_wp hf U ?_
 unfold G6 at h
 have hR:R W N (rE ins args) { tmps:=aN++Array.replicate (fn.ntmps-aN.size) undef,defers:=[] } w:=by
  refine⟨lab,ρ,.of (Below.refl w.heap.size w) (Nat.le_refl _),fun b k U=>⟨.inr (by rw[show W.L b=lab b from rfl,U];simp),fH b k U⟩,jB.roots ins 0 _ hE (fun r x hx=>by cases hx),fun j=>?_,by simp[hN];omega,rfl,fun r l hr=>?_,fun r hr=>?_⟩
  ·by_cases hj:j<aN.size
   ·have e:(aN++Array.replicate (fn.ntmps-aN.size) undef).getD j undef=aN.getD j undef:=by
     rw[Array.getD_eq_getD_getElem?,Array.getElem?_append_left hj,Array.getD_eq_getD_getElem?]
    show RA w w.heap.size lab ρ _ ((aN++Array.replicate (fn.ntmps-aN.size) undef).getD j undef)
    rw[e]
    exact hv j
   ·have e:(rE ins args).t j = .undef:=by
     simp only[rE,List.getElem?_eq_none (by omega:args.length<=j)]
    rw[e]
    trivial
  ·have hr:(if 20000<=r/\r<60000 then some (ρ r)else none)=some l:=hr
   split at hr
   ·injection hr
   ·cases hr
  ·show (if 20000<=r/\r<60000 then some (ρ r)else none)=none
   rw[if_neg (by omega)]
 refine wp_mono (Cq (w0:=W) aI code _ _ h fM _ w hR) fun e a' w' he=>?_
 obtain⟨aa,hk,gi,oT,aA⟩:=he
 have fin:yJ P aa fn.results ins k=some r->a'.defers=[]/\∃ v,(results fn a'.tmps).run P w' = .ok v w'/\∃ r7 af outs res,k outs res=some r/\Ending.returned v=Ending.returned r7/\eD ⟨w,lab,fun _=>none,hQ,fun _ _=>rfl⟩ w w'/\(∀ b k,af b=some k->(w.heap.size<=b\/lab b≠none)/\b<w'.heap.size/\k≠[])/\jy w' w.heap.size af nm res r7/\kQ w w' af ρ nm 0 res.len ins outs:=by
  intro tP
  obtain⟨outs,res,Ws,aC⟩:=S2 (w0:=W) (N:=N) (fn:=fn) (w1:=w) (nx:=ρ) rfl (fun r h1 h2=>if_pos ⟨h1,h2⟩) (jB.Fp ins 0 hE) tP
  obtain⟨v,af,h1,h2,h3,h4⟩:=aC gi oT a' w' aA nm
  exact⟨aA.defers,v,h1,v,af,outs,res,Ws,rfl,⟨aA.below.os,aA.below.tape,aA.below.output,aA.below.size,fun k hk=>aA.below.block k hk⟩,h2,h3,h4⟩
 split at hk
 ·rename_i he
  have he:=rY he
  subst he
  exact fin hk
 ·rename_i he
  have he:=rY he
  subst he
  exact fin hk
 ·cases hk
end
end Go.Proofs.YtjldnlbiefpekaaDoor
namespace Go.Proofs.YtjldnlbiefpekaaDoor
open Go.RowKit
set_option linter.unusedVariables false
def k7:(l:List (Bool×TC×Nat))->List In->Option (oY l)
 | [],[]=>some ()
 | (true,t,g) :: r,.blk cs :: is=>match dec t g cs,k7 r is with
  | some x,some xs=>some (x,xs)
  | _,_=>none
 | (false,t,g) :: r,.sl y :: is=>match (bif Nat.ble 1000000 g then (bif y.fC then none else y.bN t (g+2))else bif y.fC then y.bN t (g+2)else none),k7 r is with
  | some x,some xs=>some (x,xs)
  | _,_=>none
 | _,_=>none
def CD:List In->List In->List In->Prop
 | [],[],[]=>True
 | .blk CE :: r0,.blk cs :: r,.blk cS :: r'=>(aK cs cS/\CE.map (fun v=>(v.plain,v.av))=cS.map (fun v=>(v.plain,v.av))/\∀ x∈cS,x.fC=true)/\CD r0 r r'
 | .sl _ :: r0,.sl y :: r,.sl y' :: r'=>(Wk y y'/\(y = .nil->y' = .nil))/\CD r0 r r'
 | _,_,_=>False
theorem CF:∀ (ps:List PK) (x0:iS ps) (is:List In) (x:oY (cF ps)),k7 (cF ps) is=some x->CD (kR ps x0) is (dY (cF ps) x)
 | [],_,[],x,_=>trivial
 | [],_,_ :: _,x,h=>by simp[k7,cF]at h
 | .v b t :: ps,x0,is,x,h=>CF ps x0.2 is x h
 | .p t g off :: ps,x0,[],x,h=>by simp[k7,cF]at h
 | .s t g :: ps,x0,[],x,h=>by simp[k7,cF]at h
 | .p t g off :: ps,x0,.sl _ :: _,x,h=>by simp[k7,cF]at h
 | .s t g :: ps,x0,.blk _ :: _,x,h=>by simp[k7,cF]at h
 | .p t g off :: ps,x0,.blk cs :: is,x,h=>by
  have h:k7 ((true,t,g) :: cF ps) (.blk cs :: is)=some x:=h
  unfold k7 at h
  split at h
  ·rename_i y ys h1 h2
   injection h with h
   subst h
   exact⟨⟨gS t g cs y h1,RM t g x0.1 y,fun z hz=>Es t g y z hz⟩,CF ps x0.2 is ys h2⟩
  ·cases h
 | .s t g :: ps,x0,.sl y :: is,x,h=>by
  have h:k7 ((false,t,g) :: cF ps) (.sl y :: is)=some x:=h
  unfold k7 at h
  split at h
  ·rename_i z zs h1 h2
   injection h with h
   subst h
   refine⟨?_,CF ps x0.2 is zs h2⟩
   cases U:Nat.ble 1000000 g with
   | true=>
    cases hy:y.fC with
    | true=>rw[U,hy]at h1;cases h1
    | false=>
     have:y = .nil:=by cases y <;>first | rfl | cases hy
     subst this
     exact⟨.same _,fun _=>rfl⟩
   | false=>
    cases hy:y.fC with
    | false=>rw[U,hy]at h1;cases h1
    | true=>
     rw[U,hy]at h1
     exact⟨V.bR h1,fun e=>by subst e;cases hy⟩
  ·cases h
theorem kQ.typed{w w':World}{af:aG}{ρ:Nat->Loc}{nm:Nat->Nat}:∀ (ins:List In) (i pos:Nat) (outs v7:List In),kQ w w' af ρ nm i pos ins outs->CD ins outs v7->yI w w' af ρ nm i pos ins v7
 | [],i,pos,[],[],h,hk=>trivial
 | .blk CE :: ins,i,pos,.blk MF :: outs,.blk vP :: v7,h,hk=>by
  obtain⟨⟨b,off,cells,iR,e,e',h1,h2,h3,h4,h5,h6,h7⟩,hr⟩:=h
  obtain⟨⟨hw,G7,Wt⟩,b8⟩:=hk
  refine⟨⟨b,off,cells,iR,e,e',h1,h2,h3,h4,by rw[<-hw.1];exact h5,by rw[<-hw.1];exact h6,fun j x hx=>?_⟩,kQ.typed ins _ _ outs v7 hr b8⟩
  have hj:j<MF.length:=by rw[hw.1];exact(List.getElem?_eq_some_iff.1 hx).1
  obtain⟨u,hu,hc⟩:=h7 j _ (List.getElem?_eq_getElem hj)
  have hk:=hw.2 j _ x (List.getElem?_eq_getElem hj) hx
  have Wu:∀ x0,CE[j]?=some x0->x0.plain=x.plain/\x0.av=x.av:=by
   intro x0 h0
   have e1:(CE.map (fun v=>(v.plain,v.av)))[j]?=(vP.map (fun v=>(v.plain,v.av)))[j]?:=by rw[G7]
   rw[List.getElem?_map,List.getElem?_map,h0,hx]at e1
   simpa using e1
  have Wv:=Wt x (List.mem_of_getElem? hx)
  generalize MF[j]=y at hc hk
  refine⟨u,hu,?_⟩
  rcases hc with ⟨c1,c2⟩ | ⟨c1,c2,x0,c3,c4⟩ | ⟨c1,c2,c6,⟨x0,c3,c4⟩,c5⟩ | ⟨c1,c2⟩
  ·cases hk with
   | same=>exact .inl ⟨c1,c2⟩
   | nil t o=>cases c1
   | q t o l=>cases c1
   | gr=>cases c1
  ·subst c1 c2
   have hf:x.av=false:=by rw[<-(Wu x0 c3).2];exact c4
   cases hk with
   | same=>cases Wv
   | nil t o=>exact .inr (.inr ⟨hf,.aY _ _ _⟩)
  ·cases hk with
   | same=>exact .inr (.inl ⟨c1,c2,c5⟩)
   | nil t o=>cases c6
   | q t o l=>exact .inr (.inl ⟨rfl,c2,c5⟩)
   | gr t o o' qn l h1 h2=>simp[V.av]at c2;omega
  ·have hf:=hk.Fv c1
   exact .inr (.inr ⟨hf,c2.wk hk⟩)
 | .sl y0 :: ins,i,pos,.sl y1 :: outs,.sl y2 :: v7,h,hk=>by
  obtain⟨h,hr⟩:=h
  obtain⟨⟨hw,hn⟩,b8⟩:=hk
  exact⟨h.imp hn (fun⟨v,h1,h2⟩=>⟨v,h1,h2.wk hw⟩),kQ.typed ins _ _ outs v7 hr b8⟩
 | [],_,_,_ :: _,_,h,_=>h.elim
 | [],_,_,[],_ :: _,_,h=>h.elim
 | .blk _ :: _,_,_,[],_,h,_=>h.elim
 | .sl _ :: _,_,_,[],_,h,_=>h.elim
 | .blk _ :: _,_,_,.sl _ :: _,_,h,_=>h.elim
 | .sl _ :: _,_,_,.blk _ :: _,_,h,_=>h.elim
 | .blk _ :: _,_,_,.blk _ :: _,[],_,h=>h.elim
 | .blk _ :: _,_,_,.blk _ :: _,.sl _ :: _,_,h=>h.elim
 | .sl _ :: _,_,_,.sl _ :: _,[],_,h=>h.elim
 | .sl _ :: _,_,_,.sl _ :: _,.blk _ :: _,_,h=>h.elim
theorem MG:∀ (l:List (Bool×TC×Nat)) (ps:List Pt) (x:hG l),hJ l ps=some x->(ps.map fun p=>p.2.length)=((mj l x).map fun p=>p.2.length)
 | [],[],x,h=>rfl
 | [(b,t,g)],[(b',vs)],x,h=>by
  unfold hJ at h
  cases U:b==b' with
  | false=>rw[U]at h;cases h
  | true=>
   rw[U]at h
   have h:dec t g vs=some x:=h
   simp[mj,(gS t g vs x h).1]
 | (b,t,g) :: q :: r,(b',vs) :: ps,x,h=>by
  unfold hJ at h
  cases U:b==b' with
  | false=>rw[U]at h;cases h
  | true=>
   rw[U,cond_true]at h
   split at h
   ·rename_i y ys h1 h2
    injection h with h
    subst h
    simp only[mj,List.map_cons]
    rw[MG (q :: r) ps ys h2,(gS t g vs y h1).1]
   ·cases h
 | [],_ :: _,x,h=>by simp[hJ]at h
 | [_],[],x,h=>by simp[hJ]at h
 | [_],_ :: _ :: _,x,h=>by simp[hJ]at h
 | _ :: _ :: _,[],x,h=>by simp[hJ]at h
theorem Ww{l:List (Bool×TC×Nat)}{res:dj}{x:hG l}(h:oX l res=some x):res.len=(cC l x).len:=by
 have key:∀ ps,hJ l ps=some x->(ps.map fun p=>p.2.length).sum=(cC l x).len:=by
  intro ps h
  rw[MG l ps x h]
  unfold cC
  match hm:mj l x with
  | [q]=>simp[dj.len]
  | []=>rfl
  | _ :: _ :: _=>rfl
 cases res with
 | one p=>have:=key [p] h;simpa [dj.len]using this
 | aU ps=>
  simp only[oX]at h
  cases U:Nat.beq ps.length 1 with
  | true=>rw[U]at h;cases h
  | false=>rw[U,cond_false]at h;exact key ps h
section
variable {P:Program} {w w':World} {w0:Wd} {B N:Nat} {lab af:aG} {ρ ρ':Nat->Loc} {σ:S} {a:Act} {X:Type} {d:Nat} {r:X} {o:Oper} {Φ:b5} {Λ:jg}
def MH(l:List (Bool×TC×Nat))(ro:List (Bool×TC×Nat))(outs:List In)(res:dj):Option (hG ro×oY l):=
 match oX ro res,k7 l outs with
 | some x,some y=>some (x,y)
 | _,_=>none
theorem MI{f:Nat}{fn:Func}{code:Code}{ps:List PK}{ro:List (Bool×TC×Nat)}{F:iS ps->Option (hG ro×oY (cF ps))}(hf:P.funcs[f]?=some fn)(U:fn.body=some code)(hN:fn.ntmps=N)(pP:(fn.name == "runtime.NumGoroutine")=false)(zV:Nat.ble ps.length N=true)(ME:Nat.ble N 20000=true)(bB:pO ro=true)
  (aI:dn P Φ) (fM:nR P N Λ (occs code)) (hF:∀ x,G6 P N Φ Λ code fn.results (kR ps x) (hU ps 0 x) (MH (cF ps) ro)=F x):enters P f/\nw P f ⟨ps,ro,F⟩:=by
 refine⟨⟨fn,hf,pP,by rw[U];rfl⟩,fun x y h nm w lab ρ aN hE fH hsz hv hQ=>?_⟩
 have h:F x=some y:=h
 rw[<-hF x]at h
 have hlen:∀ (ps:List PK) (i:Nat) (x:iS ps),(hU ps i x).length=ps.length:=by
  intro ps
  induction ps with
  | nil=>intro i x;rfl
  | cons p ps ih=>
   intro i x
   cases p with
   | v=>exact congrArg (· + 1) (ih _ _)
   | p=>exact congrArg (· + 1) (ih _ _)
   | s=>exact congrArg (· + 1) (ih _ _)
 have hsz:aN.size=(hU ps 0 x).length:=by rw[hlen];exact hsz
 refine(fnM_core hf U hN (Nat.le_of_ble_eq_true ME) (by rw[hlen];exact Nat.le_of_ble_eq_true zV) aI fM h nm w lab ρ aN hE fH hsz hv hQ).mono fun e w' fR=>?_
 obtain⟨v,af,outs,res,hk,he,c8,hl,dU,FF⟩:=fR
 unfold MH at hk
 split at hk
 ·rename_i y1 y2 h1 h2
  injection hk with hk
  subst hk
  refine⟨v,af,he,c8,hl,MB bB h1 dU,?_⟩
  rw[<-Ww h1]
  exact kQ.typed _ _ _ _ _ FF (CF ps x outs y2 h2)
 ·cases hk
end
end Go.Proofs.YtjldnlbiefpekaaDoor
namespace Go.Proofs.YtjldnlbiefpekaaDoor
open Go.RowKit
set_option linter.unusedVariables false
set_option maxRecDepth 100000
section
variable {P:Program} {w w':World} {w0:Wd} {B N:Nat} {lab af:aG} {ρ ρ':Nat->Loc} {σ:S} {a:Act} {X:Type} {d:Nat} {r:X} {o:Oper} {Φ:b5} {Λ:jg}
end
end Go.Proofs.YtjldnlbiefpekaaDoor
namespace Go.Proofs.YtjldnlbiefpekaaDoor
open Go.RowKit
set_option linter.unusedVariables false
set_option maxRecDepth 100000
def nV(i j:Nat):Nat:=20001+1000*i+j
def abg(σ:S)(rv:Array ResultVar)(a j:Nat)(t:TC):Option (Nat×Nat):=match rv.toList with
 | [.tmp s]=>(match σ.t s with
  | .view [n] sz i k=>bif Nat.beq n (nV a j)&&Nat.beq sz (aj t)then some (i,k)else none
  | _=>none)
 | _=>none
section
variable {P:Program} {w w':World} {w0:Wd} {B N:Nat} {lab af:aG} {ρ ρ':Nat->Loc} {σ:S} {a:Act} {X:Type} {d:Nat} {r:X} {o:Oper} {Φ:b5} {Λ:jg}
end
end Go.Proofs.YtjldnlbiefpekaaDoor
namespace Go.Proofs.YtjldnlbiefpekaaDoor
open Go.RowKit
set_option linter.unusedVariables false
def Wd.Wx(d:Wd)(g:Nat)(l:Option Loc)(hg:20000<=g):Wd:=⟨d.w,d.L,fun r=>if r=g then l else d.F r,d.held,fun r hr=>by
 show (if r=g then l else d.F r)=none
 rw[if_neg (by omega)]
 exact d.low r hr⟩
def r8(g:Nat):List (Bool×List Lf)->A
 | [(false,[x])]=>.lf (x.drop g)
 | [(true,cs)]=>.agg (cs.map (Lf.drop g))
 | [(false,_)]=>.undef
 | ps=>.aU (ps.map fun p=>(p.1,p.2.map (Lf.drop g)))
def tQ{X:Type}(P:Program)(g:Nat)(rv:Array ResultVar)(τ:S)(k:S->A->Option X):Option X:=
 jz P τ rv.toList fun ps=>match τ.m g with
  | some (.gh ys)=>k ⟨fun j=>((ys.map (A.drop g))[j]?).getD .undef,(τ.drop g).m⟩ (r8 g ps)
  | _=>none
def MJ(g N:Nat)(σ:S)(xs:List A):S:=⟨fun j=>((xs.map (A.drop g))[j]?).getD .undef,aH (σ.drop g).m g (some (.gh ((List.range N).map fun j=>(σ.t j).drop g)))⟩
def zW:jg:=fun _=>none
def zX{X:Type}(P:Program)(M g:Nat)(Φ:b5)(code:Code)(rv:Array ResultVar)(N:Nat)(σ:S)(xs:List A)(k:S->A->Option X):Option X:=
 bif Nat.ble xs.length M then dF P M Φ zW code (MJ g N σ xs) fun e τ=>match vZ e with
  | some 0=>tQ P g rv τ k
  | some 1=>tQ P g rv τ k
  | _=>none
 else none
def MK(P:Program)(M g:Nat)(Φ:b5)(code:Code)(rv:Array ResultVar):mz:=⟨fun X N σ xs k=>zX P M g Φ code rv N σ xs k⟩
section
variable {P:Program} {w w':World} {w0:Wd} {B M N g:Nat} {lab af:aG} {ρ ρ':Nat->Loc} {σ:S} {a:Act} {X:Type} {d:Nat} {r:X} {o:Oper} {Φ:b5} {Λ:jg}
theorem CG{dst:Option Tmp}{gd:Bool}{k:S->Option X}(h:splitK σ dst gd k=some r):∃ τ,k τ=some r/\aS (fun X k=>splitK (X:=X) σ dst gd k) τ:=by
 unfold splitK at h
 cases gd with
 | false=>exact⟨σ,h,fun X k=>rfl⟩
 | true=>
  rw[cond_true]at h
  split at h
  ·rename_i d
   split at h
   ·rename_i b U
    cases b with
    | true=>exact⟨_,h,fun X k=>by simp only[splitK,cond_true,U]⟩
    | false=>exact⟨_,h,fun X k=>by simp only[splitK,cond_true,U,cond_false]⟩
   ·rename_i U
    exact⟨σ,h,fun X k=>by
     show splitK σ (some d) true k=k σ
     unfold splitK
     simp only[cond_true]⟩
  ·exact⟨σ,h,fun X k=>rfl⟩
theorem Wy[Inhabited Wd]{ops:Array Oper}{L i:Nat}{k:S->Option X}(h:rV P N Φ ops L i σ o k=some r):∃ τ,k τ=some r/\aS (fun X k=>rV (X:=X) P N Φ ops L i σ o k) τ:=by
 unfold rV at h
 split at h
 ·rename_i hw
  obtain⟨v,h1,hd,_⟩:=vE (w0:=default) (N:=N) h
  cases hv:v.fK (nQ Φ ops i L (waits ops i ops.size 0 0) σ) (pg σ ops i L (waits ops i ops.size 0 0))with
  | false=>rw[hv]at h1;cases h1
  | true=>
   rw[hv,cond_true]at h1
   obtain⟨h2,h3⟩:=fL h1
   exact⟨_,h2,fun X k=>by
    simp only[rV,hw]
    refine(hd.at_ _).trans ?_
    rw[hv,cond_true]
    exact(h3 σ).at_ _⟩
 ·rename_i hw
  obtain⟨h1,h2⟩:=fL h
  exact⟨_,h1,fun X k=>by simp only[rV,hw];exact(h2 σ).at_ _⟩
 ·cases h
theorem G8[Inhabited Wd](aI:dn P Φ){ops:Array Oper}{k:S->Option X}(h:bL P N Φ ops σ o k=some r):∃ τ,k τ=some r/\aS (fun X k=>bL (X:=X) P N Φ ops σ o k) τ:=by
 unfold bL at h
 split at h
 ·rename_i hw
  obtain⟨τ,h1,h2⟩:=B2 aI h
  exact⟨τ,h1,fun X k=>by simp only[bL,hw];exact h2 X k⟩
 ·rename_i hw
  obtain⟨h1,h2⟩:=fL h
  exact⟨_,h1,fun X k=>by simp only[bL,hw];exact(h2 σ).at_ _⟩
 ·cases h
theorem zY[Inhabited Wd](aI:dn P Φ){ops:Array Oper}:∀ (f L:Nat) (σ:S) (k:S->Option X),gI P N Φ ops f L σ k=some r->∃ τ,k τ=some r/\aS (fun X k=>gI (X:=X) P N Φ ops f L σ k) τ
 | 0,L,σ,k,h=>by
  unfold gI at h
  split at h
  ·rename_i hr
   exact⟨σ,h,fun X k=>by simp only[gI,hr]⟩
  ·cases h
 | f+1,L,σ,k,h=>by
  unfold gI at h
  split at h
  ·rename_i hr
   exact⟨σ,h,fun X k=>by simp only[gI,hr]⟩
  ·rename_i i hr
   split at h
   ·rename_i o ho
    obtain⟨τ,h1,h2⟩:=G8 aI h
    obtain⟨dr,h3,h4⟩:=CG h1
    obtain⟨mN,h5,h6⟩:=zY aI f _ dr k h3
    exact⟨mN,h5,fun X k=>by
     simp only[gI,hr,ho]
     exact(h2.at_ _).trans ((h4.at_ _).trans (h6.at_ _))⟩
   ·cases h
  ·rename_i rs hn hs
   split at h
   ·rename_i i hf
    split at h
    ·rename_i o ho
     obtain⟨τ,h1,h2⟩:=Wy h
     obtain⟨dr,h3,h4⟩:=CG h1
     obtain⟨mN,h5,h6⟩:=zY aI f _ dr k h3
     refine⟨mN,h5,fun X k=>?_⟩
     show gI P N Φ ops (f+1) L σ k=k mN
     unfold gI
     split
     ·rename_i e;exact absurd e hn
     ·rename_i i e;exact absurd e (hs i)
     ·simp only[hf,ho]
      exact(h2.at_ _).trans ((h4.at_ _).trans (h6.at_ _))
    ·cases h
   ·rename_i hf
    split at h
    ·rename_i i Wz
     split at h
     ·rename_i o ho
      obtain⟨τ,h1,h2⟩:=G8 aI h
      obtain⟨dr,h3,h4⟩:=CG h1
      obtain⟨mN,h5,h6⟩:=zY aI f _ dr k h3
      refine⟨mN,h5,fun X k=>?_⟩
      show gI P N Φ ops (f+1) L σ k=k mN
      unfold gI
      split
      ·rename_i e;exact absurd e hn
      ·rename_i i e;exact absurd e (hs i)
      ·simp only[hf,Wz,ho]
       exact(h2.at_ _).trans ((h4.at_ _).trans (h6.at_ _))
     ·cases h
    ·cases h
theorem WA[Inhabited Wd](aI:dn P Φ){ops:Array Oper}{k:S->Option X}(h:pz P N Φ ops σ k=some r):∃ τ,k τ=some r/\aS (fun X k=>pz (X:=X) P N Φ ops σ k) τ:=by
 unfold pz at h
 split at h
 ·rename_i i hi
  split at h
  ·rename_i o ho
   split at h
   ·rename_i e he
    obtain⟨τ,h1,h2⟩:=G8 aI h
    obtain⟨dr,h3,h4⟩:=zY aI _ _ _ _ h1
    exact⟨dr,h3,fun X k=>by
     simp only[pz,hi,ho,he]
     exact(h2.at_ _).trans (h4.at_ _)⟩
   ·cases h
  ·cases h
 ·rename_i hi
  obtain⟨τ,h1,h2⟩:=zY aI _ _ _ _ h
  exact⟨τ,h1,fun X k=>by simp only[pz,hi];exact h2.at_ _⟩
theorem WB[Inhabited Wd](aI:dn P Φ){k:S->Option X}(h:kg P N Φ σ o k=some r):∃ τ,k τ=some r/\∀ (X':Type) (k':S->Option X'),kg P N Φ σ o k'=k' τ:=by
 have same:∀ σ2:S,(∀ (X':Type) (k':S->Option X'),kg P N Φ σ o k'=bC P N Φ σ2 o k')->∃ τ,k τ=some r/\∀ (X':Type) (k':S->Option X'),kg P N Φ σ o k'=k' τ:=by
  intro σ2 e
  rw[e]at h
  obtain⟨τ,h1,h2⟩:=B2 aI h
  exact⟨τ,h1,fun X k=>(e X k).trans (h2 X k)⟩
 cases ho:o.op with
 | store t x y=>
  cases hd:o.dst with
  | some d=>exact same σ fun X' k'=>by simp only[kg,ho,hd]
  | none=>
   have e:∀ (X':Type) (k':S->Option X'),kg P N Φ σ o k'=(match ah σ y with
    | .view [q] s i j=>rP P σ q s i j t (ah σ x) k'
    | _=>bC P N Φ σ o k'):=fun X' k'=>by simp only[kg,ho,hd];rfl
   rw[e]at h
   split at h
   ·rename_i q s i j hy
    obtain⟨τ,h1,h2⟩:=Uw h
    exact⟨τ,h1,fun X k=>by rw[e];simp only[hy];exact h2.at_ _⟩
   ·rename_i hn
    obtain⟨τ,h1,h2⟩:=B2 aI h
    refine⟨τ,h1,fun X k=>?_⟩
    rw[e]
    split
    ·rename_i q s i j hy;exact(hn _ _ _ _ hy).elim
    ·exact h2 X k
 | slice t x lo hi mx=>
  cases hd:o.dst with
  | none=>exact same σ fun X' k'=>by simp only[kg,ho,hd]
  | some d=>
   cases mx with
   | some m=>exact same σ fun X' k'=>by simp only[kg,ho,hd]
   | none=>exact same (vz σ (ah σ x)) fun X' k'=>by simp only[kg,ho,hd]
 | _=>exact same σ fun X' k'=>by simp only[kg,ho]
theorem G9[Inhabited Wd](aI:dn P Φ){ops:Array Oper}:∀ (rest:List Oper) (j:Nat) (σ:S) (k:S->Option X),nN P N Φ ops j rest σ k=some r->∃ τ,k τ=some r/\aS (fun X k=>nN (X:=X) P N Φ ops j rest σ k) τ
 | [],j,σ,k,h=>⟨σ,h,fun X k=>rfl⟩
 | o :: rest,j,σ,k,h=>by
  unfold nN at h
  split at h
  ·rename_i hw
   obtain⟨τ,h1,h2⟩:=WB aI h
   obtain⟨dr,h3,h4⟩:=CG h1
   obtain⟨mN,h5,h6⟩:=G9 aI rest _ dr k h3
   exact⟨mN,h5,fun X k=>by
    simp only[nN,hw]
    exact(h2 _ _).trans ((h4.at_ _).trans (h6.at_ _))⟩
  ·rename_i hw
   obtain⟨h1,h2⟩:=fL h
   obtain⟨mN,h5,h6⟩:=G9 aI rest _ _ k h1
   exact⟨mN,h5,fun X k=>by
    simp only[nN,hw]
    exact((h2 σ).at_ _).trans (h6.at_ _)⟩
  ·cases h
theorem WC[Inhabited Wd](aI:dn P Φ):∀ (c:Code) (σ:S) (k:Exit->S->Option X),dF P N Φ zW c σ k=some r->∃ e τ,k e τ=some r/\∀ (X':Type) (k':Exit->S->Option X'),dF P N Φ zW c σ k'=k' e τ:=by
 intro c
 induction c with
 | skip=>exact fun σ k h=>⟨_,_,h,fun _ _=>rfl⟩
 | label l=>exact fun σ k h=>⟨_,_,h,fun _ _=>rfl⟩
 | ret=>exact fun σ k h=>⟨_,_,h,fun _ _=>rfl⟩
 | exit id=>exact fun σ k h=>⟨_,_,h,fun _ _=>rfl⟩
 | region id ops draw=>
  intro σ k h
  cases draw with
  | true=>
   simp only[dF]at h
   cases hm:P.follows .mixedOrders with
   | false=>rw[hm]at h;cases h
   | true=>
    rw[hm,cond_true]at h
    obtain⟨τ,h1,h2⟩:=WA aI h
    exact⟨_,τ,h1,fun X k=>by simp only[dF,hm,cond_true];exact h2.at_ _⟩
  | false=>
   simp only[dF]at h
   obtain⟨τ,h1,h2⟩:=G9 aI _ _ _ _ h
   exact⟨_,τ,h1,fun X k=>by simp only[dF];exact h2.at_ _⟩
 | seq x y tJ tK=>
  intro σ k h
  simp only[dF]at h
  obtain⟨e,τ,h1,h2⟩:=tJ σ _ h
  cases e with
  | normal=>
   obtain⟨e',dr,h3,h4⟩:=tK τ k h1
   exact⟨e',dr,h3,fun X k=>by simp only[dF];rw[h2];exact h4 X k⟩
  | _=>exact⟨_,τ,h1,fun X k=>by simp only[dF];rw[h2]⟩
 | cond c x y tJ tK=>
  intro σ k h
  simp only[dF]at h
  split at h
  ·rename_i b U
   cases b with
   | true=>
    obtain⟨e,τ,h1,h2⟩:=tJ σ k h
    exact⟨e,τ,h1,fun X k=>by simp only[dF,U,cond_true];exact h2 X k⟩
   | false=>
    obtain⟨e,τ,h1,h2⟩:=tK σ k h
    exact⟨e,τ,h1,fun X k=>by simp only[dF,U,cond_false];exact h2 X k⟩
  ·cases h
 | block id c ih=>
  intro σ k h
  have e0:∀ (X':Type) (k':Exit->S->Option X'),dF P N Φ zW (.block id c) σ k'=dF P N Φ zW c σ fun e aa=>match e with
   | .exit kV=>if kV=id then k' .normal aa else k' (.exit kV) aa
   | e=>k' e aa:=fun X' k'=>rfl
  rw[e0]at h
  obtain⟨e,τ,h1,h2⟩:=ih σ _ h
  cases e with
  | exit kV=>
   by_cases hi:kV=id
   ·simp only[hi,if_true]at h1
    exact⟨_,τ,h1,fun X k=>by rw[e0,h2];simp only[hi,if_true]⟩
   ·simp only[hi,if_false]at h1
    exact⟨_,τ,h1,fun X k=>by rw[e0,h2];simp only[hi,if_false]⟩
  | _=>exact⟨_,τ,h1,fun X k=>by rw[e0,h2]⟩
 | _=>intro σ k h;simp[dF]at h
theorem He:∀ (l:List ResultVar) (k:List (Bool×List Lf)->Option X),jz P σ l k=some r->∃ ps,k ps=some r/\aS (fun X k=>jz (X:=X) P σ l k) ps
 | [],k,h=>⟨[],h,fun X k=>rfl⟩
 | .tmp t :: rest,k,h=>by
  simp only[jz]at h
  split at h
  ·rename_i p hp
   obtain⟨ps,h2,h3⟩:=He rest _ h
   exact⟨_,h2,fun X k=>by simp only[jz,hp];exact h3.at_ _⟩
  ·cases h
 | .cell c ty :: rest,k,h=>by
  simp only[jz]at h
  obtain⟨y,hy,hd⟩:=yW h
  split at hy
  ·rename_i p hp
   obtain⟨ps,h2,h3⟩:=He rest _ hy
   exact⟨_,h2,fun X k=>by
    simp only[jz]
    refine(hd.at_ _).trans ?_
    simp only[hp]
    exact h3.at_ _⟩
  ·cases hy
theorem WD{rv:Array ResultVar}{k:S->A->Option X}(h:tQ P g rv σ k=some r):∃ ys ps,σ.m g=some (.gh ys)/\jz P σ rv.toList some=some ps/\k ⟨fun j=>((ys.map (A.drop g))[j]?).getD .undef,(σ.drop g).m⟩ (r8 g ps)=some r/\
  ∀ (X':Type) (k':S->A->Option X'),tQ P g rv σ k'=k' ⟨fun j=>((ys.map (A.drop g))[j]?).getD .undef,(σ.drop g).m⟩ (r8 g ps):=by
 unfold tQ at h
 obtain⟨ps,h1,h2⟩:=He _ _ h
 split at h1
 ·rename_i ys hy
  exact⟨ys,ps,hy,h2.at_ _,h1,fun X' k'=>by
   unfold tQ
   refine(h2.at_ _).trans ?_
   simp only[hy]⟩
 ·cases h1
theorem List.ML(xs:List A)(g j:Nat):((xs.map (A.drop g))[j]?).getD .undef=A.drop g ((xs[j]?).getD .undef):=by
 rw[List.getElem?_map]
 cases xs[j]? <;>rfl
theorem RP.r8{ps:List (Bool×List Lf)}{vs:List Value}(aq:∀ r,r≠g->ρ' r=ρ r)(hl:vs.length=ps.length)(h:∀ (i:Nat) p v,ps[i]?=some p->vs[i]?=some v->RP w B lab ρ p v):
  RA w B lab ρ' (r8 g ps) (if h:vs.toArray.size=1 then vs.toArray[0]else .tuple vs.toArray):=by
 have aU:ps.length≠1->RA w B lab ρ' (.aU (ps.map fun p=>(p.1,p.2.map (Lf.drop g)))) (if h:vs.toArray.size=1 then vs.toArray[0]else .tuple vs.toArray):=by
  intro hn
  rw[dif_neg (by simpa [hl]using hn)]
  refine⟨vs.toArray,rfl,by simpa using hl,fun j p hp=>?_⟩
  rw[List.getElem?_map]at hp
  cases hq:ps[j]? with
  | none=>rw[hq]at hp;cases hp
  | some q=>
   rw[hq]at hp
   injection hp with hp
   subst hp
   have hj:j<vs.length:=by rw[hl];exact(List.getElem?_eq_some_iff.1 hq).1
   exact⟨vs[j],by simp[hj],(h j q vs[j] hq (List.getElem?_eq_getElem hj)).bY aq⟩
 unfold Proofs.YtjldnlbiefpekaaDoor.r8
 split
 ·rename_i x
  match vs,hl,h with
  | [v],_,h=>
   have:=h 0 _ v rfl rfl
   obtain⟨u,hu,hr⟩:=this.2 0 x rfl
   have:v=u:=by simpa using hu
   subst this
   exact hr.bY aq
 ·rename_i cs
  match vs,hl,h with
  | [v],_,h=>exact RP.bY aq (p:=(true,cs)) (h 0 _ v rfl rfl)
 ·trivial
 ·rename_i h1 h2 h3
  refine aU fun e=>?_
  obtain⟨⟨b,cs⟩,rfl⟩:=List.length_eq_one_iff.1 e
  cases b with
  | true=>exact h2 cs rfl
  | false=>exact h3 cs rfl
theorem WE{f:Nat}{fn:Func}{code:Code}(hf:P.funcs[f]?=some fn)(U:fn.body=some code)(hN:fn.ntmps=M)(hM:M<=20000)(pP:(fn.name == "runtime.NumGoroutine")=false)(hg:20000<=g/\g<60000)(aI:dn P Φ):
  enters P f/\lU P f (MK P M g Φ code fn.results):=by
 refine⟨⟨fn,hf,pP,by rw[U];rfl⟩,fun X N σ xs k r h=>?_⟩
 have h:zX P M g Φ code fn.results N σ xs k=some r:=h
 unfold zX at h
 cases hl:Nat.ble xs.length M with
 | false=>rw[hl]at h;cases h
 | true=>
  rw[hl,cond_true]at h
  have cY:=Nat.le_of_ble_eq_true hl
  obtain⟨e,τ,h1,h2⟩:=WC aI _ _ _ h
  have h3:(e = .normal\/e = .ret)/\tQ P g fn.results τ k=some r:=by
   split at h1
   ·rename_i he;exact⟨.inl (rY he),h1⟩
   ·rename_i he;exact⟨.inr (rY he),h1⟩
   ·cases h1
  obtain⟨hex,h3⟩:=h3
  obtain⟨ys,ps,hy,dD,hk,hd⟩:=WD h3
  refine⟨_,_,hk,fun X' k'=>?_,fun w0 lab ρ a w aN hR hsz hv=>?_⟩
  ·show zX P M g Φ code fn.results N σ xs k'=_
   unfold zX
   rw[hl,cond_true,h2]
   rcases hex with rfl | rfl
   ·exact hd X' k'
   ·exact hd X' k'
  ·let us:=a.tmps.toList
   let W:Wd:=w0.Wx g (some (.aN us)) hg.1
   let oT:=aH ρ g (.aN us)
   have aq:∀ r,r≠g->oT r=ρ r:=fun r hr=>aQ _ _ _ hr
   have cE:∀ j,us.getD j undef=a.tmps.getD j undef:=fun j=>by
    show a.tmps.toList.getD j undef=_
    rw[List.getD_eq_getElem?_getD,Array.getElem?_toList,Array.getD_eq_getD_getElem?]
   have hle:aN.size<=M:=by rw[hsz];exact cY
   have ke:Rl W M lab oT (MJ g N σ xs) { tmps:=aN++Array.replicate (fn.ntmps-aN.size) undef,defers:=[] } w:=by
    refine⟨⟨hR.below.os,hR.below.tape,hR.below.output,hR.below.size,hR.below.block⟩,hR.bf,fun r x hx=>?_,fun j=>?_,by simp[hN];omega,rfl,fun r l hr=>?_,fun r hr=>?_⟩
    ·have hx:aH (σ.drop g).m g (some (.gh ((List.range N).map fun j=>(σ.t j).drop g))) r=some x:=hx
     by_cases kr:r=g
     ·subst kr
      rw[aJ]at hx
      injection hx with hx
      subst hx
      refine .gh us _ (aJ _ _ _) fun j x hj=>?_
      rw[List.getElem?_map]at hj
      cases hr:(List.range N)[j]? with
      | none=>rw[hr]at hj;cases hj
      | some j'=>
       rw[hr]at hj
       injection hj with hj
       obtain⟨aV,jS⟩:=List.getElem?_eq_some_iff.1 hr
       rw[List.getElem_range]at jS
       subst jS hj
       rw[cE]
       exact(hR.tmp j).bY aq
     ·rw[aQ _ _ _ kr]at hx
      have hx:(bif Nat.beq r g then none else (σ.m r).map (au.drop g))=some x:=hx
      cases U:Nat.beq r g with
      | true=>rw[U]at hx;cases hx
      | false=>
       rw[U,cond_false]at hx
       cases hm:σ.m r with
       | none=>rw[hm]at hx;cases hx
       | some y=>
        rw[hm]at hx
        injection hx with hx
        subst hx
        exact(hR.root r y hm).bY aq kr
    ·show RA w w0.heap.size lab oT (((xs.map (A.drop g))[j]?).getD .undef) _
     rw[List.ML]
     by_cases hj:j<aN.size
     ·have e1:(aN++Array.replicate (fn.ntmps-aN.size) undef).getD j undef=aN.getD j undef:=by
       rw[Array.getD_eq_getD_getElem?,Array.getElem?_append_left hj,Array.getD_eq_getD_getElem?]
      show RA w w0.heap.size lab oT _ ((aN++Array.replicate (fn.ntmps-aN.size) undef).getD j undef)
      rw[e1]
      exact(hv j).bY aq
     ·rw[List.getElem?_eq_none (by omega:xs.length<=j)]
      trivial
    ·have hr:(if r=g then some (Loc.aN us)else w0.F r)=some l:=hr
     by_cases kr:r=g
     ·rw[if_pos kr]at hr
      injection hr with hr
      rw[kr,<-hr]
      exact aJ _ _ _
     ·rw[if_neg kr]at hr
      rw[aq r kr]
      exact hR.fix r l hr
    ·show (if r=g then some (Loc.aN us)else w0.F r)=none
     rw[if_neg (by omega)]
     rcases hr with hr | hr
     ·exact w0.low r (by omega)
     ·exact hR.cB r (.inr hr)
   refine calls_of_wp hf U ?_
   refine wp_mono (Cq (w0:=W) aI code _ (fun e τ=>some (e,τ)) (h2 _ _) (fun p hp b U=>by cases U) _ w ⟨lab,oT,ke⟩) fun e' a' w' he=>?_
   obtain⟨aa,b8,af,ρ',aA⟩:=he
   injection b8 with b8
   injection b8 with k1 k2
   subst k1 k2
   have yP:ρ' g = .aN us:=aA.fix g _ (if_pos rfl)
   let ct:=aH ρ' g ((w0.F g).getD (.blk 0 0))
   have nv:∀ r,r≠g->ct r=ρ' r:=fun r hr=>aQ _ _ _ hr
   obtain⟨jA,Hf,iJ⟩:=yH (w0:=W) (N:=M) _ _ dD
   injection Hf with Hf
   subst Hf
   obtain⟨vs,aC,hlen,cN⟩:=iJ af ρ' a' w' aA
   have WG:(fn.results.mapM (oW a'.tmps)).run P w' = .ok vs.toArray w':=by
    rw[Array.mapM_eq_mapM_toList]
    simp[aC]
   have dU:results fn a'.tmps=(do let vs <-fn.results.mapM (oW a'.tmps);pure (if h:vs.size=1 then vs[0]else .tuple vs)):=by
    unfold results
    congr 1
   have WH:Rl w0 N af ct ⟨fun j=>((ys.map (A.drop g))[j]?).getD .undef,(aa.drop g).m⟩ a w':=by
    refine⟨⟨aA.below.os,aA.below.tape,aA.below.output,aA.below.size,aA.below.block⟩,aA.bf,fun r x hx=>?_,fun j=>?_,hR.size,hR.defers,fun r l hr=>?_,hR.cB⟩
    ·have hx:(bif Nat.beq r g then none else (aa.m r).map (au.drop g))=some x:=hx
     cases U:Nat.beq r g with
     | true=>rw[U]at hx;cases hx
     | false=>
      have kr:r≠g:=by rintro rfl;simp at U
      rw[U,cond_false]at hx
      cases hm:aa.m r with
      | none=>rw[hm]at hx;cases hx
      | some y=>
       rw[hm]at hx
       injection hx with hx
       subst hx
       exact(aA.root r y hm).bY nv kr
    ·show RA w' w0.heap.size af ct (((ys.map (A.drop g))[j]?).getD .undef) _
     rw[List.ML]
     cases WI:ys[j]? with
     | none=>trivial
     | some y=>
      have bB:=aA.root g _ hy
      generalize hz:au.gh ys=z at bB
      cases bB with
      | blk=>cases hz
      | sl=>cases hz
      | mp=>cases hz
      | gh J3 R4 o5 WJ=>
       injection hz with hz
       subst hz
       rw[yP]at o5
       injection o5 with o5
       subst o5
       have:=WJ j y WI
       rw[cE]at this
       exact this.bY nv
    ·by_cases kr:r=g
     ·subst kr
      show aH ρ' r ((w0.F r).getD (.blk 0 0)) r=l
      rw[aJ,hr]
      rfl
     ·rw[nv r kr]
      exact aA.fix r l ((if_neg kr).trans hr)
   have fin:a'.defers=[]/\∃ v,(results fn a'.tmps).run P w' = .ok v w'/\∃ r7 af ρ',Ending.returned v=Ending.returned r7/\Rl w0 N af ρ' ⟨fun j=>((ys.map (A.drop g))[j]?).getD .undef,(aa.drop g).m⟩ a w'/\RA w' w0.heap.size af ρ' (r8 g jA) r7:=
    ⟨aA.defers,_,by rw[dU,Sem.run_bind,WG,Result.andThen_ok,Sem.run_pure],_,af,ct,rfl,WH,RP.r8 nv hlen cN⟩
   rcases hex with rfl | rfl
   ·exact fin
   ·exact fin
end
end Go.Proofs.YtjldnlbiefpekaaDoor
namespace Go.Proofs.YtjldnlbiefpekaaDoor
open Go.RowKit
set_option linter.unusedVariables false
def ku:Nat:=1000000000
def stays(n:Nat):Bool:=Nat.ble 20000 (n % ku)
theorem WK:60000<=ku:=Nat.le_of_ble_eq_true rfl
def kz(n:Nat):Nat:=bif stays n then n else n+ku
def r9(n:Nat):Option Nat:=bif stays n then some n else bif Nat.ble ku n && !stays (n-ku)then some (n-ku)else none
def gM:List Nat->List Nat
 | []=>[]
 | [r]=>[kz r]
 | x :: y :: k=>x :: gM (y :: k)
def Lf.up:Lf->Lf
 | .v x=>.v x
 | .own k=>.own (gM k)
 | .dead=>.dead
def A.up:A->A
 | .undef=>.undef
 | .skip=>.skip
 | .lf x=>.lf x.up
 | .agg cs=>.agg (cs.map Lf.up)
 | .aU xs=>.aU (xs.map fun p=>(p.1,p.2.map Lf.up))
 | .ptr k=>.ptr (gM k)
 | .aE r j=>.aE (kz r) j
 | .dO cs=>.dO cs
 | .gU f cs=>.gU f cs
 | .pk r n=>.pk (kz r) n
 | .view k s i j=>.view (gM k) s i j
 | .fn f cap=>.fn f (cap.map fun p=>(kz p.1,p.2))
def au.up:au->au
 | .blk cs=>.blk (cs.map Lf.up)
 | .sl y=>.sl y
 | .mp l=>.mp l
 | .gh xs=>.gh (xs.map A.up)
def S.up(σ:S):S:=⟨fun k=>(σ.t k).up,fun n=>match r9 n with
 | some r=>(σ.m r).map au.up
 | none=>none⟩
def MM(c:mz):mz:=⟨fun X N σ xs k=>c.run X N σ.up (xs.map A.up) fun aa y=>k aa.up y.up⟩
section
variable {P:Program} {w w':World} {w0:Wd} {B N:Nat} {lab af:aG} {ρ ρ':Nat->Loc} {σ:S} {a:Act} {X:Type}
theorem WL(r:Nat):r9 (kz r)=some r:=by
 unfold r9 kz
 cases h:stays r with
 | true=>simp only[cond_true,h]
 | false=>
  have h2:stays (r+ku)=false:=by
   unfold stays at h ⊢
   rw[Nat.add_mod_right]
   exact h
  have h3:Nat.ble ku (r+ku)=true:=Nat.ble_eq_true_of_le (Nat.le_add_left _ _)
  have h4:r+ku-ku=r:=Nat.add_sub_cancel r ku
  rw[cond_false,h2,cond_false,h3,h4,h]
  rfl
theorem WM{n r:Nat}(h:r9 n=some r):n=kz r:=by
 unfold r9 at h
 cases hs:stays n with
 | true=>
  rw[hs,cond_true]at h
  injection h with h
  subst h
  simp[kz,hs]
 | false=>
  rw[hs,cond_false]at h
  cases hc:(Nat.ble ku n && !stays (n-ku))with
  | false=>rw[hc]at h;cases h
  | true=>
   rw[hc,cond_true]at h
   have h:=Option.some.inj h
   rw[Bool.and_eq_true]at hc
   have h1:=Nat.le_of_ble_eq_true hc.1
   have h2:stays r=false:=by rw[<-h];simpa using hc.2
   simp only[kz,h2,cond_false]
   omega
def iz(lab:aG):aG:=fun b=>(lab b).map gM
def nW(ρ:Nat->Loc):Nat->Loc:=fun n=>match r9 n with
 | some r=>ρ r
 | none=>ρ n
theorem tR(r:Nat):nW ρ (kz r)=ρ r:=by unfold nW;rw[WL]
theorem WN{k:List Nat}(h:k≠[]):gM k≠[]:=by
 match k with
 | []=>exact absurd rfl h
 | [r]=>simp[gM]
 | x :: y :: k=>simp[gM]
theorem tS{x:Nat}{k:List Nat}(h:k≠[]):gM (x :: k)=x :: gM k:=by
 match k with
 | []=>exact absurd rfl h
 | y :: k=>rfl
theorem MN(x y:Nat)(k:List Nat):∃ y' k',gM (x :: y :: k)=x :: y' :: k':=by
 rw[tS (by simp)]
 match k with
 | []=>exact⟨_,_,rfl⟩
 | z :: k=>exact⟨y,_,rfl⟩
theorem Hg:∀ (k:List Nat) (ad:Addr),addrAt w lab ρ k=some ad->addrAt w (iz lab) (nW ρ) (gM k)=some ad
 | [],_,h=>by simp[addrAt]at h
 | [_],_,h=>by simp[addrAt]at h
 | [_,_],_,h=>by simp[addrAt]at h
 | [_,_,_],_,h=>by simp[addrAt]at h
 | [j,i,s,r],ad,h=>by
  simp only[addrAt]at h
  simp only[gM,addrAt,tR]
  split at h
  ·rename_i b n c hr
   split at h
   ·rename_i hl
    rw[if_pos (by simp[iz,hl,gM])]
    exact h
   ·cases h
  ·cases h
 | j :: i :: s :: x :: y :: q,ad,h=>by
  simp only[addrAt]at h
  split at h
  ·rename_i b n c hr
   split at h
   ·rename_i hl
    cases ha:addrAt w lab ρ (x :: y :: q)with
    | none=>rw[ha]at hr;cases hr
    | some js=>
     have ih:=Hg (x :: y :: q) js ha
     have e:iz lab b=some (gM (x :: y :: q)):=by simp[iz,hl]
     rw[tS (by simp),tS (by simp),tS (by simp)]
     rw[ha]at hr
     obtain⟨y',q',hk⟩:=MN x y q
     rw[hk]at ih e ⊢
     simp only[addrAt,ih,hr,e,if_true]
     exact h
   ·cases h
  ·cases h
theorem MO{k:List Nat}{u:Value}(h:aP w lab ρ k=some u):aP w (iz lab) (nW ρ) (gM k)=some u:=by
 match k with
 | []=>simp[aP,addrAt]at h
 | [r]=>
  simp only[aP]at h
  simp only[gM,aP,tR]
  exact h
 | x :: y :: k=>
  simp only[aP]at h
  cases ha:addrAt w lab ρ (x :: y :: k)with
  | none=>rw[ha]at h;cases h
  | some ad=>
   have:=Hg _ _ ha
   obtain⟨y',q',hk⟩:=MN x y k
   rw[hk]at this ⊢
   simp only[aP,this]
   rw[ha]at h
   exact h
theorem Hh{b:Nat}(h:lab b=none):iz lab b=none:=by simp[iz,h]
theorem RV.up(az:∀ b k,lab b=some k->k≠[]){k:List Nat}{x:V}{v:Value}(h:RV w B lab k x v):RV w B (iz lab) (gM k) x v:=by
 induction h with
 | int=>exact .int _ _ _
 | bool=>exact .bool _ _
 | str=>exact .str _ _
 | nil=>exact .nil _
 | aY=>exact .aY _ _ _
 | bn q t o A c ho=>exact .bn _ _ _ _ _ ho
 | bF q t o A c ho=>exact .bF _ _ _ _ _ ho
 | av q t o qn l b off cap u ho hl U h1 hcap hc hr ih=>
  exact .av _ _ _ _ _ _ _ _ u ho (Hh hl) U h1 hcap hc ih
 | own q t o qn l b cap cs u hl hh hs hn hm hc hr ih=>
  have hq:=az b q hl
  refine .own _ _ _ _ _ _ _ cs u (by simp[iz,hl]) hh hs hn hm hc fun i h j x hx=>?_
  have:=ih i h j x hx
  rw[tS (by simp),tS (by simp),tS hq]at this
  exact this
theorem bw.up(az:∀ b k,lab b=some k->k≠[]){x:Lf}{u:Value}(h:bw w B lab ρ x u):bw w B (iz lab) (nW ρ) x.up u:=by
 cases x with
 | v x=>exact⟨h.1,RV.up az h.2⟩
 | own k=>exact⟨h.1,MO h.2⟩
 | dead=>trivial
theorem bH.up(az:∀ b k,lab b=some k->k≠[]){cs:List Lf}{us:Array Value}(h:bH w B lab ρ cs us):bH w B (iz lab) (nW ρ) (cs.map Lf.up) us:=by
 refine⟨by rw[List.length_map];exact h.1,fun j x hx=>?_⟩
 rw[List.getElem?_map]at hx
 cases hz:cs[j]? with
 | none=>rw[hz]at hx;cases hx
 | some z=>
  rw[hz]at hx
  injection hx with hx
  subst hx
  obtain⟨u,h1,h2⟩:=h.2 j z hz
  exact⟨u,h1,h2.up az⟩
theorem RP.up(az:∀ b k,lab b=some k->k≠[]){p:Bool×List Lf}{u:Value}(h:RP w B lab ρ p u):RP w B (iz lab) (nW ρ) (p.1,p.2.map Lf.up) u:=by
 obtain⟨b,cs⟩:=p
 cases b with
 | true=>
  obtain⟨us,rfl,h⟩:=h
  exact⟨us,rfl,bH.up az h⟩
 | false=>exact bH.up az h
theorem RA.up(az:∀ b k,lab b=some k->k≠[]){x:A}{u:Value}(h:RA w B lab ρ x u):RA w B (iz lab) (nW ρ) x.up u:=by
 cases x with
 | undef=>trivial
 | skip=>exact h
 | lf x=>exact bw.up az h
 | agg cs=>exact RP.up az (p:=(true,cs)) h
 | aU xs=>
  obtain⟨us,rfl,h1,h2⟩:=h
  refine⟨us,rfl,by rw[List.length_map];exact h1,fun j p hp=>?_⟩
  rw[List.getElem?_map]at hp
  cases hz:xs[j]? with
  | none=>rw[hz]at hp;cases hp
  | some z=>
   rw[hz]at hp
   injection hp with hp
   subst hp
   obtain⟨v,h3,h4⟩:=h2 j z hz
   exact⟨v,h3,h4.up az⟩
 | ptr k=>
  obtain⟨ad,rfl,h⟩:=h
  exact⟨ad,rfl,Hg _ _ h⟩
 | aE r j=>
  obtain⟨b,off,h1,h2⟩:=h
  exact⟨b,off,(tR r).trans h1,h2⟩
 | dO cs=>
  obtain⟨b,off,g1,g2,g3,g4⟩:=h
  refine⟨b,off,g1,g2,Hh g3,fun j x hx=>?_⟩
  obtain⟨f1,v,f2,f3⟩:=g4 j x hx
  exact⟨f1,v,f2,RV.up az f3⟩
 | gU f cs=>
  obtain⟨pv,e0,h⟩:=h
  refine⟨pv,e0,?_⟩
  obtain⟨b,off,g1,g2,g3,g4⟩:=h
  refine⟨b,off,g1,g2,Hh g3,fun j x hx=>?_⟩
  obtain⟨f1,v,f2,f3⟩:=g4 j x hx
  exact⟨f1,v,f2,RV.up az f3⟩
 | pk r n=>
  obtain⟨b,h1,h2⟩:=h
  exact⟨b,(tR r).trans h1,h2⟩
 | view k s i j=>
  obtain⟨A,n,c,h1,h2⟩:=h
  exact⟨A,n,c,MO h1,h2⟩
 | fn f cap=>
  obtain⟨vs,rfl,h1,h2⟩:=h
  refine⟨vs,rfl,by rw[List.length_map];exact h1,fun j p hp=>?_⟩
  rw[List.getElem?_map]at hp
  cases hz:cap[j]? with
  | none=>rw[hz]at hp;cases hp
  | some z=>
   rw[hz]at hp
   injection hp with hp
   subst hp
   obtain⟨b,off,h3,h4⟩:=h2 j z hz
   exact⟨b,off,(tR _).trans h3,h4⟩
theorem bP.up(az:∀ b k,lab b=some k->k≠[]){r:Nat}{x:au}(h:bP w B lab ρ r x):bP w B (iz lab) (nW ρ) (kz r) x.up:=by
 have aq:=tR (ρ:=ρ) r
 have hl:∀ {b},lab b=some [r]->iz lab b=some [kz r]:=fun h=>by simp[iz,h,gM]
 cases h with
 | blk b off cells e cs us h1 h2 hh hs hc=>
  refine .blk b off cells e _ us (aq.trans h1) (hl h2) hh (by rw[List.length_map];exact hs) fun j x hx=>?_
  rw[List.getElem?_map]at hx
  cases hz:cs[j]? with
  | none=>rw[hz]at hx;cases hx
  | some z=>
   rw[hz]at hx
   injection hx with hx
   subst hx
   exact⟨(hc j z hz).1,(hc j z hz).2.up az⟩
 | sl v y h1 h2=>exact .sl v y (aq.trans h1) (RV.up az h2)
 | mp b c es l h1 h2 hh he=>exact .mp b c es l (aq.trans h1) (hl h2) hh he
 | gh us xs h1 hx=>
  refine .gh us _ (aq.trans h1) fun j x hj=>?_
  rw[List.getElem?_map]at hj
  cases hz:xs[j]? with
  | none=>rw[hz]at hj;cases hj
  | some z=>
   rw[hz]at hj
   injection hj with hj
   subst hj
   exact RA.up az (hx j z hz)
theorem Rl.up(h:Rl w0 N lab ρ σ a w):Rl w0 N (iz lab) (nW ρ) σ.up a w:=by
 have az:∀ b k,lab b=some k->k≠[]:=fun b k hk=>(h.bf b k hk).2.2
 refine⟨h.below,fun b k hk=>?_,fun n x hx=>?_,fun k=>RA.up az (h.tmp k),h.size,h.defers,fun r l hr=>?_,h.cB⟩
 ·unfold iz at hk
  cases hl:lab b with
  | none=>rw[hl]at hk;cases hk
  | some q=>
   rw[hl]at hk
   injection hk with hk
   obtain⟨h1,h2,h3⟩:=h.bf b q hl
   exact⟨h1,h2,by rw[<-hk];exact WN h3⟩
 ·have hx:(match r9 n with | some r=>(σ.m r).map au.up | none=>none)=some x:=hx
  cases hd:r9 n with
  | none=>rw[hd]at hx;cases hx
  | some r=>
   rw[hd]at hx
   have hx:(σ.m r).map au.up=some x:=hx
   cases hm:σ.m r with
   | none=>rw[hm]at hx;cases hx
   | some y=>
    rw[hm]at hx
    injection hx with hx
    subst hx
    rw[WM hd]
    exact(h.root r y hm).up az
 ·have hs:stays r=true:=by
   have h1:20000<=r:=Nat.le_of_not_lt fun aV=>by rw[w0.low r aV]at hr;cases hr
   have h2:r<60000:=Nat.lt_of_not_le fun hle=>by rw[h.cB r (.inr hle)]at hr;cases hr
   unfold stays
   rw[Nat.mod_eq_of_lt (Nat.lt_of_lt_of_le h2 WK)]
   exact Nat.ble_eq_true_of_le h1
  have hu:kz r=r:=by simp[kz,hs]
  have:=tR (ρ:=ρ) r
  rw[hu]at this
  rw[this]
  exact h.fix r l hr
theorem WO{f:Nat}{c:mz}(h:lU P f c):lU P f (MM c):=by
 intro hi X N σ xs k r hr
 obtain⟨aa,y,h1,h2,h3⟩:=h X N σ.up (xs.map A.up) _ r hr
 refine⟨aa.up,y.up,h1,fun X' k'=>h2 X' _,fun w0 lab ρ a w aN hR hs hv=>?_⟩
 have az:∀ b k,lab b=some k->k≠[]:=fun b k hk=>(hR.bf b k hk).2.2
 refine(h3 w0 _ _ a w aN hR.up (by rw[List.length_map];exact hs) fun i=>?_).mono fun e w' hp=>?_
 ·rw[List.getElem?_map]
  have:=hv i
  cases hx:xs[i]? with
  | none=>trivial
  | some x=>
   rw[hx]at this
   exact RA.up az this
 ·obtain⟨v,af,ρ',he,aA,hy⟩:=hp
  exact⟨v,_,_,he,aA.up,RA.up (fun b k hk=>(aA.bf b k hk).2.2) hy⟩
end
end Go.Proofs.YtjldnlbiefpekaaDoor
namespace Go.Proofs.YtjldnlbiefpekaaDoor
open Go.RowKit
set_option linter.unusedVariables false
def big:Nat:=4611686018427387904
def fV(c:Code)(id:Nat):Code:=match (occs c).lookup id with
 | some (.loop b)=>b
 | _=>.skip
def eB(fn:Func):Code:=fn.body.getD .skip
def v8(l:List (Nat×mA)):b5:=fun f=>l.lookup f
def zZ(P:Program):List (Nat×mA)->Prop
 | []=>True
 | (f,c) :: l=>(enters P f/\Ll P f c)/\zZ P l
theorem we{P:Program}:∀ (l:List (Nat×mA)),zZ P l->dn P (v8 l)
 | [],_=>fun f c h=>by cases h
 | (f',c') :: l,⟨h1,h2⟩=>fun f c h=>by
  have h':List.lookup f ((f',c') :: l)=some c:=h
  clear h
  rw[List.lookup_cons]at h'
  split at h'
  ·rename_i he
   have he:f=f':=by simpa using he
   subst he
   injection h' with h'
   subst h'
   exact h1
  ·exact we l h2 f c h'
def sg(l:List (Nat×eg)):jg:=fun id=>l.lookup id
def MP(P:Program)(N:Nat)(code:Code):List (Nat×eg)->Prop
 | []=>True
 | (id,b) :: l=>(∃ c,(occs code).lookup id=some c/\fe P N (.block id c) b)/\MP P N code l
def ids(l:List (Nat×Code)):Bool:=(l.map (·.1)).all fun i=>Nat.beq ((l.filter fun p=>Nat.beq p.1 i).length) 1
theorem MQ:∀ (l:List (Nat×Code)) (p:Nat×Code),(∀ q∈l,q.1=p.1->q=p)->p∈l->l.lookup p.1=some p.2
 | [],p,_,h=>by cases h
 | q :: l,p,hu,h=>by
  rw[List.lookup_cons]
  by_cases he:p.1=q.1
  ·have:q=p:=hu q (.head _) he.symm
   subst this
   simp
  ·have U:(p.1==q.1)=false:=by simpa using he
   rw[U]
   rcases List.mem_cons.1 h with rfl | h
   ·exact absurd rfl he
   ·exact MQ l p (fun q hq=>hu q (.tail _ hq)) h
theorem WQ{l:List (Nat×Code)}(h:ids l=true){p q:Nat×Code}(hp:p∈l)(hq:q∈l)(he:q.1=p.1):q=p:=by
 have h1:=List.all_eq_true.1 h p.1 (List.mem_map_of_mem hp)
 have h1:=Nat.eq_of_beq_eq_true h1
 have hp':p∈l.filter fun r=>Nat.beq r.1 p.1:=List.mem_filter.2 ⟨hp,by simp⟩
 have gx:q∈l.filter fun r=>Nat.beq r.1 p.1:=List.mem_filter.2 ⟨hq,by simp[he]⟩
 obtain⟨z,hz⟩:=List.length_eq_one_iff.1 h1
 rw[hz]at hp' gx
 rw[List.mem_singleton.1 hp',List.mem_singleton.1 gx]
theorem gN{P:Program}{N:Nat}{code:Code}(hi:ids (occs code)=true):∀ (l:List (Nat×eg)),MP P N code l->nR P N (sg l) (occs code)
 | [],_=>fun p hp b h=>by cases h
 | (id,b') :: l,⟨⟨c,hc,h1⟩,h2⟩=>fun p hp b h=>by
  have h':List.lookup p.1 ((id,b') :: l)=some b:=h
  clear h
  rw[List.lookup_cons]at h'
  split at h'
  ·rename_i he
   have he:p.1=id:=by simpa using he
   injection h' with h'
   subst h'
   have:=MQ (occs code) p (fun q hq e=>WQ hi hp hq e) hp
   rw[he,hc]at this
   injection this with this
   rw[he,<-this]
   exact h1
  ·exact gN hi l h2 p hp b h'
theorem de{P:Program}{N:Nat}{l:List (Nat×Code)}:nR P N (sg []) l:=fun p hp b h=>by cases h
def ci(P:Program)(fn:Func)(pQ:Nat)(l:List (Nat×mA)):mz:=MK P fn.ntmps (59000+pQ) (v8 l) (eB fn) fn.results
theorem Hi{P:Program}{f:Nat}{fn:Func}(pQ:Nat)(l:List (Nat×mA))(hf:P.funcs[f]?=some fn)(hl:zZ P l)(U:fn.body=some (eB fn):=by kernel_rfl)(hN:Nat.ble fn.ntmps 20000=true:=by kernel_rfl)(hv:Nat.ble pQ 900=true:=by kernel_rfl)(pP:(fn.name == "runtime.NumGoroutine")=false:=by kernel_rfl):enters P f/\lU P f (ci P fn pQ l):=
 WE hf U rfl (Nat.le_of_ble_eq_true hN) pP ⟨by omega,by have:=Nat.le_of_ble_eq_true hv;omega⟩ (we l hl)
def cj(P:Program)(fn:Func)(pQ:Nat)(l:List (Nat×mA)):mz:=MM (ci P fn pQ l)
theorem Hj{P:Program}{f:Nat}{fn:Func}{pQ:Nat}{l:List (Nat×mA)}(h:enters P f/\lU P f (ci P fn pQ l)):enters P f/\lU P f (cj P fn pQ l):=⟨h.1,WO h.2⟩
theorem dG{P:Program}{f:Nat}{fn:Func}{ai:List (Bool×TC)}{ro:List (Bool×TC×Nat)}{F:kZ ai->Option (hG ro)}(N:Nat)(l:List (Nat×mA))(b:List (Nat×eg))(hf:P.funcs[f]?=some fn)(hl:zZ P l)(fM:nR P N (sg b) (occs (eB fn)))(hF:∀ x,Cz P N (v8 l) (sg b) (eB fn) fn.results (gL ai x) (oX ro)=F x)(U:fn.body=some (eB fn):=by kernel_rfl)(hN:fn.ntmps=N:=by kernel_rfl)(pP:(fn.name == "runtime.NumGoroutine")=false:=by kernel_rfl)(zV:Nat.ble ai.length N=true:=by kernel_rfl)(bB:pO ro=true:=by kernel_rfl):enters P f/\cy P f (cz ai ro F):=Wr hf U hN pP zV bB (we l hl) fM hF
theorem gm{P:Program}{id:Nat}{body:Code}{τ:aZ}{jH:List (Nat×aZ)}{F:τ.St->Option (τ.St⊕rZ jH)}{fuel:τ.St->Nat}(N:Nat)(l:List (Nat×mA))(b:List (Nat×eg))(hl:zZ P l)(fM:nR P N (sg b) (occs body))(hF:∀ x,Cy P N (v8 l) (sg b) body τ jH x=F x):fe P N (.block id (.loop body)) (fy id τ jH F fuel):=Wl (we l hl) fM hF
end Go.Proofs.YtjldnlbiefpekaaDoor
